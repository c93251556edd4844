import PyProof.Rows.All
import Wide.All
import OpenK.AllK
import Wide.FinOn
import HandS.ForMost
import HandS.ForExc
import HandS.Flow
import HandS.Defaults
import HandS.MakeKwOnly
import HandS.TupAny
import HandS.Deep
import HandS.Walk
import HandS.Zip
import HandS.AnyAll
import KE.KeyNested
import HandS.IsInst
import HandS.TupSets
import HandS.SetKeys
import KE.KDictKeyed
import KE.KDictDisplayH
import HandS.Style
import HandS.HeadWalk
import HandS.CallRecv
import KE.GoesEnum
import PyProof.Rows.EnumRows
import HandS.Iter
import HandS.GenList
import HandS.CallLocal
import HandS.SortInts
import HandS.SetFor
import HandS.Strs
import HandS.SetIn
import HandS.Text
import HandS.ListItems
import KE.KDictZip
import HandS.Codes
import HandS.HeadHook4
import HandS.NestedK
import HandS.Head0
import HandS.Head1
import HandS.Head2
import HandS.HeadEnd
import PySem.Challenge.RW_twoknowers_k17_whole_read_programs_run_a
import HandS.Head3
import Lean
set_option Elab.async false
section
set_option autoImplicit false
set_option linter.all false
/-! Data as trees, objects by number, and what the program's text does with them. -/
namespace TK
open PySem L2

inductive D where
  | non
  | bl (b : Bool)
  | int (i : Int)
  | str (x : Str)
  | scr (xs : List Int)
  | tup (xs : List D)
  | lv (xs : List D)
  | dv (ks : List Key) (xs : List D)
  | iv (c : Nat) (ns : List Str) (xs : List D)
  | obj (n : Nat)
  | fn (k : Nat)
  deriving Inhabited

/-! ### sameness -/
mutual
def D.beq : D → D → Bool
  | .non, .non => true
  | .bl a, .bl b => decide (a = b)
  | .int a, .int b => decide (a = b)
  | .str a, .str b => decide (a = b)
  | .scr a, .scr b => decide (a = b)
  | .tup a, .tup b => D.beqs a b
  | .lv a, .lv b => D.beqs a b
  | .dv k a, .dv l b => decide (k = l) && D.beqs a b
  | .iv c k a, .iv d l b => decide (c = d) && (decide (k = l) && D.beqs a b)
  | .obj a, .obj b => decide (a = b)
  | .fn a, .fn b => decide (a = b)
  | _, _ => false
def D.beqs : List D → List D → Bool
  | [], [] => true
  | x :: xs, y :: ys => D.beq x y && D.beqs xs ys
  | _, _ => false
end
mutual
theorem D.beq_self : ∀ d : D, D.beq d d = true
  | .non => by simp [D.beq]
  | .bl a => by simp [D.beq]
  | .int a => by simp [D.beq]
  | .str a => by simp [D.beq]
  | .scr a => by simp [D.beq]
  | .tup a => by simp [D.beq, D.beqs_self a]
  | .lv a => by simp [D.beq, D.beqs_self a]
  | .dv k a => by simp [D.beq, D.beqs_self a]
  | .iv c k a => by simp [D.beq, D.beqs_self a]
  | .obj a => by simp [D.beq]
  | .fn a => by simp [D.beq]
theorem D.beqs_self : ∀ l : List D, D.beqs l l = true
  | [] => by simp [D.beqs]
  | x :: xs => by simp [D.beqs, D.beq_self x, D.beqs_self xs]
end
mutual
theorem D.eq_of_beq : ∀ d e : D, D.beq d e = true → d = e
  | .non, e, h => by cases e <;> simp_all [D.beq]
  | .bl a, e, h => by cases e <;> simp_all [D.beq]
  | .int a, e, h => by cases e <;> simp_all [D.beq]
  | .str a, e, h => by cases e <;> simp_all [D.beq]
  | .scr a, e, h => by cases e <;> simp_all [D.beq]
  | .tup a, e, h => by
    cases e <;> simp only [D.beq] at h <;> try cases h
    rw [D.eq_of_beqs a _ h]
  | .lv a, e, h => by
    cases e <;> simp only [D.beq] at h <;> try cases h
    rw [D.eq_of_beqs a _ h]
  | .dv k a, e, h => by
    cases e <;> simp only [D.beq] at h <;> try cases h
    obtain ⟨h1, h2⟩ := Bool.and_eq_true_iff.mp h
    rw [D.eq_of_beqs a _ h2, of_decide_eq_true h1]
  | .iv c k a, e, h => by
    cases e <;> simp only [D.beq] at h <;> try cases h
    obtain ⟨h1, h3⟩ := Bool.and_eq_true_iff.mp h
    obtain ⟨h2, h4⟩ := Bool.and_eq_true_iff.mp h3
    rw [D.eq_of_beqs a _ h4, of_decide_eq_true h1, of_decide_eq_true h2]
  | .obj a, e, h => by cases e <;> simp_all [D.beq]
  | .fn a, e, h => by cases e <;> simp_all [D.beq]
theorem D.eq_of_beqs : ∀ l m : List D, D.beqs l m = true → l = m
  | [], m, h => by cases m <;> simp_all [D.beqs]
  | x :: xs, m, h => by
    cases m with
    | nil => simp [D.beqs] at h
    | cons y ys =>
      simp only [D.beqs] at h
      obtain ⟨h1, h2⟩ := Bool.and_eq_true_iff.mp h
      rw [D.eq_of_beq x y h1, D.eq_of_beqs xs ys h2]
end
instance : DecidableEq D := fun a b => if h : D.beq a b = true then .isTrue (D.eq_of_beq a b h) else .isFalse fun e => h (e ▸ D.beq_self a)
inductive MO where
  | lst (xs : List D)
  | dk (ks : List Key) (xs : List D)
  | dn (ks : List D) (xs : List D)
  | sn (b : Bool) (ks : List D)
  | sk (ks : List Key)
  | ins (c : Nat) (ns : List Str) (xs : List D)
  deriving Inhabited, DecidableEq

abbrev Sx := List MO
abbrev Vs := List (Option D)

inductive R (a : Type) where
  | ok (x : a) (S : Sx)
  | exc (c : Nat) (v : D) (S : Sx)
  | bad
  deriving Inhabited

def R.bind {a b : Type} (r : R a) (f : a → Sx → R b) : R b := match r with
  | .ok x S => f x S
  | .exc c v S => .exc c v S
  | .bad => .bad
@[simp] theorem R.bind_ok {a b : Type} (x : a) (S : Sx) (f : a → Sx → R b) : (R.ok x S).bind f = f x S := rfl
@[simp] theorem R.bind_exc {a b : Type} (c : Nat) (v : D) (S : Sx) (f : a → Sx → R b) : (R.exc c v S : R a).bind f = .exc c v S := rfl
@[simp] theorem R.bind_bad {a b : Type} (f : a → Sx → R b) : (R.bad : R a).bind f = .bad := rfl
/-- no exception -/
def R.nox {a : Type} : R a → R a
  | .exc _ _ _ => .bad
  | r => r
@[simp] theorem R.nox_ok {a : Type} (x : a) (S : Sx) : (R.ok x S).nox = .ok x S := rfl
@[simp] theorem R.nox_exc {a : Type} (c : Nat) (v : D) (S : Sx) : (R.exc c v S : R a).nox = .bad := rfl
@[simp] theorem R.nox_bad {a : Type} : (R.bad : R a).nox = .bad := rfl

/-! ### data without objects -/
mutual
def D.pure : D → Bool
  | .tup xs => D.pures xs
  | .lv xs => D.pures xs
  | .dv _ xs => D.pures xs
  | .iv _ _ xs => D.pures xs
  | .obj _ => false
  | _ => true
def D.pures : List D → Bool
  | [] => true
  | x :: xs => D.pure x && D.pures xs
end
def MO.pure : MO → Bool
  | .lst xs => D.pures xs
  | .dk _ xs => D.pures xs
  | .dn ks xs => D.pures ks && D.pures xs
  | .sn _ ks => D.pures ks
  | .sk _ => true
  | .ins _ _ xs => D.pures xs
mutual
def toPy : D → Option PyData
  | .non => some .none
  | .bl b => some (.bool b)
  | .int i => some (.int i)
  | .str x => some (.str x)
  | .tup xs => (toPys xs).map .tuple
  | .lv xs => (toPys xs).map .list
  | _ => none
def toPys : List D → Option (List PyData)
  | [] => some []
  | x :: xs => match toPy x, toPys xs with
    | some y, some ys => some (y :: ys)
    | _, _ => none
end
def pyOf (d : D) (S : Sx) : Option PyData := match d with
  | .obj n => (match S[n]? with
    | some (.lst xs) => (toPys xs).map .list
    | _ => none)
  | d => toPy d
/-- values that may be lists, one deep -/
def py1s : List D → Sx → Option (List PyData)
  | [], _ => some []
  | x :: xs, S => match pyOf x S, py1s xs S with
    | some y, some ys => some (y :: ys)
    | _, _ => none
def pyOf2 (d : D) (S : Sx) : Option PyData := match d with
  | .tup xs => (py1s xs S).map .tuple
  | d => pyOf d S
/-- a list's items -/
def lstOf (d : D) (S : Sx) : Option (List D) := match d with
  | .lv xs => some xs
  | .obj n => (match S[n]? with
    | some (.lst xs) => some xs
    | _ => none)
  | _ => none
def seqOf (d : D) (S : Sx) : Option (List D) := match d with
  | .tup xs => some xs
  | d => lstOf d S
def truD (d : D) (S : Sx) : Option Bool := match d with
  | .non => some false
  | .bl b => some b
  | .int i => some (i != 0)
  | .str x => if x.length ≤ sizeLine then some ((x.length : Int) != 0) else none
  | d => (seqOf d S).map fun xs => !xs.isEmpty

/-! ### operators -/
inductive Op where | add | sub | mul | mod | fdiv | pow
inductive Cp where | eq | ne | lt | le | gt | ge | is_ | isn | in_ | nin
inductive B1 where | len | tuple | list (tr : Bool) | int | str
def catD (a b : D) (S : Sx) : Option D := match a, b with
  | .int i, .int j => some (.int (i + j))
  | .str x, .str y => if x.length + y.length ≤ sizeLine then some (.str (x ++ y)) else none
  | .tup xs, .tup ys => if xs.length + ys.length ≤ sizeLine then some (.tup (xs ++ ys)) else none
  | a, b => (match lstOf a S, lstOf b S with
    | some xs, some ys => if xs.length + ys.length ≤ sizeLine then some (.lv (xs ++ ys)) else none
    | _, _ => none)
def opD (o : Op) (a b : D) (S : Sx) : Option D := match o with
  | .add => catD a b S
  | .sub => (match a, b with | .int i, .int j => some (.int (i - j)) | _, _ => none)
  | .mul => (match a, b with
    | .int i, .int j => if (-(2 ^ 64) < i ∧ i < 2 ^ 64) ∨ (-(2 ^ 64) < j ∧ j < 2 ^ 64) then some (.int (i * j)) else none
    | _, _ => none)
  | .mod => (match a, b with | .int i, .int j => if 0 < j then some (.int (i % j)) else none | _, _ => none)
  | .fdiv => (match a, b with | .int i, .int j => if 0 < j ∧ j < 1073741824 then some (.int (i / j)) else none | _, _ => none)
  | .pow => (match a, b with | .int i, .int j => if 0 ≤ j ∧ j ≤ 1000000 ∧ i.natAbs < 2 ^ 64 then some (.int (i ^ j.toNat)) else none | _, _ => none)
def negD : D → Option D
  | .int i => some (.int (-i))
  | _ => none
def eqD (a b : D) (S : Sx) : Option Bool := match pyOf2 a S, pyOf2 b S with
  | some x, some y => if SeqAt.shaped x && SeqAt.shaped y then some (PyData.eqv x y) else none
  | _, _ => none
/-! keys that are trees -/
mutual
def nkey : D → Option NestedKey
  | .non => some .none
  | .int i => some (.num i)
  | .str x => some (.text x)
  | .tup ds => (nkeys ds).map .tup
  | _ => none
def nkeys : List D → Option (List NestedKey)
  | [] => some []
  | d :: ds => match nkey d, nkeys ds with
    | some k, some ks => some (k :: ks)
    | _, _ => none
end
/-- a tuple that may be a key -/
def nkOk : D → Bool
  | .tup ds => (match nkey (.tup ds) with
    | some k => decide (k.depth ≤ 8)
    | none => false)
  | _ => false
mutual
/-- no texts -/
def noStr : D → Bool
  | .str _ => false
  | .tup ds => noStrs ds
  | _ => true
def noStrs : List D → Bool
  | [] => true
  | d :: ds => noStr d && noStrs ds
end
/-- a tuple that may be a set's member -/
def nsOk (d : D) : Bool := nkOk d && noStr d
def keyD' : D → Option Key
  | .int i => some (.inl i)
  | .str x => some (.inr x)
  | _ => none
def memK (ks : List Key) (q : Key) : Bool := ks.any fun k => decide (k = q)
def inD (a b : D) (S : Sx) : Option Bool := match b with
  | .obj n => (match S[n]? with
    | some (.lst xs) => inL a xs S
    | some (.dk ks _) => (keyD' a).map fun q => ks.any fun k => decide (k = q)
    | some (.dn ks _) => if nkOk a = true then some (decide (a ∈ ks)) else none
    | some (.sn _ ks) => if nkOk a = true then some (decide (a ∈ ks)) else none
    | some (.sk ks) => (keyD' a).map (memK ks)
    | _ => none)
  | .tup xs => inL a xs S
  | .lv xs => inL a xs S
  | .dv ks _ => (keyD' a).map fun q => ks.any fun k => decide (k = q)
  | _ => none
where inL (a : D) (xs : List D) (S : Sx) : Option Bool := match pyOf a S, toPys xs with
  | some x, some ys => if SeqAt.shaped x && SeqAt.shaped (.list ys) then some (ys.any fun y => PyData.eqv y x) else none
  | _, _ => none
def isD (a b : D) : Option Bool := match b with
  | .non => some (decide (a = .non))
  | .bl y => (match a with | .bl x => some (decide (x = y)) | _ => none)
  | _ => none
def cmpD (o : Cp) (a b : D) (S : Sx) : Option Bool := match o with
  | .eq => eqD a b S
  | .ne => (eqD a b S).map (!·)
  | .lt => (match a, b with | .int i, .int j => some (decide (i < j)) | _, _ => none)
  | .le => (match a, b with | .int i, .int j => some (decide (i ≤ j)) | _, _ => none)
  | .gt => (match a, b with | .int i, .int j => some (decide (j < i)) | _, _ => none)
  | .ge => (match a, b with | .int i, .int j => some (decide (j ≤ i)) | _, _ => none)
  | .is_ => isD a b
  | .isn => (isD a b).map (!·)
  | .in_ => inD a b S
  | .nin => (inD a b S).map (!·)
def keyD : D → Option Key
  | .int i => some (.inl i)
  | .str x => some (.inr x)
  | _ => none
def lookK : List Key → List D → Key → Option D
  | k :: ks, x :: xs, q => if k = q then some x else lookK ks xs q
  | _, _, _ => none
def ixD (a i : D) (S : Sx) : Option D := match i with
  | .int i => (match a with
    | .str z => if z.length ≤ sizeLine then (atI z.cps.toList i).map fun c => .str ⟨#[c]⟩ else none
    | a => (seqOf a S).bind fun xs => atI xs i)
  | _ => none
def lookN' : List D → List D → D → Option D
  | k :: ks, x :: xs, q => if k = q then some x else lookN' ks xs q
  | _, _, _ => none
def dgetD (a i : D) (S : Sx) : Option D := match a with
  | .dv ks xs => (keyD i).bind (lookK ks xs)
  | .obj n => (match S[n]? with
    | some (.dk ks xs) => (keyD i).bind (lookK ks xs)
    | some (.dn ks xs) => if nkOk i = true then lookN' ks xs i else none
    | _ => none)
  | _ => none
def cutD (xs : List D) (lo hi : Option Int) : List D := (xs.drop (HT.sIx xs.length 0 lo)).take (HT.sIx xs.length xs.length hi - HT.sIx xs.length 0 lo)
def slcD (a : D) (lo hi : Option Int) (S : Sx) : Option D := match a with
  | .tup xs => some (.tup (cutD xs lo hi))
  | a => (lstOf a S).map fun xs => .lv (cutD xs lo hi)
def lookN : List Str → List D → Str → Option D
  | n :: ns, d :: ds, x => if n = x then some d else lookN ns ds x
  | _, _, _ => none
def fldD (c : Nat) (a : D) (x : Str) (S : Sx) : Option D := match a with
  | .iv c' ns xs => if c' = c then lookN ns xs x else none
  | .obj n => (match S[n]? with
    | some (.ins c' ns xs) => if c' = c then lookN ns xs x else none
    | _ => none)
  | _ => none
/-- a new list, by number or as it stands -/
def newL (tr : Bool) (xs : List D) (S : Sx) : R D := if xs.length ≤ sizeLine then (if tr then .ok (.obj S.length) (S ++ [.lst xs]) else .ok (.lv xs) S) else .bad
def strD : D → Option Str
  | .str z => some z
  | _ => none
def strsD : List D → Option (List Str)
  | [] => some []
  | .str z :: ds => (strsD ds).map (z :: ·)
  | _ :: _ => none
def joinD (z : Str) (d : D) (S : Sx) : Option D := match seqOf d S with
  | some xs => (match strsD xs with
    | some ys => if (ys.map (·.length)).sum + ys.length * z.length ≤ 16777216 then some (.str (Txt.join z ys)) else none
    | none => none)
  | none => none
def b1D (f : B1) (a : D) (S : Sx) : R D := match f with
  | .len => (match a with
    | .str z => if z.length ≤ sizeLine then .ok (.int z.length) S else .bad
    | a => (match seqOf a S with
      | some xs => .ok (.int xs.length) S
      | none => .bad))
  | .tuple => (match seqOf a S with
    | some xs => .ok (.tup xs) S
    | none => .bad)
  | .list tr => (match a with
    | .scr xs => newL tr (xs.map .int) S
    | a => (match seqOf a S with
      | some xs => newL tr xs S
      | none => .bad))
  | .int => (match a with
    | .int i => .ok (.int i) S
    | .bl b => .ok (.int (if b then 1 else 0)) S
    | .str x => (match PySem.intText? x with
      | some n => if x.length ≤ 640 then .ok (.int n) S else .bad
      | none => .bad)
    | _ => .bad)
  | .str => (match a with
    | .int n => if n.natAbs.log2 < 1920 then .ok (.str (toString n : String)) S else .bad
    | _ => .bad)
def lift {a : Type} (o : Option a) (S : Sx) : R a := match o with
  | some x => .ok x S
  | none => .bad
@[simp] theorem lift_some {a : Type} (x : a) (S : Sx) : lift (some x) S = .ok x S := rfl
@[simp] theorem lift_none {a : Type} (S : Sx) : lift (none : Option a) S = .bad := rfl
end TK
end
section
set_option autoImplicit false
set_option linter.all false
namespace TK
open PySem L2

/-! ### what is written, and what it does -/
inductive Tg where
  | nm (i : Nat)
  | tp (ts : List Tg)
mutual
def asg : Tg → D → Vs → Option Vs
  | .nm i, d, s => some (s.set i (some d))
  | .tp ts, .tup ds, s => asgs ts ds s
  | _, _, _ => none
def asgs : List Tg → List D → Vs → Option Vs
  | [], [], s => some s
  | t :: ts, d :: ds, s => match asg t d s with
    | some s' => asgs ts ds s'
    | none => none
  | _, _, _ => none
end
mutual
def Tg.slots : Tg → List Nat
  | .nm i => [i]
  | .tp ts => Tg.slotss ts
def Tg.slotss : List Tg → List Nat
  | [] => []
  | t :: ts => Tg.slots t ++ Tg.slotss ts
end
def wipeV (s : Vs) : List Nat → Vs
  | [] => s
  | v :: vs => (wipeV s vs).set v none

mutual
inductive E where
  | v (i : Nat)
  | c (d : D)
  | g (j : Nat)
  | bin (o : Op) (a b : E)
  | neg (a : E)
  | not (a : E)
  | and (es : Es)
  | or (es : Es)
  | cmp (o : Cp) (a b : E)
  | chain (o p : Cp) (a b c : E)
  | ife (t a b : E)
  | sub (a i : E)
  | dget (a i : E)
  | slc (a : E) (lo hi : Eo)
  | tup (es : Es)
  | lst (tr : Bool) (es : Es)
  | dct (tr : Bool) (ks : List Key) (es : Es)
  | b1 (f : B1) (a : E)
  | join (o a : E)
  | dgetd (a i x : E)
  | rev (tr : Bool) (a : E)
  | addl (a b : E)
  | gf (k : Nat)
  | callv (i : Nat) (ks : List Nat) (md : Nat) (es : Es)
  | dcp (a : E)
  | srt (tr : Bool) (a : E)
  | srts (a : E)
  | splt (tr : Bool) (o a : E)
  | stp2 (tr : Bool) (k : Bool) (a : E)
  | rvt (a : E)
  | lzip (tr : Bool) (a b : E)
  | sn1 (a : E)
  | sof (a : E)
  | sadd (a b : E)
  | ssrt (tr : Bool) (a : E)
  | dnew
  | dn1 (k a : E)
  | lc2 (tr : Bool) (tg tg1 : Tg) (it : It) (a1 elt : E) (vs vs1 : List Nat)
  | mm (mx : Bool) (a b : E)
  | isi (t : String) (a : E)
  | fld (c : Nat) (a : E) (x : Str)
  | call (k m : Nat) (es : Es)
  | new (c k m : Nat) (es : Es)
  | newK (c k m : Nat) (kw : List Str) (dfl : List D) (es : Es)
  | mt (c k m : Nat) (a : E) (x : Str) (es : Es)
  | app (a b : E)
  | ext (a b : E)
  | pop (a : E)
  | popi (a i : E)
  | lc (tr : Bool) (tg : Tg) (it : It) (cond : Eo) (elt : E) (vs : List Nat)
  | all (tg : Tg) (it : It) (elt : E) (vs : List Nat)
inductive Es where
  | nil
  | cons (e : E) (es : Es)
inductive Eo where
  | none
  | some (e : E)
inductive It where
  | e (a : E)
  | rng (lo : Eo) (a : E)
  | enum (a : E)
  | zip (a b : E)
end

structure Den where
  val : Vs → Sx → R D
  tst : Vs → Sx → R Bool
structure Dens where
  vals : Vs → Sx → R (List D)
  last : Bool
  andV : Vs → Sx → R D
  orV : Vs → Sx → R D
  andT : Vs → Sx → R Bool
  orT : Vs → Sx → R Bool
/-- an optional part -/
abbrev Deno := Vs → Sx → R (Option Int)
/-- what is walked: its items, and whether they stand still -/
abbrev Deni := Vs → Sx → R (List D × (Sx → Bool))

def tstOf (val : Vs → Sx → R D) : Vs → Sx → R Bool := fun s S => (val s S).bind fun d S => lift (truD d S) S
def mk (val : Vs → Sx → R D) : Den := ⟨val, tstOf val⟩
/-- a test's answer as a value too -/
def mkB (t : Vs → Sx → R Bool) : Den := ⟨fun s S => (t s S).bind fun b S => .ok (.bl b) S, t⟩

/-- calls: of the k-th def -/
abbrev Gm := Nat → List D → Sx → R D

/-- dict(d), a new dict -/
def dcpD (a : D) (S : Sx) : R D := match a with
  | .dv ks xs => .ok (.obj S.length) (S ++ [.dk ks xs])
  | .obj n => (match S[n]? with
    | some (.dk ks xs) => .ok (.obj S.length) (S ++ [.dk ks xs])
    | _ => .bad)
  | _ => .bad
/-- sorted(xs) of ints -/
def intsD : List D → Option (List Int)
  | [] => some []
  | .int i :: ds => (intsD ds).map (i :: ·)
  | _ => none
def insI (x : Int) : List Int → List Int
  | [] => [x]
  | y :: ys => if x ≤ y then x :: y :: ys else y :: insI x ys
def srtI : List Int → List Int
  | [] => []
  | x :: xs => insI x (srtI xs)
def srtD (tr : Bool) (a : D) (S : Sx) : R D := match lstOf a S with
  | some xs => (match intsD xs with
    | some zs => newL tr ((srtI zs).map .int) S
    | none => .bad)
  | none => .bad
/-- sorted(set(xs)) of a tuple of ints -/
def uniqI : List Int → List Int
  | [] => []
  | x :: xs => if x ∈ xs then uniqI xs else x :: uniqI xs
def srtsD (a : D) (S : Sx) : R D := match a with
  | .tup ds => (match intsD ds with
    | some zs => if zs.length < 60 then newL false ((srtI (uniqI zs)).map .int) S else .bad
    | none => .bad)
  | _ => .bad
/-- x.split(y) -/
def spltD (tr : Bool) (x y : D) (S : Sx) : R D := match x, y with
  | .str a, .str b => if (b.length == 0) = false ∧ a.length + 2 ≤ sizeLine then newL tr ((Txt.split a b).map .str) S else .bad
  | _, _ => .bad
/-- xs[k::2] of a list -/
def everyO {α : Type} : Bool → List α → List α
  | _, [] => []
  | true, _ :: xs => everyO false xs
  | false, x :: xs => x :: everyO true xs
def stp2D (tr k : Bool) (a : D) (S : Sx) : R D := match lstOf a S with
  | some xs => newL tr (everyO k xs) S
  | none => .bad
def rvtD (a : D) : Option D := match a with
  | .tup xs => some (.tup xs.reverse)
  | _ => none
def lzipD (tr : Bool) (a b : D) (S : Sx) : R D := match lstOf a S, lstOf b S with
  | some xs, some ys => newL tr ((xs.zip ys).map fun p => D.tup [p.1, p.2]) S
  | _, _ => .bad
/-! sets -/
def sn1D (d : D) (S : Sx) : R D := match keyD' d with
  | some k => .ok (.obj S.length) (S ++ [.sk [k]])
  | none => if nsOk d = true then .ok (.obj S.length) (S ++ [.sn false [d]]) else .bad
/-- what is put in once -/
def putS (ks : List D) (d : D) : List D := if d ∈ ks then ks else ks ++ [d]
def putSK (ks : List Key) (d : Key) : List Key := if memK ks d = true then ks else ks ++ [d]
def sofD (a : D) (S : Sx) : R D := match lstOf a S with
  | some xs => if (xs.all nsOk) = true ∧ (xs.foldl putS []).length < 63 ∧ xs.length ≤ sizeLine then .ok (.obj S.length) (S ++ [.sn true (xs.foldl putS [])]) else .bad
  | none => .bad
def saddD (a b : D) (S : Sx) : R D := match a with
  | .obj n => (match S[n]? with
    | some (.sn l ks) => if nsOk b = true ∧ (putS ks b).length < 64 then .ok .non (S.set n (.sn l (putS ks b))) else .bad
    | some (.sk ks) => (match keyD' b with
      | some k => if ks.length < 4000 then .ok .non (S.set n (.sk (putSK ks k))) else .bad
      | none => .bad)
    | _ => .bad)
  | _ => .bad
def isSet (a : D) (S : Sx) : Bool := match a with
  | .obj n => (match S[n]? with
    | some (.sn _ _) => true
    | some (.sk _) => true
    | _ => false)
  | _ => false
/-! trees in order -/
mutual
def ltD : D → D → Option Bool
  | .int a, .int b => some (decide (a < b))
  | .tup xs, .tup ys => ltDs xs ys
  | _, _ => none
def ltDs : List D → List D → Option Bool
  | [], [] => some false
  | [], _ :: _ => some true
  | _ :: _, [] => some false
  | x :: xs, y :: ys => if x = y then ltDs xs ys else ltD x y
end
def lt2 (x y : D) : Bool := (ltD x y).getD false
def insT (x : D) : List D → List D
  | [] => [x]
  | y :: ys => if lt2 y x = true then y :: insT x ys else x :: y :: ys
def srtT : List D → List D
  | [] => []
  | x :: xs => insT x (srtT xs)
def fstT : D → Bool
  | .tup (.tup _ :: _) => true
  | _ => false
def srtOk (ks : List D) : Bool := decide (ks.length < 64) && ks.all fun x => fstT x && nkOk x && ks.all fun y => (ltD x y).isSome
def ssrtD (tr : Bool) (a : D) (S : Sx) : R D := match a with
  | .obj n => (match S[n]? with
    | some (.sn true ks) => if srtOk ks = true then newL tr (srtT ks) S else .bad
    | some (.dn ks _) => if srtOk ks = true then newL tr (srtT ks) S else .bad
    | _ => .bad)
  | _ => .bad
/-- two lists in a new list -/
def addlD (a b : D) (S : Sx) : R D := match lstOf a S, lstOf b S with
  | some xs, some ys => newL true (xs ++ ys) S
  | _, _ => .bad
/-- what is left of a call: m = 0: as it is; 1: a value; 2: a value or a new object as a value; 3: a new object -/
def wrp (m : Nat) (S : Sx) (r : R D) : R D := match m, r with
  | 0, r => r
  | 1, .ok d S' => if S'.take S.length = S ∧ d.pure = true then .ok d S else .bad
  | 2, .ok (.obj k) S' => if S'.take S.length = S ∧ S.length ≤ k then (match S'[k]? with
      | some (.lst ds) => if D.pures ds = true then .ok (.lv ds) S else .bad
      | some (.dk ks ds) => if D.pures ds = true then .ok (.dv ks ds) S else .bad
      | some (.ins c ns ds) => if D.pures ds = true then .ok (.iv c ns ds) S else .bad
      | _ => .bad) else .bad
  | 2, .ok d S' => if S'.take S.length = S ∧ d.pure = true then .ok d S else .bad
  | 3, .ok (.obj k) S' => if S'.take S.length = S ∧ S.length ≤ k then (match S'[k]? with
      | some o => if o.pure = true then .ok (.obj S.length) (S ++ [o]) else .bad
      | none => .bad) else .bad
  | 3, .ok d S' => if S'.take S.length = S ∧ d.pure = true then .ok d S else .bad
  | _, .exc c v S' => if S'.take S.length = S ∧ v.pure = true then .exc c v S else .bad
  | _, _ => .bad

/-- a new instance, then __init__ -/
def newD (c : Nat) (g : List D → Sx → R D) (xs : List D) (S : Sx) : R D := (g (.obj S.length :: xs) (S ++ [.ins c [] []])).bind fun d S' => if d = .non then .ok (.obj S.length) S' else .bad
/-- an instance of class c that has no own x -/
def mtD (c : Nat) (x : Str) (d : D) (S : Sx) : Option Unit := match d with
  | .obj n => (match S[n]? with
    | some (.ins c' ns _) => if c' = c ∧ x ∉ ns then some () else none
    | _ => none)
  | .iv c' ns _ => if c' = c ∧ x ∉ ns then some () else none
  | _ => none
def setObj (S : Sx) (n : Nat) (o : MO) : Sx := S.set n o
def appD (a b : D) (S : Sx) : R D := match a with
  | .obj n => (match S[n]? with
    | some (.lst xs) => if xs.length < sizeLine then .ok .non (S.set n (.lst (xs ++ [b]))) else .bad
    | _ => .bad)
  | _ => .bad
def extD (a b : D) (S : Sx) : R D := match a with
  | .obj n => (match S[n]?, lstOf b S with
    | some (.lst xs), some ys => if xs.length + ys.length ≤ sizeLine then .ok .non (S.set n (.lst (xs ++ ys))) else .bad
    | _, _ => .bad)
  | _ => .bad
def popD (a : D) (S : Sx) : R D := match a with
  | .obj n => (match S[n]? with
    | some (.lst xs) => (match xs[xs.length - 1]? with
      | some d => .ok d (S.set n (.lst xs.dropLast))
      | none => .bad)
    | _ => .bad)
  | _ => .bad
def popiD (a i : D) (S : Sx) : R D := match a, i with
  | .obj n, .int i => (match S[n]? with
    | some (.lst xs) => if -(2 ^ 63) ≤ i ∧ i < 2 ^ 63 then (match seqIndex? i xs.length with
      | some k => (match xs[k]? with
        | some d => .ok d (S.set n (.lst (xs.eraseIdx k)))
        | none => .bad)
      | none => .bad) else .bad
    | _ => .bad)
  | _, _ => .bad
/-- o[i] = v -/
def dn1D (xs : List D) (S : Sx) : R D := match xs with
  | [d, e] => if nkOk d = true then .ok (.obj S.length) (S ++ [.dn [d] [e]]) else .bad
  | _ => .bad
def putND (ks xs : List D) (q d : D) : List D × List D :=
  if q ∈ ks then (ks, List.zipWith (fun k x => if k = q then d else x) ks xs) else (ks ++ [q], xs ++ [d])
def putKD (ks : List Key) (xs : List D) (q : Key) (d : D) : List Key × List D :=
  if (ks.any fun k => decide (k = q)) = true then (ks, List.zipWith (fun k x => if k = q then d else x) ks xs) else (ks ++ [q], xs ++ [d])
/-- o.get(k, x) -/
def isDk (a : D) (S : Sx) : Bool := match a with
  | .dv _ _ => true
  | .obj n => (match S[n]? with
    | some (.dk _ _) => true
    | _ => false)
  | _ => false
def dgetdD (a i x : D) (S : Sx) : Option D := match a with
  | .dv ks xs => (keyD i).map fun q => (lookK ks xs q).getD x
  | .obj n => (match S[n]? with
    | some (.dk ks xs) => (keyD i).map fun q => (lookK ks xs q).getD x
    | _ => none)
  | _ => none
def setD (a i v : D) (S : Sx) : Option Sx := match a, i with
  | .obj n, .int i => (match S[n]? with
    | some (.lst xs) => (ixN xs.length i).map fun j => S.set n (.lst (xs.set j v))
    | _ => none)
  | _, _ => none
def dputD (a i v : D) (S : Sx) : Option Sx := match a with
  | .obj n => (match S[n]? with
    | some (.dk ks xs) => (keyD i).bind fun q => if ks.length < sizeLine then some (S.set n (.dk (putKD ks xs q v).1 (putKD ks xs q v).2)) else none
    | some (.dn ks xs) => if nkOk i = true ∧ ks.length < sizeLine then some (S.set n (.dn (putND ks xs i v).1 (putND ks xs i v).2)) else none
    | _ => none)
  | _ => none
def putN : List Str → List D → Str → D → List Str × List D
  | n :: ns, x :: xs, q, d => if n = q then (n :: ns, d :: xs) else ((n :: (putN ns xs q d).1), (x :: (putN ns xs q d).2))
  | _, _, q, d => ([q], [d])
def setF (c : Nat) (a : D) (x : Str) (v : D) (S : Sx) : Option Sx := match a with
  | .obj n => (match S[n]? with
    | some (.ins c' ns xs) => if c' = c ∧ ns.length < 1000 then some (S.set n (.ins c (putN ns xs x v).1 (putN ns xs x v).2)) else none
    | _ => none)
  | _ => none
def mmD (mx : Bool) (a b : D) : Option D := match a, b with
  | .int i, .int j => some (.int (if mx then (if j > i then j else i) else (if j < i then j else i)))
  | _, _ => none
/-- the name of a value's built-in class -/
def tyN (a : D) (S : Sx) : Option String := match a with
  | .non => some "NoneType"
  | .bl _ => some "bool"
  | .int _ => some "int"
  | .str _ => some "str"
  | .tup _ => some "tuple"
  | .lv _ => some "list"
  | .obj n => (match S[n]? with
    | some (.lst _) => some "list"
    | _ => none)
  | _ => none
def isiD (t : String) (a : D) (S : Sx) : Option Bool := (tyN a S).bind fun n => kitB n t

def lcL (tg : Tg) (cond : Vs → Sx → R Bool) (elt : Vs → Sx → R D) (still : Sx → Bool) (sw : Vs) : List D → List D → Sx → R (List D)
  | [], acc, S => if still S = true then .ok acc S else .bad
  | d :: ds, acc, S => if still S = true then (match asg tg d sw with
    | some s1 => (cond s1 S).bind fun b S1 => if b = true then (elt s1 S1).bind fun y S2 => if acc.length < sizeLine then lcL tg cond elt still sw ds (acc ++ [y]) S2 else .bad
      else lcL tg cond elt still sw ds acc S1
    | none => .bad) else .bad
/-- two walks, one in the other, with no tests -/
def lc2L (tg tg1 : Tg) (it1 : Vs → Sx → R D) (elt : Vs → Sx → R D) (still : Sx → Bool) (sw : Vs) (vs1 : List Nat) : List D → List D → Sx → R (List D)
  | [], acc, S => if still S = true then .ok acc S else .bad
  | d :: ds, acc, S => if still S = true then (match asg tg d sw with
    | some s1 => (it1 s1 S).bind fun d1 S1 => (match d1 with
      | .tup xs => (lcL tg1 (fun _ S => .ok true S) elt (fun _ => true) (wipeV s1 vs1) xs acc S1).bind fun acc1 S2 => lc2L tg tg1 it1 elt still sw vs1 ds acc1 S2
      | _ => .bad)
    | none => .bad) else .bad
def allL (tg : Tg) (elt : Vs → Sx → R D) (still : Sx → Bool) (sw : Vs) : List D → Sx → R Bool
  | [], S => if still S = true then .ok true S else .bad
  | d :: ds, S => if still S = true then (match asg tg d sw with
    | some s1 => (elt s1 S).bind fun y S1 => (match y with
      | .bl b => if b = true then allL tg elt still sw ds S1 else .ok false S1
      | _ => .bad)
    | none => .bad) else .bad
def stillOf (d : D) (xs : List D) : Sx → Bool := match d with
  | .obj n => fun S => decide (S[n]? = some (.lst xs))
  | _ => fun _ => true
def rngL (a b : Int) : List D := (List.range (b - a).toNat).map fun (i : Nat) => D.int (a + (i : Int))
def enumL (xs : List D) : List D := xs.zipIdx.map fun p => D.tup [.int (p.2 : Nat), p.1]
def zipL (xs ys : List D) : List D := (xs.zip ys).map fun p => D.tup [p.1, p.2]
def intD : D → Option Int
  | .int i => some i
  | _ => none
def keepFalse : Vs → Sx → R D := fun _ _ => .bad

section
variable (gc : Nat → D) (G : Gm)
mutual
def ev : E → Den
  | .v i => mk fun s S => lift (s.getD i none) S
  | .c d => mk fun _ S => .ok d S
  | .g j => mk fun _ S => .ok (gc j) S
  | .bin o a b => mk fun s S => ((ev a).val s S).bind fun x S => ((ev b).val s S).bind fun y S => lift (opD o x y S) S
  | .neg a => mk fun s S => ((ev a).val s S).bind fun x S => lift (negD x) S
  | .not a => ⟨fun s S => ((ev a).val s S).bind fun x S => (lift (truD x S) S).bind fun b S => .ok (.bl (!b)) S, fun s S => ((ev a).tst s S).bind fun b S => .ok (!b) S⟩
  | .and es => ⟨(evs es).andV, (evs es).andT⟩
  | .or es => ⟨(evs es).orV, (evs es).orT⟩
  | .cmp o a b => mkB fun s S => ((ev a).val s S).bind fun x S => ((ev b).val s S).bind fun y S => lift (cmpD o x y S) S
  | .chain o p a b c => mkB fun s S => ((ev a).val s S).bind fun x S => ((ev b).val s S).bind fun y S => (lift (cmpD o x y S) S).bind fun t S =>
      if t = true then ((ev c).val s S).bind fun z S => lift (cmpD p y z S) S else .ok false S
  | .ife t a b => ⟨fun s S => ((ev t).tst s S).bind fun k S => if k = true then (ev a).val s S else (ev b).val s S, fun _ _ => .bad⟩
  | .sub a i => mk fun s S => ((ev a).val s S).bind fun x S => ((ev i).val s S).bind fun y S => lift (ixD x y S) S
  | .dget a i => mk fun s S => ((ev a).val s S).bind fun x S => ((ev i).val s S).bind fun y S => lift (dgetD x y S) S
  | .slc a lo hi => mk fun s S => ((ev a).val s S).bind fun x S => ((evo lo) s S).bind fun l S => ((evo hi) s S).bind fun h S => lift (slcD x l h S) S
  | .tup es => mk fun s S => ((evs es).vals s S).bind fun xs S => if xs.length ≤ sizeLine then .ok (.tup xs) S else .bad
  | .lst tr es => mk fun s S => ((evs es).vals s S).bind fun xs S => newL tr xs S
  | .dct tr ks es => mk fun s S => ((evs es).vals s S).bind fun xs S => if xs.length = ks.length ∧ ks.length ≤ 15 ∧ ks.Nodup then (if tr = true then .ok (.obj S.length) (S ++ [.dk ks xs]) else .ok (.dv ks xs) S) else .bad
  | .join o a => mk fun s S => ((ev o).val s S).bind fun x S => (lift (strD x) S).bind fun z S => ((ev a).val s S).bind fun y S => lift (joinD z y S) S
  | .b1 f a => mk fun s S => ((ev a).val s S).bind fun x S => b1D f x S
  | .dnew => mk fun _ S => .ok (.obj S.length) (S ++ [.dn [] []])
  | .dn1 k a => mk fun s S => (((ev k).val s S).bind fun d S => ((ev a).val s S).bind fun e S => .ok [d, e] S).bind fun xs S => dn1D xs S
  | .rev tr a => mk fun s S => ((ev a).val s S).bind fun d S => (lift (lstOf d S) S).bind fun xs S => newL tr xs.reverse S
  | .gf k => mk fun _ S => .ok (.fn k) S
  | .callv i ks md es => mk fun s S => match s.getD i none with
    | some (.fn k) => if k ∈ ks then ((evs es).vals s S).bind fun xs S => wrp md S (G k xs S) else .bad
    | _ => .bad
  | .dcp a => mk fun s S => ((ev a).val s S).bind fun d S => dcpD d S
  | .srt tr a => mk fun s S => ((ev a).val s S).bind fun d S => srtD tr d S
  | .srts a => mk fun s S => ((ev a).val s S).bind fun d S => srtsD d S
  | .splt tr o a => mk fun s S => ((ev o).val s S).bind fun x S => (lift (strD x) S).bind fun _ S => ((ev a).val s S).bind fun y S => spltD tr x y S
  | .stp2 tr k a => mk fun s S => ((ev a).val s S).bind fun d S => stp2D tr k d S
  | .rvt a => mk fun s S => ((ev a).val s S).bind fun d S => lift (rvtD d) S
  | .lzip tr a b => mk fun s S => ((ev a).val s S).bind fun d S => ((ev b).val s S).bind fun e S => lzipD tr d e S
  | .sn1 a => mk fun s S => ((ev a).val s S).bind fun d S => sn1D d S
  | .sof a => mk fun s S => ((ev a).val s S).bind fun d S => sofD d S
  | .sadd a b => mk fun s S => ((ev a).val s S).bind fun d S => if isSet d S = true then ((ev b).val s S).bind fun e S => saddD d e S else .bad
  | .ssrt tr a => mk fun s S => ((ev a).val s S).bind fun d S => ssrtD tr d S
  | .addl a b => mk fun s S => ((ev a).val s S).bind fun d S => ((ev b).val s S).bind fun e S => addlD d e S
  | .dgetd a i x => mk fun s S => ((ev a).val s S).bind fun d S => if isDk d S = true then ((ev i).val s S).bind fun y S => ((ev x).val s S).bind fun z S => lift (dgetdD d y z S) S else .bad
  | .mm m a b => mk fun s S => ((ev a).val s S).bind fun x S => ((ev b).val s S).bind fun y S => lift (mmD m x y) S
  | .isi t a => mk fun s S => ((ev a).val s S).bind fun x S => lift ((isiD t x S).map .bl) S
  | .fld c a x => mk fun s S => ((ev a).val s S).bind fun d S => lift (fldD c d x S) S
  | .call k m es => mk fun s S => ((evs es).vals s S).bind fun xs S => wrp m S (G k xs S)
  | .new c k m es => mk fun s S => ((evs es).vals s S).bind fun xs S => wrp m S (newD c (G k) xs S)
  | .newK c k m kw dfl es => mk fun s S => ((evs es).vals s S).bind fun xs S => if xs.length = kw.length then wrp m S (newD c (G k) (xs ++ dfl) S) else .bad
  | .mt c k m a x es => mk fun s S => ((ev a).val s S).bind fun d S => (lift (mtD c x d S) S).bind fun _ S => ((evs es).vals s S).bind fun xs S => wrp m S (G k (d :: xs) S)
  | .app a b => mk fun s S => ((ev a).val s S).bind fun x S => if (lstOf x S).isSome = true then ((ev b).val s S).bind fun y S => appD x y S else .bad
  | .ext a b => mk fun s S => ((ev a).val s S).bind fun x S => if (lstOf x S).isSome = true then ((ev b).val s S).bind fun y S => extD x y S else .bad
  | .pop a => mk fun s S => ((ev a).val s S).bind fun x S => popD x S
  | .popi a i => mk fun s S => ((ev a).val s S).bind fun x S => if (lstOf x S).isSome = true then ((ev i).val s S).bind fun y S => popiD x y S else .bad
  | .lc tr tg it cond elt vs => mk fun s S => ((evi it) s S).bind fun xs S => (lcL tg (evc cond) (ev elt).val xs.2 (wipeV s vs) xs.1 [] S).nox.bind fun ys S => newL tr ys S
  | .lc2 tr tg tg1 it a1 elt vs vs1 => mk fun s S => ((evi it) s S).bind fun xs S => (lc2L tg tg1 (ev a1).val (ev elt).val xs.2 (wipeV s vs) vs1 xs.1 [] S).nox.bind fun ys S => newL tr ys S
  | .all tg it elt vs => mk fun s S => ((evi it) s S).bind fun xs S => (allL tg (ev elt).val xs.2 (wipeV s vs) xs.1 S).nox.bind fun b S => .ok (.bl b) S
def evs : Es → Dens
  | .nil => ⟨fun _ S => .ok [] S, true, keepFalse, keepFalse, fun _ S => .ok true S, fun _ S => .ok false S⟩
  | .cons e es =>
    ⟨fun s S => ((ev e).val s S).bind fun x S => ((evs es).vals s S).bind fun xs S => .ok (x :: xs) S, false,
     fun s S => if (evs es).last = true then (ev e).val s S else ((ev e).val s S).bind fun x S => (lift (truD x S) S).bind fun b S => if b = true then (evs es).andV s S else .ok x S,
     fun s S => if (evs es).last = true then (ev e).val s S else ((ev e).val s S).bind fun x S => (lift (truD x S) S).bind fun b S => if b = true then .ok x S else (evs es).orV s S,
     fun s S => ((ev e).tst s S).bind fun b S => if b = true then (evs es).andT s S else .ok false S,
     fun s S => ((ev e).tst s S).bind fun b S => if b = true then .ok true S else (evs es).orT s S⟩
def evo : Eo → Deno
  | .none => fun _ S => .ok none S
  | .some e => fun s S => ((ev e).val s S).bind fun d S => (lift (intD d) S).bind fun i S => .ok (some i) S
def evc : Eo → Vs → Sx → R Bool
  | .none => fun _ S => .ok true S
  | .some e => (ev e).tst
def evi : It → Deni
  | .e a => fun s S => ((ev a).val s S).bind fun d S => (match seqOf d S with
      | some xs => .ok (xs, stillOf d xs) S
      | none => .bad)
  | .rng lo a => fun s S => ((evo lo) s S).bind fun l S => ((ev a).val s S).bind fun h S => (lift (intD h) S).bind fun h S =>
      if (-(2 ^ 62) ≤ l.getD 0 ∧ l.getD 0 < 2 ^ 62) ∧ (-(2 ^ 62) ≤ h ∧ h < 2 ^ 62) then .ok (rngL (l.getD 0) h, fun _ => true) S else .bad
  | .enum a => fun s S => ((ev a).val s S).bind fun d S => (match seqOf d S with
      | some xs => .ok (enumL xs, stillOf d xs) S
      | none => .bad)
  | .zip a b => fun s S => ((ev a).val s S).bind fun d S => ((ev b).val s S).bind fun e S => (match d, e with
      | .tup xs, .tup ys => .ok (zipL xs ys, fun _ => true) S
      | d, e => (match lstOf d S, lstOf e S with
        | some xs, some ys => .ok (zipL xs ys, fun S => stillOf d xs S && stillOf e ys S) S
        | _, _ => .bad))
end
end

/-! ### statements -/
inductive Fl where
  | nx (s : Vs)
  | rt (d : D)
  | bk (s : Vs)
  | ct (s : Vs)
mutual
inductive Sm where
  | set (i : Nat) (e : E)
  | unp (tg : Tg) (e : E)
  | seti (a i e : E)
  | dput (a i e : E)
  | setf (c : Nat) (a : E) (x : Str) (e : E)
  | aug (i : Nat) (e : E)
  | augf (c : Nat) (a : E) (x : Str) (e : E)
  | ite (t : E) (a b : Sms)
  | for_ (tg : Tg) (it : It) (b : Sms)
  | whl (n : Nat) (t : E) (b : Sms)
  | ret (e : E)
  | retN
  | ex (e : E)
  | brk
  | pass
  | raise_ (c k : Nat) (e : E)
  | try_ (c i : Nat) (b h : Sms)
  | never
inductive Sms where
  | nil
  | cons (s : Sm) (r : Sms)
end
def whlL (t : Vs → Sx → R Bool) (b : Vs → Sx → R Fl) : Nat → Vs → Sx → R Fl
  | 0, _, _ => .bad
  | n + 1, s, S => (t s S).bind fun k S => if k = true then (b s S).bind fun f S => (match f with
      | .nx s' => whlL t b n s' S
      | .ct s' => whlL t b n s' S
      | .bk s' => .ok (.nx s') S
      | .rt d => .ok (.rt d) S) else .ok (.nx s) S
def forL (tg : Tg) (still : Sx → Bool) (b : Vs → Sx → R Fl) : List D → Vs → Sx → R Fl
  | [], s, S => if still S = true then .ok (.nx s) S else .bad
  | d :: ds, s, S => if still S = true then (match asg tg d s with
    | some s1 => (b s1 S).bind fun f S => (match f with
      | .nx s' => forL tg still b ds s' S
      | .ct s' => forL tg still b ds s' S
      | .bk s' => .ok (.nx s') S
      | .rt d => .ok (.rt d) S)
    | none => .bad) else .bad
section
variable (gc : Nat → D) (G : Gm)
mutual
def es : Sm → Vs → Sx → R Fl
  | .set i e, s, S => ((ev gc G e).val s S).bind fun d S => .ok (.nx (s.set i (some d))) S
  | .unp tg e, s, S => ((ev gc G e).val s S).bind fun d S => (lift (asg tg d s) S).bind fun s' S => .ok (.nx s') S
  | .seti a i e, s, S => ((ev gc G e).val s S).bind fun d S => ((ev gc G a).val s S).bind fun x S => ((ev gc G i).val s S).bind fun y S => (match setD x y d S with
      | some S' => .ok (.nx s) S'
      | none => .bad)
  | .dput a i e, s, S => ((ev gc G e).val s S).bind fun d S => ((ev gc G a).val s S).bind fun x S => ((ev gc G i).val s S).bind fun y S => (match dputD x y d S with
      | some S' => .ok (.nx s) S'
      | none => .bad)
  | .setf c a x e, s, S => ((ev gc G e).val s S).bind fun d S => ((ev gc G a).val s S).bind fun o S => (match setF c o x d S with
      | some S' => .ok (.nx s) S'
      | none => .bad)
  | .aug i e, s, S => (match s.getD i none with
      | some (.int x) => ((ev gc G e).val s S).bind fun d S => (match d with
        | .int y => .ok (.nx (s.set i (some (.int (x + y))))) S
        | _ => .bad)
      | _ => .bad)
  | .augf c a x e, s, S => ((ev gc G a).val s S).bind fun o S => (lift (fldD c o x S) S).bind fun d S => (match d with
      | .int p => ((ev gc G e).val s S).bind fun d S => (match d with
        | .int q => (match setF c o x (.int (p + q)) S with
          | some S' => .ok (.nx s) S'
          | none => .bad)
        | _ => .bad)
      | _ => .bad)
  | .ite t a b, s, S => ((ev gc G t).tst s S).bind fun k S => if k = true then ess a s S else ess b s S
  | .for_ tg it b, s, S => ((evi gc G it) s S).bind fun xs S => forL tg xs.2 (ess b) xs.1 s S
  | .whl n t b, s, S => whlL (ev gc G t).tst (ess b) n s S
  | .ret e, s, S => ((ev gc G e).val s S).bind fun d S => .ok (.rt d) S
  | .retN, _, S => .ok (.rt .non) S
  | .ex e, s, S => ((ev gc G e).val s S).bind fun _ S => .ok (.nx s) S
  | .brk, s, S => .ok (.bk s) S
  | .pass, s, S => .ok (.nx s) S
  | .raise_ c _ e, s, S => ((ev gc G e).val s S).bind fun d S => .exc c d S
  | .try_ _ _ b _, s, S => (match ess b s S with
      | .ok f S => .ok f S
      | _ => .bad)
  | .never, _, _ => .bad
def ess : Sms → Vs → Sx → R Fl
  | .nil, s, S => .ok (.nx s) S
  | .cons a r, s, S => (es a s S).bind fun f S => (match f with
      | .nx s' => ess r s' S
      | f => .ok f S)
end
end
/-- a def's body on its arguments -/
def startV (n : Nat) (xs : List D) : Vs := xs.map some ++ List.replicate (n - xs.length) none
structure Fn where
  np : Nat
  nv : Nat
  body : Sms
def runB (gc : Nat → D) (G : Gm) (f : Fn) (xs : List D) (S : Sx) : R D :=
  if xs.length = f.np then (match ess gc G f.body (startV f.nv xs) S with
    | .ok (.nx _) S => .ok .non S
    | .ok (.rt d) S => .ok d S
    | .exc c v S => .exc c v S
    | _ => .bad) else .bad
def runF (gc : Nat → D) (fs : List Fn) : Nat → Gm
  | 0 => fun _ _ _ => .bad
  | n + 1 => fun k xs S => match fs[k]? with
    | some f => runB gc (runF gc fs n) f xs S
    | none => .bad
end TK
end
section
set_option autoImplicit false
set_option linter.all false
namespace TK
open PySem L2

/-! ### where the data stand -/
structure Tb where
  P : Program
  w : World
  K : PySem.W.Frag
  mg : Str → Option Value
  base : Heap
  C : Nat → Addr
  F : Nat → Addr
  hid : List Addr
  tabs : List Addr
def At (T : Tb) (m : List Addr) (H : Hp) (a : Addr) (o : HO) : Prop := H a = some o ∧ a ∉ m ∧ a ∉ T.hid
def TupAt (T : Tb) (H : Hp) (m : List Addr) (a : Addr) (xs : List V) : Prop := (Rd H a (.tup xs) ∧ a ∉ m) ∨ SqT T.K (fun _ => none) a xs
def ScrAt (T : Tb) (H : Hp) (m : List Addr) (a : Addr) (xs : List V) : Prop := (Rd H a (.lst xs) ∧ a ∉ m ∧ a ∉ T.hid) ∨ SqL T.K (fun _ => none) a xs
mutual
def RepV (T : Tb) (H : Hp) (m : List Addr) : D → V → Prop
  | .non, v => v = .non
  | .bl b, v => v = .bl b
  | .int i, v => v = .int i
  | .str x, v => v = .str x
  | .scr xs, v => ∃ a, v = .ref a ∧ ScrAt T H m a (xs.map V.int)
  | .tup ds, v => ∃ a xs, v = .ref a ∧ TupAt T H m a xs ∧ RepL T H m ds xs
  | .lv ds, v => ∃ a xs, v = .ref a ∧ At T m H a (.lst xs) ∧ RepL T H m ds xs
  | .dv ks ds, v => ∃ a kvs, v = .ref a ∧ At T m H a (.dK kvs) ∧ kvs.map (·.1) = ks ∧ RepL T H m ds (kvs.map (·.2))
  | .iv c ns ds, v => ∃ a dx fs, v = .ref a ∧ At T m H a (.ins (T.C c) dx fs) ∧ fs.map (·.1) = ns ∧ RepL T H m ds (fs.map (·.2))
  | .obj n, v => ∃ a, v = .ref a ∧ m[n]? = some a
  | .fn k, v => v = .ref (T.F k)
def RepL (T : Tb) (H : Hp) (m : List Addr) : List D → List V → Prop
  | [], vs => vs = []
  | d :: ds, vs => ∃ v r, vs = v :: r ∧ RepV T H m d v ∧ RepL T H m ds r
end
/-- a dict by its entries (its keys' tuples are told apart) -/
def DN0 (P : Program) (w : World) (h : Heap) (a : Addr) (xs : List (NestedKey × Addr × Value)) : Prop :=
  ∃ o es ep, h.get? a = some o ∧ o.ExactDict ∧ o.data = .dict es ep ∧ es.toList = xs.map (entryOfKey (nestedKind P w)) ∧ (xs.map (·.1)).Nodup
def DNO (P : Program) (w : World) (a : Addr) (xs : List (NestedKey × Addr × Value)) : HO := .ext fun h => DN0 P w h a xs
/-- a set by its entries -/
structure SN0 (P : Program) (w : World) (h : Heap) (a : Addr) (b : Bool) (L : List (Addr × NestedKey)) : Prop where
  ex : ∃ (es : Array (Int × Value)) (ep : Nat) (t : SetTable), (∃ o, h.get? a = some o ∧ o.ExactSet ∧ o.data = .set es ep t) ∧ es.toList = (L.map fun x => (x.2.hash w, Value.ref x.1)) ∧ TabOk t (L.map fun x => x.2.hash w) ∧ (L.map fun x => x.2).Nodup ∧
    t.plain = true ∧ (b = true → w.params.followText "set-order" = true ∨ t.led = true) ∧ L.length * 5 < t.mask * 3 ∧ L.length < 64
def SNO (P : Program) (w : World) (a : Addr) (b : Bool) (L : List (Addr × NestedKey)) : HO := .ext fun h => SN0 P w h a b L
structure DnAt (T : Tb) (H : Hp) (a : Addr) (ks : List D) (xs : List (NestedKey × Addr × Value)) (vs : List V) : Prop where
  at_ : H a = some (DNO T.P T.w a xs)
  off : (a == sysModules) = false
  keys : ks.map nkey = xs.map fun x => some x.1
  deep : ∀ x ∈ xs, x.1.depth ≤ 8
  vals : L2.Vals vs (xs.map (·.2.2))
structure SnAt (T : Tb) (H : Hp) (a : Addr) (b : Bool) (ks ks' : List D) (L : List (Addr × NestedKey)) : Prop where
  at_ : H a = some (SNO T.P T.w a b L)
  perm : ks'.Perm ks
  keys : ks'.map nkey = L.map fun x => some x.2
  deep : ∀ x ∈ L, x.2.depth ≤ 8
abbrev refN (xs : List (NestedKey × Addr × Value)) : List V := xs.map fun x => V.ref x.2.1
abbrev refS (L : List (Addr × NestedKey)) : List V := L.map fun x => V.ref x.1
theorem DnAt.move {T T' : Tb} {H H' : Hp} {a : Addr} {ks : List D} {xs : List (NestedKey × Addr × Value)} {vs : List V} (h : DnAt T H a ks xs vs) (e : H' a = H a) (p : T'.P = T.P) (w : T'.w = T.w) : DnAt T' H' a ks xs vs := ⟨by rw [e, p, w]; exact h.at_, h.off, h.keys, h.deep, h.vals⟩
theorem SnAt.move {T T' : Tb} {H H' : Hp} {a : Addr} {b : Bool} {ks ks' : List D} {L : List (Addr × NestedKey)} (h : SnAt T H a b ks ks' L) (e : H' a = H a) (p : T'.P = T.P) (w : T'.w = T.w) : SnAt T' H' a b ks ks' L := ⟨by rw [e, p, w]; exact h.at_, h.perm, h.keys, h.deep⟩
def RepO (T : Tb) (H : Hp) (m : List Addr) (a : Addr) : MO → Prop
  | .lst ds => ∃ xs, H a = some (.lst xs) ∧ RepL T H m ds xs
  | .dk ks ds => ∃ kvs, H a = some (.dK kvs) ∧ kvs.map (·.1) = ks ∧ RepL T H m ds (kvs.map (·.2))
  | .dn ks ds => ∃ xs vs, DnAt T H a ks xs vs ∧ RepL T H m ks (refN xs) ∧ RepL T H m ds vs
  | .sn b ks => ∃ ks' L, SnAt T H a b ks ks' L ∧ RepL T H m ks' (refS L)
  | .sk ks => H a = some (SetK T.P T.w a (memK ks) ks.length)
  | .ins c ns ds => ∃ dx fs, H a = some (.ins (T.C c) dx fs) ∧ fs.map (·.1) = ns ∧ RepL T H m ds (fs.map (·.2))
structure RelH (T : Tb) (H : Hp) (m : List Addr) (S : Sx) : Prop where
  len : m.length = S.length
  nd : m.Nodup
  hid : ∀ a ∈ T.hid, a ∉ m ∧ ∃ u, H a = some u
  tab : ∀ P ∈ T.tabs, P ∉ m ∧ GxR.TabG H P
  obj : ∀ (n : Nat) (a : Addr) (o : MO), m[n]? = some a → S[n]? = some o → RepO T H m a o
def RelV (T : Tb) (H : Hp) (m : List Addr) (s : Vs) (σ : L2.St) : Prop := s.length = σ.length ∧ ∀ (i : Nat) (d : D), s.getD i none = some d → ∃ v, σ[i]? = some (some v) ∧ RepV T H m d v
/-- further on: the objects by number stand first, what is no object by number is as it was -/
structure Later (H H' : Hp) (m m' : List Addr) : Prop where
  pre : ∃ n, m' = m ++ n ∧ ∀ a ∈ n, H a = none ∧ a ∉ m
  fr : ∀ a o, H a = some o → a ∉ m → (∀ ps, o ≠ .tbl ps) → H' a = some o
  tb : ∀ a ps, H a = some (.tbl ps) → a ∉ m → ∃ qs, H' a = some (.tbl qs)

section
variable {T : Tb} {H H' H1 H2 : Hp} {m m' m1 m2 : List Addr} {S : Sx}
theorem Later.refl : Later H H m m := ⟨⟨[], by simp, by simp⟩, fun _ _ h _ _ => h, fun _ ps h _ => ⟨ps, h⟩⟩
theorem Later.out (L : Later H H' m m') {a : Addr} {o : HO} (h : H a = some o) (n : a ∉ m) : a ∉ m' := by
  obtain ⟨r, rfl, hr⟩ := L.pre
  intro q
  rcases List.mem_append.mp q with q | q
  · exact n q
  · rw [(hr a q).1] at h
    cases h
theorem Later.trans (L : Later H H1 m m1) (M : Later H1 H2 m1 m2) : Later H H2 m m2 := by
  refine ⟨?_, fun a o h n nt => M.fr a o (L.fr a o h n nt) (L.out h n) nt, fun a ps h n => let ⟨qs, h1⟩ := L.tb a ps h n; M.tb a qs h1 (L.out h n)⟩
  obtain ⟨r, rfl, hr⟩ := L.pre
  obtain ⟨q, rfl, hq⟩ := M.pre
  refine ⟨r ++ q, by simp, fun a ha => ?_⟩
  rcases List.mem_append.mp ha with z | z
  · exact hr a z
  · have nm : a ∉ m := fun k => (hq a z).2 (List.mem_append_left _ k)
    refine ⟨?_, nm⟩
    cases e : H a with
    | none => rfl
    | some o =>
      have : ∃ u, H1 a = some u := by
        cases o with
        | tbl ps => exact let ⟨qs, h1⟩ := L.tb a ps e nm; ⟨_, h1⟩
        | _ => exact ⟨_, L.fr a _ e nm (fun _ q => nomatch q)⟩
      obtain ⟨u, this⟩ := this
      rw [(hq a z).1] at this
      cases this
theorem Later.get (L : Later H H' m m') {n : Nat} {a : Addr} (h : m[n]? = some a) : m'[n]? = some a := by
  obtain ⟨r, rfl, _⟩ := L.pre
  obtain ⟨hl, e⟩ := List.getElem?_eq_some_iff.mp h
  rw [List.getElem?_append_left hl]
  exact h
theorem Later.at_ (L : Later H H' m m') {a : Addr} {o : HO} (h : At T m H a o) (nt : ∀ ps, o ≠ .tbl ps := by intro _ e; cases e) : At T m' H' a o := ⟨L.fr a o h.1 h.2.1 nt, L.out h.1 h.2.1, h.2.2⟩
theorem Later.rd (L : Later H H' m m') {a : Addr} {u : HO} (h : Rd H a u) (n : a ∉ m) (nt : ∀ ps, u ≠ .tbl ps := by intro _ e; cases e) : Rd H' a u ∧ a ∉ m' := by
  rcases h with h | ⟨o, h⟩
  · exact ⟨.inl (L.fr a _ h n nt), L.out h n⟩
  · exact ⟨.inr ⟨o, L.fr a _ h n (fun _ e => nomatch e)⟩, L.out h n⟩
mutual
theorem RepV.mono (L : Later H H' m m') : ∀ (d : D) (v : V), RepV T H m d v → RepV T H' m' d v
  | .non, v, h => h
  | .bl b, v, h => h
  | .int i, v, h => h
  | .str x, v, h => h
  | .scr xs, v, h => by
    obtain ⟨a, e, h1 | h1⟩ := h
    · exact ⟨a, e, .inl ⟨(L.rd h1.1 h1.2.1).1, (L.rd h1.1 h1.2.1).2, h1.2.2⟩⟩
    · exact ⟨a, e, .inr h1⟩
  | .tup ds, v, h => by
    obtain ⟨a, xs, e, h1 | h1, h2⟩ := h
    · exact ⟨a, xs, e, .inl (L.rd h1.1 h1.2), RepL.mono L ds xs h2⟩
    · exact ⟨a, xs, e, .inr h1, RepL.mono L ds xs h2⟩
  | .lv ds, v, h => by
    obtain ⟨a, xs, e, h1, h2⟩ := h
    exact ⟨a, xs, e, L.at_ h1, RepL.mono L ds xs h2⟩
  | .dv ks ds, v, h => by
    obtain ⟨a, xs, e, h1, h2, h3⟩ := h
    exact ⟨a, xs, e, L.at_ h1, h2, RepL.mono L ds _ h3⟩
  | .iv c ns ds, v, h => by
    obtain ⟨a, dx, xs, e, h1, h2, h3⟩ := h
    exact ⟨a, dx, xs, e, L.at_ h1, h2, RepL.mono L ds _ h3⟩
  | .obj n, v, h => by
    obtain ⟨a, e, h1⟩ := h
    exact ⟨a, e, L.get h1⟩
  | .fn k, v, h => h
theorem RepL.mono (L : Later H H' m m') : ∀ (ds : List D) (vs : List V), RepL T H m ds vs → RepL T H' m' ds vs
  | [], vs, h => h
  | d :: ds, vs, h => by
    obtain ⟨v, r, e, h1, h2⟩ := h
    exact ⟨v, r, e, RepV.mono L d v h1, RepL.mono L ds r h2⟩
end
/-! the same without the objects behind: what was said of data ahead -/
section
variable {m3 : List Addr} (g1 : ∀ (n : Nat) (a : Addr), m[n]? = some a → m'[n]? = some a) (g2 : ∀ (n : Nat) (a : Addr), m[n]? = some a → m3[n]? = some a) (n : ∀ a, a ∉ m' → a ∉ m3)
include g1 g2 n
mutual
theorem RepV.back : ∀ (d : D) (v0 v : V) (H0 : Hp), RepV T H0 m d v0 → RepV T H' m' d v → RepV T H' m3 d v
  | .non, _, v, _, _, h => h
  | .bl b, _, v, _, _, h => h
  | .int i, _, v, _, _, h => h
  | .str x, _, v, _, _, h => h
  | .scr xs, _, v, _, _, h => by
    obtain ⟨a, e, h1 | h1⟩ := h
    · exact ⟨a, e, .inl ⟨h1.1, n a h1.2.1, h1.2.2⟩⟩
    · exact ⟨a, e, .inr h1⟩
  | .tup ds, _, v, H0, g, h => by
    obtain ⟨_, xs0, _, _, k2⟩ := g
    obtain ⟨a, xs, e, h1 | h1, h2⟩ := h
    · exact ⟨a, xs, e, .inl ⟨h1.1, n a h1.2⟩, RepL.back ds xs0 xs H0 k2 h2⟩
    · exact ⟨a, xs, e, .inr h1, RepL.back ds xs0 xs H0 k2 h2⟩
  | .lv ds, _, v, H0, g, h => by
    obtain ⟨_, xs0, _, _, k2⟩ := g
    obtain ⟨a, xs, e, h1, h2⟩ := h
    exact ⟨a, xs, e, ⟨h1.1, n a h1.2.1, h1.2.2⟩, RepL.back ds xs0 xs H0 k2 h2⟩
  | .dv ks ds, _, v, H0, g, h => by
    obtain ⟨_, xs0, _, _, _, k2⟩ := g
    obtain ⟨a, xs, e, h1, h2, h3⟩ := h
    exact ⟨a, xs, e, ⟨h1.1, n a h1.2.1, h1.2.2⟩, h2, RepL.back ds _ _ H0 k2 h3⟩
  | .iv c ns ds, _, v, H0, g, h => by
    obtain ⟨_, _, xs0, _, _, _, k2⟩ := g
    obtain ⟨a, dx, xs, e, h1, h2, h3⟩ := h
    exact ⟨a, dx, xs, e, ⟨h1.1, n a h1.2.1, h1.2.2⟩, h2, RepL.back ds _ _ H0 k2 h3⟩
  | .obj k, _, v, _, g, h => by
    obtain ⟨b, _, k1⟩ := g
    obtain ⟨a, e, h1⟩ := h
    rw [g1 _ _ k1] at h1
    exact ⟨a, e, by rw [← h1]; exact g2 _ _ k1⟩
  | .fn k, _, v, _, _, h => h
theorem RepL.back : ∀ (ds : List D) (vs0 vs : List V) (H0 : Hp), RepL T H0 m ds vs0 → RepL T H' m' ds vs → RepL T H' m3 ds vs
  | [], _, vs, _, _, h => h
  | d :: ds, _, vs, H0, g, h => by
    obtain ⟨v0, r0, _, k1, k2⟩ := g
    obtain ⟨v, r, e, h1, h2⟩ := h
    exact ⟨v, r, e, RepV.back d v0 v H0 k1 h1, RepL.back ds r0 r H0 k2 h2⟩
end
end
/-! pure data, whatever the objects -/
mutual
theorem RepV.pure (n : ∀ a, a ∉ m → a ∉ m') : ∀ (d : D) (v : V), d.pure = true → RepV T H m d v → RepV T H m' d v
  | .non, v, _, h => h
  | .bl b, v, _, h => h
  | .int i, v, _, h => h
  | .str x, v, _, h => h
  | .scr xs, v, _, h => by
    obtain ⟨a, e, h1 | h1⟩ := h
    · exact ⟨a, e, .inl ⟨h1.1, n a h1.2.1, h1.2.2⟩⟩
    · exact ⟨a, e, .inr h1⟩
  | .tup ds, v, p, h => by
    obtain ⟨a, xs, e, h1 | h1, h2⟩ := h
    · exact ⟨a, xs, e, .inl ⟨h1.1, n a h1.2⟩, RepL.pure n ds xs (by simpa [D.pure] using p) h2⟩
    · exact ⟨a, xs, e, .inr h1, RepL.pure n ds xs (by simpa [D.pure] using p) h2⟩
  | .lv ds, v, p, h => by
    obtain ⟨a, xs, e, h1, h2⟩ := h
    exact ⟨a, xs, e, ⟨h1.1, n a h1.2.1, h1.2.2⟩, RepL.pure n ds xs (by simpa [D.pure] using p) h2⟩
  | .dv ks ds, v, p, h => by
    obtain ⟨a, xs, e, h1, h2, h3⟩ := h
    exact ⟨a, xs, e, ⟨h1.1, n a h1.2.1, h1.2.2⟩, h2, RepL.pure n ds _ (by simpa [D.pure] using p) h3⟩
  | .iv c ns ds, v, p, h => by
    obtain ⟨a, dx, xs, e, h1, h2, h3⟩ := h
    exact ⟨a, dx, xs, e, ⟨h1.1, n a h1.2.1, h1.2.2⟩, h2, RepL.pure n ds _ (by simpa [D.pure] using p) h3⟩
  | .obj k, v, p, h => by simp [D.pure] at p
  | .fn k, v, _, h => h
theorem RepL.pure (n : ∀ a, a ∉ m → a ∉ m') : ∀ (ds : List D) (vs : List V), D.pures ds = true → RepL T H m ds vs → RepL T H m' ds vs
  | [], vs, _, h => h
  | d :: ds, vs, p, h => by
    obtain ⟨v, r, e, h1, h2⟩ := h
    have p2 : (d.pure && D.pures ds) = true := by simpa [D.pures] using p
    obtain ⟨p3, p4⟩ := Bool.and_eq_true_iff.mp p2
    exact ⟨v, r, e, RepV.pure n d v p3 h1, RepL.pure n ds r p4 h2⟩
end
/-! ### lists -/
theorem RepL.len : ∀ {ds : List D} {vs : List V}, RepL T H m ds vs → ds.length = vs.length
  | [], vs, h => by rw [show vs = [] from h] <;> rfl
  | d :: ds, vs, h => by
    obtain ⟨v, r, rfl, _, h2⟩ := h
    simp [RepL.len h2]
theorem RepL.get : ∀ {ds : List D} {vs : List V} {i : Nat} {d : D}, RepL T H m ds vs → ds[i]? = some d → ∃ v, vs[i]? = some v ∧ RepV T H m d v
  | [], vs, i, d, h, e => by simp at e
  | c :: ds, vs, 0, d, h, e => by
    obtain ⟨v, r, rfl, h1, _⟩ := h
    simp at e
    subst e
    exact ⟨v, by simp, h1⟩
  | c :: ds, vs, i + 1, d, h, e => by
    obtain ⟨v, r, rfl, _, h2⟩ := h
    simp at e
    obtain ⟨u, e1, e2⟩ := RepL.get h2 e
    exact ⟨u, by simpa using e1, e2⟩
theorem RepL.get' {ds : List D} {vs : List V} {i : Nat} {v : V} (h : RepL T H m ds vs) (e : vs[i]? = some v) : ∃ d, ds[i]? = some d ∧ RepV T H m d v := by
  have hl := h.len
  obtain ⟨hi, _⟩ := List.getElem?_eq_some_iff.mp e
  have e2 : ds[i]? = some (ds[i]'(by omega)) := List.getElem?_eq_getElem _
  obtain ⟨u, h1, h2⟩ := h.get e2
  rw [e] at h1
  cases h1
  exact ⟨_, e2, h2⟩
theorem RepL.of : ∀ {ds : List D} {vs : List V}, ds.length = vs.length → (∀ (i : Nat) (d : D) (v : V), ds[i]? = some d → vs[i]? = some v → RepV T H m d v) → RepL T H m ds vs
  | [], [], _, _ => rfl
  | [], _ :: _, h, _ => by simp at h
  | _ :: _, [], h, _ => by simp at h
  | d :: ds, v :: vs, h, f => ⟨v, vs, rfl, f 0 d v (by simp) (by simp), RepL.of (by simpa using h) fun i d v h1 h2 => f (i + 1) d v (by simpa using h1) (by simpa using h2)⟩
theorem RepL.append {ds es : List D} {vs us : List V} (a : RepL T H m ds vs) (b : RepL T H m es us) : RepL T H m (ds ++ es) (vs ++ us) := by
  induction ds generalizing vs with
  | nil =>
    rw [show vs = [] from a]
    exact b
  | cons d ds ih =>
    obtain ⟨v, r, rfl, h1, h2⟩ := a
    exact ⟨v, r ++ us, rfl, h1, ih h2⟩
theorem RepL.one {d : D} {v : V} (h : RepV T H m d v) : RepL T H m [d] [v] := ⟨v, [], rfl, h, rfl⟩
theorem RepL.drop {ds : List D} {vs : List V} (n : Nat) (h : RepL T H m ds vs) : RepL T H m (ds.drop n) (vs.drop n) :=
  RepL.of (by simp [h.len]) fun i d v h1 h2 => by
    rw [List.getElem?_drop] at h1 h2
    obtain ⟨u, e1, e2⟩ := h.get h1
    rw [h2] at e1
    cases e1
    exact e2
theorem RepL.take {ds : List D} {vs : List V} (n : Nat) (h : RepL T H m ds vs) : RepL T H m (ds.take n) (vs.take n) :=
  RepL.of (by simp [h.len]) fun i d v h1 h2 => by
    rw [List.getElem?_take] at h1 h2
    split at h1
    · rename_i hn
      rw [if_pos hn] at h2
      obtain ⟨u, e1, e2⟩ := h.get h1
      rw [h2] at e1
      cases e1
      exact e2
    · cases h1
theorem RepL.set {ds : List D} {vs : List V} {d : D} {v : V} (n : Nat) (h : RepL T H m ds vs) (hd : RepV T H m d v) : RepL T H m (ds.set n d) (vs.set n v) :=
  RepL.of (by simp [h.len]) fun i e u h1 h2 => by
    rw [List.getElem?_set] at h1 h2
    by_cases hn : n = i
    · rw [if_pos hn] at h1 h2
      split at h1
      · cases h1
        split at h2
        · cases h2
          exact hd
        · cases h2
      · cases h1
    · rw [if_neg hn] at h1 h2
      obtain ⟨u', e1, e2⟩ := h.get h1
      rw [h2] at e1
      cases e1
      exact e2
theorem RepL.erase {ds : List D} {vs : List V} (n : Nat) (h : RepL T H m ds vs) : RepL T H m (ds.eraseIdx n) (vs.eraseIdx n) := by
  rw [List.eraseIdx_eq_take_drop_succ, List.eraseIdx_eq_take_drop_succ]
  exact (h.take n).append (h.drop (n + 1))
theorem RepL.dropLast {ds : List D} {vs : List V} (h : RepL T H m ds vs) : RepL T H m ds.dropLast vs.dropLast := by
  rw [List.dropLast_eq_take, List.dropLast_eq_take, h.len]
  exact h.take _
theorem RepL.at_ {ds : List D} {vs : List V} {i : Int} {d : D} (h : RepL T H m ds vs) (e : atI ds i = some d) : ∃ v, atI vs i = some v ∧ RepV T H m d v := by
  unfold atI at e ⊢
  rw [← h.len]
  obtain ⟨j, hj, e2⟩ := Option.bind_eq_some_iff.mp e
  obtain ⟨v, e3, e4⟩ := h.get e2
  exact ⟨v, by rw [hj]; simpa using e3, e4⟩
theorem RepL.nil_iff {ds : List D} {vs : List V} (h : RepL T H m ds vs) : ds.isEmpty = vs.isEmpty := by
  have := h.len
  cases ds <;> cases vs <;> simp_all
theorem RepL.ints : ∀ {xs : List Int} {vs : List V}, RepL T H m (xs.map D.int) vs → vs = xs.map V.int
  | [], vs, h => h
  | x :: xs, vs, h => by
    obtain ⟨v, r, rfl, h1, h2⟩ := h
    rw [show v = .int x from h1, RepL.ints h2] <;> rfl
theorem RepL.of_ints : ∀ (xs : List Int), RepL T H m (xs.map D.int) (xs.map V.int)
  | [] => rfl
  | x :: xs => ⟨.int x, xs.map V.int, rfl, rfl, RepL.of_ints xs⟩
/-! ### the objects -/
theorem RepO.there {a : Addr} {o : MO} (h : RepO T H m a o) : ∃ u, H a = some u ∧ Mut (some u) ∧ ∀ xs, u ≠ .tup xs := by
  cases o with
  | lst ds => obtain ⟨xs, e, _⟩ := h; exact ⟨_, e, trivial, fun _ q => nomatch q⟩
  | dk ks ds => obtain ⟨xs, e, _⟩ := h; exact ⟨_, e, trivial, fun _ q => nomatch q⟩
  | dn ks ds => obtain ⟨xs, vs, e, _⟩ := h; exact ⟨_, e.at_, trivial, fun _ q => nomatch q⟩
  | sn b ks => obtain ⟨ks', L, e, _⟩ := h; exact ⟨_, e.at_, trivial, fun _ q => nomatch q⟩
  | sk ks => exact ⟨_, h, trivial, fun _ q => nomatch q⟩
  | ins c ns ds => obtain ⟨dx, xs, e, _⟩ := h; exact ⟨_, e, trivial, fun _ q => nomatch q⟩
theorem RepO.back {m3 : List Addr} (g1 : ∀ (n : Nat) (a : Addr), m[n]? = some a → m'[n]? = some a) (g2 : ∀ (n : Nat) (a : Addr), m[n]? = some a → m3[n]? = some a) (n : ∀ a, a ∉ m' → a ∉ m3) {a : Addr} {o : MO} {H0 : Hp} (g : RepO T H0 m a o) (h : RepO T H' m' a o) : RepO T H' m3 a o := by
  cases o with
  | lst ds =>
    obtain ⟨xs, e1, q1⟩ := h
    obtain ⟨xs0, _, q0⟩ := g
    exact ⟨xs, e1, RepL.back g1 g2 n ds xs0 xs H0 q0 q1⟩
  | dk ks ds =>
    obtain ⟨xs, e1, e2, q1⟩ := h
    obtain ⟨xs0, _, _, q0⟩ := g
    exact ⟨xs, e1, e2, RepL.back g1 g2 n ds _ _ H0 q0 q1⟩
  | dn ks ds =>
    obtain ⟨xs, vs, e, q1, q2⟩ := h
    obtain ⟨_, _, _, p1, p2⟩ := g
    exact ⟨xs, vs, e, RepL.back g1 g2 n ks _ _ H0 p1 q1, RepL.back g1 g2 n ds _ _ H0 p2 q2⟩
  | sn b ks =>
    obtain ⟨ks', L, e, q1⟩ := h
    obtain ⟨ks2, L2', e2, p1⟩ := g
    refine ⟨ks', L, e, ?_⟩
    exact RepL.of q1.len fun i d v h1 h2 => by
      obtain ⟨v1, k1, k2⟩ := q1.get h1
      rw [h2] at k1
      cases k1
      have hm : d ∈ ks2 := e2.perm.mem_iff.mpr (e.perm.mem_iff.mp (List.mem_of_getElem? h1))
      obtain ⟨j, hj, ej⟩ := List.getElem_of_mem hm
      obtain ⟨v0, _, k3⟩ := p1.get (show ks2[j]? = some d by rw [List.getElem?_eq_getElem hj, ej])
      exact RepV.back g1 g2 n d v0 v H0 k3 k2
  | sk ks => exact h
  | ins c ns ds =>
    obtain ⟨dx, xs, e1, e2, q1⟩ := h
    obtain ⟨_, xs0, _, _, q0⟩ := g
    exact ⟨dx, xs, e1, e2, RepL.back g1 g2 n ds _ _ H0 q0 q1⟩
theorem pures_iff : ∀ {l : List D}, D.pures l = true ↔ ∀ d ∈ l, d.pure = true
  | [] => by simp [D.pures]
  | d :: l => by simp [D.pures, pures_iff (l := l)]
theorem pures_perm {l l' : List D} (h : l'.Perm l) (p : D.pures l = true) : D.pures l' = true := pures_iff.mpr fun d hd => pures_iff.mp p d (h.mem_iff.mp hd)
theorem RepO.pure (n : ∀ a, a ∉ m → a ∉ m') {a : Addr} {o : MO} (p : o.pure = true) (h : RepO T H m a o) : RepO T H m' a o := by
  cases o with
  | lst ds =>
    obtain ⟨xs, e1, q1⟩ := h
    exact ⟨xs, e1, RepL.pure n ds xs p q1⟩
  | dk ks ds =>
    obtain ⟨xs, e1, e2, q1⟩ := h
    exact ⟨xs, e1, e2, RepL.pure n ds _ p q1⟩
  | dn ks ds =>
    obtain ⟨xs, vs, e, q1, q2⟩ := h
    obtain ⟨p1, p2⟩ := Bool.and_eq_true_iff.mp (show (D.pures ks && D.pures ds) = true from p)
    exact ⟨xs, vs, e, RepL.pure n ks _ p1 q1, RepL.pure n ds _ p2 q2⟩
  | sn b ks =>
    obtain ⟨ks', L, e, q1⟩ := h
    exact ⟨ks', L, e, RepL.pure n ks' _ (pures_perm e.perm p) q1⟩
  | sk ks => exact h
  | ins c ns ds =>
    obtain ⟨dx, xs, e1, e2, q1⟩ := h
    exact ⟨dx, xs, e1, e2, RepL.pure n ds _ p q1⟩
theorem RelH.there (R : RelH T H m S) {n : Nat} {a : Addr} (h : m[n]? = some a) : ∃ o, S[n]? = some o ∧ RepO T H m a o := by
  obtain ⟨hl, _⟩ := List.getElem?_eq_some_iff.mp h
  have e : S[n]? = some (S[n]'(by rw [← R.len]; exact hl)) := List.getElem?_eq_getElem _
  exact ⟨_, e, R.obj n a _ h e⟩
theorem RelH.mem (R : RelH T H m S) {a : Addr} (h : a ∈ m) : ∃ u, H a = some u ∧ Mut (some u) ∧ ∀ xs, u ≠ .tup xs := by
  obtain ⟨n, hn⟩ := List.getElem?_of_mem h
  obtain ⟨o, _, q⟩ := R.there hn
  exact q.there
theorem RelH.new (R : RelH T H m S) {p : Addr} (h : H p = none) : p ∉ m := fun q => by
  obtain ⟨u, e, _⟩ := R.mem q
  rw [h] at e
  cases e
theorem RelH.fresh (R : RelH T H m S) {p : Addr} (h : H p = none) : p ∉ T.hid := fun q => by
  obtain ⟨_, u, e⟩ := R.hid p q
  rw [h] at e
  cases e
theorem RelH.seen (R : RelH T H m S) {p : Addr} (h : p ∈ m) : p ∉ T.hid := fun q => (R.hid p q).1 h
theorem RepO.mono {H' : Hp} {m' : List Addr} (L : Later H H' m m') {a : Addr} {o : MO} (e : H' a = H a) (h : RepO T H m a o) : RepO T H' m' a o := by
  cases o with
  | lst ds => obtain ⟨xs, e1, h1⟩ := h; exact ⟨xs, e.trans e1, RepL.mono L ds xs h1⟩
  | dk ks ds => obtain ⟨xs, e1, h1, h2⟩ := h; exact ⟨xs, e.trans e1, h1, RepL.mono L ds _ h2⟩
  | dn ks ds => obtain ⟨xs, vs, e1, q1, q2⟩ := h; exact ⟨xs, vs, e1.move e rfl rfl, RepL.mono L ks _ q1, RepL.mono L ds _ q2⟩
  | sn b ks => obtain ⟨ks', xs, e1, q1⟩ := h; exact ⟨ks', xs, e1.move e rfl rfl, RepL.mono L ks' _ q1⟩
  | sk ks => exact e.trans h
  | ins c ns ds => obtain ⟨dx, xs, e1, h1, h2⟩ := h; exact ⟨dx, xs, e.trans e1, h1, RepL.mono L ds _ h2⟩
theorem later_new {p : Addr} {o : HO} (h : H p = none) : Later H (upd H p o) m m := ⟨⟨[], by simp, by simp⟩, fun a u e _ _ => by rw [upd_ne (ne_of_none e h)]; exact e, fun a ps e _ => ⟨ps, by rw [upd_ne (ne_of_none e h)]; exact e⟩⟩
theorem tab_new {p P : Addr} {o : HO} (h : H p = none) (t : GxR.TabG H P) : GxR.TabG (upd H p o) P := by
  obtain ⟨ps, e, r⟩ := t
  exact ⟨ps, by rw [upd_ne (ne_of_none e h)]; exact e, r⟩
/-- something that is no object by number has come -/
theorem RelH.aside (R : RelH T H m S) {p : Addr} {o : HO} (h : H p = none) : RelH T (upd H p o) m S := by
  have hp := R.new h
  exact ⟨R.len, R.nd, fun a ha => ⟨(R.hid a ha).1, let ⟨u, e⟩ := (R.hid a ha).2; ⟨u, by rw [upd_ne (ne_of_none e h)]; exact e⟩⟩, fun P hP => ⟨(R.tab P hP).1, tab_new h (R.tab P hP).2⟩, fun n a u h1 h2 => (R.obj n a u h1 h2).mono (later_new h) (upd_ne fun e => hp (e ▸ List.mem_of_getElem? h1))⟩
/-- a new object by number -/
theorem later_push (R : RelH T H m S) {p : Addr} {o : HO} (h : H p = none) : Later H (upd H p o) m (m ++ [p]) :=
  ⟨⟨[p], rfl, fun a ha => by rw [List.mem_singleton.mp ha]; exact ⟨h, R.new h⟩⟩, fun a u e _ _ => by rw [upd_ne (ne_of_none e h)]; exact e, fun a ps e _ => ⟨ps, by rw [upd_ne (ne_of_none e h)]; exact e⟩⟩
theorem RelH.push (R : RelH T H m S) {p : Addr} {u : HO} {o : MO} (h : H p = none) (q : RepO T (upd H p u) (m ++ [p]) p o) : RelH T (upd H p u) (m ++ [p]) (S ++ [o]) := by
  have hp := R.new h
  refine ⟨by simp [R.len], ?_, fun a ha => ?_, fun P hP => ⟨fun q => ?_, tab_new h (R.tab P hP).2⟩, fun n a v h1 h2 => ?_⟩
  · rw [List.nodup_append]
    exact ⟨R.nd, by simp, fun a ha b hb e => hp (by rw [List.mem_singleton.mp hb] at e; exact e ▸ ha)⟩
  · obtain ⟨k, u, e⟩ := R.hid a ha
    refine ⟨fun q => ?_, u, by rw [upd_ne (ne_of_none e h)]; exact e⟩
    rcases List.mem_append.mp q with q | q
    · exact k q
    · exact ne_of_none e h (List.mem_singleton.mp q)
  · obtain ⟨k, ps, e, _⟩ := R.tab P hP
    rcases List.mem_append.mp q with q | q
    · exact k q
    · exact ne_of_none e h (List.mem_singleton.mp q)
  · by_cases hn : n < m.length
    · rw [List.getElem?_append_left hn] at h1
      rw [List.getElem?_append_left (by rw [← R.len]; exact hn)] at h2
      exact (R.obj n a v h1 h2).mono (later_push R h) (upd_ne fun e => hp (e ▸ List.mem_of_getElem? h1))
    · have hn2 : n = m.length := by
        have := (List.getElem?_eq_some_iff.mp h1).1
        simp at this
        omega
      subst hn2
      rw [List.getElem?_append_right (Nat.le_refl _)] at h1
      rw [R.len, List.getElem?_append_right (Nat.le_refl _)] at h2
      simp at h1 h2
      subst h1 h2
      exact q
theorem nodup_at {l : List Addr} (h : l.Nodup) {i j : Nat} {a : Addr} (h1 : l[i]? = some a) (h2 : l[j]? = some a) : i = j := by
  obtain ⟨k1, e1⟩ := List.getElem?_eq_some_iff.mp h1
  obtain ⟨k2, e2⟩ := List.getElem?_eq_some_iff.mp h2
  exact (List.getElem_inj h).mp (e1.trans e2.symm)
theorem later_set {n : Nat} {a : Addr} {u : HO} (h : m[n]? = some a) : Later H (upd H a u) m m :=
  ⟨⟨[], by simp, by simp⟩, fun b v e hb _ => by rw [upd_ne fun z : b = a => hb (by rw [z]; exact List.mem_of_getElem? h)]; exact e, fun b ps e hb => ⟨ps, by rw [upd_ne fun z : b = a => hb (by rw [z]; exact List.mem_of_getElem? h)]; exact e⟩⟩
/-- an object by number is written -/
theorem RelH.set (R : RelH T H m S) {n : Nat} {a : Addr} {u : HO} {o : MO} (h : m[n]? = some a) (q : RepO T (upd H a u) m a o) : RelH T (upd H a u) m (S.set n o) := by
  refine ⟨by simp [R.len], R.nd, fun b hb => ⟨(R.hid b hb).1, ?_⟩, fun P hP => ⟨(R.tab P hP).1, let ⟨ps, e, r⟩ := (R.tab P hP).2; ⟨ps, by rw [upd_ne fun z : P = a => (R.tab P hP).1 (by rw [z]; exact List.mem_of_getElem? h)]; exact e, r⟩⟩, fun k b v h1 h2 => ?_⟩
  · obtain ⟨_, v, e⟩ := R.hid b hb
    exact ⟨v, by rw [upd_ne fun z : b = a => (R.hid b hb).1 (by rw [z]; exact List.mem_of_getElem? h)]; exact e⟩
  rw [List.getElem?_set] at h2
  by_cases hk : n = k
  · subst hk
    rw [h] at h1
    cases h1
    rw [if_pos rfl] at h2
    split at h2
    · cases h2
      exact q
    · cases h2
  · rw [if_neg hk] at h2
    exact (R.obj k b v h1 h2).mono (later_set h) (upd_ne fun e => hk (nodup_at R.nd h (e ▸ h1)))
/-! ### the names -/
theorem RelV.mono {s : Vs} {σ : L2.St} (L : Later H H' m m') (h : RelV T H m s σ) : RelV T H' m' s σ := ⟨h.1, fun i d e => let ⟨v, h1, h2⟩ := h.2 i d e; ⟨v, h1, RepV.mono L d v h2⟩⟩
theorem RelV.set {s : Vs} {σ : L2.St} {d : D} {v : V} (i : Nat) (h : RelV T H m s σ) (hd : RepV T H m d v) : RelV T H m (s.set i (some d)) (σ.set i (some v)) := by
  refine ⟨by simp [h.1], fun j e hj => ?_⟩
  simp only [List.getD_eq_getElem?_getD, List.getElem?_set] at hj
  by_cases hij : i = j
  · subst hij
    rw [if_pos rfl] at hj
    split at hj
    · rename_i hl
      simp at hj
      subst hj
      refine ⟨v, ?_, hd⟩
      rw [List.getElem?_set, if_pos rfl, if_pos (by rw [← h.1]; exact hl)]
    · simp at hj
  · rw [if_neg hij] at hj
    obtain ⟨v', h1, h2⟩ := h.2 j e (by simpa [List.getD_eq_getElem?_getD] using hj)
    exact ⟨v', by rw [List.getElem?_set, if_neg hij]; exact h1, h2⟩
theorem RelV.clear {s : Vs} {σ : L2.St} (i : Nat) (h : RelV T H m s σ) : RelV T H m (s.set i none) (σ.set i none) := by
  refine ⟨by simp [h.1], fun j e hj => ?_⟩
  simp only [List.getD_eq_getElem?_getD, List.getElem?_set] at hj
  by_cases hij : i = j
  · subst hij
    rw [if_pos rfl] at hj
    split at hj <;> simp at hj
  · rw [if_neg hij] at hj
    obtain ⟨v', h1, h2⟩ := h.2 j e (by simpa [List.getD_eq_getElem?_getD] using hj)
    exact ⟨v', by rw [List.getElem?_set, if_neg hij]; exact h1, h2⟩
theorem RelV.wipe {s : Vs} {σ : L2.St} (h : RelV T H m s σ) : ∀ vs : List Nat, RelV T H m (wipeV s vs) (L2.wipe σ vs)
  | [] => h
  | v :: vs => (RelV.wipe h vs).clear v
theorem RelV.start {ds : List D} {vs : List V} (N : List Str) (h : RepL T H m ds vs) : RelV T H m (startV N.length ds) (L2.start N vs) := by
  unfold startV L2.start
  refine ⟨by simp [h.len], fun i d e => ?_⟩
  simp only [List.getD_eq_getElem?_getD] at e
  by_cases hi : i < ds.length
  · rw [List.getElem?_append_left (by simpa using hi), List.getElem?_map] at e
    cases q : ds[i]? with
    | none => simp [q] at e
    | some d' =>
      simp [q] at e
      subst e
      obtain ⟨v, h1, h2⟩ := h.get q
      refine ⟨v, ?_, h2⟩
      rw [List.getElem?_append_left (by simpa [← h.len] using hi), List.getElem?_map, h1]
      rfl
  · rw [List.getElem?_append_right (by simpa using Nat.le_of_not_lt hi), List.getElem?_replicate] at e
    split at e <;> simp at e
/-! ### a thing out of the data's sight -/
def Tb.hide (T : Tb) (p : Addr) : Tb := { T with hid := p :: T.hid }
section
variable {p : Addr}
theorem At.hide (hp : H p = none) {a : Addr} {o : HO} (h : At T m H a o) : At (T.hide p) m H a o := ⟨h.1, h.2.1, fun q => by
  rcases List.mem_cons.mp q with q | q
  · have e := h.1
    rw [q, hp] at e
    cases e
  · exact h.2.2 q⟩
theorem At.unhide {a : Addr} {o : HO} (h : At (T.hide p) m H a o) : At T m H a o := ⟨h.1, h.2.1, fun q => h.2.2 (List.mem_cons_of_mem _ q)⟩
mutual
theorem RepV.hide (hp : H p = none) : ∀ (d : D) (v : V), RepV T H m d v → RepV (T.hide p) H m d v
  | .non, v, h => h
  | .bl b, v, h => h
  | .int i, v, h => h
  | .str x, v, h => h
  | .scr xs, v, h => by
    obtain ⟨a, e, h1 | h1⟩ := h
    · refine ⟨a, e, .inl ⟨h1.1, h1.2.1, fun q => ?_⟩⟩
      rcases List.mem_cons.mp q with q | q
      · subst q
        rcases h1.1 with z | ⟨o, z⟩ <;> rw [hp] at z <;> cases z
      · exact h1.2.2 q
    · exact ⟨a, e, .inr h1⟩
  | .tup ds, v, h => by
    obtain ⟨a, xs, e, h1, h2⟩ := h
    exact ⟨a, xs, e, h1, RepL.hide hp ds xs h2⟩
  | .lv ds, v, h => by
    obtain ⟨a, xs, e, h1, h2⟩ := h
    exact ⟨a, xs, e, h1.hide hp, RepL.hide hp ds xs h2⟩
  | .dv ks ds, v, h => by
    obtain ⟨a, xs, e, h1, h2, h3⟩ := h
    exact ⟨a, xs, e, h1.hide hp, h2, RepL.hide hp ds _ h3⟩
  | .iv c ns ds, v, h => by
    obtain ⟨a, dx, xs, e, h1, h2, h3⟩ := h
    exact ⟨a, dx, xs, e, h1.hide hp, h2, RepL.hide hp ds _ h3⟩
  | .obj n, v, h => h
  | .fn k, v, h => h
theorem RepL.hide (hp : H p = none) : ∀ (ds : List D) (vs : List V), RepL T H m ds vs → RepL (T.hide p) H m ds vs
  | [], vs, h => h
  | d :: ds, vs, h => by
    obtain ⟨v, r, e, h1, h2⟩ := h
    exact ⟨v, r, e, RepV.hide hp d v h1, RepL.hide hp ds r h2⟩
end
mutual
theorem RepV.unhide : ∀ (d : D) (v : V), RepV (T.hide p) H m d v → RepV T H m d v
  | .non, v, h => h
  | .bl b, v, h => h
  | .int i, v, h => h
  | .str x, v, h => h
  | .scr xs, v, h => by
    obtain ⟨a, e, h1 | h1⟩ := h
    · exact ⟨a, e, .inl ⟨h1.1, h1.2.1, fun q => h1.2.2 (List.mem_cons_of_mem _ q)⟩⟩
    · exact ⟨a, e, .inr h1⟩
  | .tup ds, v, h => by
    obtain ⟨a, xs, e, h1, h2⟩ := h
    exact ⟨a, xs, e, h1, RepL.unhide ds xs h2⟩
  | .lv ds, v, h => by
    obtain ⟨a, xs, e, h1, h2⟩ := h
    exact ⟨a, xs, e, h1.unhide, RepL.unhide ds xs h2⟩
  | .dv ks ds, v, h => by
    obtain ⟨a, xs, e, h1, h2, h3⟩ := h
    exact ⟨a, xs, e, h1.unhide, h2, RepL.unhide ds _ h3⟩
  | .iv c ns ds, v, h => by
    obtain ⟨a, dx, xs, e, h1, h2, h3⟩ := h
    exact ⟨a, dx, xs, e, h1.unhide, h2, RepL.unhide ds _ h3⟩
  | .obj n, v, h => h
  | .fn k, v, h => h
theorem RepL.unhide : ∀ (ds : List D) (vs : List V), RepL (T.hide p) H m ds vs → RepL T H m ds vs
  | [], vs, h => h
  | d :: ds, vs, h => by
    obtain ⟨v, r, e, h1, h2⟩ := h
    exact ⟨v, r, e, RepV.unhide d v h1, RepL.unhide ds r h2⟩
end
theorem RepO.hide (hp : H p = none) {a : Addr} {o : MO} (h : RepO T H m a o) : RepO (T.hide p) H m a o := by
  cases o with
  | lst ds => obtain ⟨xs, e1, h1⟩ := h; exact ⟨xs, e1, RepL.hide hp ds xs h1⟩
  | dk ks ds => obtain ⟨xs, e1, h1, h2⟩ := h; exact ⟨xs, e1, h1, RepL.hide hp ds _ h2⟩
  | dn ks ds => obtain ⟨xs, vs, e1, q1, q2⟩ := h; exact ⟨xs, vs, e1.move rfl rfl rfl, RepL.hide hp ks _ q1, RepL.hide hp ds _ q2⟩
  | sn b ks => obtain ⟨ks', xs, e1, q1⟩ := h; exact ⟨ks', xs, e1.move rfl rfl rfl, RepL.hide hp ks' _ q1⟩
  | sk ks => exact h
  | ins c ns ds => obtain ⟨dx, xs, e1, h1, h2⟩ := h; exact ⟨dx, xs, e1, h1, RepL.hide hp ds _ h2⟩
theorem RepO.unhide {a : Addr} {o : MO} (h : RepO (T.hide p) H m a o) : RepO T H m a o := by
  cases o with
  | lst ds => obtain ⟨xs, e1, h1⟩ := h; exact ⟨xs, e1, RepL.unhide ds xs h1⟩
  | dk ks ds => obtain ⟨xs, e1, h1, h2⟩ := h; exact ⟨xs, e1, h1, RepL.unhide ds _ h2⟩
  | dn ks ds => obtain ⟨xs, vs, e1, q1, q2⟩ := h; exact ⟨xs, vs, e1.move rfl rfl rfl, RepL.unhide ks _ q1, RepL.unhide ds _ q2⟩
  | sn b ks => obtain ⟨ks', xs, e1, q1⟩ := h; exact ⟨ks', xs, e1.move rfl rfl rfl, RepL.unhide ks' _ q1⟩
  | sk ks => exact h
  | ins c ns ds => obtain ⟨dx, xs, e1, h1, h2⟩ := h; exact ⟨dx, xs, e1, h1, RepL.unhide ds _ h2⟩
theorem RelH.hide (R : RelH T H m S) (hp : H p = none) {o : HO} : RelH (T.hide p) (upd H p o) m S := by
  have R1 := R.aside (o := o) hp
  have np := R.new hp
  refine ⟨R.len, R.nd, fun a ha => ?_, R1.tab, fun n a u h1 h2 => ?_⟩
  · rcases List.mem_cons.mp ha with e | e
    · subst e
      exact ⟨np, _, upd_same⟩
    · exact R1.hid a e
  · exact ((R.obj n a u h1 h2).hide hp).mono (later_new hp) (upd_ne fun e => np (e ▸ List.mem_of_getElem? h1))
theorem RelH.unhide (R : RelH (T.hide p) H m S) : RelH T H m S :=
  ⟨R.len, R.nd, fun a ha => R.hid a (List.mem_cons_of_mem _ ha), R.tab, fun n a u h1 h2 => (R.obj n a u h1 h2).unhide⟩
theorem RelV.hide {s : Vs} {σ : L2.St} (h : RelV T H m s σ) (hp : H p = none) {o : HO} : RelV (T.hide p) (upd H p o) m s σ :=
  ⟨h.1, fun i d e => let ⟨v, h1, h2⟩ := h.2 i d e; ⟨v, h1, RepV.mono (later_new hp) d v (RepV.hide hp d v h2)⟩⟩
/-! the hidden thing changes: the data stay -/
theorem At.off {a : Addr} {o : HO} (e : ∀ a, a ≠ p → H' a = H a) (h : At (T.hide p) m H a o) : At (T.hide p) m H' a o := ⟨(e a fun z => h.2.2 (by rw [z]; exact List.mem_cons_self)).trans h.1, h.2⟩
mutual
theorem RepV.off (e : ∀ a, a ≠ p → H' a = H a) (nt : ∀ xs, ¬ Rd H p (.tup xs)) : ∀ (d : D) (v : V), RepV (T.hide p) H m d v → RepV (T.hide p) H' m d v
  | .non, v, h => h
  | .bl b, v, h => h
  | .int i, v, h => h
  | .str x, v, h => h
  | .scr xs, v, h => by
    obtain ⟨a, e2, h1 | h1⟩ := h
    · refine ⟨a, e2, .inl ⟨?_, h1.2⟩⟩
      have na : a ≠ p := fun z => h1.2.2 (by rw [z]; exact List.mem_cons_self)
      rcases h1.1 with z | ⟨o, z⟩
      · exact .inl ((e a na).trans z)
      · exact .inr ⟨o, (e a na).trans z⟩
    · exact ⟨a, e2, .inr h1⟩
  | .tup ds, v, h => by
    obtain ⟨a, xs, e2, h1 | h1, h2⟩ := h
    · have na : a ≠ p := fun z => nt xs (z ▸ h1.1)
      refine ⟨a, xs, e2, .inl ⟨?_, h1.2⟩, RepL.off e nt ds xs h2⟩
      rcases h1.1 with z | ⟨o, z⟩
      · exact .inl ((e a na).trans z)
      · exact .inr ⟨o, (e a na).trans z⟩
    · exact ⟨a, xs, e2, .inr h1, RepL.off e nt ds xs h2⟩
  | .lv ds, v, h => by
    obtain ⟨a, xs, e2, h1, h2⟩ := h
    exact ⟨a, xs, e2, h1.off e, RepL.off e nt ds xs h2⟩
  | .dv ks ds, v, h => by
    obtain ⟨a, xs, e2, h1, h2, h3⟩ := h
    exact ⟨a, xs, e2, h1.off e, h2, RepL.off e nt ds _ h3⟩
  | .iv c ns ds, v, h => by
    obtain ⟨a, dx, xs, e2, h1, h2, h3⟩ := h
    exact ⟨a, dx, xs, e2, h1.off e, h2, RepL.off e nt ds _ h3⟩
  | .obj n, v, h => h
  | .fn k, v, h => h
theorem RepL.off (e : ∀ a, a ≠ p → H' a = H a) (nt : ∀ xs, ¬ Rd H p (.tup xs)) : ∀ (ds : List D) (vs : List V), RepL (T.hide p) H m ds vs → RepL (T.hide p) H' m ds vs
  | [], vs, h => h
  | d :: ds, vs, h => by
    obtain ⟨v, r, e2, h1, h2⟩ := h
    exact ⟨v, r, e2, RepV.off e nt d v h1, RepL.off e nt ds r h2⟩
end
theorem RelH.off (R : RelH (T.hide p) H m S) (e : ∀ a, a ≠ p → H' a = H a) (nt : ∀ xs, ¬ Rd H p (.tup xs)) (ntb : ∀ ps, H p ≠ some (.tbl ps)) (q : ∃ u, H' p = some u) : RelH (T.hide p) H' m S := by
  refine ⟨R.len, R.nd, fun a ha => ⟨(R.hid a ha).1, ?_⟩, fun P hP => ⟨(R.tab P hP).1, let ⟨ps, e2, r⟩ := (R.tab P hP).2; ⟨ps, (e P fun z => ntb ps (z ▸ e2)).trans e2, r⟩⟩, fun n a o h1 h2 => ?_⟩
  · by_cases z : a = p
    · rw [z]; exact q
    · rw [e a z]; exact (R.hid a ha).2
  · have na : a ≠ p := fun z => (R.hid p List.mem_cons_self).1 (by rw [← z]; exact List.mem_of_getElem? h1)
    have h3 := R.obj n a o h1 h2
    cases o with
    | lst ds => obtain ⟨xs, e1, h1⟩ := h3; exact ⟨xs, (e a na).trans e1, RepL.off e nt ds xs h1⟩
    | dk ks ds => obtain ⟨xs, e1, h1, h2⟩ := h3; exact ⟨xs, (e a na).trans e1, h1, RepL.off e nt ds _ h2⟩
    | dn ks ds => obtain ⟨xs, vs, e1, q1, q2⟩ := h3; exact ⟨xs, vs, e1.move (e a na) rfl rfl, RepL.off e nt ks _ q1, RepL.off e nt ds _ q2⟩
    | sn b ks => obtain ⟨ks', xs, e1, q1⟩ := h3; exact ⟨ks', xs, e1.move (e a na) rfl rfl, RepL.off e nt ks' _ q1⟩
    | sk ks => exact (e a na).trans h3
    | ins c ns ds => obtain ⟨dx, xs, e1, h1, h2⟩ := h3; exact ⟨dx, xs, (e a na).trans e1, h1, RepL.off e nt ds _ h2⟩
theorem RelV.off {s : Vs} {σ : L2.St} (h : RelV (T.hide p) H m s σ) (e : ∀ a, a ≠ p → H' a = H a) (nt : ∀ xs, ¬ Rd H p (.tup xs)) : RelV (T.hide p) H' m s σ :=
  ⟨h.1, fun i d e2 => let ⟨v, h1, h2⟩ := h.2 i d e2; ⟨v, h1, RepV.off e nt d v h2⟩⟩
end
end
end TK
end
section
set_option autoImplicit false
set_option linter.all false
set_option maxRecDepth 100000
namespace TK
open PySem L2 PySem.Spec PyProof.Rows

/-! ### what must hold of an answer -/
def Ok {a : Type} (T : Tb) (E : XK) (H : Hp) (m : List Addr) (P : a → Sx → Hp → List Addr → Prop) : R a → Prop
  | .ok x S' => ∀ H' m', Later H H' m m' → RelH T H' m' S' → P x S' H' m'
  | .exc c e S' => ∀ H' m' x dd, Later H H' m m' → RelH T H' m' S' → RepV T H' m' e x → At T m' H' dd (.xd [(("value" : Str), x)]) → E (.ref (T.C c)) (some dd) H'
  | .bad => False
section
variable {a b : Type} {T : Tb} {E E' : XK} {H H' : Hp} {m m' : List Addr} {S : Sx}
theorem Ok.shift {P : a → Sx → Hp → List Addr → Prop} (L : Later H H' m m') : ∀ {r : R a}, Ok T E H m P r → Ok T E H' m' P r
  | .ok x S', h => fun H2 m2 L2 R2 => h H2 m2 (L.trans L2) R2
  | .exc c e S', h => fun H2 m2 x dd L2 R2 r q => h H2 m2 x dd (L.trans L2) R2 r q
  | .bad, h => h
theorem Ok.mono {P P' : a → Sx → Hp → List Addr → Prop} : ∀ {r : R a}, Ok T E H m P r → (∀ x S' H' m', Later H H' m m' → RelH T H' m' S' → P x S' H' m' → P' x S' H' m') → Ok T E H m P' r
  | .ok x S', h, f => fun H2 m2 L2 R2 => f x S' H2 m2 L2 R2 (h H2 m2 L2 R2)
  | .exc c e S', h, _ => h
  | .bad, h, _ => h
theorem Ok.bind {P : b → Sx → Hp → List Addr → Prop} {f : a → Sx → R b} : ∀ {r : R a}, Ok T E H m P (r.bind f) → Ok T E H m (fun x S' H' m' => Ok T E H' m' P (f x S')) r
  | .ok x S', h => fun H2 m2 L2 _ => Ok.shift L2 h
  | .exc c e S', h => h
  | .bad, h => h
theorem Ok.wish {P : a → Sx → Hp → List Addr → Prop} : ∀ {r : R a}, Ok T E H m P r → (∀ c v S, r ≠ .exc c v S) → Ok T E' H m P r
  | .ok x S', h, _ => h
  | .exc c e S', _, n => absurd rfl (n c e S')
  | .bad, h, _ => h
theorem Ok.lift {P : a → Sx → Hp → List Addr → Prop} {o : Option a} {S : Sx} (h : Ok T E H m P (lift o S)) : ∃ x, o = some x ∧ ∀ H' m', Later H H' m m' → RelH T H' m' S → P x S H' m' := by
  cases o with
  | none => exact h.elim
  | some x => exact ⟨x, rfl, h⟩
end
/-- of a value -/
abbrev PV (T : Tb) (Q : VK) : D → Sx → Hp → List Addr → Prop := fun d _ H' m' => ∀ v, RepV T H' m' d v → Q v H'
abbrev PB (Q : Bool → Hp → Prop) : Bool → Sx → Hp → List Addr → Prop := fun b _ H' _ => Q b H'
abbrev PL (T : Tb) (Q : List V → Hp → Prop) : List D → Sx → Hp → List Addr → Prop := fun ds _ H' m' => ∀ vs, RepL T H' m' ds vs → Q vs H'
/-- readings -/
def rdE (T : Tb) (W : WX) (f : Vs → Sx → R D) : TE := fun σ H Q => ∃ s S m, RelV T H m s σ ∧ RelH T H m S ∧ Ok T (fun c d H' => W c d σ H') H m (PV T Q) (f s S)
def rdT (T : Tb) (W : WX) (f : Vs → Sx → R Bool) : TT := fun σ H Q => ∃ s S m, RelV T H m s σ ∧ RelH T H m S ∧ Ok T (fun c d H' => W c d σ H') H m (PB Q) (f s S)
def rdA (T : Tb) (W : WX) (f : Vs → Sx → R (List D)) : TA := fun σ H Q => ∃ s S m, RelV T H m s σ ∧ RelH T H m S ∧ Ok T (fun c d H' => W c d σ H') H m (PL T Q) (f s S)
theorem PE_imp {X : Cx} {e : Expr} {t t' : TE} (h : PE X e t) (w : ∀ σ H Q, t' σ H Q → t σ H Q) : PE X e t' := ⟨fun pins s σ H Q I q => h.run pins s σ H Q I (w σ H Q q)⟩
theorem PT_imp {X : Cx} {e : Expr} {t t' : TT} (h : PT X e t) (w : ∀ σ H Q, t' σ H Q → t σ H Q) : PT X e t' := ⟨fun pins s σ H Q I q => h.run pins s σ H Q I (w σ H Q q)⟩
theorem PW_imp {X : Cx} {e : Expr} {t t' : TT} (h : PW X e t) (w : ∀ σ H Q, t' σ H Q → t σ H Q) : PW X e t' := ⟨fun wh pins s σ H Q I q => h.run wh pins s σ H Q I (w σ H Q q)⟩
theorem PA_imp {X : Cx} {e : List Expr} {t t' : TA} (h : PA X e t) (w : ∀ σ H Q, t' σ H Q → t σ H Q) : PA X e t' := ⟨fun p pins s σ H Q I q => h.run p pins s σ H Q I (w σ H Q q)⟩
theorem PE_bad {X : Cx} {e : Expr} {T : Tb} {W : WX} {f : Vs → Sx → R D} (h : ∀ s S, f s S = .bad) : PE X e (rdE T W f) := ⟨fun _ _ _ _ _ _ ⟨s, S, _, _, _, q⟩ => by rw [h s S] at q; exact q.elim⟩
theorem PT_bad {X : Cx} {e : Expr} {T : Tb} {W : WX} {f : Vs → Sx → R Bool} (h : ∀ s S, f s S = .bad) : PT X e (rdT T W f) := ⟨fun _ _ _ _ _ _ ⟨s, S, _, _, _, q⟩ => by rw [h s S] at q; exact q.elim⟩

/-! ### operators by values -/
/-- one value, two values by data -/
def r1 (T : Tb) (g : D → Sx → R D) : V → Hp → VK → Prop := fun x H Q => ∃ d S m, RepV T H m d x ∧ RelH T H m S ∧ Ok T (fun _ _ _ => False) H m (PV T Q) (g d S)
def r2 (T : Tb) (g : D → D → Sx → R D) : R2 := fun x y H Q => ∃ d e S m, RepV T H m d x ∧ RepV T H m e y ∧ RelH T H m S ∧ Ok T (fun _ _ _ => False) H m (PV T Q) (g d e S)
def rL (T : Tb) (g : List D → Sx → R D) : List V → Hp → VK → Prop := fun xs H Q => ∃ ds S m, RepL T H m ds xs ∧ RelH T H m S ∧ Ok T (fun _ _ _ => False) H m (PV T Q) (g ds S)
section
variable {T : Tb} {W : WX} {σ : L2.St} {H : Hp} {Q : VK}
theorem rd_un {f : Vs → Sx → R D} {g : D → Sx → R D} (nx : ∀ d S c v S', g d S ≠ .exc c v S') (h : rdE T W (fun s S => (f s S).bind g) σ H Q) : rdE T W f σ H fun x H1 => r1 T g x H1 Q := by
  obtain ⟨s, S, m, hs, hS, h⟩ := h
  exact ⟨s, S, m, hs, hS, h.bind.mono fun d S1 H1 m1 L1 R1 q v rv => ⟨d, S1, m1, rv, R1, q.wish (nx d S1)⟩⟩
theorem rd_bin {f1 f2 : Vs → Sx → R D} {g : D → D → Sx → R D} (nx : ∀ d e S c v S', g d e S ≠ .exc c v S') (h : rdE T W (fun s S => (f1 s S).bind fun x S => (f2 s S).bind fun y S => g x y S) σ H Q) :
    tOp (r2 T g) (rdE T W f1) (rdE T W f2) σ H Q := by
  obtain ⟨s, S, m, hs, hS, h⟩ := h
  refine ⟨s, S, m, hs, hS, h.bind.mono fun d S1 H1 m1 L1 R1 q v rv => ?_⟩
  refine ⟨s, S1, m1, hs.mono L1, R1, q.bind.mono fun e S2 H2 m2 L2 R2 q2 u ru => ?_⟩
  exact ⟨d, e, S2, m2, RepV.mono L2 d v rv, ru, R2, q2.wish (nx d e S2)⟩
theorem nx_lift {a : Type} (o : Option a) (S : Sx) (c : Nat) (v : D) (S' : Sx) : lift o S ≠ .exc c v S' := by
  cases o <;> intro h <;> cases h
end
section
variable {X : Cx} {T : Tb} {H : Hp} {m : List Addr} {S : Sx}
theorem RepV.seq (hK : X.K = T.K) (R : RelH T H m S) {d : D} {v : V} {xs : List D} (h : RepV T H m d v) (e : seqOf d S = some xs) : ∃ a vs, v = .ref a ∧ (SqL X.K H a vs ∨ SqT X.K H a vs) ∧ RepL T H m xs vs := by
  cases d with
  | tup ds =>
    obtain ⟨a, vs, rfl, h1, h2⟩ := h
    cases e
    refine ⟨a, vs, rfl, .inr ?_, h2⟩
    rw [hK]
    rcases h1 with h1 | h1
    · exact .inl h1.1
    · rcases h1 with h1 | h1
      · rcases h1 with h1 | ⟨_, h1⟩ <;> cases h1
      · exact .inr h1
  | lv ds =>
    obtain ⟨a, vs, rfl, h1, h2⟩ := h
    cases e
    exact ⟨a, vs, rfl, .inl (.inl (.inl h1.1)), h2⟩
  | obj n =>
    obtain ⟨a, rfl, h1⟩ := h
    obtain ⟨o, ho, q⟩ := R.there h1
    simp only [seqOf, lstOf, ho] at e
    cases o with
    | lst ds =>
      cases e
      obtain ⟨vs, h2, h3⟩ := q
      exact ⟨a, vs, rfl, .inl (.inl (.inl h2)), h3⟩
    | _ => cases e
  | _ => cases e
theorem TupAt.sq (hK : X.K = T.K) {a : Addr} {vs : List V} (h1 : TupAt T H m a vs) : SqT X.K H a vs := by
  rw [hK]
  rcases h1 with h1 | h1
  · exact .inl h1.1
  · rcases h1 with h1 | h1
    · rcases h1 with h1 | ⟨_, h1⟩ <;> cases h1
    · exact .inr h1
theorem ScrAt.sq (hK : X.K = T.K) {a : Addr} {vs : List V} (h1 : ScrAt T H m a vs) : SqL X.K H a vs := by
  rw [hK]
  rcases h1 with h1 | h1
  · exact .inl h1.1
  · rcases h1 with h1 | h1
    · rcases h1 with h1 | ⟨_, h1⟩ <;> cases h1
    · exact .inr h1
/-- a list's own place -/
theorem RepV.lst (R : RelH T H m S) {d : D} {v : V} {xs : List D} (h : RepV T H m d v) (e : lstOf d S = some xs) : ∃ a vs, v = .ref a ∧ H a = some (.lst vs) ∧ RepL T H m xs vs := by
  cases d with
  | lv ds =>
    obtain ⟨a, vs, rfl, h1, h2⟩ := h
    cases e
    exact ⟨a, vs, rfl, h1.1, h2⟩
  | obj n =>
    obtain ⟨a, rfl, h1⟩ := h
    obtain ⟨o, ho, q⟩ := R.there h1
    simp only [lstOf, ho] at e
    cases o with
    | lst ds =>
      cases e
      obtain ⟨vs, h2, h3⟩ := q
      exact ⟨a, vs, rfl, h2, h3⟩
    | _ => cases e
  | _ => cases e
theorem truD_ok (hK : X.K = T.K) (R : RelH T H m S) {d : D} {v : V} {k : Bool} (h : RepV T H m d v) (e : truD d S = some k) : TruV X.K v H k := by
  cases d with
  | non =>
    cases e
    rw [show v = .non from h] <;> rfl
  | bl b =>
    cases e
    rw [show v = .bl _ from h] <;> rfl
  | int i =>
    cases e
    rw [show v = .int _ from h] <;> rfl
  | str x =>
    rw [show v = .str _ from h]
    simp only [truD] at e
    split at e
    · cases e
      exact ⟨by assumption, rfl⟩
    · cases e
  | scr xs => cases e
  | dv ks xs => cases e
  | iv c ns xs => cases e
  | fn k => cases e
  | tup xs =>
    obtain ⟨ys, e1, e2⟩ := Option.map_eq_some_iff.mp (show (seqOf (.tup xs) S).map (fun xs => !xs.isEmpty) = some k from e)
    obtain ⟨a, vs, rfl, h1, h2⟩ := h.seq hK R e1
    subst e2
    rcases h1 with h1 | h1
    · exact .inl ⟨vs, h1, by rw [h2.nil_iff]⟩
    · exact .inr (.inl ⟨vs, h1, by rw [h2.nil_iff]⟩)
  | lv xs =>
    obtain ⟨ys, e1, e2⟩ := Option.map_eq_some_iff.mp (show (seqOf (.lv xs) S).map (fun xs => !xs.isEmpty) = some k from e)
    obtain ⟨a, vs, rfl, h1, h2⟩ := h.seq hK R e1
    subst e2
    rcases h1 with h1 | h1
    · exact .inl ⟨vs, h1, by rw [h2.nil_iff]⟩
    · exact .inr (.inl ⟨vs, h1, by rw [h2.nil_iff]⟩)
  | obj n =>
    obtain ⟨ys, e1, e2⟩ := Option.map_eq_some_iff.mp (show (seqOf (.obj n) S).map (fun xs => !xs.isEmpty) = some k from e)
    obtain ⟨a, vs, rfl, h1, h2⟩ := h.seq hK R e1
    subst e2
    rcases h1 with h1 | h1
    · exact .inl ⟨vs, h1, by rw [h2.nil_iff]⟩
    · exact .inr (.inl ⟨vs, h1, by rw [h2.nil_iff]⟩)

/-! answers -/
theorem Ok.here {d : D} {Q : VK} {E : XK} {v : V} (R : RelH T H m S) (h : Ok T E H m (PV T Q) (.ok d S)) (r : RepV T H m d v) : Q v H := h H m .refl R v r
/-- a new tuple -/
theorem Ok.tup {ds : List D} {Q : VK} {E : XK} {p : Addr} {vs : List V} (R : RelH T H m S) (h : Ok T E H m (PV T Q) (.ok (.tup ds) S)) (hp : H p = none) (r : RepL T H m ds vs) : Q (.ref p) (upd H p (.tup vs)) :=
  h _ m (later_new hp) (R.aside hp) _ ⟨p, vs, rfl, .inl ⟨.inl upd_same, R.new hp⟩, RepL.mono (later_new hp) _ _ r⟩
/-- a new list -/
theorem Ok.lst {ds : List D} {Q : VK} {E : XK} {p : Addr} {vs : List V} {tr : Bool} (R : RelH T H m S) (h : Ok T E H m (PV T Q) (newL tr ds S)) (hp : H p = none) (r : RepL T H m ds vs) : Q (.ref p) (upd H p (.lst vs)) := by
  unfold newL at h
  split at h
  · split at h
    · exact h _ (m ++ [p]) (later_push R hp) (R.push hp ⟨vs, upd_same, RepL.mono (later_push R hp) _ _ r⟩) _ ⟨p, rfl, by rw [← R.len]; simp⟩
    · exact h _ m (later_new hp) (R.aside hp) _ ⟨p, vs, rfl, ⟨upd_same, R.new hp, R.fresh hp⟩, RepL.mono (later_new hp) _ _ r⟩
  · exact h.elim
theorem newL_len {ds : List D} {P : D → Sx → Hp → List Addr → Prop} {E : XK} {tr : Bool} (h : Ok T E H m P (newL tr ds S)) : ds.length ≤ sizeLine := by
  unfold newL at h
  split at h
  · assumption
  · exact h.elim
end

/-! ### the operators -/
def Op.py : Op → Operator
  | .add => .Add
  | .sub => .Sub
  | .mul => .Mult
  | .mod => .Mod
  | .fdiv => .FloorDiv
  | .pow => .Pow
def Cp.py : Cp → CmpOp
  | .eq => .Eq
  | .ne => .NotEq
  | .lt => .Lt
  | .le => .LtE
  | .gt => .Gt
  | .ge => .GtE
  | .is_ => .Is
  | .isn => .IsNot
  | .in_ => .In
  | .nin => .NotIn
section
variable {X : Cx} {T : Tb}
theorem lift_ok {a : Type} {E : XK} {H : Hp} {m : List Addr} {P : a → Sx → Hp → List Addr → Prop} {o : Option a} {S : Sx} (h : Ok T E H m P (lift o S)) : ∃ x, o = some x ∧ Ok T E H m P (.ok x S) := by
  cases o with
  | none => exact h.elim
  | some x => exact ⟨x, rfl, h⟩
theorem cat_ok (hK : X.K = T.K) : OpR X (binaryOp .Add) (r2 T fun d e S => lift (catD d e S) S) := by
  intro pins s σ H x y v u Q I rx ry h
  obtain ⟨d, e, S, m, hd, he, R, h⟩ := h
  obtain ⟨z, ez, h⟩ := lift_ok h
  have lists : ∀ xs ys, lstOf d S = some xs → lstOf e S = some ys → (if xs.length + ys.length ≤ sizeLine then some (D.lv (xs ++ ys)) else none) = some z → wpAny (model X.prog X.w) X.A (binaryOp .Add v u) (EP X pins σ Q) X.xe s := by
    intro xs ys e1 e2 e3
    split at e3
    · rename_i hz
      cases e3
      obtain ⟨a, vs, rfl, h1, h2⟩ := hd.lst R e1
      obtain ⟨b, us, rfl, h3, h4⟩ := he.lst R e2
      refine op_cat pins s σ H _ _ v u Q I rx ry ⟨a, b, vs, us, rfl, rfl, h1, h3, by rw [← h2.len, ← h4.len]; exact hz, fun p hp => ?_⟩
      exact Ok.lst (tr := false) R (by unfold newL; rw [if_pos (by rw [List.length_append]; exact hz)]; exact h) hp (h2.append h4)
    · cases e3
  unfold catD at ez
  split at ez
  · cases ez
    rw [show x = .int _ from hd] at rx
    rw [show y = .int _ from he] at ry
    exact op_add pins s σ H _ _ v u Q I rx ry ⟨_, _, rfl, rfl, h.here R rfl⟩
  · rw [show x = .str _ from hd] at rx
    rw [show y = .str _ from he] at ry
    split at ez
    · cases ez
      exact op_add_str pins s σ H _ _ v u Q I rx ry ⟨_, _, rfl, rfl, by assumption, h.here R rfl⟩
    · cases ez
  · split at ez
    · rename_i hz
      cases ez
      obtain ⟨a, vs, rfl, h1, h2⟩ := hd
      obtain ⟨b, us, rfl, h3, h4⟩ := he
      refine op_catA pins s σ H _ _ v u Q I rx ry ⟨a, b, vs, us, rfl, rfl, h1.sq hK, h3.sq hK, by rw [← h2.len, ← h4.len]; exact hz, fun e => ?_, fun _ e => ?_, fun _ _ p hp => h.tup R hp (h2.append h4)⟩
      · subst e
        have := h2.len
        rw [List.length_nil] at this
        rw [List.eq_nil_of_length_eq_zero this] at h
        exact h.here R ⟨b, us, rfl, h3, h4⟩
      · subst e
        have := h4.len
        rw [List.length_nil] at this
        rw [List.eq_nil_of_length_eq_zero this, List.append_nil] at h
        exact h.here R ⟨a, vs, rfl, h1, h2⟩
    · cases ez
  · split at ez
    · rename_i xs ys e1 e2
      exact lists xs ys e1 e2 ez
    · cases ez
theorem op_ok (hK : X.K = T.K) (o : Op) : OpR X (binaryOp o.py) (r2 T fun d e S => lift (opD o d e S) S) := by
  cases o with
  | add => exact cat_ok hK
  | sub =>
    intro pins s σ H x y v u Q I rx ry h
    obtain ⟨d, e, S, m, hd, he, R, h⟩ := h
    obtain ⟨z, ez, h⟩ := lift_ok h
    simp only [opD] at ez
    split at ez
    · cases ez
      rw [show x = .int _ from hd] at rx
      rw [show y = .int _ from he] at ry
      exact op_sub pins s σ H _ _ v u Q I rx ry ⟨_, _, rfl, rfl, h.here R rfl⟩
    · cases ez
  | mul =>
    intro pins s σ H x y v u Q I rx ry h
    obtain ⟨d, e, S, m, hd, he, R, h⟩ := h
    obtain ⟨z, ez, h⟩ := lift_ok h
    simp only [opD] at ez
    split at ez
    · rw [show x = .int _ from hd] at rx
      rw [show y = .int _ from he] at ry
      split at ez
      · cases ez
        exact op_mul pins s σ H _ _ v u Q I rx ry ⟨_, _, rfl, rfl, by assumption, h.here R rfl⟩
      · cases ez
    · cases ez
  | mod =>
    intro pins s σ H x y v u Q I rx ry h
    obtain ⟨d, e, S, m, hd, he, R, h⟩ := h
    obtain ⟨z, ez, h⟩ := lift_ok h
    simp only [opD] at ez
    split at ez
    · rw [show x = .int _ from hd] at rx
      rw [show y = .int _ from he] at ry
      split at ez
      · cases ez
        exact op_mod pins s σ H _ _ v u Q I rx ry ⟨_, _, rfl, rfl, by assumption, h.here R rfl⟩
      · cases ez
    · cases ez
  | fdiv =>
    intro pins s σ H x y v u Q I rx ry h
    obtain ⟨d, e, S, m, hd, he, R, h⟩ := h
    obtain ⟨z, ez, h⟩ := lift_ok h
    simp only [opD] at ez
    split at ez
    · rw [show x = .int _ from hd] at rx
      rw [show y = .int _ from he] at ry
      split at ez
      · cases ez
        exact op_fdiv pins s σ H _ _ v u Q I rx ry ⟨_, _, rfl, rfl, by assumption, h.here R rfl⟩
      · cases ez
    · cases ez
  | pow =>
    intro pins s σ H x y v u Q I rx ry h
    obtain ⟨d, e, S, m, hd, he, R, h⟩ := h
    obtain ⟨z, ez, h⟩ := lift_ok h
    simp only [opD] at ez
    split at ez
    · rw [show x = .int _ from hd] at rx
      rw [show y = .int _ from he] at ry
      split at ez
      · cases ez
        exact op_pow pins s σ H _ _ v u Q I rx ry ⟨_, _, rfl, rfl, by assumption, h.here R rfl⟩
      · cases ez
    · cases ez
theorem neg_ok : UnR X (unaryOp .USub) (r1 T fun d S => lift (negD d) S) := by
  intro pins s σ H x v Q I rx h
  obtain ⟨d, S, m, hd, R, h⟩ := h
  obtain ⟨z, ez, h⟩ := lift_ok h
  cases d with
  | int i =>
    cases ez
    rw [show x = .int _ from hd] at rx
    exact un_neg pins s σ H _ v Q I rx ⟨_, rfl, h.here R rfl⟩
  | _ => cases ez
end
end TK
end
section
set_option autoImplicit false
set_option linter.all false
set_option maxRecDepth 100000
/-! ### keys that are trees, against the heap -/
namespace TK
open PySem L2 PySem.Spec PyProof.Rows
structure Same (X : Cx) (T : Tb) : Prop where
  P : X.prog = T.P
  w : X.w = T.w
  K : X.K = T.K
  mg : X.mg = T.mg
  base : X.base = T.base
mutual
theorem nkey_inj : ∀ (d e : D) (k : NestedKey), nkey d = some k → nkey e = some k → d = e
  | .non, e, k, h1, h2 => by cases h1; cases e <;> simp [nkey] at h2 <;> rfl
  | .int i, e, k, h1, h2 => by
    cases h1
    cases e <;> simp [nkey] at h2
    rw [h2]
  | .str x, e, k, h1, h2 => by
    cases h1
    cases e <;> simp [nkey] at h2
    rw [h2]
  | .tup ds, e, k, h1, h2 => by
    obtain ⟨ks, a1, rfl⟩ := Option.map_eq_some_iff.mp (show (nkeys ds).map NestedKey.tup = some k from h1)
    cases e with
    | tup es =>
      obtain ⟨ks', b1, b2⟩ := Option.map_eq_some_iff.mp (show (nkeys es).map NestedKey.tup = some (.tup ks) from h2)
      cases b2
      rw [nkeys_inj ds es ks a1 b1]
    | _ => simp [nkey] at h2
  | .bl _, e, k, h1, _ => by simp [nkey] at h1
  | .scr _, e, k, h1, _ => by simp [nkey] at h1
  | .lv _, e, k, h1, _ => by simp [nkey] at h1
  | .dv _ _, e, k, h1, _ => by simp [nkey] at h1
  | .iv _ _ _, e, k, h1, _ => by simp [nkey] at h1
  | .obj _, e, k, h1, _ => by simp [nkey] at h1
  | .fn _, e, k, h1, _ => by simp [nkey] at h1
theorem nkeys_inj : ∀ (ds es : List D) (ks : List NestedKey), nkeys ds = some ks → nkeys es = some ks → ds = es
  | [], es, ks, h1, h2 => by
    cases h1
    cases es with
    | nil => rfl
    | cons e es =>
      simp only [nkeys] at h2
      split at h2 <;> cases h2
  | d :: ds, es, ks, h1, h2 => by
    simp only [nkeys] at h1
    split at h1
    · rename_i k ks' a1 a2
      cases h1
      cases es with
      | nil => cases h2
      | cons e es =>
        simp only [nkeys] at h2
        split at h2
        · rename_i k2 ks2 b1 b2
          cases h2
          rw [nkey_inj d e k a1 b1, nkeys_inj ds es ks' a2 b2]
        · cases h2
    · cases h1
end
theorem nkOk_key {d : D} (h : nkOk d = true) : ∃ k, nkey d = some k ∧ k.depth ≤ 8 := by
  unfold nkOk at h
  split at h
  · split at h
    · rename_i k e
      exact ⟨k, e, of_decide_eq_true h⟩
    · cases h
  · cases h
section
variable {X : Cx} {T : Tb} {pins : List (Addr × Obj)} {σ : L2.St} {H : Hp} {s : Shared} {m : List Addr}
theorem tup_sq (hK : X.K = T.K) {a : Addr} {xs : List V} (h : TupAt T H m a xs) : SqT X.K H a xs := by
  rcases h with ⟨h, _⟩ | h
  · rcases h with h | ⟨o, h⟩
    · exact .inl (.inl h)
    · exact .inl (.inr ⟨o, h⟩)
  · rw [hK]
    rcases h with h | h
    · rcases h with h | ⟨o, h⟩ <;> cases h
    · exact .inr h
mutual
theorem nested_is (hK : X.K = T.K) (I : Inv X pins σ H s) : ∀ (d : D) (v : V) (u : Value) (k : NestedKey), RepV T H m d v → L2.RelV v u → nkey d = some k → NestedIs s.heap k u
  | .non, v, u, k, h, r, e => by
    cases e
    rw [show v = .non from h] at r
    rw [show u = Value.none from r]
    exact .none
  | .int i, v, u, k, h, r, e => by
    cases e
    rw [show v = .int i from h] at r
    obtain ⟨t, rfl⟩ := r
    exact .int i t
  | .str x, v, u, k, h, r, e => by
    cases e
    rw [show v = .str x from h] at r
    obtain ⟨t, rfl⟩ := r
    exact .text x t
  | .tup ds, v, u, k, h, r, e => by
    obtain ⟨ks, e1, rfl⟩ := Option.map_eq_some_iff.mp (show (nkeys ds).map NestedKey.tup = some k from e)
    obtain ⟨a, xs, rfl, h1, h2⟩ := h
    obtain rfl : u = Value.ref a := r
    obtain ⟨its, rv, ⟨o, ho, hc, n, hd⟩, _⟩ := I.tuple (tup_sq hK h1)
    exact .tup ho hc hd (by rw [List.toList_toArray]; exact nested_all hK I ds xs its ks h2 rv e1)
  | .bl _, _, _, k, _, _, e => by simp [nkey] at e
  | .scr _, _, _, k, _, _, e => by simp [nkey] at e
  | .lv _, _, _, k, _, _, e => by simp [nkey] at e
  | .dv _ _, _, _, k, _, _, e => by simp [nkey] at e
  | .iv _ _ _, _, _, k, _, _, e => by simp [nkey] at e
  | .obj _, _, _, k, _, _, e => by simp [nkey] at e
  | .fn _, _, _, k, _, _, e => by simp [nkey] at e
theorem nested_all (hK : X.K = T.K) (I : Inv X pins σ H s) : ∀ (ds : List D) (vs : List V) (us : List Value) (ks : List NestedKey), RepL T H m ds vs → Vals vs us → nkeys ds = some ks → NestedAll s.heap ks us
  | [], vs, us, ks, h, r, e => by
    cases e
    rw [show vs = [] from h] at r
    cases r
    exact .nil
  | d :: ds, vs, us, ks, h, r, e => by
    obtain ⟨v, vs', rfl, h1, h2⟩ := h
    cases r with
    | cons r1 r2 =>
      simp only [nkeys] at e
      split at e
      · rename_i k ks' a1 a2
        cases e
        exact .cons (nested_is hK I d v _ k h1 r1 a1) (nested_all hK I ds vs' _ ks' h2 r2 a2)
      · cases e
end
/-- a key's tuple -/
theorem key_ref (hK : X.K = T.K) (I : Inv X pins σ H s) {d : D} {v : V} {u : Value} (h : RepV T H m d v) (r : L2.RelV v u) (e : nkOk d = true) : ∃ b k, v = .ref b ∧ u = .ref b ∧ nkey d = some k ∧ k.depth ≤ 8 ∧ (nestedKind X.prog X.w).is s.heap k b := by
  obtain ⟨k, e1, e2⟩ := nkOk_key e
  cases d with
  | tup ds =>
    have h0 := h
    obtain ⟨a, xs, rfl, _⟩ := h0
    obtain rfl : u = Value.ref a := r
    exact ⟨a, k, rfl, rfl, e1, e2, nested_is hK I _ _ _ k h rfl e1, e2⟩
  | _ => simp [nkOk] at e
/-- the dict in the heap -/
theorem DnAt.dict (hP : T.P = X.prog) (hw : T.w = X.w) (hK : X.K = T.K) (I : Inv X pins σ H s) {a : Addr} {ks : List D} {xs : List (NestedKey × Addr × Value)} {vs : List V} (h : DnAt T H a ks xs vs) (r : RepL T H m ks (refN xs)) : s.heap.DictOfH (nestedKind X.prog X.w) a xs := by
  have h1 := h.at_
  rw [hP, hw] at h1
  obtain ⟨o, es, ep, h2, h3, h4, h5, h6⟩ := (I.hok a _ h1).1
  refine ⟨o, es, ep, h2, h3, h4, h5, fun x hx => ?_, h6⟩
  obtain ⟨i, hi, rfl⟩ := List.getElem_of_mem hx
  have e1 : (refN xs)[i]? = some (V.ref xs[i].2.1) := by simp [refN, hi]
  obtain ⟨d, e2, e3⟩ := r.get' e1
  have e4 : nkey d = some xs[i].1 := by
    have := congrArg (·[i]?) h.keys
    simp only [List.getElem?_map, e2, List.getElem?_eq_getElem hi, Option.map_some, Option.some.injEq] at this
    exact this
  exact ⟨nested_is hK I d _ _ _ e3 rfl e4, h.deep _ hx⟩
/-- where a key stands -/
theorem find_key {ks : List D} {xs : List (NestedKey × Addr × Value)} (e : ks.map nkey = xs.map fun x => some x.1) {d : D} {k : NestedKey} (h : nkey d = some k) : (d ∈ ks ↔ k ∈ xs.map (·.1)) := by
  constructor
  · intro hd
    have : some k ∈ ks.map nkey := List.mem_map.mpr ⟨d, hd, h⟩
    rw [e] at this
    obtain ⟨x, hx, e2⟩ := List.mem_map.mp this
    exact List.mem_map.mpr ⟨x, hx, Option.some.inj e2⟩
  · intro hk
    obtain ⟨x, hx, rfl⟩ := List.mem_map.mp hk
    have : some x.1 ∈ xs.map fun x => some x.1 := List.mem_map.mpr ⟨x, hx, rfl⟩
    rw [← e] at this
    obtain ⟨d', hd', e2⟩ := List.mem_map.mp this
    rw [nkey_inj d d' _ h e2]
    exact hd'
theorem atKey_some {xs : List (NestedKey × Addr × Value)} {k : NestedKey} : (atKey xs k).isSome = decide (k ∈ xs.map (·.1)) := by
  induction xs with
  | nil => simp [atKey]
  | cons x xs ih =>
    unfold atKey at ih ⊢
    by_cases hx : x.1 = k
    · simp [List.find?_cons, hx]
    · have : ¬ k = x.1 := fun z => hx z.symm
      simp only [List.find?_cons, hx, decide_false, ih, List.map_cons, List.mem_cons, this, false_or]
theorem dn_in (hP : T.P = X.prog) (hw : T.w = X.w) (hK : X.K = T.K) (hu : X.A.units + 65 < cLine) (neg : Bool) (I : Inv X pins σ H s) {a : Addr} {ks : List D} {xs : List (NestedKey × Addr × Value)} {vs : List V} (h : DnAt T H a ks xs vs) (r : RepL T H m ks (refN xs)) {d : D} {x : V} {v : Value} (hd : RepV T H m d x) (rx : L2.RelV x v) (ok : nkOk d = true) {Q : VK}
    (q : Q (.bl (if neg = true then !decide (d ∈ ks) else decide (d ∈ ks))) H) : wpAny (model X.prog X.w) X.A (compareOp (if neg = true then .NotIn else .In) v (.ref a)) (EP X pins σ Q) X.xe s := by
  obtain ⟨b, k, rfl, rfl, e1, e2, hk⟩ := key_ref hK I hd rx ok
  have dd := h.dict hP hw hK I r
  have hr : (nestedKind X.prog X.w).room X.A.in1 := by
    show X.A.in1.units + 8 < cLine
    have : X.A.in1.units = X.A.units + 1 := rfl
    omega
  have hb : (atKey xs k).isSome = decide (d ∈ ks) := by
    rw [atKey_some]
    have := find_key h.keys e1
    by_cases z : d ∈ ks
    · simp [z, this.mp z]
    · have : ¬ k ∈ xs.map (·.1) := fun y => z (this.mpr y)
      simp [z, this]
  cases neg with
  | true =>
    refine notIn_keyed (knd := nestedKind X.prog X.w) hr hk h.off ⟨xs, dd, rfl⟩ ⟨.bl _, H, I.tok _, ?_, q⟩
    show Value.bool _ = Value.bool _
    rw [valueAt_pairsH, Option.isSome_map, hb]
    rfl
  | false =>
    refine wpAny_in_heap (knd := nestedKind X.prog X.w) hr hk h.off dd ⟨.bl _, H, I.tok _, ?_, q⟩
    show Value.bool _ = Value.bool _
    rw [hb]
    rfl
end
end TK
end
section
set_option autoImplicit false
set_option linter.all false
set_option maxRecDepth 100000
/-! ### dicts whose keys are trees: d[k], d[k] = v, {}, {k: v} -/
namespace TK
open PySem L2 PySem.Spec PyProof.Rows
theorem dn_obj {P : Program} {w : World} {H : Hp} {h : Heap} {a : Addr} {xs : List (NestedKey × Addr × Value)} (R : DN0 P w h a xs) : ObjOk P w H h a (DNO P w a xs) := by
  have ⟨o, es, ep, ho, r⟩ := R
  exact ⟨R, ⟨o, ho⟩, fun h1 h2 p k => let ⟨o', es', ep', ho', r'⟩ := p; ⟨o', es', ep', k o' ho', r'⟩⟩
theorem dn_of {P : Program} {w : World} {h : Heap} {a : Addr} {xs : List (NestedKey × Addr × Value)} (R : h.DictOfH (nestedKind P w) a xs) : DN0 P w h a xs :=
  let ⟨o, es, ep, h1, h2, h3, h4, _, h6⟩ := R; ⟨o, es, ep, h1, h2, h3, h4, h6⟩
section
variable {X : Cx} {T : Tb}
theorem room_n (hu : X.A.units + 65 < cLine) : (nestedKind X.prog X.w).room X.A ∧ (nestedKind X.prog X.w).room X.A.in1 := by
  have e : X.A.in1.units = X.A.units + 1 := rfl
  constructor
  · show X.A.units + 8 < cLine
    omega
  · show X.A.in1.units + 8 < cLine
    omega
theorem look_at {H : Hp} {m : List Addr} {d e : D} {k : NestedKey} (hk : nkey d = some k) : ∀ {ks ds : List D} {xs : List (NestedKey × Addr × Value)} {vs : List V}, ks.map nkey = xs.map (fun x => some x.1) → RepL T H m ds vs → Vals vs (xs.map (·.2.2)) → lookN' ks ds d = some e →
    ∃ v p, atKey xs k = some p ∧ L2.RelV v p.2 ∧ RepV T H m e v
  | [], ds, xs, vs, _, _, _, l => by cases ds <;> cases l
  | q :: ks, [], xs, vs, _, _, _, l => by cases l
  | q :: ks, x :: ds, [], vs, e1, _, _, _ => by simp at e1
  | q :: ks, x :: ds, y :: xs, vs, e1, r, rv, l => by
    obtain ⟨v, vs', rfl, h1, h2⟩ := r
    simp only [List.map_cons, List.cons.injEq] at e1
    rw [List.map_cons] at rv
    cases rv with
    | cons r1 r2 =>
      simp only [lookN'] at l
      by_cases hq : q = d
      · rw [if_pos hq] at l
        cases l
        subst hq
        have : y.1 = k := Option.some.inj (e1.1.symm.trans hk)
        exact ⟨v, y.2, by simp [atKey, List.find?_cons, this], r1, h1⟩
      · rw [if_neg hq] at l
        obtain ⟨v', p, a1, a2, a3⟩ := look_at hk e1.2 h2 r2 l
        have : ¬ y.1 = k := fun z => hq (nkey_inj q d k (by rw [e1.1, z]) hk)
        refine ⟨v', p, ?_, a2, a3⟩
        unfold atKey at a1 ⊢
        simp only [List.find?_cons, this, decide_false]
        exact a1
/-- what d[y] wants -/
def GetAt (T : Tb) (H : Hp) (a : Addr) (y : V) (Q : VK) : Prop := (∃ v, DGet H a y (some v) ∧ Q v H) ∨
  ∃ (m : List Addr) (ks ds : List D) (xs : List (NestedKey × Addr × Value)) (vs : List V) (d e : D), DnAt T H a ks xs vs ∧ RepL T H m ks (refN xs) ∧ RepL T H m ds vs ∧ RepV T H m d y ∧ nkOk d = true ∧ lookN' ks ds d = some e ∧ ∀ v, RepV T H m e v → Q v H
def tGetN (T : Tb) (td ty : TE) : TE := fun σ H Q => td σ H fun x H1 => ty σ H1 fun y H2 => ∃ a, x = .ref a ∧ GetAt T H2 a y Q
theorem pe_getN {o i : Expr} {td ty : TE} {pos : Pos} (S : Same X T) (hu : X.A.units + 65 < cLine) (ho : PE X o td) (hi : PE X i ty) (hs : NoSl i) : PE X (.Subscript o i pos) (tGetN T td ty) := by
  refine ⟨fun pins s σ H Q I h => ?_⟩
  refine subD_of PySem.F.slot_dict_getitem.lookup hs (thn (ho.run pins s σ H _ I h) fun u s1 ⟨x, H1, I1, rx, q1⟩ => thn (hi.run pins s1 σ H1 _ I1 q1) fun iv s2 ⟨y, H2, I2, ry, a, ex, g⟩ => ?_)
  subst ex
  obtain rfl : u = Value.ref a := rx
  rcases g with ⟨v, g, q2⟩ | ⟨m, ks, ds, xs, vs, d, e, g1, g2, g3, g4, g5, g6, q2⟩
  · exact ⟨dict_typeIs I2 g, d_getItem (by omega) I2 g ry fun w' s3 I3 rw' => ⟨v, H2, I3, rw', q2⟩⟩
  · have dd := g1.dict S.P.symm S.w.symm S.K I2 g2
    obtain ⟨b, k, rfl, rfl, e1, e2, hk⟩ := key_ref S.K I2 g4 ry g5
    obtain ⟨v, p, h1, h2, h3⟩ := look_at e1 g1.keys g3 g1.vals g6
    exact ⟨dd.typeIs, wpAny_getItem_heap (knd := nestedKind X.prog X.w) (room_n hu).2 hk dd h1 ⟨v, H2, I2.tok _, h2, q2 v h3⟩⟩
/-- what d[y] = v wants -/
def PutAt (T : Tb) (H : Hp) (a : Addr) (y v : V) (Q : Hp → Prop) : Prop := (∃ H', DPut H a y v H' ∧ Q H') ∨
  ∃ (m : List Addr) (ks : List D) (xs : List (NestedKey × Addr × Value)) (vs : List V) (d : D), DnAt T H a ks xs vs ∧ RepL T H m ks (refN xs) ∧ RepV T H m d y ∧ nkOk d = true ∧ xs.length ≤ sizeLine ∧
    ∀ b k r, y = .ref b → nkey d = some k → k.depth ≤ 8 → L2.RelV v r → Q (upd H a (DNO T.P T.w a (storedH xs k b r)))
def sPutN (T : Tb) (td ty tv : TE) : TS := fun D σ H => tv σ H fun v H1 => td σ H1 fun x H2 => ty σ H2 fun y H3 => ∃ a, x = .ref a ∧ PutAt T H3 a y v fun H4 => D.nx σ H4
theorem ps_putN {o i value : Expr} {td ty tv : TE} {pos pos' : Pos} (S : Same X T) (hu : X.A.units + 65 < cLine) (ho : PE X o td) (hi : PE X i ty) (hv : PE X value tv) (hs : swapsWith value (some (.Subscript o i pos')) pos.line X.env = pure false) :
    PS X (.Assign [.Subscript o i pos'] value pos) (sPutN T td ty tv) := by
  refine ⟨fun pins s σ H D I h => ?_⟩
  refine wpAny_Assign_Subscript (thn (hv.run pins s σ H _ I h) fun r s1 ⟨v, H1, I1, rv, q1⟩ => thn (ho.run pins s1 σ H1 _ I1 q1) fun u s2 ⟨x, H2, I2, rx, q2⟩ => thn (hi.run pins s2 σ H2 _ I2 q2) fun iv s3 ⟨y, H3, I3, ry, a, ex, g⟩ => ?_) hs
  subst ex
  obtain rfl : u = Value.ref a := rx
  rcases g with ⟨H4, g, q3⟩ | ⟨m, ks, xs, vs, d, g1, g2, g4, g5, g6, q3⟩
  · exact d_setItem (by omega) I3 g ry rv fun s4 I4 => ⟨σ, H4, I4, q3⟩
  · have dd := g1.dict S.P.symm S.w.symm S.K I3 g2
    obtain ⟨b, k, rfl, rfl, e1, e2, hk⟩ := key_ref S.K I3 g4 ry g5
    refine wpAny_setItem_heap (knd := nestedKind X.prog X.w) (hsz := g6) (room_n hu).2 hk dd fun h' dd' hs' => ?_
    have q := q3 b k r rfl e1 e2 rv
    rw [← S.P, ← S.w] at q
    obtain ⟨o', es', ep', ho', _⟩ := id dd'
    exact ⟨σ, _, d_write I3 (by rw [g1.at_]; exact True.intro) hs' ⟨o', ho'⟩ (dn_obj (dn_of dd')), q⟩
/-- {} -/
theorem pe_dnew {pos : Pos} (S : Same X T) : PE X (.Dict [] [] pos) (fun _ H Q => ∀ p, H p = none → (p == sysModules) = false → Q (.ref p) (upd H p (DNO T.P T.w p []))) := ⟨fun pins s σ H Q I h => by
  have hn := I.hok.fresh (Nat.le_refl s.heap.objs.size)
  have hm : (s.heap.objs.size == sysModules) = false := beq_eq_false_iff_ne.mpr (Nat.ne_of_gt I.big)
  have q := h _ hn hm
  rw [← S.P, ← S.w] at q
  exact wpAny_Dict_empty ⟨.ref s.heap.objs.size, _, I.laid (a := s.heap.objs.size) (o := DNO X.prog X.w s.heap.objs.size []) (t' := s.toks) (fun _ _ q => Heap.get?_push_of_some _ q) (Nat.le_refl _)
    (dn_obj (dn_of (Heap.DictOfH.new s.heap))), rfl, q⟩⟩
/-- {k: v}, k a tree -/
def tDisp1 (T : Tb) (trs : List (TE × TE)) : TE := fun σ H Q => ∀ p, H p = none → (p == sysModules) = false → tPairs trs σ (upd H p (DNO T.P T.w p [])) fun ps H2 => H2 p = some (DNO T.P T.w p []) ∧
  ∃ (m : List Addr) (d : D) (y v : V), ps = [(y, v)] ∧ RepV T H2 m d y ∧ nkOk d = true ∧ ∀ b k r, y = .ref b → nkey d = some k → k.depth ≤ 8 → L2.RelV v r → Q (.ref p) (upd H2 p (DNO T.P T.w p [(k, b, r)]))
theorem pe_disp1 {pos : Pos} {ke ve : Expr} {trs : List (TE × TE)} (S : Same X T) (hu : X.A.units + 65 < cLine) (h : PPs X pos [some ke] [ve] trs) : PE X (.Dict [some ke] [ve] pos) (tDisp1 T trs) := by
  refine ⟨fun pins s σ H Q I q => ?_⟩
  have hn := I.hok.fresh (Nat.le_refl s.heap.objs.size)
  have hm : (s.heap.objs.size == sysModules) = false := beq_eq_false_iff_ne.mpr (Nat.ne_of_gt I.big)
  have I1 := I.laid (a := s.heap.objs.size) (o := DNO X.prog X.w s.heap.objs.size []) (h' := s.heap.push { cls := .type "dict", data := .dict #[] }) (t' := s.toks) (fun _ _ z => Heap.get?_push_of_some _ z) (Nat.le_refl _) (dn_obj (dn_of (Heap.DictOfH.new s.heap)))
  have q0 := q _ hn hm
  rw [← S.P, ← S.w] at q0
  have hz : (pairTrees [some ke] [ve] X.env pos).length = 1 := pairTrees_length [some ke] [ve] X.env pos rfl rfl
  have h0 : pairTrees [some ke] [ve] X.env pos ≠ [] := fun z => by rw [z] at hz; cases hz
  have hsh := zip_pairTrees [some ke] [ve] X.env pos rfl rfl
  rw [arm_eval_Dict, hsh, dictDisplay_pairs _ h0 (by omega)]
  refine wpAny_bind (wpAny_standAt (wpAny_bind (wpAny_subDictH (knd := nestedKind X.prog X.w) (room_n hu).1 (by omega) ?_)))
  refine thn (h.run pins _ σ _ _ I1 q0) fun ws s2 ⟨ps, H2, I2, rel, e, m, d, y, v, ep, rd, ok, q2⟩ => ?_
  subst ep
  cases rel with
  | @cons a0 b0 as0 bs0 r0 rt =>
    cases rt
    obtain ⟨u1, u2⟩ := b0
    obtain ⟨r1, r2⟩ := r0
    obtain ⟨b, k, rfl, e0, e1, e2, hk⟩ := key_ref S.K I2 rd r1 ok
    have e0 : u1 = Value.ref b := e0
    subst e0
    have hd0 : s2.heap.DictOfH (nestedKind X.prog X.w) s.heap.objs.size [] := by
      obtain ⟨o, es, ep, h2, h3, h4, h5, h6⟩ := (I2.hok _ _ e).1
      exact ⟨o, es, ep, h2, h3, h4, h5, (fun _ z => by cases z), h6⟩
    refine ⟨[(k, b, u2)], ⟨rfl, rfl, hk, True.intro⟩, hd0, fun h' tk dd hs => ?_⟩
    have q3 := q2 b k u2 rfl e1 e2 r2
    obtain ⟨o', es', ep', ho', _⟩ := id dd
    have e3 : storedAllH ([] : List (NestedKey × Addr × Value)) [(k, b, u2)] = [(k, b, u2)] := rfl
    rw [e3] at dd
    exact wpAny_pure ⟨.ref s.heap.objs.size, _, d_write I2 (by rw [e]; exact True.intro) hs ⟨o', ho'⟩ (dn_obj (dn_of dd)), rfl, q3⟩
end
end TK
end
section
set_option autoImplicit false
set_option linter.all false
set_option maxRecDepth 100000
/-! ### sets whose members are trees, against the heap -/
namespace TK
open PySem L2 PySem.Spec PyProof.Rows
mutual
/-- a key without texts -/
def wordless : NestedKey → Bool
  | .text _ => false
  | .tup ks => wordlessAll ks
  | _ => true
def wordlessAll : List NestedKey → Bool
  | [] => true
  | k :: ks => wordless k && wordlessAll ks
end
section
variable {P : Program} {w : World}
/-- what the machine asks of a key: of no class statement, hashed by its value -/
def Tame (P : Program) (w : World) (n : Nat) (s : Shared) (v : Value) : Prop := ∀ (A : Around) (E : Value → Shared → Prop) (Q : Bool → Shared → Prop), Q false s → wpAny (model P w) A (ofAClassStatement n v) Q E s
def ByVal (P : Program) (w : World) (n : Nat) (s : Shared) (v : Value) : Prop := ∀ (A : Around) (E : Value → Shared → Prop) (Q : Bool → Shared → Prop), Q true s → wpAny (model P w) A (hashByValue n v) Q E s
/-- a loop that looks at each item and goes on -/
theorem each_on {M : Model} {A : Around} {E : Value → Shared → Prop} {β : Type} {good : Value → Prop} {f : Value → Option β × PUnit → Sem (ForInStep (Option β × PUnit))} {s : Shared} (hf : ∀ v, good v → ∀ (R : ForInStep (Option β × PUnit) → Shared → Prop), R (.yield (none, PUnit.unit)) s → wpAny M A (f v (none, PUnit.unit)) R E s) :
    ∀ (vs : List Value) (Q : Option β × PUnit → Shared → Prop), (∀ v ∈ vs, good v) → Q (none, PUnit.unit) s → wpAny M A (forIn vs (none, PUnit.unit) f) Q E s
  | [], Q, _, q => by
    rw [List.forIn_nil]
    exact wpAny_pure q
  | v :: vs, Q, h, q => by
    rw [List.forIn_cons]
    exact wpAny_bind (hf v (h v List.mem_cons_self) _ (each_on hf vs Q (fun u hu => h u (List.mem_cons_of_mem _ hu)) q))
theorem tame_tup {n : Nat} {s : Shared} {a : Addr} {o : Obj} {vs : Array Value} {m : Nat} (ho : s.heap.get? a = some o) (hc : o.cls = .type "tuple") (hd : o.data = .seq vs m) (h : ∀ v ∈ vs.toList, Tame P w n s v) : Tame P w (n + 1) s (.ref a) := fun A E Q q => by
  have ty : s.TypeIs (.ref a) "tuple" := ⟨o, ho, hc⟩
  unfold ofAClassStatement
  refine wpAny_bind (wpAny_typeOf ty ?_)
  dsimp only
  rw [if_pos (by decide : (("tuple" : String) == "tuple") = true)]
  try refine wpAny_bind (wpAny_pure ?_)
  simp only [Bool.not_true, Bool.false_eq_true, if_false]
  refine wpAny_bind (wpAny_seqItems ho hd ?_)
  dsimp only
  refine wpAny_bind ?_
  show wpAny _ _ (forIn vs _ _) _ _ s
  rw [← Array.forIn_toList]
  refine each_on (good := Tame P w n s) (fun v hv R r => ?_) _ _ h ?_
  · refine wpAny_bind (hv A E _ ?_)
    simp only [Bool.false_eq_true, if_false]
    exact wpAny_pure r
  · exact wpAny_pure q
theorem byval_tup {n : Nat} {s : Shared} {a : Addr} {o : Obj} {vs : Array Value} {m : Nat} (ho : s.heap.get? a = some o) (hc : o.cls = .type "tuple") (hd : o.data = .seq vs m) (h : ∀ v ∈ vs.toList, ByVal P w n s v) : ByVal P w (n + 1) s (.ref a) := fun A E Q q => by
  have ty : s.TypeIs (.ref a) "tuple" := ⟨o, ho, hc⟩
  unfold hashByValue
  refine wpAny_bind (wpAny_specialOf ty F.slot_tuple_hash.lookup ?_)
  show wpAny _ _ (seqItems? (.ref a) >>= _) _ _ s
  refine wpAny_bind (wpAny_seqItems ho hd ?_)
  refine wpAny_bind ?_
  show wpAny _ _ (forIn vs _ _) _ _ s
  rw [← Array.forIn_toList]
  refine each_on (good := ByVal P w n s) (fun v hv R r => ?_) _ _ h ?_
  · refine wpAny_bind (hv A E _ ?_)
    simp only [Bool.not_true, Bool.false_eq_true, if_false]
    exact wpAny_pure r
  · exact wpAny_pure q
mutual
theorem tame_key : ∀ (k : NestedKey) (v : Value) (n : Nat) (s : Shared), NestedIs s.heap k v → k.depth ≤ n → Tame P w n s v
  | .none, _, n, s, x, _ => by
    cases x
    intro A E Q q
    cases n <;> exact wpAny_pure q
  | .num i, _, n, s, x, _ => by
    intro A E Q q
    cases x <;> cases n <;> exact wpAny_pure q
  | .text y, _, n, s, x, _ => by
    cases x
    intro A E Q q
    cases n <;> exact wpAny_pure q
  | .tup ks, _, n, s, x, hn => by
    cases x with
    | tup h1 h2 h3 h4 =>
      simp only [NestedKey.depth] at hn
      match n, hn with
      | n + 1, hn => exact tame_tup h1 h2 h3 (tame_keys ks _ n s h4 (by omega))
theorem tame_keys : ∀ (ks : List NestedKey) (vs : List Value) (n : Nat) (s : Shared), NestedAll s.heap ks vs → NestedKey.depthAll ks ≤ n → ∀ v ∈ vs, Tame P w n s v
  | [], _, n, s, x, _, v, hv => by cases x; cases hv
  | k :: ks, _, n, s, x, hn, v, hv => by
    cases x with
    | cons x1 x2 =>
      simp only [NestedKey.depthAll] at hn
      rcases List.mem_cons.mp hv with rfl | hv
      · exact tame_key k _ n s x1 (by omega)
      · exact tame_keys ks _ n s x2 (by omega) v hv
end
mutual
theorem byval_key : ∀ (k : NestedKey) (v : Value) (n : Nat) (s : Shared), NestedIs s.heap k v → k.depth ≤ n → wordless k = true → ByVal P w n s v
  | .none, _, n, s, x, _, _ => by
    cases x
    intro A E Q q
    cases n <;> exact wpAny_pure q
  | .num i, _, n, s, x, _, _ => by
    intro A E Q q
    cases x <;> cases n <;> exact wpAny_pure q
  | .text y, _, n, s, x, _, hw => by cases hw
  | .tup ks, _, n, s, x, hn, hw => by
    cases x with
    | tup h1 h2 h3 h4 =>
      simp only [NestedKey.depth] at hn
      match n, hn with
      | n + 1, hn => exact byval_tup h1 h2 h3 (byval_keys ks _ n s h4 (by omega) hw)
theorem byval_keys : ∀ (ks : List NestedKey) (vs : List Value) (n : Nat) (s : Shared), NestedAll s.heap ks vs → NestedKey.depthAll ks ≤ n → wordlessAll ks = true → ∀ v ∈ vs, ByVal P w n s v
  | [], _, n, s, x, _, _, v, hv => by cases x; cases hv
  | k :: ks, _, n, s, x, hn, hw, v, hv => by
    cases x with
    | cons x1 x2 =>
      simp only [NestedKey.depthAll] at hn
      simp only [wordlessAll, Bool.and_eq_true] at hw
      rcases List.mem_cons.mp hv with rfl | hv
      · exact byval_key k _ n s x1 (by omega) hw.1
      · exact byval_keys ks _ n s x2 (by omega) hw.2 v hv
end
/-- the tree at b -/
abbrev IsK (P : Program) (w : World) (h : Heap) (k : NestedKey) (b : Addr) : Prop := (nestedKind P w).is h k b
theorem unseen {A : Around} {E : Value → Shared → Prop} {s : Shared} {k : NestedKey} {b : Addr} {Q : Bool → Shared → Prop} (hk : IsK P w s.heap k b) {ys : List Value} (hy : ∀ y ∈ ys, ∃ k' c, y = Value.ref c ∧ IsK P w s.heap k' c) (q : Q false s) :
    wpAny (model P w) A (searchCouldBeSeen (.ref b) ys) Q E s := by
  unfold searchCouldBeSeen
  refine wpAny_bind (each_on (good := fun y => ∃ k' c, y = Value.ref c ∧ IsK P w s.heap k' c) (fun v hv R r => ?_) ys _ hy ?_)
  · obtain ⟨k', c, rfl, hc⟩ := hv
    dsimp only
    by_cases same : (b == c || (carriedByValue (.ref b) && carriedByValue (.ref c))) = true
    · exact wp_if_pos same (wpAny_pure r)
    · refine wp_if_neg same ?_
      refine wpAny_bind ((nestedKind P w).quiet hk ?_)
      simp only [Bool.not_true, Bool.false_eq_true, if_false]
      refine wpAny_bind ((nestedKind P w).quiet hc ?_)
      simp only [Bool.not_true, Bool.false_eq_true, if_false]
      refine wpAny_bind (tame_key k _ 8 s hk.1 hk.2 A E _ ?_)
      simp only [Bool.false_eq_true, if_false]
      refine wpAny_bind (tame_key k' _ 8 s hc.1 hc.2 A E _ ?_)
      simp only [Bool.false_eq_true, if_false]
      exact wpAny_pure r
  · exact wpAny_pure q
/-! ### a set's rows -/
def rowN (w : World) (x : Addr × NestedKey) : Int × Value := (x.2.hash w, Value.ref x.1)
structure SetN (P : Program) (w : World) (h : Heap) (a : Addr) (l : Bool) (L : List (Addr × NestedKey)) (es : Array (Int × Value)) (ep : Nat) (t : SetTable) : Prop where
  here : ∃ o, h.get? a = some o ∧ o.ExactSet ∧ o.data = .set es ep t
  rows : es.toList = L.map (rowN w)
  tab : TabOk t (L.map fun x => x.2.hash w)
  once : (L.map (·.2)).Nodup
  keys : ∀ x ∈ L, IsK P w h x.2 x.1
  pl : t.plain = true
  ld : l = true → w.params.followText "set-order" = true ∨ t.led = true
  wide : L.length * 5 < t.mask * 3
  few : L.length < 64
variable {A : Around} {E : Value → Shared → Prop} {s : Shared} {a : Addr} {l : Bool} {L : List (Addr × NestedKey)} {es : Array (Int × Value)} {ep : Nat} {t : SetTable}
theorem SetN.count (R : SetN P w s.heap a l L es ep t) : es.size = L.length := by
  rw [← Array.length_toList, R.rows, List.length_map]
theorem SetN.slots (R : SetN P w s.heap a l L es ep t) : t.place.toList.length = L.length := by
  have := R.tab.sz
  rw [List.length_map] at this
  rw [Array.length_toList, this]
theorem SetN.fit (R : SetN P w s.heap a l L es ep t) : t.fits es.size = true := by
  have h1 := R.slots
  have h2 := R.count
  have h3 := R.wide
  rw [Array.length_toList] at h1
  unfold SetTable.fits SetTable.fill
  rw [R.tab.dm]
  simp only [Bool.and_eq_true, beq_iff_eq, decide_eq_true_eq, Array.size_empty]
  omega
theorem SetN.row (R : SetN P w s.heap a l L es ep t) {i : Nat} {x : Addr × NestedKey} (h : L[i]? = some x) : es[i]? = some (x.2.hash w, Value.ref x.1) := by
  rw [← Array.getElem?_toList, R.rows, List.getElem?_map, h]
  rfl
theorem nodummy (m : Nat) : ∀ (n : Nat) (p : SetTable.Probe), p.dummy = none → (nth m p n).dummy = none
  | 0, _, h => h
  | n + 1, p, h => nodummy m n (adv m p) (by unfold adv; split <;> exact h)
/-- the way of a key through the table -/
abbrev way0 (t : SetTable) (h : Int) : SetTable.Probe := runAt t.mask (SetTable.bits h % (t.mask + 1)) (SetTable.bits h)
/-- the search from the c-th step on; K is the first free slot of the way -/
theorem seek (R : SetN P w s.heap a l L es ep t) {b : Addr} {k : NestedKey} (hb : IsK P w s.heap k b) (hu : A.units + 8 < cLine) (adding : Bool) {K : Nat} (hK1 : K < 10 * SetTable.turns t.mask) (hK2 : way t.mask (k.hash w) K ∉ t.place.toList) (hK3 : ∀ c, c < K → way t.mask (k.hash w) c ∈ t.place.toList) {Q : SetFound → Shared → Prop}
    (yes : k ∈ L.map (·.2) → ∀ r : Option Nat, (adding = false → r.isSome = true) → Q (.there r) s) (no : k ∉ L.map (·.2) → Q (.free (way t.mask (k.hash w) K) false) s) :
    ∀ (f c : Nat) (stand : Option SetTable.Probe), stand.getD (t.probeStart (k.hash w)) = nth t.mask (way0 t (k.hash w)) c → c ≤ K → K - c < f →
      (∀ (i : Nat) x, L[i]? = some x → x.2 = k → ∃ c', c ≤ c' ∧ c' < K ∧ t.place.toList[i]? = some (way t.mask (k.hash w) c')) →
      wpAny (model P w) A (setSearchFrom a (.ref b) (k.hash w) adding f stand) Q E s
  | 0, c, stand, _, _, hf, _ => by omega
  | f + 1, c, stand, hst, hc, hf, ahead => by
    obtain ⟨o, ho, hex, hd⟩ := R.here
    have gw : ¬ t.gaveWay = true := by
      unfold SetTable.gaveWay
      rw [mask_odd R.tab.mok]
      decide
    have stepj : ∀ q, (nth t.mask (nth t.mask (way0 t (k.hash w)) c) q).j = way t.mask (k.hash w) (c + q) := fun q => by rw [← nth_add]
    have hashOf : ∀ {i : Nat} {x : Addr × NestedKey}, L[i]? = some x → (es[i]?.map (·.1)).getD 0 = x.2.hash w := fun hx => by rw [R.row hx]; rfl
    have behind : ∀ {i : Nat} {x : Addr × NestedKey} {q : Nat}, L[i]? = some x → x.2 = k → (∀ (k' i' : Nat), k' < q → t.place.toList[i']? = some (nth t.mask (nth t.mask (way0 t (k.hash w)) c) k').j → (es[i']?.map Prod.fst).getD 0 ≠ k.hash w) → ∃ c', c + q ≤ c' ∧ c' < K ∧ t.place.toList[i]? = some (way t.mask (k.hash w) c') := by
      intro i x q hx ek hno
      obtain ⟨c', b1, b2, b3⟩ := ahead i x hx ek
      refine ⟨c', ?_, b2, b3⟩
      rcases Nat.lt_or_ge c' (c + q) with z | z
      · exfalso
        refine hno (c' - c) i (by omega) ?_ (by rw [hashOf hx, ek])
        rw [stepj, show c + (c' - c) = c' by omega]
        exact b3
      · exact z
    rw [setSearchFrom_succ]
    refine wpAny_bind (wpAny_setState_of ho hd R.fit ?_)
    dsimp only
    refine wp_if_neg gw ?_
    try refine wpAny_bind (wpAny_pure ?_)
    rcases go_spec t R.tab.ris R.tab.dm (fun i => (es[i]?.map (·.1)).getD 0) (k.hash w) (10 * SetTable.turns t.mask) (K - c) _ (nodummy t.mask c (way0 t (k.hash w)) rfl) (by omega)
      (fun q hq => by rw [stepj]; exact hK3 (c + q) (by omega)) (by rw [stepj, show c + (K - c) = K by omega]; exact hK2) with ⟨q, i, hq, hi, hh, hno, hpr⟩ | ⟨hno, hpr⟩
    · have met : t.probe (fun i => (es[i]?.map (·.1)).getD 0) (k.hash w) (stand.getD (t.probeStart (k.hash w))) = some (.candidate (way t.mask (k.hash w) (c + q)) i (nth t.mask (way0 t (k.hash w)) (c + (q + 1)))) := by
        rw [hst, ← stepj, nth_add]
        exact hpr
      rw [met]
      dsimp only
      rw [stepj] at hi
      have hil : i < L.length := by rw [← R.slots]; exact (List.getElem?_eq_some_iff.mp hi).1
      obtain ⟨x, hx⟩ : ∃ x, L[i]? = some x := ⟨_, List.getElem?_eq_getElem hil⟩
      have xk := R.keys x (List.mem_of_getElem? hx)
      have tail : wpAny (model P w) A (searchRest a (.ref b) (k.hash w) adding f es t (way t.mask (k.hash w) (c + q)) i (nth t.mask (way0 t (k.hash w)) (c + (q + 1)))) Q E s := by
        unfold searchRest
        rw [R.row hx]
        dsimp only
        refine wpAny_bind (wpAny_holding ((nestedKind P w).eqBool hu xk hb ?_))
        refine wpAny_bind (wpAny_setState_of ho hd R.fit ?_)
        dsimp only
        have live : t.slot (way t.mask (k.hash w) (c + q)) = .live i := slot_live R.tab.ris hi
        by_cases ek : x.2 = k
        · have mem : k ∈ L.map (·.2) := List.mem_map.mpr ⟨x, List.mem_of_getElem? hx, ek⟩
          cases adding with
          | true =>
            refine wp_if_pos (by simp [ek]) ?_
            exact wpAny_pure (yes mem none (fun z => by cases z))
          | false =>
            refine wp_if_neg (by simp) ?_
            try refine wpAny_bind (wpAny_pure ?_)
            rw [sameMem]
            dsimp only
            simp only [if_true, live, R.row hx]
            refine wpAny_bind (wpAny_isSame_ref_self (wpAny_bind (wpAny_pure ?_)))
            simp only [if_true]
            refine wp_if_pos (by simp [ek]) ?_
            exact wpAny_pure (yes mem (some i) fun _ => rfl)
        · refine wp_if_neg (by simp [ek]) ?_
          try refine wpAny_bind (wpAny_pure ?_)
          rw [sameMem]
          dsimp only
          simp only [if_true, live, R.row hx]
          refine wpAny_bind (wpAny_isSame_ref_self (wpAny_bind (wpAny_pure ?_)))
          simp only [if_true]
          refine wp_if_neg (by simp [ek]) ?_
          refine seek R hb hu adding hK1 hK2 hK3 yes no f (c + (q + 1)) _ rfl (by omega) (by omega) fun i0 x0 h0 e0 => ?_
          obtain ⟨c', b1, b2, b3⟩ := behind h0 e0 hno
          refine ⟨c', ?_, b2, b3⟩
          rcases Nat.lt_or_ge (c + q) c' with z | z
          · omega
          · exfalso
            obtain rfl : c' = c + q := by omega
            have l2 := slot_live R.tab.ris b3
            rw [live] at l2
            injection l2 with l2
            subst l2
            rw [hx] at h0
            cases h0
            exact ek e0
      by_cases hl : t.led = true
      · refine wp_if_neg (by simp [hl]) ?_
        try refine wpAny_bind (wpAny_pure ?_)
        exact tail
      · refine wp_if_pos (by simp [hl]) ?_
        refine wpAny_bind (unseen hb (fun y hy => ?_) ?_)
        · obtain ⟨e, he, rfl⟩ := List.mem_map.mp hy
          have he1 : e ∈ es.toList := by
            have : e ∈ es ∧ e.1 = k.hash w := by simpa using he
            simpa using this.1
          rw [R.rows] at he1
          obtain ⟨x0, hx0, rfl⟩ := List.mem_map.mp he1
          exact ⟨x0.2, x0.1, rfl, R.keys x0 hx0⟩
        · refine wp_if_neg (by decide) ?_
          try refine wpAny_bind (wpAny_pure ?_)
          exact tail
    · have met : t.probe (fun i => (es[i]?.map (·.1)).getD 0) (k.hash w) (stand.getD (t.probeStart (k.hash w))) = some (.empty (way t.mask (k.hash w) K) none) := by
        have e2 : way t.mask (k.hash w) K = (nth t.mask (nth t.mask (way0 t (k.hash w)) c) (K - c)).j := by rw [stepj, show c + (K - c) = K by omega]
        rw [hst, e2]
        exact hpr
      rw [met]
      dsimp only
      refine wpAny_pure (no fun hm => ?_)
      obtain ⟨x0, h0, e0⟩ := List.mem_map.mp hm
      obtain ⟨i0, hi0, rfl⟩ := List.getElem_of_mem h0
      obtain ⟨c', b1, b2, _⟩ := behind (List.getElem?_eq_getElem hi0) e0 hno
      omega
/-- the whole search -/
theorem seek0 (R : SetN P w s.heap a l L es ep t) {b : Addr} {k : NestedKey} (hb : IsK P w s.heap k b) (hu : A.units + 8 < cLine) (adding : Bool) {Q : SetFound → Shared → Prop} (yes : k ∈ L.map (·.2) → ∀ r : Option Nat, (adding = false → r.isSome = true) → Q (.there r) s)
    (no : ∀ K, k ∉ L.map (·.2) → way t.mask (k.hash w) K ∉ t.place.toList → (∀ c, c < K → way t.mask (k.hash w) c ∈ t.place.toList) → Q (.free (way t.mask (k.hash w) K) false) s) :
    wpAny (model P w) A (setSearch a (.ref b) (k.hash w) adding) Q E s := by
  have h3 := R.wide
  obtain ⟨K, hK1, hK2, hK3⟩ := R.tab.first (by rw [List.length_map]; omega) (k.hash w)
  have big : 10 * SetTable.turns t.mask ≤ 1500 := by
    unfold SetTable.turns
    rcases R.tab.mok with e | e | e <;> omega
  unfold setSearch
  refine seek R hb hu adding hK1 hK2 hK3 yes (fun n => no K n hK2 hK3) 100000 0 none rfl (Nat.zero_le _) (by omega) fun i x hx ek => ?_
  have hh : (L.map fun x => x.2.hash w)[i]? = some (k.hash w) := by rw [List.getElem?_map, hx, ← ek]; rfl
  have hil : i < t.place.toList.length := by rw [R.slots]; exact (List.getElem?_eq_some_iff.mp hx).1
  obtain ⟨c, hc, e⟩ := R.tab.before hK2 hh (List.getElem?_eq_getElem hil)
  exact ⟨c, Nat.zero_le _, hc, by rw [List.getElem?_eq_getElem hil, e]⟩
end
section
variable {P : Program} {w : World} {A : Around} {E : Value → Shared → Prop} {s : Shared} {a : Addr} {l : Bool} {L : List (Addr × NestedKey)} {es : Array (Int × Value)} {ep : Nat} {t : SetTable}
/-- what is behind a write of the set -/
theorem IsK.but {h h' : Heap} {k : NestedKey} {b : Addr} {o : Obj} (x : IsK P w h k b) (ho : h.get? a = some o) (hd : o.data = .set es ep t) (sb : Heap.SameBut a h h') : IsK P w h' k b :=
  ⟨NestedIs.at (fun c u vs n hc hu => (sb.2 c fun e => by subst e; rw [ho] at hc; cases hc; rw [hd] at hu; cases hu).trans hc) k _ x.1, x.2⟩
theorem IsK.more {h h' : Heap} {k : NestedKey} {b : Addr} (x : IsK P w h k b) (hk : ∀ c u, h.get? c = some u → h'.get? c = some u) : IsK P w h' k b := ⟨NestedIs.at (fun c u vs n hc _ => hk c u hc) k _ x.1, x.2⟩
theorem SetN.more {h h' : Heap} (R : SetN P w h a l L es ep t) (hk : ∀ c u, h.get? c = some u → h'.get? c = some u) : SetN P w h' a l L es ep t :=
  let ⟨o, ho, q⟩ := R.here; ⟨⟨o, hk a o ho, q⟩, R.rows, R.tab, R.once, fun x hx => (R.keys x hx).more hk, R.pl, R.ld, R.wide, R.few⟩
/-- the rows that a new order picks -/
theorem pick_rows (hr : es.toList = L.map (rowN w)) {order : Array Nat} (hp : order.toList.Perm (List.range L.length)) :
    ∃ L' : List (Addr × NestedKey), (order.filterMap (es[·]?)).toList = L'.map (rowN w) ∧ L'.Perm L ∧ (L'.map fun x => x.2.hash w) = order.toList.map fun i => (es.map (·.1)).getD i 0 := by
  have sz : es.size = L.length := by rw [← Array.length_toList, hr, List.length_map]
  have at_ : ∀ i, es[i]? = L[i]?.map (rowN w) := fun i => by rw [← Array.getElem?_toList, hr, List.getElem?_map]
  have one : ∀ l : List Nat, (∀ i ∈ l, i < L.length) → (l.filterMap fun i => es[i]?) = (l.filterMap fun i => L[i]?).map (rowN w) ∧ ((l.filterMap fun i => L[i]?).map fun x => x.2.hash w) = l.map fun i => (es.map (·.1)).getD i 0 := by
    intro l hl
    induction l with
    | nil => exact ⟨rfl, rfl⟩
    | cons i l ih =>
      obtain ⟨ih1, ih2⟩ := ih fun j hj => hl j (List.mem_cons_of_mem _ hj)
      have hi := hl i List.mem_cons_self
      have e : L[i]? = some L[i] := List.getElem?_eq_getElem hi
      have e2 : es[i]? = some (rowN w L[i]) := by rw [at_, e]; rfl
      have e3 : (es.map (·.1)).getD i 0 = (L[i]).2.hash w := by
        have : (es.map (·.1))[i]? = some ((L[i]).2.hash w) := by rw [Array.getElem?_map, e2]; rfl
        simp only [Array.getD_eq_getD_getElem?, this, Option.getD_some]
      rw [List.filterMap_cons_some e2, List.filterMap_cons_some e, ih1]
      exact ⟨rfl, by rw [List.map_cons, List.map_cons, ih2, e3]⟩
  have hl : ∀ i ∈ order.toList, i < L.length := fun i hi => List.mem_range.mp (hp.mem_iff.mp hi)
  obtain ⟨h1, h2⟩ := one order.toList hl
  refine ⟨order.toList.filterMap fun i => L[i]?, by rw [Array.toList_filterMap]; exact h1, ?_, h2⟩
  have h3 := hp.filterMap fun i => L[i]?
  rwa [List.filterMap_getElem?_range_length] at h3
/-- the table laid anew -/
theorem relay_rows {o : Obj} (ho : s.heap.get? a = some o) (hex : o.ExactSet) (hd : o.data = .set es ep t) (hr : es.toList = L.map (rowN w)) (hz : t.place.size = es.size) (hdm : t.dummies = #[]) (hle : es.size ≤ t.mask) (nd : (L.map (·.2)).Nodup) (ks : ∀ x ∈ L, IsK P w s.heap x.2 x.1) (pl : t.plain = true)
    (ld : l = true → w.params.followText "set-order" = true ∨ t.led = true) (few : L.length < 64) {wanted M : Nat} (hM1 : SetTable.sizeAbove wanted - 1 = M) (hM2 : MaskOk M) (hM3 : SetTable.sizeAbove wanted ≤ 128) (hM4 : L.length * 5 < M * 3) {Q : Unit → Shared → Prop}
    (q : ∀ h' L' es' ep' t', Heap.SameBut a s.heap h' → SetN P w h' a l L' es' ep' t' → L'.Perm L → Q () { s with heap := h' }) : wpAny (model P w) A (setRelay a wanted) Q E s := by
  have sz : es.size = L.length := by rw [← Array.length_toList, hr, List.length_map]
  have fit : t.fits es.size = true := by
    unfold SetTable.fits SetTable.fill
    rw [hdm]
    simp only [Bool.and_eq_true, beq_iff_eq, decide_eq_true_eq, Array.size_empty]
    omega
  obtain ⟨t', order, e, hp, tab, m1, m2, m3, _⟩ := relaid_ok t (hs := es.map (·.1)) (wanted := wanted) hM1 hM2 (by rw [Array.size_map, sz]; omega)
  rw [Array.size_map, sz] at hp
  obtain ⟨L', r1, r2, r3⟩ := pick_rows hr hp
  rw [← r3] at tab
  have sz2 : (order.filterMap (es[·]?)).size = L.length := by rw [← Array.length_toList, r1, List.length_map, r2.length_eq]
  rw [setRelay_eq]
  refine wpAny_bind (wpAny_setState_of ho hd fit ?_)
  dsimp only
  refine wp_if_neg (by rw [sizeLine_eq]; omega) ?_
  try refine wpAny_bind (wpAny_pure ?_)
  rw [e]
  dsimp only
  refine wpAny_bind ?_
  refine wp_if_neg (by rw [sz2, sz]; simp) ?_
  try refine wpAny_bind (wpAny_pure ?_)
  refine wpAny_pure ?_
  dsimp only
  refine wpAny_storeSet_of ho hd ?_ (by rw [sz2, sizeLine_eq]; omega)
  have sb : Heap.SameBut a s.heap (s.heap.update a (Obj.putSet (order.filterMap (es[·]?)) t')) := Heap.SameBut.update ..
  refine q _ L' (order.filterMap (es[·]?)) (ep + 1) t' sb ⟨⟨_, store_at ho hd, ⟨hex.1, hex.2.1, hex.2.2⟩, rfl⟩, r1, tab, (r2.map (·.2)).nodup_iff.mpr nd, fun x hx => (ks x (r2.mem_iff.mp hx)).but ho hd sb, by rw [m3]; exact pl, by rw [m2]; exact ld, by rw [r2.length_eq, m1]; exact hM4, by rw [r2.length_eq]; exact few⟩ r2
/-- one is put in -/
theorem add_row (R : SetN P w s.heap a l L es ep t) {b : Addr} {k : NestedKey} (hb : IsK P w s.heap k b) (hw : wordless k = true) (hu : A.units + 8 < cLine) (hf : L.length + 1 < 64 ∨ k ∈ L.map (·.2)) {Q : Bool → Shared → Prop}
    (q : ∀ r h' L' es' ep' t', Heap.SameBut a s.heap h' → SetN P w h' a l L' es' ep' t' → (k ∈ L.map (·.2) → L' = L) → (k ∉ L.map (·.2) → L'.Perm ((b, k) :: L)) → Q r { s with heap := h' }) :
    wpAny (model P w) A (setAddHashed a (.ref b) (k.hash w)) Q E s := by
  obtain ⟨o, ho, hex, hd⟩ := R.here
  have wide := R.wide
  have sz := R.count
  unfold setAddHashed
  refine wpAny_holding ?_
  rw [show (100000 : Nat) = 99999 + 1 from rfl, setAddHashedIn_succ]
  refine wpAny_bind (wpAny_setState_of ho hd R.fit ?_)
  dsimp only
  refine wp_if_neg (by simp [byScan, Value.scannable]) ?_
  try refine wpAny_bind (wpAny_pure ?_)
  refine wpAny_bind (seek0 R hb hu true (fun hm r _ => ?_) fun K hm hK2 hK3 => ?_)
  · dsimp only
    exact wpAny_pure (q false s.heap L es ep t (Heap.SameBut.refl a s.heap) R (fun _ => rfl) fun z => absurd hm z)
  · have hf : L.length + 1 < 64 := hf.resolve_right hm
    dsimp only
    refine wpAny_bind (wpAny_setState_of ho hd R.fit ?_)
    dsimp only
    obtain ⟨c1, c2, c3, c4, c5, c6, _, _, c9⟩ := R.tab.put hK2 hK3
    rw [List.length_map] at c9
    have pl1 : (t.put (way t.mask (k.hash w) K)).1.plain = true := by rw [c6]; exact R.pl
    generalize ept : t.put (way t.mask (k.hash w) K) = pt at c1 c3 c4 c5 c6 c9 pl1 ⊢
    obtain ⟨t1, p⟩ := pt
    dsimp only at c1 c3 c4 c5 c6 c9 pl1 ⊢
    subst c1
    generalize ep0 : SetTable.below t.place (way t.mask (k.hash w) K) = p at c2 c3 ⊢
    first
      | (refine wpAny_bind ?_; refine wp_if_pos pl1 ?_; refine byval_key k _ 8 s hb.1 hb.2 hw A E _ ?_)
      | refine wp_if_pos pl1 (wpAny_bind (byval_key k _ 8 s hb.1 hb.2 hw A E _ ?_))
    simp only [if_true]
    have er : (SetTable.insertAt es p (k.hash w, Value.ref b)).toList = (L.take p ++ (b, k) :: L.drop p).map (rowN w) := by
      rw [SetTable.toList_insertAt, R.rows, List.map_append, List.map_cons, List.map_take, List.map_drop]
      rfl
    have pm : (L.take p ++ (b, k) :: L.drop p).Perm ((b, k) :: L) := by
      have := (List.perm_middle : (L.take p ++ (b, k) :: L.drop p).Perm ((b, k) :: (L.take p ++ L.drop p)))
      rwa [List.take_append_drop] at this
    have eh : (L.map fun x => x.2.hash w).take p ++ k.hash w :: (L.map fun x => x.2.hash w).drop p = (L.take p ++ (b, k) :: L.drop p).map fun x => x.2.hash w := by
      rw [List.map_append, List.map_cons, List.map_take, List.map_drop]
    rw [eh] at c3
    have nd1 : ((L.take p ++ (b, k) :: L.drop p).map (·.2)).Nodup := (pm.map (·.2)).nodup_iff.mpr (List.nodup_cons.mpr ⟨hm, R.once⟩)
    have sz1 : (SetTable.insertAt es p (k.hash w, Value.ref b)).size = L.length + 1 := by
      rw [← Array.length_toList, er, List.length_map, pm.length_eq, List.length_cons]
    generalize L.take p ++ (b, k) :: L.drop p = L1 at er pm nd1 c3
    generalize SetTable.insertAt es p (k.hash w, Value.ref b) = es1 at er sz1 ⊢
    have len1 : L1.length = L.length + 1 := by rw [pm.length_eq, List.length_cons]
    refine wpAny_bind (wpAny_storeSet_of ho hd ?_ (by rw [sz1, sizeLine_eq]; omega))
    have sb : Heap.SameBut a s.heap (s.heap.update a (Obj.putSet es1 t1)) := Heap.SameBut.update ..
    have ho1 := store_at (es' := es1) (t' := t1) ho hd
    have ks1 : ∀ x ∈ L1, IsK P w (s.heap.update a (Obj.putSet es1 t1)) x.2 x.1 := fun x hx => by
      rcases List.mem_cons.mp (pm.mem_iff.mp hx) with rfl | hx
      · exact hb.but ho hd sb
      · exact (R.keys x hx).but ho hd sb
    generalize s.heap.update a (Obj.putSet es1 t1) = h1 at sb ho1 ks1 ⊢
    have ld1 : l = true → w.params.followText "set-order" = true ∨ t1.led = true := by rw [c5]; exact R.ld
    by_cases full : t1.tooFull = true
    · have f5 : (L.length + 1) * 5 ≥ t1.mask * 3 := by
        have := full
        unfold SetTable.tooFull at this
        rwa [decide_eq_true_eq, c9] at this
      first
        | (refine wpAny_bind ?_; refine wp_if_pos (by simp [full]) ?_)
        | (refine wp_if_pos (by simp [full]) ?_; refine wpAny_bind ?_)
      rw [sz]
      have hz1 : t1.place.size = es1.size := by rw [c3.sz, List.length_map, len1, sz1]
      have which : (t.mask = 7 ∧ L.length = 4) ∨ (t.mask = 31 ∧ L.length = 18) := by
        rw [c4] at f5
        rcases R.tab.mok with e | e | e <;> rw [e] at f5 wide
        · exact .inl ⟨e, by omega⟩
        · exact .inr ⟨e, by omega⟩
        · omega
      have anew : ∀ M, SetTable.sizeAbove (SetTable.grown (L.length + 1)) - 1 = M → MaskOk M → SetTable.sizeAbove (SetTable.grown (L.length + 1)) ≤ 128 → (L.length + 1) * 5 < M * 3 →
          wpAny (model P w) A (setRelay a (SetTable.grown (L.length + 1))) (fun _ s' => wpAny (model P w) A (pure true) Q E s') E { s with heap := h1 } := fun M m1 m2 m3 m4 => by
        refine relay_rows (s := { s with heap := h1 }) ho1 ⟨hex.1, hex.2.1, hex.2.2⟩ rfl er hz1 c3.dm (by rw [sz1, c4]; rcases which with ⟨e, e2⟩ | ⟨e, e2⟩ <;> omega) nd1 ks1 pl1 ld1 (by omega) m1 m2 m3 (by rw [len1]; exact m4) fun h2 L2 es2 ep2 t2 sb2 R2 pm2 => ?_
        exact wpAny_pure (q true h2 L2 es2 ep2 t2 (sb.trans sb2) R2 (fun z => absurd z hm) fun _ => pm2.trans pm)
      rcases which with ⟨_, e2⟩ | ⟨_, e2⟩
      · exact anew 31 (by rw [e2, size_20]) (.inr (.inl rfl)) (by rw [e2, size_20]; decide) (by omega)
      · exact anew 127 (by rw [e2, size_76]) (.inr (.inr rfl)) (by rw [e2, size_76]; decide) (by omega)
    · first
        | refine wp_if_neg (by simp [full]) ?_
        | (refine wpAny_bind ?_; refine wp_if_neg (by simp [full]) ?_; refine wpAny_pure ?_)
      have f5 : (L.length + 1) * 5 < t1.mask * 3 := by
        have := full
        unfold SetTable.tooFull at this
        rw [decide_eq_true_eq, c9] at this
        omega
      exact wpAny_pure (q true h1 L1 es1 (ep + 1) t1 sb ⟨⟨_, ho1, ⟨hex.1, hex.2.1, hex.2.2⟩, rfl⟩, er, c3, nd1, ks1, pl1, ld1, by omega, by omega⟩ (fun z => absurd z hm) fun _ => pm)
/-- setAdd -/
theorem add_key (R : SetN P w s.heap a l L es ep t) {b : Addr} {k : NestedKey} (hb : IsK P w s.heap k b) (hw : wordless k = true) (hu : A.units + 8 < cLine) (hf : L.length + 1 < 64 ∨ k ∈ L.map (·.2)) {Q : Bool → Shared → Prop}
    (q : ∀ r h' L' es' ep' t' tk, Heap.SameBut a s.heap h' → SetN P w h' a l L' es' ep' t' → (k ∈ L.map (·.2) → L' = L) → (k ∉ L.map (·.2) → L'.Perm ((b, k) :: L)) → s.toks ≤ tk → Q r { s with heap := h', toks := tk }) :
    wpAny (model P w) A (setAdd a (.ref b)) Q E s := by
  unfold setAdd
  refine wpAny_holding (wpAny_bind ((nestedKind P w).pyHash hu hb ?_))
  exact add_row (s := { s with toks := s.toks + (nestedKind P w).draws k }) R hb hw hu hf fun r h' L' es' ep' t' sb R' y n => q r h' L' es' ep' t' _ sb R' y n (Nat.le_add_right _ _)
/-- whether a set has it -/
theorem has_key (R : SetN P w s.heap a l L es ep t) {b : Addr} {k : NestedKey} (hb : IsK P w s.heap k b) (hu : A.units + 16 < cLine) {Q : Bool → Shared → Prop} (q : ∀ tk, Q (decide (k ∈ L.map (·.2))) { s with toks := tk }) : wpAny (model P w) A (contains (.ref a) (.ref b)) Q E s := by
  obtain ⟨o, ho, hex, hd⟩ := R.here
  have ty : s.TypeIs (.ref a) "set" := ⟨o, ho, hex.1⟩
  unfold contains
  try with_reducible refine wpAny_holding ?_
  refine wpAny_bind (wpAny_specialOf ty F.slot_set_contains.lookup ?_)
  show wpAny _ _ (if (some (Value.builtin "set.__contains__") == some Value.none) = true then _ else _) _ E s
  rw [if_neg (by rw [beq_builtin_none]; exact Bool.false_ne_true)]
  refine wpAny_bind (wpAny_callSpecialUnlessNone?_slot (name := Str.ofString "__contains__") ty F.slot_set_contains (wpAny_call_entry F.slot_set_contains ty entry_set_contains ?_ (F.args_set_contains_2 _ _)))
  unfold Builtin.«frozenset.__contains__» Builtin.Frozenset.oneOther
  simp only [List.isEmpty_nil, bind_assoc]
  unfold Builtin.Frozenset.addrOf Builtin.Frozenset.withSetAsKey setContains
  refine wpAny_bind (wpAny_pure ?_)
  try dsimp only
  refine wpAny_bind (wpAny_pure ?_)
  try dsimp only
  have hu1 : A.in1.units + 8 < cLine := by
    have : A.in1.units = A.units + 1 := rfl
    omega
  refine wpAny_bind (wpAny_tryCatch (wpAny_holding (wpAny_bind ((nestedKind P w).pyHash (A := A.in1) hu1 hb ?_))))
  have fin : ∀ (f : Nat), 0 < f → ∀ (Q' : Option Nat → Shared → Prop) (E' : Value → Shared → Prop), (∀ r : Option Nat, r.isSome = decide (k ∈ L.map (·.2)) → Q' r { s with toks := s.toks + (nestedKind P w).draws k }) → wpAny (model P w) A.in1 (setFindIn a (.ref b) ((nestedKind P w).hash k) f) Q' E' { s with toks := s.toks + (nestedKind P w).draws k } := by
    intro f hf Q' E' q'
    cases f with
    | zero => omega
    | succ f =>
      unfold setFindIn
      refine wpAny_bind (wpAny_setState_of (s := { s with toks := s.toks + (nestedKind P w).draws k }) ho hd R.fit ?_)
      dsimp only
      refine wp_if_neg (by simp [byScan, Value.scannable]) ?_
      try refine wpAny_bind (wpAny_pure ?_)
      refine wpAny_bind (seek0 (s := { s with toks := s.toks + (nestedKind P w).draws k }) R hb hu1 false (fun hm r hr => ?_) fun K hm _ _ => ?_)
      · exact wpAny_pure (q' r (by rw [hr rfl]; exact (decide_eq_true hm).symm))
      · exact wpAny_pure (q' none (by simp [hm]))
  unfold setFind
  refine wpAny_bind (fin 100000 (by decide) _ _ fun r hr => ?_)
  refine wpAny_pure ?_
  show wpAny _ _ (ret (Value.bool r.isSome)) _ _ _
  rw [hr]
  exact wpAny_pure ⟨_, rfl, wpAny_truthy_bool (q _)⟩
end
/-! ### by the objects -/
section
variable {X : Cx} {T : Tb} {pins : List (Addr × Obj)} {σ : L2.St} {H : Hp} {s : Shared} {m : List Addr}
theorem SnAt.full (hP : T.P = X.prog) (hw : T.w = X.w) (hK : X.K = T.K) (I : Inv X pins σ H s) {a : Addr} {l : Bool} {ks ks' : List D} {L : List (Addr × NestedKey)} (h : SnAt T H a l ks ks' L) (r : RepL T H m ks' (refS L)) : ∃ es ep t, SetN X.prog X.w s.heap a l L es ep t := by
  have h1 := h.at_
  rw [hP, hw] at h1
  obtain ⟨es, ep, t, h2, h3, h4, h5, h6, h7, h8, h9⟩ := ((I.hok a _ h1).1 : SN0 X.prog X.w s.heap a l L).ex
  refine ⟨es, ep, t, h2, h3, h4, h5, fun x hx => ?_, h6, h7, h8, h9⟩
  obtain ⟨i, hi, rfl⟩ := List.getElem_of_mem hx
  have e1 : (refS L)[i]? = some (V.ref L[i].1) := by simp [refS, hi]
  obtain ⟨d, e2, e3⟩ := r.get' e1
  have e4 : nkey d = some L[i].2 := by
    have := congrArg (·[i]?) h.keys
    simp only [List.getElem?_map, e2, List.getElem?_eq_getElem hi, Option.map_some, Option.some.injEq] at this
    exact this
  exact ⟨nested_is hK I d _ _ _ e3 rfl e4, h.deep _ hx⟩
theorem find_sn {ks ks' : List D} {L : List (Addr × NestedKey)} (e : ks'.map nkey = L.map fun x => some x.2) (p : ks'.Perm ks) {d : D} {k : NestedKey} (h : nkey d = some k) : (d ∈ ks ↔ k ∈ L.map (·.2)) := by
  rw [← p.mem_iff]
  constructor
  · intro hd
    have : some k ∈ ks'.map nkey := List.mem_map.mpr ⟨d, hd, h⟩
    rw [e] at this
    obtain ⟨x, hx, e2⟩ := List.mem_map.mp this
    exact List.mem_map.mpr ⟨x, hx, Option.some.inj e2⟩
  · intro hk
    obtain ⟨x, hx, rfl⟩ := List.mem_map.mp hk
    have : some x.2 ∈ L.map fun x => some x.2 := List.mem_map.mpr ⟨x, hx, rfl⟩
    rw [← e] at this
    obtain ⟨d', hd', e2⟩ := List.mem_map.mp this
    rw [nkey_inj d d' _ h e2]
    exact hd'
theorem sn_in (hP : T.P = X.prog) (hw : T.w = X.w) (hK : X.K = T.K) (hu : X.A.units + 65 < cLine) (neg : Bool) (I : Inv X pins σ H s) {a : Addr} {l : Bool} {ks ks' : List D} {L : List (Addr × NestedKey)} (h : SnAt T H a l ks ks' L) (r : RepL T H m ks' (refS L)) {d : D} {x : V} {v : Value} (hd : RepV T H m d x) (rx : L2.RelV x v) (ok : nkOk d = true) {Q : VK}
    (q : Q (.bl (if neg = true then !decide (d ∈ ks) else decide (d ∈ ks))) H) : wpAny (model X.prog X.w) X.A (compareOp (if neg = true then .NotIn else .In) v (.ref a)) (EP X pins σ Q) X.xe s := by
  obtain ⟨b, k, rfl, rfl, e1, e2, hk⟩ := key_ref hK I hd rx ok
  obtain ⟨es, ep, t, R⟩ := h.full hP hw hK I r
  have hb : decide (k ∈ L.map (·.2)) = decide (d ∈ ks) := decide_eq_decide.mpr (find_sn h.keys h.perm e1).symm
  cases neg with
  | true =>
    show wpAny _ _ (do return Value.bool (!(← contains (.ref a) (.ref b)))) _ _ s
    refine wpAny_bind (has_key R hk (by omega) fun tk => wpAny_pure ⟨.bl _, H, I.tok _, ?_, q⟩)
    show Value.bool _ = Value.bool _
    rw [hb]
    rfl
  | false =>
    show wpAny _ _ (do return Value.bool (← contains (.ref a) (.ref b))) _ _ s
    refine wpAny_bind (has_key R hk (by omega) fun tk => wpAny_pure ⟨.bl _, H, I.tok _, ?_, q⟩)
    show Value.bool _ = Value.bool _
    rw [hb]
    rfl
end
end TK
end
section
set_option autoImplicit false
set_option linter.all false
set_option maxRecDepth 100000
namespace TK
open PySem L2 PySem.Spec PyProof.Rows

section
variable {X : Cx} {T : Tb} {H : Hp} {m : List Addr} {S : Sx}
mutual
theorem dp_of (hK : X.K = T.K) : ∀ (d : D) (v : V) (p : PyData), RepV T H m d v → toPy d = some p → Dp X.K H v p
  | .non, v, p, h, e => by
    cases e
    rw [show v = .non from h]
    exact .non
  | .bl b, v, p, h, e => by
    cases e
    rw [show v = .bl b from h]
    exact .bl b
  | .int i, v, p, h, e => by
    cases e
    rw [show v = .int i from h]
    exact .int i
  | .str x, v, p, h, e => by
    cases e
    rw [show v = .str x from h]
    exact .str x
  | .scr xs, v, p, h, e => by cases e
  | .tup ds, v, p, h, e => by
    obtain ⟨a, vs, rfl, h1, h2⟩ := h
    simp only [toPy] at e
    obtain ⟨ps, e1, rfl⟩ := Option.map_eq_some_iff.mp e
    exact .tup (h1.sq hK) (dps_of hK ds vs ps h2 e1)
  | .lv ds, v, p, h, e => by
    obtain ⟨a, vs, rfl, h1, h2⟩ := h
    simp only [toPy] at e
    obtain ⟨ps, e1, rfl⟩ := Option.map_eq_some_iff.mp e
    exact .lst (.inl (.inl h1.1)) (dps_of hK ds vs ps h2 e1)
  | .dv ks ds, v, p, h, e => by cases e
  | .iv c ns ds, v, p, h, e => by cases e
  | .obj n, v, p, h, e => by cases e
  | .fn k, v, p, h, e => by cases e
theorem dps_of (hK : X.K = T.K) : ∀ (ds : List D) (vs : List V) (ps : List PyData), RepL T H m ds vs → toPys ds = some ps → DpAll X.K H vs ps
  | [], vs, ps, h, e => by
    cases e
    rw [show vs = [] from h]
    exact .nil
  | d :: ds, vs, ps, h, e => by
    obtain ⟨v, r, rfl, h1, h2⟩ := h
    simp only [toPys] at e
    split at e
    · rename_i y ys e1 e2
      cases e
      exact .cons (dp_of hK d v y h1 e1) (dps_of hK ds r ys h2 e2)
    · cases e
end
theorem dp_ofS (hK : X.K = T.K) (R : RelH T H m S) {d : D} {v : V} {p : PyData} (h : RepV T H m d v) (e : pyOf d S = some p) : Dp X.K H v p := by
  cases d with
  | obj n =>
    obtain ⟨a, rfl, h1⟩ := h
    obtain ⟨o, ho, q⟩ := R.there h1
    simp only [pyOf, ho] at e
    cases o with
    | lst ds =>
      obtain ⟨ps, e1, rfl⟩ := Option.map_eq_some_iff.mp e
      obtain ⟨vs, h2, h3⟩ := q
      exact .lst (.inl (.inl h2)) (dps_of hK ds vs ps h3 e1)
    | _ => cases e
  | _ => exact dp_of hK _ v p h e
theorem dps_of1 (hK : X.K = T.K) (R : RelH T H m S) : ∀ (ds : List D) (vs : List V) (ps : List PyData), RepL T H m ds vs → py1s ds S = some ps → DpAll X.K H vs ps
  | [], vs, ps, h, e => by
    cases e
    rw [show vs = [] from h]
    exact .nil
  | d :: ds, vs, ps, h, e => by
    obtain ⟨v, r, rfl, h1, h2⟩ := h
    simp only [py1s] at e
    split at e
    · rename_i y ys e1 e2
      cases e
      exact .cons (dp_ofS hK R h1 e1) (dps_of1 hK R ds r ys h2 e2)
    · cases e
theorem dp_ofS2 (hK : X.K = T.K) (R : RelH T H m S) {d : D} {v : V} {p : PyData} (h : RepV T H m d v) (e : pyOf2 d S = some p) : Dp X.K H v p := by
  cases d with
  | tup ds =>
    obtain ⟨a, vs, rfl, h1, h2⟩ := h
    simp only [pyOf2] at e
    obtain ⟨ps, e1, rfl⟩ := Option.map_eq_some_iff.mp e
    exact .tup (h1.sq hK) (dps_of1 hK R ds vs ps h2 e1)
  | _ => exact dp_ofS hK R h e
end

/-! ### comparisons -/
section
variable {X : Cx} {T : Tb}
theorem eq_ok (hK : X.K = T.K) (hu : X.A.units + 64 < cLine) : OpR X (compareOp .Eq) (r2 T fun d e S => (lift (eqD d e S) S).bind fun b S => .ok (.bl b) S) := by
  intro pins s σ H x y v u Q I rx ry h
  obtain ⟨d, e, S, m, hd, he, R, h⟩ := h
  obtain ⟨z, ez, h⟩ := lift_ok h.bind
  have h := h H m .refl R
  unfold eqD at ez
  split at ez
  · rename_i p q e1 e2
    split at ez
    · rename_i hs
      cases ez
      obtain ⟨s1, s2⟩ := Bool.and_eq_true_iff.mp hs
      exact op_eqD hu pins s σ H x y v u Q I rx ry ⟨p, q, dp_ofS2 hK R hd e1, dp_ofS2 hK R he e2, s1, s2, Ok.here R h rfl⟩
    · cases ez
  · cases ez
theorem ne_ok (hK : X.K = T.K) (hu : X.A.units + 64 < cLine) : OpR X (compareOp .NotEq) (r2 T fun d e S => (lift ((eqD d e S).map (!·)) S).bind fun b S => .ok (.bl b) S) := by
  intro pins s σ H x y v u Q I rx ry h
  obtain ⟨d, e, S, m, hd, he, R, h⟩ := h
  obtain ⟨z, ez, h⟩ := lift_ok h.bind
  have h := h H m .refl R
  obtain ⟨z', ez, ezz⟩ := Option.map_eq_some_iff.mp ez
  unfold eqD at ez
  split at ez
  · rename_i p q e1 e2
    split at ez
    · rename_i hs
      cases ez
      subst ezz
      obtain ⟨s1, s2⟩ := Bool.and_eq_true_iff.mp hs
      exact op_neD hu pins s σ H x y v u Q I rx ry ⟨p, q, dp_ofS2 hK R hd e1, dp_ofS2 hK R he e2, s1, s2, Ok.here R h rfl⟩
    · cases ez
  · cases ez
/-- x in a tuple, a list, by data -/
theorem inT_ok (hu : X.A.units + 65 < cLine) {pins : List (Addr × Obj)} {s : Shared} {σ : L2.St} {H : Hp} {x y : V} {v u : Value} {Q : VK} {p : PyData} {ps : List PyData} (neg : Bool) (I : Inv X pins σ H s) (rx : L2.RelV x v) (ry : L2.RelV y u)
    (hx : Dp X.K H x p) (hy : Dp X.K H y (.tuple ps) ∨ Dp X.K H y (.list ps)) (s1 : SeqAt.shaped p = true) (s2 : SeqAt.shaped (.list ps) = true)
    (q : Q (.bl (if neg = true then !ps.any fun z => PyData.eqv z p else ps.any fun z => PyData.eqv z p)) H) : wpAny (model X.prog X.w) X.A (compareOp (if neg = true then .NotIn else .In) v u) (EP X pins σ Q) X.xe s := by
  obtain ⟨as, r1⟩ := Dp.reads I p x v hx rx
  rcases hy with hy | hy
  · obtain ⟨bs, r2⟩ := Dp.reads I (.tuple ps) y u hy ry
    cases neg with
    | true => exact SeqAt.notIn_tuple_reads r2 r1 (SeqAt.canLay_of_shaped s2) (SeqAt.canLay_of_shaped s1) (room_in_shaped s1 hu) ⟨.bl _, H, I, rfl, q⟩
    | false => exact SeqAt.in_tuple_reads r2 r1 (SeqAt.canLay_of_shaped s2) (SeqAt.canLay_of_shaped s1) (room_in_shaped s1 hu) ⟨.bl _, H, I, rfl, q⟩
  · cases neg with
    | true => exact op_notInD hu pins s σ H x y v u Q I rx ry ⟨p, ps, hx, hy, s1, s2, q⟩
    | false => exact op_inD hu pins s σ H x y v u Q I rx ry ⟨p, ps, hx, hy, s1, s2, q⟩
theorem keyD_ok {H : Hp} {m : List Addr} {d : D} {v : V} {q : Key} (h : RepV T H m d v) (e : keyD d = some q) : v = kV q := by
  cases d with
  | int i => cases e; exact h
  | str x => cases e; exact h
  | _ => cases e
theorem valV_look : ∀ {kvs : List (Key × V)} {ks : List Key} {ds : List D} {H : Hp} {m : List Addr} {q : Key} {d : D}, kvs.map (·.1) = ks → RepL T H m ds (kvs.map (·.2)) → lookK ks ds q = some d → ∃ v, valV kvs q = some v ∧ RepV T H m d v
  | [], ks, ds, H, m, q, d, e, r, l => by
    subst e
    cases ds <;> cases l
  | (k, v) :: kvs, ks, ds, H, m, q, d, e, r, l => by
    subst e
    cases ds with
    | nil => cases l
    | cons d0 ds =>
      obtain ⟨v0, r0, e0, h1, h2⟩ := r
      have e1 : v = v0 := (List.cons.inj e0).1
      have e2 : kvs.map (·.2) = r0 := (List.cons.inj e0).2
      subst e1 e2
      simp only [List.map_cons, lookK] at l
      split at l
      · rename_i hk
        cases l
        exact ⟨v, by simp [valV, hk], h1⟩
      · rename_i hk
        obtain ⟨u, h3, h4⟩ := valV_look rfl h2 l
        exact ⟨u, by simpa [valV, hk] using h3, h4⟩
theorem keyD'_ok {H : Hp} {m : List Addr} {d : D} {v : V} {q : Key} (h : RepV T H m d v) (e : keyD' d = some q) : v = kV q := by
  cases d with
  | int i => cases e; exact h
  | str x => cases e; exact h
  | _ => cases e
theorem valV_mem {kvs : List (Key × V)} {q : Key} : (valV kvs q).isSome = (kvs.map (·.1)).any fun k => decide (k = q) := by
  rw [← valV_any, List.any_map]; rfl
/-- a key in a dict -/
theorem inDk_ok (hu : X.A.units + 65 < cLine) {pins : List (Addr × Obj)} {s : Shared} {σ : L2.St} {H : Hp} {x : V} {v u : Value} {Q : VK} {a : Addr} {kvs : List (Key × V)} {q : Key} (neg : Bool) (I : Inv X pins σ H s) (rx : L2.RelV x v) (ry : L2.RelV (.ref a) u)
    (hx : x = kV q) (hy : H a = some (.dK kvs)) (hq : Q (.bl (if neg = true then !((kvs.map (·.1)).any fun k => decide (k = q)) else ((kvs.map (·.1)).any fun k => decide (k = q)))) H) : wpAny (model X.prog X.w) X.A (compareOp (if neg = true then .NotIn else .In) v u) (EP X pins σ Q) X.xe s := by
  subst hx
  obtain rfl : u = Value.ref a := ry
  have g : DGet H a (kV q) (valV kvs q) := .k hy
  cases neg with
  | true => exact d_notIn (by omega) I g rx fun s' I' => ⟨.bl _, H, I', rfl, by rw [valV_mem]; exact hq⟩
  | false => exact d_in (by omega) I g rx fun s' I' => ⟨.bl _, H, I', rfl, by rw [valV_mem]; exact hq⟩
theorem in_ok (hS : Same X T) (hu : X.A.units + 65 < cLine) (neg : Bool) : OpR X (compareOp (if neg = true then .NotIn else .In)) (r2 T fun d e S => (lift (if neg = true then (inD d e S).map (!·) else inD d e S) S).bind fun b S => .ok (.bl b) S) := by
  have hK := hS.K
  intro pins s σ H x y v u Q I rx ry h
  obtain ⟨d, e, S, m, hd, he, R, h⟩ := h
  obtain ⟨z, ez, h⟩ := lift_ok h.bind
  have h := h H m .refl R
  obtain ⟨z', e1, e2⟩ : ∃ z', inD d e S = some z' ∧ z = if neg = true then !z' else z' := by
    cases neg with
    | true =>
      obtain ⟨z', q1, q2⟩ := Option.map_eq_some_iff.mp ez
      exact ⟨z', q1, q2.symm⟩
    | false => exact ⟨z, ez, rfl⟩
  have flat : ∀ xs, inD.inL d xs S = some z' → (∀ ps, toPys xs = some ps → Dp X.K H y (.tuple ps) ∨ Dp X.K H y (.list ps)) → wpAny (model X.prog X.w) X.A (compareOp (if neg = true then .NotIn else .In) v u) (EP X pins σ Q) X.xe s := by
    intro xs e3 hy
    unfold inD.inL at e3
    split at e3
    · rename_i p ps q1 q2
      split at e3
      · rename_i hs
        cases e3
        obtain ⟨s1, s2⟩ := Bool.and_eq_true_iff.mp hs
        refine inT_ok hu neg I rx ry (dp_ofS hK R hd q1) (hy ps q2) s1 s2 ?_
        subst e2
        exact Ok.here R h rfl
      · cases e3
    · cases e3
  cases e with
  | obj n =>
    have he0 := he
    obtain ⟨a, rfl, h1⟩ := he
    obtain ⟨o, ho, q⟩ := R.there h1
    simp only [inD, ho] at e1
    cases o with
    | lst xs => exact flat xs e1 fun ps q2 => .inr (dp_ofS hK R he0 (by simp [pyOf, ho, q2]))
    | dk ks ds =>
      obtain ⟨q', e3, rfl⟩ := Option.map_eq_some_iff.mp e1
      obtain ⟨kvs, k1, k2, _⟩ := q
      subst e2 k2
      exact inDk_ok hu neg I rx ry (keyD'_ok hd e3) k1 (Ok.here R h rfl)
    | dn ks ds =>
      simp only at e1
      split at e1
      · rename_i ok
        cases e1
        obtain ⟨xs, vs, k1, k2, _⟩ := q
        subst e2
        obtain rfl : u = Value.ref a := ry
        exact dn_in hS.P.symm hS.w.symm hK hu neg I k1 k2 hd rx ok (Ok.here R h rfl)
      · cases e1
    | sn b ks =>
      simp only at e1
      split at e1
      · rename_i ok
        cases e1
        obtain ⟨ks', L, k1, k2⟩ := q
        subst e2
        obtain rfl : u = Value.ref a := ry
        exact sn_in hS.P.symm hS.w.symm hK hu neg I k1 k2 hd rx ok (Ok.here R h rfl)
      · cases e1
    | sk ks =>
      obtain ⟨q', e3, rfl⟩ := Option.map_eq_some_iff.mp e1
      have hx := keyD'_ok hd e3
      have q : H a = some (SetK T.P T.w a (memK ks) ks.length) := q
      rw [← hS.P, ← hS.w] at q
      subst e2
      cases neg with
      | true => exact or_snotinK pins s σ H x (.ref a) v u Q I rx ry ⟨q', a, _, _, hx, rfl, q, Ok.here R h rfl⟩
      | false => exact or_sinK pins s σ H x (.ref a) v u Q I rx ry ⟨q', a, _, _, hx, rfl, q, Ok.here R h rfl⟩
    | _ => cases e1
  | dv ks ds =>
    obtain ⟨q', e3, rfl⟩ := Option.map_eq_some_iff.mp (show (keyD' d).map (fun q => ks.any fun k => decide (k = q)) = some z' from e1)
    obtain ⟨a, kvs, rfl, h1, k2, _⟩ := he
    subst e2 k2
    exact inDk_ok hu neg I rx ry (keyD'_ok hd e3) h1.1 (Ok.here R h rfl)
  | tup xs => exact flat xs e1 fun ps q2 => .inl (dp_of hK _ y _ he (by simp [toPy, q2]))
  | lv xs => exact flat xs e1 fun ps q2 => .inr (dp_of hK _ y _ he (by simp [toPy, q2]))
  | _ => cases e1
theorem cmpI_ok {op : CmpOp} {f : Int → Int → Bool} {g : D → D → Option Bool} (rule : OpR X (compareOp op) (rI0 fun i j => .bl (f i j))) (hg : ∀ d e b, g d e = some b → ∃ i j, d = .int i ∧ e = .int j ∧ b = f i j) :
    OpR X (compareOp op) (r2 T fun d e S => (lift (g d e) S).bind fun b S => .ok (.bl b) S) := by
  intro pins s σ H x y v u Q I rx ry h
  obtain ⟨d, e, S, m, hd, he, R, h⟩ := h
  obtain ⟨z, ez, h⟩ := lift_ok h.bind
  have h := h H m .refl R
  obtain ⟨i, j, rfl, rfl, rfl⟩ := hg d e z ez
  rw [show x = .int _ from hd] at rx
  rw [show y = .int _ from he] at ry
  exact rule pins s σ H _ _ v u Q I rx ry ⟨_, _, rfl, rfl, Ok.here R h rfl⟩
theorem RepV.isN {H : Hp} {m : List Addr} {d : D} {v : V} (h : RepV T H m d v) : decide (v = .non) = decide (d = .non) := by
  cases d with
  | non => rw [show v = .non from h]; simp
  | bl b => rw [show v = .bl b from h]; simp
  | int b => rw [show v = .int b from h]; simp
  | str b => rw [show v = .str b from h]; simp
  | fn b => rw [show v = .ref _ from h]; simp
  | scr _ => obtain ⟨a, rfl, _⟩ := h; simp
  | tup _ => obtain ⟨a, _, rfl, _⟩ := h; simp
  | lv _ => obtain ⟨a, _, rfl, _⟩ := h; simp
  | dv _ _ => obtain ⟨a, _, rfl, _⟩ := h; simp
  | iv _ _ _ => obtain ⟨a, _, _, rfl, _⟩ := h; simp
  | obj _ => obtain ⟨a, rfl, _⟩ := h; simp
theorem cmp_ok (hS : Same X T) (hu : X.A.units + 65 < cLine) (o : Cp) : OpR X (compareOp o.py) (r2 T fun d e S => (lift (cmpD o d e S) S).bind fun b S => .ok (.bl b) S) := by
  cases o with
  | eq => exact eq_ok hS.K (by omega)
  | ne => exact ne_ok hS.K (by omega)
  | lt =>
    refine cmpI_ok (g := fun d e => cmpD .lt d e []) op_lt fun d e b h => ?_
    simp only [cmpD] at h
    split at h
    · cases h; exact ⟨_, _, rfl, rfl, rfl⟩
    · cases h
  | le =>
    refine cmpI_ok (g := fun d e => cmpD .le d e []) op_le fun d e b h => ?_
    simp only [cmpD] at h
    split at h
    · cases h; exact ⟨_, _, rfl, rfl, rfl⟩
    · cases h
  | gt =>
    refine cmpI_ok (g := fun d e => cmpD .gt d e []) op_gt fun d e b h => ?_
    simp only [cmpD] at h
    split at h
    · cases h; exact ⟨_, _, rfl, rfl, rfl⟩
    · cases h
  | ge =>
    refine cmpI_ok (g := fun d e => cmpD .ge d e []) op_ge fun d e b h => ?_
    simp only [cmpD] at h
    split at h
    · cases h; exact ⟨_, _, rfl, rfl, rfl⟩
    · cases h
  | is_ =>
    intro pins s σ H x y v u Q I rx ry h
    obtain ⟨d, e, S, m, hd, he, R, h⟩ := h
    obtain ⟨z, ez, h⟩ := lift_ok h.bind
    have h := h H m .refl R
    simp only [cmpD] at ez
    unfold isD at ez
    split at ez
    · cases ez
      refine op_isN pins s σ H x y v u Q I rx ry ⟨he, ?_⟩
      rw [hd.isN]
      exact Ok.here R h rfl
    · split at ez
      · cases ez
        exact op_isBl pins s σ H x y v u Q I rx ry ⟨_, _, hd, he, Ok.here R h rfl⟩
      · cases ez
    · cases ez
  | isn =>
    intro pins s σ H x y v u Q I rx ry h
    obtain ⟨d, e, S, m, hd, he, R, h⟩ := h
    obtain ⟨z, ez, h⟩ := lift_ok h.bind
    have h := h H m .refl R
    obtain ⟨z0, ez2, rfl⟩ := Option.map_eq_some_iff.mp (show (isD d e).map (!·) = some z from ez)
    unfold isD at ez2
    split at ez2
    · cases ez2
      refine op_notN pins s σ H x y v u Q I rx ry ⟨he, ?_⟩
      rw [hd.isN]
      exact Ok.here R h rfl
    · split at ez2
      · cases ez2
        exact op_notBl pins s σ H x y v u Q I rx ry ⟨_, _, hd, he, Ok.here R h rfl⟩
      · cases ez2
    · cases ez2
  | in_ => exact in_ok hS hu false
  | nin => exact in_ok hS hu true
end

/-! ### items, slices -/
section
variable {X : Cx} {T : Tb}
theorem seq_cases {d : D} {S : Sx} {xs : List D} (e : seqOf d S = some xs) : d = .tup xs ∨ lstOf d S = some xs := by
  cases d with
  | tup ds =>
    cases e
    exact .inl rfl
  | lv ds => exact .inr e
  | obj n => exact .inr e
  | _ => cases e
theorem ix_ok (hK : X.K = T.K) : IxR X (r2 T fun d e S => lift (ixD d e S) S) := by
  intro value slice pins s σ H x y v u Q I rx ry h0 hs
  obtain ⟨d, e, S, m, hd, he, R, h1⟩ := h0
  obtain ⟨z, ez, h⟩ := lift_ok h1
  clear h1
  unfold ixD at ez
  split at ez
  · rename_i i
    split at ez
    · rename_i zs
      split at ez
      · rename_i hz
        obtain ⟨c, e1, rfl⟩ := Option.map_eq_some_iff.mp ez
        exact ix_str value slice pins s σ H x y v u Q I rx ry ⟨zs, i, c, hd, he, hz, e1, h.here R rfl⟩ hs
      · cases ez
    · obtain ⟨xs, e1, e2⟩ := Option.bind_eq_some_iff.mp ez
      obtain ⟨a, vs, rfl, k1, k2⟩ := hd.seq hK R e1
      obtain ⟨w, k3, k4⟩ := k2.at_ e2
      rcases k1 with k1 | k1
      · exact ix_list value slice pins s σ H _ y v u Q I rx ry ⟨a, vs, i, w, rfl, he, k1, k3, h.here R k4⟩ hs
      · exact ix_tup value slice pins s σ H _ y v u Q I rx ry ⟨a, vs, i, w, rfl, he, k1, k3, h.here R k4⟩ hs
  · cases ez
theorem cut_rep {H : Hp} {m : List Addr} {xs : List D} {vs : List V} (h : RepL T H m xs vs) (lo hi : Option Int) : RepL T H m (cutD xs lo hi) (cutV vs lo hi) := by
  unfold cutD cutV
  rw [h.len]
  exact (h.drop _).take _
/-- a slice of a tuple, a list -/
def rS (T : Tb) (g : D → Option Int → Option Int → Sx → R D) : V → Option Int → Option Int → Hp → VK → Prop := fun x lo hi H Q => ∃ d S m, RepV T H m d x ∧ RelH T H m S ∧ Ok T (fun _ _ _ => False) H m (PV T Q) (g d lo hi S)
theorem slc_ok (hK : X.K = T.K) : SlR X (rS T fun d lo hi S => lift (slcD d lo hi S) S) := by
  intro pins s σ H x v vl vu lo hi sl Q I rx hs pl pu h0
  obtain ⟨d, S, m, hd, R, h1⟩ := h0
  obtain ⟨z, ez, h⟩ := lift_ok h1
  clear h1
  have lists : ∀ xs, lstOf d S = some xs → z = .lv (cutD xs lo hi) → rSlL X.K x lo hi H Q := by
    intro xs e1 e2
    subst e2
    obtain ⟨a, vs, rfl, h1, h2⟩ := hd.lst R e1
    refine ⟨a, vs, rfl, .inl (.inl h1), fun p hp => ?_⟩
    exact h _ m (later_new hp) (R.aside hp) _ ⟨p, _, rfl, ⟨upd_same, R.new hp, R.fresh hp⟩, RepL.mono (later_new hp) _ _ (cut_rep h2 lo hi)⟩
  unfold slcD at ez
  split at ez
  · rename_i xs
    cases ez
    obtain ⟨a, vs, rfl, h1, h2⟩ := hd
    refine sl_tupA pins s σ H _ v vl vu lo hi sl Q I rx hs pl pu ⟨a, vs, rfl, h1.sq hK, fun e => ?_, fun _ p hp => h.tup R hp (cut_rep h2 lo hi)⟩
    have e2 : cutD xs lo hi = xs := by
      unfold cutD
      rw [h2.len, e.1, e.2, List.drop_zero, Nat.sub_zero, ← h2.len, List.take_length]
    rw [e2] at h
    exact h.here R ⟨a, vs, rfl, h1, h2⟩
  · obtain ⟨xs, e1, e2⟩ := Option.map_eq_some_iff.mp ez
    exact sl_list pins s σ H x v vl vu lo hi sl Q I rx hs pl pu (lists xs e1 e2.symm)
end

/-! ### calls of built-ins -/
section
variable {X : Cx} {T : Tb}
def g1 (f : D → Sx → R D) : List D → Sx → R D := fun ds S => match ds with
  | [d] => f d S
  | _ => .bad
def g2 (f : D → D → Sx → R D) : List D → Sx → R D := fun ds S => match ds with
  | [d, e] => f d e S
  | _ => .bad
theorem rL1 {f : D → Sx → R D} {xs : List V} {H : Hp} {Q : VK} (h : rL T (g1 f) xs H Q) : ∃ x, xs = [x] ∧ r1 T f x H Q := by
  obtain ⟨ds, S, m, hd, R, h⟩ := h
  match ds, hd, h with
  | [d], ⟨v, r, e, h1, h2⟩, h =>
    rw [show r = [] from h2] at e
    exact ⟨v, e, d, S, m, h1, R, h⟩
theorem rL2 {f : D → D → Sx → R D} {xs : List V} {H : Hp} {Q : VK} (h : rL T (g2 f) xs H Q) : ∃ x y, xs = [x, y] ∧ r2 T f x y H Q := by
  obtain ⟨ds, S, m, hd, R, h⟩ := h
  match ds, hd, h with
  | [d, e], ⟨v, r, e1, h1, u, r', e2, h2, h3⟩, h =>
    rw [show r' = [] from h3] at e2
    rw [e2] at e1
    exact ⟨v, u, e1, d, e, S, m, h1, h2, R, h⟩
theorem len_ok (hK : X.K = T.K) : CallR X (.builtin "len") (rL T (g1 (b1D .len))) := by
  intro pins s σ H xs us Q I rx h0
  obtain ⟨x, rfl, d, S, m, hd, R, h⟩ := rL1 h0
  clear h0
  simp only [b1D] at h
  split at h
  · rename_i z
    split at h
    · rename_i hz
      rw [show x = .str z from hd] at rx
      exact call_len_str pins s σ H _ us Q I rx ⟨z, rfl, hz, h.here R rfl⟩
    · exact h.elim
  · split at h
    · rename_i ys e1
      obtain ⟨a, vs, rfl, h1, h2⟩ := hd.seq hK R e1
      refine call_len_seq pins s σ H _ us Q I rx ⟨a, vs, rfl, h1, ?_⟩
      rw [← h2.len]
      exact h.here R rfl
    · exact h.elim
theorem tuple_ok (hK : X.K = T.K) : CallR X (.type "tuple") (rL T (g1 (b1D .tuple))) := by
  intro pins s σ H xs us Q I rx h0
  obtain ⟨x, rfl, d, S, m, hd, R, h⟩ := rL1 h0
  clear h0
  simp only [b1D] at h
  split at h
  · rename_i ys e1
    rcases seq_cases e1 with rfl | e2
    · obtain ⟨a, vs, rfl, h1, h2⟩ := hd
      exact call_tuple_of pins s σ H _ us Q I rx ⟨a, vs, rfl, .inr ⟨h1.sq hK, h.here R ⟨a, vs, rfl, h1, h2⟩⟩⟩
    · obtain ⟨a, vs, rfl, h1, h2⟩ := hd.lst R e2
      exact call_tuple_of pins s σ H _ us Q I rx ⟨a, vs, rfl, .inl ⟨.inl (.inl h1), fun p hp => h.tup R hp h2⟩⟩
  · exact h.elim
theorem list_ok (hK : X.K = T.K) (tr : Bool) : CallR X (.type "list") (rL T (g1 (b1D (.list tr)))) := by
  intro pins s σ H xs us Q I rx h0
  obtain ⟨x, rfl, d, S, m, hd, R, h⟩ := rL1 h0
  clear h0
  simp only [b1D] at h
  split at h
  · rename_i ys
    obtain ⟨a, rfl, h1⟩ := hd
    exact call_list_of pins s σ H _ us Q I rx ⟨a, _, rfl, .inl (h1.sq hK), fun p hp => h.lst R hp (RepL.of_ints ys)⟩
  · split at h
    · rename_i ys e1
      obtain ⟨a, vs, rfl, h1, h2⟩ := hd.seq hK R e1
      exact call_list_of pins s σ H _ us Q I rx ⟨a, vs, rfl, h1, fun p hp => h.lst R hp h2⟩
    · exact h.elim
end
end TK
end
section
set_option autoImplicit false
set_option linter.all false
set_option maxRecDepth 100000
namespace TK
open PySem L2 PySem.Spec PyProof.Rows

section
variable {X : Cx} {T : Tb} {W : WX} {a b c o i : Expr} {fa fb fc : Vs → Sx → R D} {ta tb tc : Vs → Sx → R Bool} {pos apos : Pos}

/-! ### more built-ins -/
theorem int_ok : CallR X (.type "int") (rL T (g1 (b1D .int))) := by
  intro pins s σ H xs us Q I rx h0
  obtain ⟨x, rfl, d, S, m, hd, R, h⟩ := rL1 h0
  clear h0
  simp only [b1D] at h
  split at h
  · exact call_int1 pins s σ H _ us Q I rx (.inl ⟨_, by rw [show x = .int _ from hd], h.here R rfl⟩)
  · exact call_int1 pins s σ H _ us Q I rx (.inr ⟨_, by rw [show x = .bl _ from hd], h.here R rfl⟩)
  · split at h
    · rename_i n e
      split at h
      · exact call_int_str pins s σ H _ us Q I rx ⟨_, n, by rw [show x = .str _ from hd], e, by assumption, h.here R rfl⟩
      · exact h.elim
    · exact h.elim
  · exact h.elim
theorem str_ok : CallR X (.type "str") (rL T (g1 (b1D .str))) := by
  intro pins s σ H xs us Q I rx h0
  obtain ⟨x, rfl, d, S, m, hd, R, h⟩ := rL1 h0
  clear h0
  simp only [b1D] at h
  split at h
  · split at h
    · exact call_str_int pins s σ H _ us Q I rx ⟨_, by rw [show x = .int _ from hd], by assumption, h.here R rfl⟩
    · exact h.elim
  · exact h.elim
theorem max_ok (hc : X.calm = true) : CallR X (.builtin "max") (rL T (g2 fun d e S => lift (mmD true d e) S)) := by
  intro pins s σ H xs us Q I rx h0
  obtain ⟨x, y, rfl, d, e, S, m, hd, he, R, h1⟩ := rL2 h0
  clear h0
  obtain ⟨z, ez, h⟩ := lift_ok h1
  clear h1
  unfold mmD at ez
  split at ez
  · cases ez
    exact call_max2 hc pins s σ H _ us Q I rx ⟨_, _, by rw [show x = .int _ from hd, show y = .int _ from he], h.here R rfl⟩
  · cases ez
theorem min_ok (hc : X.calm = true) : CallR X (.builtin "min") (rL T (g2 fun d e S => lift (mmD false d e) S)) := by
  intro pins s σ H xs us Q I rx h0
  obtain ⟨x, y, rfl, d, e, S, m, hd, he, R, h1⟩ := rL2 h0
  clear h0
  obtain ⟨z, ez, h⟩ := lift_ok h1
  clear h1
  unfold mmD at ez
  split at ez
  · cases ez
    exact call_min2 hc pins s σ H _ us Q I rx ⟨_, _, by rw [show x = .int _ from hd, show y = .int _ from he], h.here R rfl⟩
  · cases ez
theorem tyN_ok (hK : X.K = T.K) {H : Hp} {m : List Addr} {S : Sx} (R : RelH T H m S) {d : D} {v : V} {n : String} (h : RepV T H m d v) (e : tyN d S = some n) : TyX X.K H v (.type n) := by
  cases d with
  | non => cases e; rw [show v = .non from h]; exact .base .non
  | bl b => cases e; rw [show v = .bl b from h]; exact .base (.bl b)
  | int i => cases e; rw [show v = .int i from h]; exact .base (.int i)
  | str x => cases e; rw [show v = .str x from h]; exact .base (.str x)
  | tup ds =>
    cases e
    obtain ⟨a, vs, rfl, h1, _⟩ := h
    rcases h1 with h1 | h1
    · rcases h1.1 with h2 | ⟨ob, h2⟩
      · exact .base (.tup h2)
      · exact .fTuple h2
    · rcases h1 with h1 | ⟨ob, its, n, h2, h3, _⟩
      · rcases h1 with h1 | ⟨_, h1⟩ <;> cases h1
      · rw [hK]
        exact .kTuple h2 h3
  | lv ds =>
    cases e
    obtain ⟨a, vs, rfl, h1, _⟩ := h
    exact .base (.lst h1.1)
  | obj k =>
    obtain ⟨a, rfl, h1⟩ := h
    obtain ⟨ob, ho, q⟩ := R.there h1
    simp only [tyN, ho] at e
    cases ob with
    | lst xs =>
      cases e
      obtain ⟨vs, h2, _⟩ := q
      exact .base (.lst h2)
    | _ => cases e
  | _ => cases e

/-! ### expressions -/
theorem s_bin (hK : X.K = T.K) (op : Op) (ha : PE X a (rdE T W fa)) (hb : PE X b (rdE T W fb)) : PE X (.BinOp a op.py b pos) (rdE T W fun s S => (fa s S).bind fun x S => (fb s S).bind fun y S => lift (opD op x y S) S) :=
  PE_imp (pe_op (op_ok hK op) ha hb) fun σ H Q h => rd_bin (fun d e S => nx_lift _ S) h
theorem s_neg (ha : PE X a (rdE T W fa)) : PE X (.UnaryOp .USub a pos) (rdE T W fun s S => (fa s S).bind fun x S => lift (negD x) S) :=
  PE_imp (pe_un neg_ok ha) fun σ H Q h => rd_un (fun d S => nx_lift _ S) h
theorem s_not (hK : X.K = T.K) (ha : PE X a (rdE T W fa)) : PE X (.UnaryOp .Not a pos) (rdE T W fun s S => (fa s S).bind fun x S => (lift (truD x S) S).bind fun b S => .ok (.bl (!b)) S) :=
  PE_imp (pe_notT ha) fun σ H Q ⟨s, S, m, hs, hS, h⟩ => ⟨s, S, m, hs, hS, h.bind.mono fun d S1 H1 m1 L1 R1 q v rv => by
    obtain ⟨k, ek, q⟩ := lift_ok q.bind
    exact ⟨k, truD_ok hK R1 rv ek, (q H1 m1 .refl R1).here R1 rfl⟩⟩
theorem s_notT (ha : PT X a (rdT T W ta)) : PT X (.UnaryOp .Not a pos) (rdT T W fun s S => (ta s S).bind fun b S => .ok (!b) S) :=
  PT_imp (pt_not ha) fun σ H Q ⟨s, S, m, hs, hS, h⟩ => ⟨s, S, m, hs, hS, h.bind.mono fun d S1 H1 m1 L1 R1 q => q H1 m1 .refl R1⟩
/-- a test of any value -/
theorem s_truth (hK : X.K = T.K) (ha : PE X a (rdE T W fa)) (he : ∀ whole, isTrue a X.env whole = (do let v ← whole; standAt a.pos; holding [v] (truthy v))) : PT X a (rdT T W (tstOf fa)) :=
  PT_imp (pt_truth ha he) fun σ H Q ⟨s, S, m, hs, hS, h⟩ => ⟨s, S, m, hs, hS, h.bind.mono fun d S1 H1 m1 L1 R1 q v rv => by
    obtain ⟨k, ek, q⟩ := lift_ok q
    exact ⟨k, truD_ok hK R1 rv ek, q H1 m1 .refl R1⟩⟩
/-- a test of a comparison, by its value -/
theorem s_tst {t : Vs → Sx → R Bool} {e : Expr} {u : TE} (hu : PT X e (tTest u)) (w : ∀ σ H Q, rdE T W (fun s S => (t s S).bind fun b S => .ok (.bl b) S) σ H Q → u σ H Q) : PT X e (rdT T W t) :=
  PT_imp hu fun σ H Q ⟨s, S, m, hs, hS, h⟩ => w σ H _ ⟨s, S, m, hs, hS, by
    show Ok T _ H m _ ((t s S).bind _)
    cases e : t s S with
    | ok k S1 =>
      rw [e] at h
      rw [R.bind_ok]
      intro H1 m1 L1 R1 v rv
      exact ⟨k, rv, h H1 m1 L1 R1⟩
    | exc c v S1 =>
      rw [e] at h
      exact h
    | bad =>
      rw [e] at h
      exact h.elim⟩
theorem bind_assoc {x y z : Type} (r : R x) (f : x → Sx → R y) (g : y → Sx → R z) : (r.bind f).bind g = r.bind fun a S => (f a S).bind g := by
  cases r <;> rfl
theorem rd_cmp {op : Cp} {σ : L2.St} {H : Hp} {Q : VK} (h : rdE T W (fun s S => ((fa s S).bind fun x S => (fb s S).bind fun y S => lift (cmpD op x y S) S).bind fun b S => .ok (.bl b) S) σ H Q) :
    tOp (r2 T fun d e S => (lift (cmpD op d e S) S).bind fun b S => .ok (.bl b) S) (rdE T W fa) (rdE T W fb) σ H Q := by
  refine rd_bin (fun d e S c v S' q => ?_) ?_
  · cases z : cmpD op d e S with
    | none => rw [z] at q; cases q
    | some k => rw [z] at q; cases q
  · simp only [bind_assoc] at h
    exact h
theorem s_cmp (hS : Same X T) (hu : X.A.units + 65 < cLine) (op : Cp) (hm : behindInMarks op.py b = false) (ha : PE X a (rdE T W fa)) (hb : PE X b (rdE T W fb)) :
    PE X (.Compare a [op.py] [b] pos) (rdE T W (mkB fun s S => (fa s S).bind fun x S => (fb s S).bind fun y S => lift (cmpD op x y S) S).val) ∧
    PT X (.Compare a [op.py] [b] pos) (rdT T W (mkB fun s S => (fa s S).bind fun x S => (fb s S).bind fun y S => lift (cmpD op x y S) S).tst) :=
  ⟨PE_imp (pe_cmpR (cmp_ok hS hu op) ha hb hm) fun σ H Q h => rd_cmp h, s_tst (pt_cmpR (cmp_ok hS hu op) ha hb hm) fun σ H Q h => rd_cmp h⟩
theorem rd_chain {op op' : Cp} {σ : L2.St} {H : Hp} {Q : VK} (h : rdE T W (fun s S => ((fa s S).bind fun x S => (fb s S).bind fun y S => (lift (cmpD op x y S) S).bind fun t S => if t = true then (fc s S).bind fun z S => lift (cmpD op' y z S) S else .ok false S).bind fun b S => .ok (.bl b) S) σ H Q) :
    tChain (r2 T fun d e S => (lift (cmpD op d e S) S).bind fun b S => .ok (.bl b) S) (r2 T fun d e S => (lift (cmpD op' d e S) S).bind fun b S => .ok (.bl b) S) (rdE T W fa) (rdE T W fb) (rdE T W fc) σ H Q := by
  obtain ⟨s, S, m, hs, hS, h⟩ := h
  simp only [bind_assoc] at h
  refine ⟨s, S, m, hs, hS, h.bind.mono fun d S1 H1 m1 L1 R1 q v rv => ?_⟩
  refine ⟨s, S1, m1, hs.mono L1, R1, q.bind.mono fun e S2 H2 m2 L2 R2 q2 u ru => ?_⟩
  obtain ⟨k, ek, q3⟩ := lift_ok q2.bind
  refine ⟨d, e, S2, m2, RepV.mono L2 d v rv, ru, R2, ?_⟩
  show Ok T _ H2 m2 _ ((lift (cmpD op d e S2) S2).bind _)
  rw [ek, lift_some, R.bind_ok]
  intro H3 m3 L3 R3 z rz
  refine ⟨k, rz, ?_⟩
  have q4 := q3 H3 m3 L3 R3
  cases k with
  | false => exact q4.here R3 rfl
  | true =>
    rw [if_pos rfl, bind_assoc] at q4
    refine ⟨s, S2, m3, ((hs.mono L1).mono L2).mono L3, R3, q4.bind.mono fun g S4 H4 m4 L4 R4 q5 y ry => ?_⟩
    refine ⟨e, g, S4, m4, RepV.mono L4 e u (RepV.mono L3 e u ru), ry, R4, q5.wish ?_⟩
    intro c v S' q
    cases z : cmpD op' e g S4 with
    | none => rw [z] at q; cases q
    | some k => rw [z] at q; cases q
theorem s_chain (hS : Same X T) (hu : X.A.units + 65 < cLine) (op op' : Cp) (hm : lastMarks [op.py, op'.py] [b, c] = false) (ha : PE X a (rdE T W fa)) (hb : PE X b (rdE T W fb)) (hc : PE X c (rdE T W fc)) :
    PE X (.Compare a [op.py, op'.py] [b, c] pos) (rdE T W (mkB fun s S => (fa s S).bind fun x S => (fb s S).bind fun y S => (lift (cmpD op x y S) S).bind fun t S => if t = true then (fc s S).bind fun z S => lift (cmpD op' y z S) S else .ok false S).val) ∧
    PT X (.Compare a [op.py, op'.py] [b, c] pos) (rdT T W (mkB fun s S => (fa s S).bind fun x S => (fb s S).bind fun y S => (lift (cmpD op x y S) S).bind fun t S => if t = true then (fc s S).bind fun z S => lift (cmpD op' y z S) S else .ok false S).tst) :=
  ⟨PE_imp (pe_chain (cmp_ok hS hu op) (cmp_ok hS hu op') ha hb hc hm) fun σ H Q h => rd_chain h, s_tst (pt_chain (cmp_ok hS hu op) (cmp_ok hS hu op') ha hb hc hm) fun σ H Q h => rd_chain h⟩
theorem s_ife (ht : PT X c (rdT T W tc)) (ha : PE X a (rdE T W fa)) (hb : PE X b (rdE T W fb)) : PE X (.IfExp c a b pos) (rdE T W fun s S => (tc s S).bind fun k S => if k = true then fa s S else fb s S) :=
  PE_imp (pe_ifExp ht ha hb) fun σ H Q ⟨s, S, m, hs, hS, h⟩ => ⟨s, S, m, hs, hS, h.bind.mono fun k S1 H1 m1 L1 R1 q => by
    cases k with
    | true => exact ⟨s, S1, m1, hs.mono L1, R1, q⟩
    | false => exact ⟨s, S1, m1, hs.mono L1, R1, q⟩⟩
theorem s_sub (hK : X.K = T.K) (hs : PlainIx b) (ha : PE X a (rdE T W fa)) (hb : PE X b (rdE T W fb)) : PE X (.Subscript a b pos) (rdE T W fun s S => (fa s S).bind fun x S => (fb s S).bind fun y S => lift (ixD x y S) S) :=
  PE_imp (pe_ix (ix_ok hK) ha hb hs) fun σ H Q h => rd_bin (fun d e S => nx_lift _ S) h
theorem s_dget (hS : Same X T) (hu : X.A.units + 65 < cLine) (ha : PE X a (rdE T W fa)) (hb : PE X b (rdE T W fb)) (hn : NoSl b) :
    PE X (.Subscript a b pos) (rdE T W fun s S => (fa s S).bind fun x S => (fb s S).bind fun y S => lift (dgetD x y S) S) := by
  refine PE_imp (pe_getN hS hu ha hb hn) fun σ H Q h => ?_
  obtain ⟨s, S, m, hs, hS, h⟩ := h
  refine ⟨s, S, m, hs, hS, h.bind.mono fun d S1 H1 m1 L1 R1 q v rv => ?_⟩
  refine ⟨s, S1, m1, hs.mono L1, R1, q.bind.mono fun e S2 H2 m2 L2 R2 q2 u ru => ?_⟩
  obtain ⟨z, ez, q3⟩ := lift_ok q2
  have rv2 := RepV.mono L2 d v rv
  unfold dgetD at ez
  split at ez
  · rename_i ks xs
    obtain ⟨k, e1, e2⟩ := Option.bind_eq_some_iff.mp ez
    obtain ⟨ad, kvs, rfl, h1, h2, h3⟩ := rv2
    obtain ⟨w', h4, h5⟩ := valV_look h2 h3 e2
    exact ⟨ad, rfl, .inl ⟨w', .inl ⟨kvs, k, .inl h1.1, keyD_ok ru e1, h4.symm⟩, q3.here R2 h5⟩⟩
  · rename_i n
    obtain ⟨ad, rfl, h1⟩ := rv2
    obtain ⟨ob, ho, hq⟩ := R2.there h1
    rw [ho] at ez
    cases ob with
    | dk ks xs =>
      obtain ⟨k, e1, e2⟩ := Option.bind_eq_some_iff.mp ez
      obtain ⟨kvs, h1, h2, h3⟩ := hq
      obtain ⟨w', h4, h5⟩ := valV_look h2 h3 e2
      exact ⟨ad, rfl, .inl ⟨w', .inl ⟨kvs, k, .inl h1, keyD_ok ru e1, h4.symm⟩, q3.here R2 h5⟩⟩
    | dn ks ds =>
      simp only at ez
      split at ez
      · rename_i ok
        obtain ⟨xs, vs, k1, k2, k3⟩ := hq
        exact ⟨ad, rfl, .inr ⟨m2, ks, ds, xs, vs, e, z, k1, k2, k3, ru, ok, ez, fun v' rv' => q3.here R2 rv'⟩⟩
      · cases ez
    | _ => cases ez
  · cases ez
end
end TK
end
section
set_option autoImplicit false
set_option linter.all false
set_option maxRecDepth 100000
namespace TK
open PySem L2 PySem.Spec PyProof.Rows

section
variable {X : Cx} {T : Tb} {W : WX} {a b c o i : Expr} {as : List Expr} {fa fb fc : Vs → Sx → R D} {fs : Vs → Sx → R (List D)} {ta tb tc : Vs → Sx → R Bool} {pos apos p : Pos}
def notStar : Expr → Bool
  | .Starred _ _ => false
  | _ => true
theorem star_cons {e : Expr} (h : notStar e = true) (es : List Expr) (env : Env) : starEach (e :: es) env = (false, eval e env) :: starEach es env := by
  cases e <;> first | rfl | cases h

/-! ### slices -/
def rdO (T : Tb) (W : WX) (f : Vs → Sx → R (Option Int)) : TO := fun σ H Q => ∃ s S m, RelV T H m s σ ∧ RelH T H m S ∧ Ok T (fun c d H' => W c d σ H') H m (fun l _ H' _ => Q l H') (f s S)
theorem PO_imp {e : Option Expr} {t t' : TO} (h : PO X e t) (w : ∀ σ H Q, t' σ H Q → t σ H Q) : PO X e t' := ⟨fun pins s σ H Q I q => h.run pins s σ H Q I (w σ H Q q)⟩
theorem s_po_none : PO X none (rdO T W fun _ S => .ok none S) := PO_imp po_none fun σ H Q ⟨s, S, m, hs, hS, h⟩ => h H m .refl hS
theorem s_po_some (ha : PE X a (rdE T W fa)) : PO X (some a) (rdO T W fun s S => (fa s S).bind fun d S => (lift (intD d) S).bind fun i S => .ok (some i) S) := PO_imp (po_some ha) fun σ H Q ⟨s, S, m, hs, hS, h⟩ =>
  ⟨s, S, m, hs, hS, h.bind.mono fun d S1 H1 m1 L1 R1 q v rv => by
    obtain ⟨l, e, q2⟩ := lift_ok q.bind
    cases d with
    | int j => cases e; exact ⟨_, rv, q2 H1 m1 .refl R1 H1 m1 .refl R1⟩
    | _ => cases e⟩
theorem s_slc {lo hi : Option Expr} {fl fh : Vs → Sx → R (Option Int)} {p2 : Pos} (hK : X.K = T.K) (ha : PE X a (rdE T W fa)) (hl : PO X lo (rdO T W fl)) (hh : PO X hi (rdO T W fh)) :
    PE X (.Subscript a (.Slice lo hi none p2) pos) (rdE T W fun s S => (fa s S).bind fun x S => (fl s S).bind fun l S => (fh s S).bind fun h S => lift (slcD x l h S) S) := by
  refine PE_imp (pe_slice (slc_ok hK) ha hl hh) fun σ H Q ⟨s, S, m, hs, hS, h⟩ => ?_
  refine ⟨s, S, m, hs, hS, h.bind.mono fun d S1 H1 m1 L1 R1 q v rv => ?_⟩
  refine ⟨s, S1, m1, hs.mono L1, R1, q.bind.mono fun l S2 H2 m2 L2 R2 q2 => ?_⟩
  refine ⟨s, S2, m2, (hs.mono L1).mono L2, R2, q2.bind.mono fun u S3 H3 m3 L3 R3 q3 => ?_⟩
  exact ⟨d, S3, m3, RepV.mono L3 d v (RepV.mono L2 d v rv), R3, q3.wish (nx_lift _ S3)⟩

/-! ### lists of expressions -/
theorem s_pa_nil : PA X [] (rdA T W fun _ S => .ok [] S) := PA_imp pa_nil fun σ H Q ⟨s, S, m, hs, hS, h⟩ => h H m .refl hS [] rfl
theorem s_pa_cons (hst : notStar a = true) (ha : PE X a (rdE T W fa)) (hr : PA X as (rdA T W fs)) : PA X (a :: as) (rdA T W fun s S => (fa s S).bind fun x S => (fs s S).bind fun xs S => .ok (x :: xs) S) :=
  PA_imp (pa_cons ha hr (star_cons hst as X.env)) fun σ H Q ⟨s, S, m, hs, hS, h⟩ => ⟨s, S, m, hs, hS, h.bind.mono fun d S1 H1 m1 L1 R1 q v rv =>
    ⟨s, S1, m1, hs.mono L1, R1, q.bind.mono fun ds S2 H2 m2 L2 R2 q2 vs rvs => q2 H2 m2 .refl R2 (v :: vs) ⟨v, vs, rfl, RepV.mono L2 d v rv, rvs⟩⟩⟩
theorem s_tup {k : Nat} (h : PA X as (rdA T W fs)) : PE X (.Tuple as k pos) (rdE T W fun s S => (fs s S).bind fun xs S => if xs.length ≤ sizeLine then .ok (.tup xs) S else .bad) :=
  PE_imp (pe_tup h) fun σ H Q ⟨s, S, m, hs, hS, h⟩ => ⟨s, S, m, hs, hS, h.bind.mono fun ds S1 H1 m1 L1 R1 q vs rvs => by
    split at q
    · rename_i hz
      exact ⟨by rw [← rvs.len]; exact hz, fun p hp => q.tup R1 hp rvs⟩
    · exact q.elim⟩
theorem s_lst {tr : Bool} (h : PA X as (rdA T W fs)) : PE X (.List as pos) (rdE T W fun s S => (fs s S).bind fun xs S => newL tr xs S) :=
  PE_imp (pe_lst h) fun σ H Q ⟨s, S, m, hs, hS, h⟩ => ⟨s, S, m, hs, hS, h.bind.mono fun ds S1 H1 m1 L1 R1 q vs rvs => ⟨by rw [← rvs.len]; exact newL_len q, fun p hp => q.lst R1 hp rvs⟩⟩
/-! ### and, or -/
theorem s_and1 (ha : PT X a (rdT T W ta)) : PW X (.BoolOp .And [a] pos) (rdT T W fun s S => (ta s S).bind fun b S => if b = true then .ok true S else .ok false S) :=
  PW_imp (pw_and1 ha) fun σ H Q ⟨s, S, m, hs, hS, h⟩ => ⟨s, S, m, hs, hS, h.bind.mono fun k S1 H1 m1 L1 R1 q => by
    cases k with
    | true => exact q H1 m1 .refl R1
    | false => exact q H1 m1 .refl R1⟩
theorem s_or1 (ha : PT X a (rdT T W ta)) : PW X (.BoolOp .Or [a] pos) (rdT T W fun s S => (ta s S).bind fun b S => if b = true then .ok true S else .ok false S) :=
  PW_imp (pw_or1 ha) fun σ H Q ⟨s, S, m, hs, hS, h⟩ => ⟨s, S, m, hs, hS, h.bind.mono fun k S1 H1 m1 L1 R1 q => by
    cases k with
    | true => exact q H1 m1 .refl R1
    | false => exact q H1 m1 .refl R1⟩
theorem s_andT (ha : PT X a (rdT T W ta)) (hb : PW X (.BoolOp .And (b :: as) pos) (rdT T W tb)) : PW X (.BoolOp .And (a :: b :: as) pos) (rdT T W fun s S => (ta s S).bind fun k S => if k = true then tb s S else .ok false S) :=
  PW_imp (pw_and ha hb) fun σ H Q ⟨s, S, m, hs, hS, h⟩ => ⟨s, S, m, hs, hS, h.bind.mono fun k S1 H1 m1 L1 R1 q => by
    cases k with
    | true => exact ⟨s, S1, m1, hs.mono L1, R1, q⟩
    | false => exact q H1 m1 .refl R1⟩
theorem s_orT (ha : PT X a (rdT T W ta)) (hb : PW X (.BoolOp .Or (b :: as) pos) (rdT T W tb)) : PW X (.BoolOp .Or (a :: b :: as) pos) (rdT T W fun s S => (ta s S).bind fun k S => if k = true then .ok true S else tb s S) :=
  PW_imp (pw_or ha hb) fun σ H Q ⟨s, S, m, hs, hS, h⟩ => ⟨s, S, m, hs, hS, h.bind.mono fun k S1 H1 m1 L1 R1 q => by
    cases k with
    | true => exact q H1 m1 .refl R1
    | false => exact ⟨s, S1, m1, hs.mono L1, R1, q⟩⟩
theorem s_andV (hK : X.K = T.K) (ha : PE X a (rdE T W fa)) (hb : PE X (.BoolOp .And (b :: as) pos) (rdE T W fb)) :
    PE X (.BoolOp .And (a :: b :: as) pos) (rdE T W fun s S => (fa s S).bind fun x S => (lift (truD x S) S).bind fun k S => if k = true then fb s S else .ok x S) :=
  PE_imp (pe_andT ha hb) fun σ H Q ⟨s, S, m, hs, hS, h⟩ => ⟨s, S, m, hs, hS, h.bind.mono fun d S1 H1 m1 L1 R1 q v rv => by
    obtain ⟨k, ek, q2⟩ := lift_ok q.bind
    refine ⟨k, truD_ok hK R1 rv ek, ?_⟩
    have q3 := q2 H1 m1 .refl R1
    cases k with
    | true => exact ⟨s, S1, m1, hs.mono L1, R1, q3⟩
    | false => exact q3.here R1 rv⟩
theorem s_orV (hK : X.K = T.K) (ha : PE X a (rdE T W fa)) (hb : PE X (.BoolOp .Or (b :: as) pos) (rdE T W fb)) :
    PE X (.BoolOp .Or (a :: b :: as) pos) (rdE T W fun s S => (fa s S).bind fun x S => (lift (truD x S) S).bind fun k S => if k = true then .ok x S else fb s S) :=
  PE_imp (pe_orT ha hb) fun σ H Q ⟨s, S, m, hs, hS, h⟩ => ⟨s, S, m, hs, hS, h.bind.mono fun d S1 H1 m1 L1 R1 q v rv => by
    obtain ⟨k, ek, q2⟩ := lift_ok q.bind
    refine ⟨k, truD_ok hK R1 rv ek, ?_⟩
    have q3 := q2 H1 m1 .refl R1
    cases k with
    | true => exact q3.here R1 rv
    | false => exact ⟨s, S1, m1, hs.mono L1, R1, q3⟩⟩

/-! ### calls of built-ins -/
theorem rd_call1 {g : D → Sx → R D} (nx : ∀ d S c v S', g d S ≠ .exc c v S') {σ : L2.St} {H : Hp} {Q : VK} (h : rdE T W (fun s S => (fa s S).bind g) σ H Q) : tCB (rL T (g1 g)) (tCons (rdE T W fa) tNil) σ H Q := by
  obtain ⟨s, S, m, hs, hS, h⟩ := h
  exact ⟨s, S, m, hs, hS, h.bind.mono fun d S1 H1 m1 L1 R1 q v rv => ⟨[d], S1, m1, .one rv, R1, q.wish (nx d S1)⟩⟩
theorem rd_call2 {g : D → D → Sx → R D} (nx : ∀ d e S c v S', g d e S ≠ .exc c v S') {σ : L2.St} {H : Hp} {Q : VK} (h : rdE T W (fun s S => (fa s S).bind fun x S => (fb s S).bind fun y S => g x y S) σ H Q) :
    tCB (rL T (g2 g)) (tCons (rdE T W fa) (tCons (rdE T W fb) tNil)) σ H Q := by
  obtain ⟨s, S, m, hs, hS, h⟩ := h
  exact ⟨s, S, m, hs, hS, h.bind.mono fun d S1 H1 m1 L1 R1 q v rv => ⟨s, S1, m1, hs.mono L1, R1, q.bind.mono fun e S2 H2 m2 L2 R2 q2 u ru =>
    ⟨[d, e], S2, m2, ⟨v, [u], rfl, RepV.mono L2 d v rv, .one ru⟩, R2, q2.wish (nx d e S2)⟩⟩⟩
theorem nx_newL (tr : Bool) (xs : List D) (S : Sx) (c : Nat) (v : D) (S' : Sx) : newL tr xs S ≠ .exc c v S' := by
  unfold newL
  intro h
  split at h
  · split at h <;> cases h
  · cases h
theorem nx_b1 (f : B1) (d : D) (S : Sx) (c : Nat) (v : D) (S' : Sx) : b1D f d S ≠ .exc c v S' := by
  intro h
  cases f <;> simp only [b1D] at h <;> (repeat' split at h) <;> first | (cases h; done) | exact nx_newL _ _ _ _ _ _ h
def B1.name : B1 → Str
  | .len => "len"
  | .tuple => "tuple"
  | .list _ => "list"
  | .int => "int"
  | .str => "str"
theorem s_b1 (hK : X.K = T.K) (f : B1) (hst : notStar a = true) (hg : Gl X f.name) (hm : X.mg f.name = none) (ha : PE X a (rdE T W fa)) : PE X (.Call (.Name f.name p) [a] [] pos) (rdE T W fun s S => (fa s S).bind fun x S => b1D f x S) := by
  have pa : PA X [a] (tCons (rdE T W fa) tNil) := pa_cons ha pa_nil (star_cons hst [] X.env)
  have se := star_cons hst [] X.env
  cases f with
  | len => exact PE_imp (pe_callB (len_ok hK) hg hm (by decide +kernel) pa (by decide +kernel) (by decide +kernel) se rfl) fun σ H Q h => rd_call1 (fun d S => nx_b1 .len d S) h
  | tuple => exact PE_imp (pe_callTy (tuple_ok hK) hg hm (by decide +kernel) pa (by decide +kernel) (by decide +kernel) se rfl) fun σ H Q h => rd_call1 (fun d S => nx_b1 .tuple d S) h
  | list tr => exact PE_imp (pe_callTy (list_ok hK tr) (x := "list") hg hm (by decide +kernel) pa (by decide +kernel) (by decide +kernel) se rfl) fun σ H Q h => rd_call1 (fun d S => nx_b1 (.list tr) d S) h
  | int => exact PE_imp (pe_callTy int_ok hg hm (by decide +kernel) pa (by decide +kernel) (by decide +kernel) se rfl) fun σ H Q h => rd_call1 (fun d S => nx_b1 .int d S) h
  | str => exact PE_imp (pe_callTy str_ok hg hm (by decide +kernel) pa (by decide +kernel) (by decide +kernel) se rfl) fun σ H Q h => rd_call1 (fun d S => nx_b1 .str d S) h
def mmN (mx : Bool) : Str := if mx = true then "max" else "min"
theorem s_mm (hc : X.calm = true) (mx : Bool) (hst : notStar a = true) (hst2 : notStar b = true) (hg : Gl X (mmN mx)) (hm : X.mg (mmN mx) = none) (ha : PE X a (rdE T W fa)) (hb : PE X b (rdE T W fb)) :
    PE X (.Call (.Name (mmN mx) p) [a, b] [] pos) (rdE T W fun s S => (fa s S).bind fun x S => (fb s S).bind fun y S => lift (mmD mx x y) S) := by
  have pa : PA X [a, b] (tCons (rdE T W fa) (tCons (rdE T W fb) tNil)) := pa_cons ha (pa_cons hb pa_nil (star_cons hst2 [] X.env)) (star_cons hst [b] X.env)
  have se := star_cons hst [b] X.env
  have hp : (backTo pos (starEach [b] X.env)).any (·.1) = false := by rw [star_cons hst2 [] X.env] <;> rfl
  cases mx with
  | true => exact PE_imp (pe_callB (max_ok hc) hg hm (by decide +kernel) pa (by decide +kernel) (by decide +kernel) se hp) fun σ H Q h => rd_call2 (fun d e S => nx_lift _ S) h
  | false => exact PE_imp (pe_callB (min_ok hc) hg hm (by decide +kernel) pa (by decide +kernel) (by decide +kernel) se hp) fun σ H Q h => rd_call2 (fun d e S => nx_lift _ S) h
theorem s_isi (hK : X.K = T.K) {n : Str} {t : String} {q : Pos} (hst : notStar a = true) (hg : Gl X "isinstance") (hm : X.mg "isinstance" = none) (hg2 : Gl X n) (hm2 : X.mg n = none) (hb : bootBuiltins n = some (.type t)) (hn : n ≠ "__name__") (hd : (n == ("__debug__" : Str)) = false) (ha : PE X a (rdE T W fa)) :
    PE X (.Call (.Name "isinstance" p) [a, .Name n q] [] pos) (rdE T W fun s S => (fa s S).bind fun x S => lift ((isiD t x S).map .bl) S) := by
  have pa := pa_cons ha (pa_cons (pe_bltn (v := .ty t) (pos := q) hg2 hm2 hb rfl hn hd) pa_nil (star_cons (e := .Name n q) rfl [] X.env)) (star_cons hst [.Name n q] X.env)
  refine PE_imp (pe_callB call_isi hg hm (by decide +kernel) pa (by decide +kernel) (by decide +kernel) (star_cons hst [.Name n q] X.env) rfl) fun σ H Q ⟨s, S, m, hs, hS, h⟩ => ?_
  refine ⟨s, S, m, hs, hS, h.bind.mono fun d S1 H1 m1 L1 R1 q v rv => ?_⟩
  obtain ⟨z, ez, q2⟩ := lift_ok q
  obtain ⟨k, ek, rfl⟩ := Option.map_eq_some_iff.mp ez
  obtain ⟨ty, e1, e2⟩ := Option.bind_eq_some_iff.mp ek
  exact ⟨v, .ty t, _, _, k, rfl, .ty t, tyN_ok hK R1 rv e1, kit_ty e2, q2.here R1 rfl⟩
end
end TK
end
section
set_option autoImplicit false
set_option linter.all false
set_option maxRecDepth 100000
namespace TK
open PySem L2 PySem.Spec PyProof.Rows

section
variable {X : Cx} {T : Tb} {W : WX} {a b c o i : Expr} {as : List Expr} {fa fb fc : Vs → Sx → R D} {fs : Vs → Sx → R (List D)} {ta tb tc : Vs → Sx → R Bool} {pos apos p : Pos}
/-- no zero-argument super -/
def notSup : Expr → Bool
  | .Call (.Name id _) [] [] _ => decide (id ≠ "super")
  | _ => true
theorem base_of {e : Expr} {f : Str} {env : PySem.Env} (h : notSup e = true) : attributeBase e f env (eval e env) = eval e env := by
  unfold attributeBase
  split
  · rename_i id p q
    have hid : id ≠ "super" := of_decide_eq_true (by simpa [notSup] using h)
    have : (id != "super") = true := by simpa using hid
    simp [this]
  · rfl

/-! ### fields -/
theorem look_names : ∀ {fs : List (Str × V)} {ns : List Str} {ds : List D} {H : Hp} {m : List Addr} {x : Str} {d : D}, fs.map (·.1) = ns → RepL T H m ds (fs.map (·.2)) → lookN ns ds x = some d → ∃ v, fs.lookup x = some v ∧ RepV T H m d v
  | [], ns, ds, H, m, x, d, e, r, l => by
    subst e
    cases ds <;> cases l
  | (k, v) :: fs, ns, ds, H, m, x, d, e, r, l => by
    subst e
    cases ds with
    | nil => cases l
    | cons d0 ds =>
      obtain ⟨v0, r0, e0, h1, h2⟩ := r
      have e1 : v = v0 := (List.cons.inj e0).1
      have e2 : fs.map (·.2) = r0 := (List.cons.inj e0).2
      subst e1 e2
      simp only [List.map_cons, lookN] at l
      split at l
      · rename_i hk
        cases l
        exact ⟨v, by simp [List.lookup, hk], h1⟩
      · rename_i hk
        obtain ⟨u, h3, h4⟩ := look_names rfl h2 l
        refine ⟨u, ?_, h4⟩
        have : (x == k) = false := beq_eq_false_iff_ne.mpr fun e => hk e.symm
        simp [List.lookup, this, h3]
theorem no_name {fs : List (Str × V)} {x : Str} (h : x ∉ fs.map (·.1)) : fs.lookup x = none := by
  induction fs with
  | nil => rfl
  | cons q fs ih =>
    obtain ⟨k, v⟩ := q
    simp only [List.map_cons, List.mem_cons, not_or] at h
    have : (x == k) = false := beq_eq_false_iff_ne.mpr h.1
    simp only [List.lookup, this]
    exact ih h.2
/-- an instance of class c -/
def insAt (T : Tb) (H : Hp) (c : Nat) (ns : List Str) (xs : List D) (m : List Addr) (v : V) : Prop := ∃ a dx fs, v = .ref a ∧ H a = some (.ins (T.C c) dx fs) ∧ fs.map (·.1) = ns ∧ RepL T H m xs (fs.map (·.2))
theorem RepV.ins {H : Hp} {m : List Addr} {S : Sx} (R : RelH T H m S) {d : D} {v : V} {c : Nat} {ns : List Str} {xs : List D} (h : RepV T H m d v) (e : d = .iv c ns xs ∨ ∃ n, d = .obj n ∧ S[n]? = some (.ins c ns xs)) : insAt T H c ns xs m v := by
  rcases e with rfl | ⟨n, rfl, e⟩
  · obtain ⟨a, dx, fs, rfl, h1, h2, h3⟩ := h
    exact ⟨a, dx, fs, rfl, h1.1, h2, h3⟩
  · obtain ⟨a, rfl, h1⟩ := h
    obtain ⟨dx, fs, h2, h3, h4⟩ := R.obj n a _ h1 e
    exact ⟨a, dx, fs, rfl, h2, h3, h4⟩
theorem fldD_cases {c : Nat} {d : D} {x : Str} {S : Sx} {z : D} (h : fldD c d x S = some z) : ∃ ns xs, (d = .iv c ns xs ∨ ∃ n, d = .obj n ∧ S[n]? = some (.ins c ns xs)) ∧ lookN ns xs x = some z := by
  unfold fldD at h
  split at h
  · split at h
    · rename_i hc
      subst hc
      exact ⟨_, _, .inl rfl, h⟩
    · cases h
  · split at h
    · rename_i e
      split at h
      · rename_i hc
        subst hc
        exact ⟨_, _, .inr ⟨_, rfl, e⟩, h⟩
      · cases h
    · cases h
  · cases h
theorem s_fld {k : Nat} {x : Str} (hK : X.K = T.K) (hc : Cls T.K (T.C k)) (hn : NoAttr T.K (T.C k) x) (hb : notSup a = true) (ha : PE X a (rdE T W fa)) : PE X (.Attribute a x pos) (rdE T W fun s S => (fa s S).bind fun d S => lift (fldD k d x S) S) :=
  PE_imp (pe_fld ha (base_of hb)) fun σ H Q ⟨s, S, m, hs, hS, h⟩ => ⟨s, S, m, hs, hS, h.bind.mono fun d S1 H1 m1 L1 R1 q v rv => by
    obtain ⟨z, ez, q2⟩ := lift_ok q
    obtain ⟨ns, xs, e1, e2⟩ := fldD_cases ez
    obtain ⟨ad, dx, fs, rfl, h1, h2, h3⟩ := rv.ins R1 e1
    obtain ⟨u, h4, h5⟩ := look_names h2 h3 e2
    exact ⟨ad, _, dx, fs, u, rfl, h1, by rw [hK]; exact hc, by rw [hK]; exact hn, h4, q2.here R1 h5⟩⟩

/-! ### calls -/
/-- what a def's call comes to -/
def spOf (T : Tb) (n : Nat) (g : List D → Sx → R D) : Sp := fun vs H Q E => vs.length = n ∧ ∃ ds S m, RepL T H m ds vs ∧ RelH T H m S ∧ Ok T E H m (PV T Q) (g ds S)
theorem nm_of {H H' : Hp} {m m' : List Addr} (L : Later H H' m m') : ∀ a, a ∉ m' → a ∉ m := by
  obtain ⟨r, rfl, hr⟩ := L.pre
  exact fun a h q => h (List.mem_append_left _ q)
theorem RelH.back {H H' : Hp} {m m' : List Addr} {S S' : Sx} (R' : RelH T H' m' S') (L : Later H H' m m') (R : RelH T H m S) (e : S'.take S.length = S) : RelH T H' m S := by
  refine ⟨R.len, R.nd, fun a ha => ⟨(R.hid a ha).1, let ⟨u, e⟩ := (R.hid a ha).2; by
    cases u with
    | tbl ps => exact let ⟨qs, e2⟩ := L.tb a ps e (R.hid a ha).1; ⟨_, e2⟩
    | _ => exact ⟨_, L.fr a _ e (R.hid a ha).1 (fun _ q => nomatch q)⟩⟩, fun P hP => ⟨nm_of L P (R'.tab P hP).1, (R'.tab P hP).2⟩, fun n a o h1 h2 => ?_⟩
  have hn : n < S.length := (List.getElem?_eq_some_iff.mp h2).1
  have h3 : S'[n]? = some o := by
    rw [← e, List.getElem?_take_of_lt hn] at h2
    exact h2
  exact (R.obj n a o h1 h2).back (fun _ _ => L.get) (fun _ _ q => q) (nm_of L) (R'.obj n a o (L.get h1) h3)
theorem later_back {H H' : Hp} {m m' : List Addr} (L : Later H H' m m') : Later H H' m m := ⟨⟨[], by simp, by simp⟩, L.fr, L.tb⟩
theorem new_at {H H' : Hp} {m m' : List Addr} {S : Sx} (R : RelH T H m S) (L : Later H H' m m') {k : Nat} {a : Addr} (h : m'[k]? = some a) (hk : S.length ≤ k) : H a = none ∧ a ∉ m := by
  obtain ⟨r, rfl, hr⟩ := L.pre
  rw [← R.len] at hk
  rw [List.getElem?_append_right hk] at h
  exact hr a (List.mem_of_getElem? h)
theorem wrp_ok {H : Hp} {m : List Addr} {S : Sx} {E : XK} {Q : VK} (Rh : RelH T H m S) (md : Nat) {r : TK.R D} (h : Ok T E H m (PV T Q) (wrp md S r)) : Ok T E H m (PV T Q) r := by
  have value : ∀ d S', S'.take S.length = S → d.pure = true → Ok T E H m (PV T Q) (.ok d S) → Ok T E H m (PV T Q) (.ok d S') := fun d S' e1 e2 h H' m' L R' v rv =>
    h H' m (later_back L) (R'.back L Rh e1) v (RepV.pure (nm_of L) d v e2 rv)
  have excp : ∀ c d S', S'.take S.length = S → d.pure = true → Ok T E H m (PV T Q) (.exc c d S) → Ok T E H m (PV T Q) (.exc c d S') := fun c d S' e1 e2 h H' m' x dd L R' rv q =>
    h H' m x dd (later_back L) (R'.back L Rh e1) (RepV.pure (nm_of L) d x e2 rv) ⟨q.1, nm_of L _ q.2.1, q.2.2⟩
  unfold wrp at h
  split at h
  · exact h
  · split at h
    · rename_i e
      exact value _ _ e.1 e.2 h
    · exact h.elim
  · rename_i k S'
    split at h
    · rename_i e
      split at h
      · rename_i ds es
        split at h
        · rename_i hp
          intro H' m' L R' v rv
          obtain ⟨a, rfl, ha⟩ := rv
          obtain ⟨vs, h1, h2⟩ := R'.obj k a _ ha es
          exact h H' m (later_back L) (R'.back L Rh e.1) _ ⟨a, vs, rfl, ⟨h1, (new_at Rh L ha e.2).2, R'.seen (List.mem_of_getElem? ha)⟩, RepL.pure (nm_of L) ds vs hp h2⟩
        · exact h.elim
      · rename_i ks ds es
        split at h
        · rename_i hp
          intro H' m' L R' v rv
          obtain ⟨a, rfl, ha⟩ := rv
          obtain ⟨vs, h1, h2, h3⟩ := R'.obj k a _ ha es
          exact h H' m (later_back L) (R'.back L Rh e.1) _ ⟨a, vs, rfl, ⟨h1, (new_at Rh L ha e.2).2, R'.seen (List.mem_of_getElem? ha)⟩, h2, RepL.pure (nm_of L) ds _ hp h3⟩
        · exact h.elim
      · rename_i c ns ds es
        split at h
        · rename_i hp
          intro H' m' L R' v rv
          obtain ⟨a, rfl, ha⟩ := rv
          obtain ⟨dx, vs, h1, h2, h3⟩ := R'.obj k a _ ha es
          exact h H' m (later_back L) (R'.back L Rh e.1) _ ⟨a, dx, vs, rfl, ⟨h1, (new_at Rh L ha e.2).2, R'.seen (List.mem_of_getElem? ha)⟩, h2, RepL.pure (nm_of L) ds _ hp h3⟩
        · exact h.elim
      · exact h.elim
    · exact h.elim
  · split at h
    · rename_i e
      exact value _ _ e.1 e.2 h
    · exact h.elim
  · rename_i k S'
    split at h
    · rename_i e
      split at h
      · rename_i o es
        split at h
        · rename_i hp
          intro H' m' L R' v rv
          obtain ⟨a, rfl, ha⟩ := rv
          obtain ⟨ha0, na⟩ := new_at Rh L ha e.2
          have n2 : ∀ b, b ∉ m' → b ∉ m ++ [a] := fun b hb q => by
            rcases List.mem_append.mp q with q | q
            · exact nm_of L b hb q
            · rw [List.mem_singleton.mp q] at hb
              exact hb (List.mem_of_getElem? ha)
          have g3 : ∀ (n : Nat) (b : Addr), m[n]? = some b → (m ++ [a])[n]? = some b := fun n b q => by
            rw [List.getElem?_append_left (List.getElem?_eq_some_iff.mp q).1]
            exact q
          have L2 : Later H H' m (m ++ [a]) := ⟨⟨[a], rfl, fun b hb => by rw [List.mem_singleton.mp hb]; exact ⟨ha0, na⟩⟩, L.fr, L.tb⟩
          have R2 : RelH T H' (m ++ [a]) (S ++ [o]) := by
            refine ⟨by simp [Rh.len], ?_, fun b hb => ⟨fun q => ?_, (R'.hid b hb).2⟩, fun P hP => ⟨fun q => ?_, (R'.tab P hP).2⟩, fun n b u h1 h2 => ?_⟩
            · rw [List.nodup_append]
              exact ⟨Rh.nd, by simp, fun x hx y hy e => na (by rw [List.mem_singleton.mp hy] at e; exact e ▸ hx)⟩
            · rcases List.mem_append.mp q with q | q
              · exact (Rh.hid b hb).1 q
              · exact (R'.hid b hb).1 (by rw [List.mem_singleton.mp q]; exact List.mem_of_getElem? ha)
            · rcases List.mem_append.mp q with q | q
              · exact (Rh.tab P hP).1 q
              · exact (R'.tab P hP).1 (by rw [List.mem_singleton.mp q]; exact List.mem_of_getElem? ha)
            · by_cases hn : n < m.length
              · rw [List.getElem?_append_left hn] at h1
                rw [List.getElem?_append_left (by rw [← Rh.len]; exact hn)] at h2
                have h4 := R'.obj n b u (L.get h1) (by
                  have hn2 : n < S.length := (List.getElem?_eq_some_iff.mp h2).1
                  rw [← e.1, List.getElem?_take_of_lt hn2] at h2
                  exact h2)
                exact (Rh.obj n b u h1 h2).back (fun _ _ => L.get) g3 n2 h4
              · have hn2 : n = m.length := by
                  have := (List.getElem?_eq_some_iff.mp h1).1
                  simp at this
                  omega
                subst hn2
                rw [List.getElem?_append_right (Nat.le_refl _)] at h1
                rw [Rh.len, List.getElem?_append_right (Nat.le_refl _)] at h2
                simp at h1 h2
                subst h1 h2
                exact (R'.obj k _ _ ha es).pure n2 hp
          exact h H' (m ++ [a]) L2 R2 _ ⟨a, rfl, by rw [← Rh.len]; simp⟩
        · exact h.elim
      · exact h.elim
    · exact h.elim
  · split at h
    · rename_i e
      exact value _ _ e.1 e.2 h
    · exact h.elim
  · split at h
    · rename_i e
      exact excp _ _ _ e.1 e.2 h
    · exact h.elim
  · exact h.elim
end
end TK
end
section
set_option autoImplicit false
set_option linter.all false
set_option maxRecDepth 100000
namespace TK
open PySem L2 PySem.Spec PyProof.Rows

/-- an exception's wish that does not lean on the names -/
def Flat (W : WX) : Prop := ∀ c d σ σ' H, W c d σ H → W c d σ' H
section
variable {X : Cx} {T : Tb} {W : WX} {a b c o i : Expr} {as : List Expr} {fa fb fc : Vs → Sx → TK.R D} {fs : Vs → Sx → TK.R (List D)} {ta tb tc : Vs → Sx → TK.R Bool} {pos apos p : Pos}
/-- a def that keeps its promise -/
def FO (T : Tb) (lv k : Nat) (g : List D → Sx → TK.R D) : Prop := ∃ fd ps, FnOk T.P T.w T.K T.mg T.base (L2.CX T.P T.w) lv (T.F k) fd ps (spOf T ps.length g) ∧ Binds T.K fd ps []
theorem pass_flat {X : Cx} (tk : Takes X W) (hw : Flat W) : Passes (L2.CX X.prog X.w) X (fun c d H => W c d [] H) := fun pins σ H s e s' I h => passes_call tk (fun c d σ H q => hw c d [] σ H q) pins σ H s e s' I h
theorem rdA_nil (hz : ∀ s S, fs s S = .ok [] S) {σ : L2.St} {H : Hp} {Q : List V → Hp → Prop} (h : rdA T W fs σ H Q) : tNil σ H Q := by
  obtain ⟨s, S, m, hs, hS, h⟩ := h
  rw [hz] at h
  exact h H m .refl hS [] rfl
theorem any_star : ∀ {es : List Expr} {env : PySem.Env}, es.all notStar = true → (starEach es env).any (·.1) = false
  | [], _, _ => rfl
  | e :: es, env, h => by
    rw [List.all_cons, Bool.and_eq_true] at h
    rw [star_cons h.1, List.any_cons, any_star h.2]
    rfl
theorem any_back {es : List Expr} {env : PySem.Env} {pos : Pos} (h : es.all notStar = true) : (backTo pos (starEach es env)).any (·.1) = false := by
  unfold backTo
  rw [List.any_map]
  exact any_star h
theorem all_back {es : List Expr} {env : PySem.Env} {pos : Pos} (h : es.all notStar = true) : (backTo pos (starEach es env)).all (!·.1) = true := by
  have := any_back (pos := pos) (env := env) h
  rw [List.all_eq_not_any_not]
  simp only [Bool.not_not]
  rw [this] <;> rfl
theorem rd_call {md : Nat} {g : List D → Sx → TK.R D} {n : Nat} {σ : L2.St} {H : Hp} {Q : VK} (hw : Flat W) (hn : ∀ ds S, ds.length ≠ n → g ds S = .bad)
    (h : rdE T W (fun s S => (fs s S).bind fun xs S => wrp md S (g xs S)) σ H Q) : tCall (spOf T n g) [] (fun c d H => W c d [] H) (rdA T W fs) σ H Q := by
  obtain ⟨s, S, m, hs, hS, h⟩ := h
  refine ⟨s, S, m, hs, hS, h.bind.mono fun ds S1 H1 m1 L1 R1 q vs rvs => ?_⟩
  have q2 := wrp_ok R1 md q
  refine ⟨?_, ds, S1, m1, by rw [List.append_nil]; exact rvs, R1, ?_⟩
  · rw [List.append_nil, ← rvs.len]
    by_cases e : ds.length = n
    · exact e
    · rw [hn ds S1 e] at q2
      exact q2.elim
  · revert q2
    cases g ds S1 with
    | ok d S' => exact id
    | exc c e S' => exact fun q2 H' m' x dd L R r k => hw _ _ σ [] _ (q2 H' m' x dd L R r k)
    | bad => exact id
/-- the def's own count of arguments -/
def Arity (n : Nat) (g : List D → Sx → TK.R D) : Prop := ∀ ds S, ds.length ≠ n → g ds S = .bad
def FOa (T : Tb) (lv k : Nat) (g : List D → Sx → TK.R D) : Prop := ∃ fd ps, FnOk T.P T.w T.K T.mg T.base (L2.CX T.P T.w) lv (T.F k) fd ps (spOf T ps.length g) ∧ Binds T.K fd ps [] ∧ Arity ps.length g
theorem s_call {lv k md : Nat} {g : List D → Sx → TK.R D} {x : Str} (E : Same X T) (F : FOa T lv k g) (hr : Room lv X.A) (hg : Gl X x) (hm : T.mg x = some (.ref (T.F k))) (hk : PySem.W.keepIn T.K (.ref (T.F k)) = true) (hdb : (x == ("__debug__" : Str)) = false) (tk : Takes X W) (hw : Flat W)
    (hst : as.all notStar = true) (hz : as = [] → ∀ s S, fs s S = .ok [] S) (ha : PA X as (rdA T W fs)) : PE X (.Call (.Name x p) as [] pos) (rdE T W fun s S => (fs s S).bind fun xs S => wrp md S (g xs S)) := by
  obtain ⟨fd, ps, F, hb, ar⟩ := F
  rw [← E.P, ← E.w, ← E.K, ← E.mg, ← E.base] at F
  rw [← E.K] at hb hk
  rw [← E.mg] at hm
  cases as with
  | nil =>
    exact PE_imp (pe_call0 F hr hg hm hk hb .nil (pass_flat tk hw) hdb) fun σ H Q h => rdA_nil (hz rfl) (rd_call hw ar h)
  | cons e es =>
    rw [List.all_cons, Bool.and_eq_true] at hst
    exact PE_imp (pe_call F hr hg hm hk hb .nil (pass_flat tk hw) ha hdb (star_cons hst.1 es X.env) (any_back hst.2)) fun σ H Q h => rd_call hw ar h

/-! ### new instances -/
theorem new_ok {c : Nat} {g : List D → Sx → TK.R D} {E : XK} {H : Hp} {m : List Addr} {S : Sx} {Q : VK} {ds : List D} {vs : List V} {x dx : Addr} (R : RelH T H m S) (rvs : RepL T H m ds vs) (hx : H x = none) (hdx : H dx = none) (ne : dx ≠ x)
    (h : Ok T E H m (PV T Q) (newD c g ds S)) : ∃ S' m', RepL T (upd (upd H dx (.own x)) x (.ins (T.C c) dx [])) m' (.obj S.length :: ds) (.ref x :: vs) ∧ RelH T (upd (upd H dx (.own x)) x (.ins (T.C c) dx [])) m' S' ∧
      Ok T E (upd (upd H dx (.own x)) x (.ins (T.C c) dx [])) m' (PV T fun v H2 => v = .non ∧ Q (.ref x) H2) (g (.obj S.length :: ds) S') := by
  have hx2 : (upd H dx (.own x)) x = none := by rw [upd_ne (Ne.symm ne)]; exact hx
  have R1 : RelH T (upd H dx (.own x)) m S := R.aside hdx
  have L1 : Later H (upd H dx (.own x)) m m := later_new hdx
  have L2 := later_push (o := .ins (T.C c) dx []) R1 hx2
  have L := L1.trans L2
  have R2 : RelH T (upd (upd H dx (.own x)) x (.ins (T.C c) dx [])) (m ++ [x]) (S ++ [.ins c [] []]) := R1.push hx2 ⟨dx, [], upd_same, rfl, rfl⟩
  have gx : (m ++ [x])[S.length]? = some x := by rw [← R.len]; simp
  refine ⟨S ++ [.ins c [] []], m ++ [x], ⟨_, _, rfl, ⟨x, rfl, gx⟩, RepL.mono L _ _ rvs⟩, R2, ?_⟩
  unfold newD at h
  refine (Ok.shift L h).bind.mono fun d S3 H3 m3 L3 R3 q v rv => ?_
  split at q
  · rename_i e
    subst e
    exact ⟨rv, q.here R3 ⟨x, rfl, L3.get gx⟩⟩
  · exact q.elim
theorem Ok.flat (hw : Flat W) {σ : L2.St} {H : Hp} {m : List Addr} {P : D → Sx → Hp → List Addr → Prop} : ∀ {r : TK.R D}, Ok T (fun c d H' => W c d σ H') H m P r → Ok T (fun c d H' => W c d [] H') H m P r
  | .ok d S', h => h
  | .exc c e S', h => fun H' m' x dd L R r k => hw _ _ σ [] _ (h H' m' x dd L R r k)
  | .bad, h => h
theorem Arity.len {n : Nat} {g : List D → Sx → TK.R D} (ar : Arity n g) {E : XK} {H : Hp} {m : List Addr} {S : Sx} {P : D → Sx → Hp → List Addr → Prop} {ds : List D} (h : Ok T E H m P (g ds S)) : ds.length = n := by
  by_cases e : ds.length = n
  · exact e
  · rw [ar ds S e] at h
    exact h.elim
theorem rd_make {c md : Nat} {g : List D → Sx → TK.R D} {n : Nat} {σ : L2.St} {H : Hp} {Q : VK} (hw : Flat W) (hn : Arity n g)
    (h : rdE T W (fun s S => (fs s S).bind fun xs S => wrp md S (newD c g xs S)) σ H Q) : tMake (T.C c) (spOf T n g) [] (fun c d H => W c d [] H) (rdA T W fs) σ H Q := by
  obtain ⟨s, S, m, hs, hS, h⟩ := h
  refine ⟨s, S, m, hs, hS, h.bind.mono fun ds S1 H1 m1 L1 R1 q vs rvs x dx hx hdx ne => ?_⟩
  obtain ⟨S2, m2, r2, R2, q2⟩ := new_ok R1 rvs hx hdx ne (wrp_ok R1 md q)
  refine ⟨?_, _, S2, m2, by rw [List.append_nil]; exact r2, R2, q2.flat hw⟩
  rw [List.append_nil, ← r2.len]
  exact hn.len q2
theorem s_new {lv k c md : Nat} {g : List D → Sx → TK.R D} {x : Str} (E : Same X T) (F : FOa T lv k g) (M : Mk T.K (T.C c) (T.F k)) (hr : Room (lv + 1) X.A) (hg : Gl X x) (hm : T.mg x = some (.ref (T.C c))) (hdb : (x == ("__debug__" : Str)) = false) (tk : Takes X W) (hw : Flat W)
    (hst : as.all notStar = true) (hz : as = [] → ∀ s S, fs s S = .ok [] S) (ha : PA X as (rdA T W fs)) : PE X (.Call (.Name x p) as [] pos) (rdE T W fun s S => (fs s S).bind fun xs S => wrp md S (newD c g xs S)) := by
  obtain ⟨fd, ps, F, hb, ar⟩ := F
  rw [← E.P, ← E.w, ← E.K, ← E.mg, ← E.base] at F
  rw [← E.K] at hb M
  rw [← E.mg] at hm
  cases as with
  | nil =>
    refine PE_imp (pe_make0 M F hr hg hm hb .nil (pass_flat tk hw) hdb) fun σ H Q h => ?_
    exact rdA_nil (hz rfl) (rd_make hw ar h)
  | cons e es =>
    rw [List.all_cons, Bool.and_eq_true] at hst
    exact PE_imp (pe_make M F hr hg hm hb .nil (pass_flat tk hw) ha hdb (star_cons hst.1 es X.env) (any_back hst.2)) fun σ H Q h => rd_make hw ar h
/-- a def that keeps its promise, called with keywords behind self; dfl: what lacks -/
def FOk (T : Tb) (lv k : Nat) (kw : List Str) (dfl : List D) (g : List D → Sx → TK.R D) : Prop := ∃ fd ps mvs gg, FnOk T.P T.w T.K T.mg T.base (L2.CX T.P T.w) lv (T.F k) fd ps (spOf T ps.length g) ∧ (∀ H m, RepL T H m dfl mvs) ∧ KBn T.K fd ps 1 kw gg (fun vs zs => vs ++ (zs ++ mvs)) ∧ Arity ps.length g
theorem s_pk_nil : PK X [] (rdA T W fun _ S => .ok [] S) := ⟨fun p pins s σ H Q I q => pk_nil.run p pins s σ H Q I (rdA_nil (fun _ _ => rfl) q)⟩
theorem s_pk_cons {nm : Option Str} {kws : List Keyword} (ha : PE X a (rdE T W fa)) (hr : PK X kws (rdA T W fs)) : PK X (⟨nm, a, p⟩ :: kws) (rdA T W fun s S => (fa s S).bind fun x S => (fs s S).bind fun xs S => .ok (x :: xs) S) :=
  ⟨fun q pins s σ H Q I h => (pk_cons ha hr).run q pins s σ H Q I (by
    obtain ⟨s, S, m, hs, hS, h⟩ := h
    exact ⟨s, S, m, hs, hS, h.bind.mono fun d S1 H1 m1 L1 R1 q v rv =>
      ⟨s, S1, m1, hs.mono L1, R1, q.bind.mono fun ds S2 H2 m2 L2 R2 q2 vs rvs => q2 H2 m2 .refl R2 (v :: vs) ⟨v, vs, rfl, RepV.mono L2 d v rv, rvs⟩⟩⟩)⟩
def kwOk (kws : List Keyword) (ks : List Str) : Bool := decide (kws.map (·.1) = ks.map some)
theorem kw_all : ∀ {kws : List Keyword} {ks : List Str} {env : PySem.Env} {pos : Pos}, kwOk kws ks = true → (backToKw pos (keywordEach kws env)).all (·.1.isSome) = true ∧ (backToKw pos (keywordEach kws env)).filterMap (·.1) = ks ∧ (backToKw pos (keywordEach kws env)).any (·.1.isNone) = false
  | [], ks, env, pos, h => by
    cases ks with
    | nil => exact ⟨rfl, rfl, rfl⟩
    | cons k ks => exact absurd (of_decide_eq_true h) (by simp)
  | ⟨n, e, q⟩ :: kws, ks, env, pos, h => by
    cases ks with
    | nil => exact absurd (of_decide_eq_true h) (by simp)
    | cons k ks =>
      have h2 := of_decide_eq_true h
      simp only [List.map_cons, List.cons.injEq] at h2
      obtain ⟨i1, i2, i3⟩ := kw_all (env := env) (pos := pos) (kws := kws) (ks := ks) (decide_eq_true h2.2)
      have e0 : backToKw pos (keywordEach (⟨n, e, q⟩ :: kws) env) = (n, (do let v ← eval e env; standAt pos; pure v)) :: backToKw pos (keywordEach kws env) := rfl
      have e1 : n = some k := h2.1
      subst e1
      refine ⟨?_, ?_, ?_⟩
      · rw [e0, List.all_cons, i1] <;> rfl
      · rw [e0, List.filterMap_cons, i2] <;> rfl
      · rw [e0, List.any_cons, i3] <;> rfl
theorem s_newK {lv k c md : Nat} {g : List D → Sx → TK.R D} {x : Str} {kws : List Keyword} {kw : List Str} {dfl : List D} (E : Same X T) (F : FOk T lv k kw dfl g) (M : Mk T.K (T.C c) (T.F k)) (hr : Room (lv + 1) X.A) (hg : Gl X x) (hm : T.mg x = some (.ref (T.C c)))
    (hdb : (x == ("__debug__" : Str)) = false) (tk : Takes X W) (hw : Flat W) (hks : kwOk kws kw = true) (ha : PK X kws (rdA T W fs)) :
    PE X (.Call (.Name x p) [] kws pos) (rdE T W fun s S => (fs s S).bind fun xs S => if xs.length = kw.length then wrp md S (newD c g (xs ++ dfl) S) else .bad) := by
  obtain ⟨fd, ps, mvs, gg, F, hd, hb, ar⟩ := F
  rw [← E.P, ← E.w, ← E.K, ← E.mg, ← E.base] at F
  rw [← E.K] at hb M
  rw [← E.mg] at hm
  obtain ⟨k1, k2, k3⟩ := kw_all (env := X.env) (pos := pos) hks
  refine PE_imp (pe_makeK0 M F hr hg hm hb (pass_flat tk hw) ha k1 k2 hdb (by rw [k3] <;> rfl)) fun σ H Q ⟨s, S, m, hs, hS, h⟩ => ?_
  refine ⟨s, S, m, hs, hS, h.bind.mono fun ds S1 H1 m1 L1 R1 q vs rvs => ?_⟩
  split at q
  · rename_i hl
    refine ⟨rfl, by rw [← rvs.len]; exact hl, fun x dx hx hdx ne => ?_⟩
    obtain ⟨S2, m2, r2, R2, q2⟩ := new_ok R1 (rvs.append (hd H1 m1)) hx hdx ne (wrp_ok R1 md q)
    refine ⟨?_, _, S2, m2, r2, R2, q2.flat hw⟩
    have := r2.len
    rw [ar.len q2] at this
    exact this.symm
  · exact q.elim

/-! ### methods -/
theorem meth_form {m : Str} (hst : as.all notStar = true) (hb : notSup o = true) (hl : (apos.endLine == pos.line) = true) (hlen : as.length < 30) :
    eval (.Call (.Attribute o m apos) as [] pos) X.env = (do
      let ov ← eval o X.env
      standAt apos.atName
      let (f, first) ← holding [ov] (getMethod ov m (plainOf o X.env))
      callWith pos f first (backTo pos (starEach as X.env)) (backToKw pos (keywordEach [] X.env))) :=
  mcall_of (base_of hb) fun ov => mcall_line (by
    unfold methodCallForm
    rw [all_back hst]
    have : decide (as.length + 0 < 30) = true := decide_eq_true (by omega)
    simp [backToKw, keywordEach, hlen]) hl
theorem s_mt {lv k c md : Nat} {g : List D → Sx → TK.R D} {x : Str} (E : Same X T) (F : FOa T lv k g) (hC : Cls T.K (T.C c)) (hM : Meth T.K (T.C c) x (T.F k)) (hr : Room lv X.A) (tk : Takes X W) (hw : Flat W)
    (hb : notSup o = true) (hl : (apos.endLine == pos.line) = true) (hlen : as.length < 30) (hst : as.all notStar = true) (hz : as = [] → ∀ s S, fs s S = .ok [] S) (ho : PE X o (rdE T W fa)) (ha : PA X as (rdA T W fs)) :
    PE X (.Call (.Attribute o x apos) as [] pos) (rdE T W fun s S => (fa s S).bind fun d S => (lift (mtD c x d S) S).bind fun _ S => (fs s S).bind fun xs S => wrp md S (g (d :: xs) S)) := by
  obtain ⟨fd, ps, F, hbd, ar⟩ := F
  rw [← E.P, ← E.w, ← E.K, ← E.mg, ← E.base] at F
  rw [← E.K] at hbd hC hM
  have key : ∀ σ H Q, rdE T W (fun s S => (fa s S).bind fun d S => (lift (mtD c x d S) S).bind fun _ S => (fs s S).bind fun xs S => wrp md S (g (d :: xs) S)) σ H Q →
      tMeth (T.C c) x (spOf T ps.length g) [] (fun c d H => W c d [] H) (rdE T W fa) (rdA T W fs) σ H Q := fun σ H Q ⟨s, S, m, hs, hS, h⟩ => by
    refine ⟨s, S, m, hs, hS, h.bind.mono fun d S1 H1 m1 L1 R1 q v rv => ?_⟩
    obtain ⟨_, eu, q⟩ := lift_ok q.bind
    have h3 : ∃ ns xs, (d = .iv c ns xs ∨ ∃ n, d = .obj n ∧ S1[n]? = some (.ins c ns xs)) ∧ x ∉ ns := by
      unfold mtD at eu
      split at eu
      · split at eu
        · rename_i e
          split at eu
          · rename_i hc
            obtain ⟨rfl, hx⟩ := hc
            exact ⟨_, _, .inr ⟨_, rfl, e⟩, hx⟩
          · cases eu
        · cases eu
      · split at eu
        · rename_i hc
          obtain ⟨rfl, hx⟩ := hc
          exact ⟨_, _, .inl rfl, hx⟩
        · cases eu
      · cases eu
    obtain ⟨ns, xs, e1, e2⟩ := h3
    obtain ⟨ad, dx, fl, rfl, h1, h2, _⟩ := rv.ins R1 e1
    refine ⟨ad, dx, fl, rfl, h1, no_name (by rw [h2]; exact e2), s, S1, m1, hs.mono L1, R1, ?_⟩
    refine (q H1 m1 .refl R1).bind.mono fun ds S2 H2 m2 L2 R2 q2 vs rvs => ?_
    have q3 := wrp_ok R2 md q2
    have r3 : RepL T H2 m2 (d :: ds) (.ref ad :: vs) := ⟨_, _, rfl, RepV.mono L2 d _ rv, rvs⟩
    refine ⟨?_, d :: ds, S2, m2, by rw [List.append_nil]; exact r3, R2, q3.flat hw⟩
    rw [List.append_nil, ← r3.len]
    exact ar.len q3
  have hf := meth_form (X := X) (m := x) hst hb hl hlen
  cases as with
  | nil =>
    refine PE_imp (pe_meth0 ho hC hM F hr hbd .nil (pass_flat tk hw) hf) fun σ H Q h => ?_
    obtain ⟨s, S, m, hs, hS, h⟩ := key σ H Q h
    exact ⟨s, S, m, hs, hS, h.mono fun d S1 H1 m1 L1 R1 q v rv => by
      obtain ⟨ad, dx, fl, e, h1, h2, q2⟩ := q v rv
      exact ⟨ad, dx, fl, e, h1, h2, rdA_nil (hz rfl) q2⟩⟩
  | cons e es =>
    rw [List.all_cons, Bool.and_eq_true] at hst
    exact PE_imp (pe_meth ho hC hM F hr hbd .nil (pass_flat tk hw) ha (star_cons hst.1 es X.env) (any_back hst.2) hf) key
end
end TK
end
section
set_option autoImplicit false
set_option linter.all false
set_option maxRecDepth 100000
namespace TK
open PySem L2 PySem.Spec PyProof.Rows

section
variable {X : Cx} {T : Tb} {W : WX} {a b c o i : Expr} {as : List Expr} {fa fb fc : Vs → Sx → TK.R D} {fs : Vs → Sx → TK.R (List D)} {pos apos p : Pos}
/-! ### methods of lists -/
theorem tyV_lst {H : Hp} {m : List Addr} {S : Sx} (R : RelH T H m S) {d : D} {v : V} (h : RepV T H m d v) (e : (lstOf d S).isSome = true) : tyV X.K "list" v H := by
  obtain ⟨xs, e⟩ := Option.isSome_iff_exists.mp e
  obtain ⟨a, vs, rfl, h1, _⟩ := h.lst R e
  exact .inl ⟨rfl, vs, .inl (.inl h1)⟩
/-- an object that is a list -/
theorem RepV.own {H : Hp} {m : List Addr} {S : Sx} (R : RelH T H m S) {n : Nat} {v : V} {xs : List D} (h : RepV T H m (.obj n) v) (e : S[n]? = some (.lst xs)) : ∃ a vs, v = .ref a ∧ m[n]? = some a ∧ H a = some (.lst vs) ∧ RepL T H m xs vs := by
  obtain ⟨a, rfl, h1⟩ := h
  obtain ⟨vs, h2, h3⟩ := R.obj n a _ h1 e
  exact ⟨a, vs, rfl, h1, h2, h3⟩
/-- a list is rewritten -/
theorem Ok.put {H : Hp} {m : List Addr} {S : Sx} {Q : VK} {E : XK} {n : Nat} {a : Addr} {xs : List D} {vs : List V} {d : D} {v : V} (R : RelH T H m S) (hm : m[n]? = some a) (h : Ok T E H m (PV T Q) (.ok d (S.set n (.lst xs)))) (r : RepL T H m xs vs) (rd : RepV T H m d v) :
    Q v (upd H a (.lst vs)) :=
  h _ m (later_set hm) (R.set hm ⟨vs, upd_same, RepL.mono (later_set hm) _ _ r⟩) v (RepV.mono (later_set hm) _ _ rd)
theorem app_okD {H : Hp} {m : List Addr} {S : Sx} {Q : VK} {E : XK} (R : RelH T H m S) {x y : D} {v u : V} (rx : RepV T H m x v) (ry : RepV T H m y u) (h : Ok T E H m (PV T Q) (appD x y S)) : rAppend v [u] H Q := by
  unfold appD at h
  split at h
  · rename_i n
    split at h
    · rename_i xs e
      split at h
      · rename_i hl
        obtain ⟨a, vs, rfl, hm, h1, h2⟩ := rx.own R e
        exact ⟨a, vs, u, rfl, rfl, h1, by rw [← h2.len]; exact hl, Ok.put R hm h (h2.append (.one ry)) rfl⟩
      · exact h.elim
    · exact h.elim
  · exact h.elim
theorem ext_okD {H : Hp} {m : List Addr} {S : Sx} {Q : VK} {E : XK} (R : RelH T H m S) {x y : D} {v u : V} (rx : RepV T H m x v) (ry : RepV T H m y u) (h : Ok T E H m (PV T Q) (extD x y S)) : rExtend v [u] H Q := by
  unfold extD at h
  split at h
  · rename_i n
    split at h
    · rename_i xs ys e e2
      split at h
      · rename_i hl
        obtain ⟨a, vs, rfl, hm, h1, h2⟩ := rx.own R e
        obtain ⟨b, us, rfl, h3, h4⟩ := ry.lst R e2
        exact ⟨a, b, vs, us, rfl, rfl, h1, h3, by rw [← h2.len, ← h4.len]; exact hl, Ok.put R hm h (h2.append h4) rfl⟩
      · exact h.elim
    · exact h.elim
  · exact h.elim
theorem pop_okD {H : Hp} {m : List Addr} {S : Sx} {Q : VK} {E : XK} (R : RelH T H m S) {x : D} {v : V} (rx : RepV T H m x v) (h : Ok T E H m (PV T Q) (popD x S)) : tyV X.K "list" v H ∧ rPop v [] H Q := by
  unfold popD at h
  split at h
  · rename_i n
    split at h
    · rename_i xs e
      split at h
      · rename_i d e2
        obtain ⟨a, vs, rfl, hm, h1, h2⟩ := rx.own R e
        obtain ⟨u, e3, ru⟩ := h2.get e2
        rw [h2.len] at e3
        exact ⟨.inl ⟨rfl, vs, .inl (.inl h1)⟩, a, vs, u, rfl, rfl, h1, e3, Ok.put R hm h h2.dropLast ru⟩
      · exact h.elim
    · exact h.elim
  · exact h.elim
theorem popi_okD {H : Hp} {m : List Addr} {S : Sx} {Q : VK} {E : XK} (R : RelH T H m S) {x y : D} {v u : V} (rx : RepV T H m x v) (ry : RepV T H m y u) (h : Ok T E H m (PV T Q) (popiD x y S)) : rPopAt v [u] H Q := by
  unfold popiD at h
  split at h
  · rename_i n i
    split at h
    · rename_i xs e
      split at h
      · rename_i hi
        split at h
        · rename_i k ek
          split at h
          · rename_i d e2
            obtain ⟨a, vs, rfl, hm, h1, h2⟩ := rx.own R e
            obtain ⟨w, e3, rw'⟩ := h2.get e2
            rw [h2.len] at ek
            rw [show u = .int i from ry]
            exact ⟨a, vs, i, k, w, rfl, rfl, h1, hi.1, hi.2, ek, e3, Ok.put R hm h (h2.erase k) rw'⟩
          · exact h.elim
        · exact h.elim
      · exact h.elim
    · exact h.elim
  · exact h.elim
theorem few1 (hst : notStar b = true) : ((backTo pos (starEach [b] X.env)).all (fun x => !x.1) && (backToKw pos (keywordEach [] X.env)).all (fun x => x.1.isSome)
      && decide (([b] : List Expr).length + ([] : List Keyword).length + (if ([] : List Keyword).isEmpty then 0 else 1) < 30)) = true := by
  rw [star_cons hst [] X.env] <;> rfl
theorem rd_bm1 {r : V → List V → Hp → VK → Prop} {g : D → D → Sx → TK.R D} (nx : ∀ d e S c v S', g d e S ≠ .exc c v S')
    (hr : ∀ {H : Hp} {m : List Addr} {S : Sx} {Q : VK} (R : RelH T H m S) {x y : D} {v u : V} (rx : RepV T H m x v) (ry : RepV T H m y u) (h : Ok T (fun _ _ _ => False) H m (PV T Q) (g x y S)), r v [u] H Q) {σ : L2.St} {H : Hp} {Q : VK}
    (h : rdE T W (fun s S => (fa s S).bind fun x S => if (lstOf x S).isSome = true then (fb s S).bind fun y S => g x y S else .bad) σ H Q) : tBM X.K "list" r (rdE T W fa) (tCons (rdE T W fb) tNil) σ H Q := by
  obtain ⟨s, S, m, hs, hS, h⟩ := h
  refine ⟨s, S, m, hs, hS, h.bind.mono fun x S1 H1 m1 L1 R1 q v rv => ?_⟩
  split at q
  · rename_i e
    refine ⟨tyV_lst R1 rv e, s, S1, m1, hs.mono L1, R1, q.bind.mono fun y S2 H2 m2 L2 R2 q2 u ru => ?_⟩
    exact hr R2 (RepV.mono L2 _ _ rv) ru (q2.wish (nx x y S2))
  · exact q.elim
theorem nx_app (x y : D) (S : Sx) (c : Nat) (v : D) (S' : Sx) : appD x y S ≠ .exc c v S' := by
  intro h
  unfold appD at h
  (repeat' split at h) <;> cases h
theorem nx_ext (x y : D) (S : Sx) (c : Nat) (v : D) (S' : Sx) : extD x y S ≠ .exc c v S' := by
  intro h
  unfold extD at h
  (repeat' split at h) <;> cases h
theorem nx_popi (x y : D) (S : Sx) (c : Nat) (v : D) (S' : Sx) : popiD x y S ≠ .exc c v S' := by
  intro h
  unfold popiD at h
  (repeat' split at h) <;> cases h
theorem nx_pop (x : D) (S : Sx) (c : Nat) (v : D) (S' : Sx) : popD x S ≠ .exc c v S' := by
  intro h
  unfold popD at h
  (repeat' split at h) <;> cases h
theorem s_app (hb : notSup o = true) (hl : (apos.endLine == pos.line) = true) (hst : notStar b = true) (ho : PE X o (rdE T W fa)) (ha : PE X b (rdE T W fb)) :
    PE X (.Call (.Attribute o "append" apos) [b] [] pos) (rdE T W fun s S => (fa s S).bind fun x S => if (lstOf x S).isSome = true then (fb s S).bind fun y S => appD x y S else .bad) :=
  PE_imp (pe_bm F.plainAttrs_list F.slot_list_append F.type_list_append mt_append ho (pa_cons ha pa_nil (star_cons hst [] X.env)) (base_of hb) (few1 hst) hl (star_cons hst [] X.env) rfl) fun σ H Q h => rd_bm1 nx_app app_okD h
theorem s_ext (hb : notSup o = true) (hl : (apos.endLine == pos.line) = true) (hst : notStar b = true) (ho : PE X o (rdE T W fa)) (ha : PE X b (rdE T W fb)) :
    PE X (.Call (.Attribute o "extend" apos) [b] [] pos) (rdE T W fun s S => (fa s S).bind fun x S => if (lstOf x S).isSome = true then (fb s S).bind fun y S => extD x y S else .bad) :=
  PE_imp (pe_bm F.plainAttrs_list F.slot_list_extend F.type_list_extend mt_extend ho (pa_cons ha pa_nil (star_cons hst [] X.env)) (base_of hb) (few1 hst) hl (star_cons hst [] X.env) rfl) fun σ H Q h => rd_bm1 nx_ext ext_okD h
theorem s_popi (hb : notSup o = true) (hl : (apos.endLine == pos.line) = true) (hst : notStar b = true) (ho : PE X o (rdE T W fa)) (ha : PE X b (rdE T W fb)) :
    PE X (.Call (.Attribute o "pop" apos) [b] [] pos) (rdE T W fun s S => (fa s S).bind fun x S => if (lstOf x S).isSome = true then (fb s S).bind fun y S => popiD x y S else .bad) :=
  PE_imp (pe_bm F.plainAttrs_list F.slot_list_pop F.type_list_pop mt_popAt ho (pa_cons ha pa_nil (star_cons hst [] X.env)) (base_of hb) (few1 hst) hl (star_cons hst [] X.env) rfl) fun σ H Q h => rd_bm1 nx_popi popi_okD h
theorem s_pop (hb : notSup o = true) (hl : (apos.endLine == pos.line) = true) (ho : PE X o (rdE T W fa)) :
    PE X (.Call (.Attribute o "pop" apos) [] [] pos) (rdE T W fun s S => (fa s S).bind fun x S => popD x S) :=
  PE_imp (pe_bm0 F.plainAttrs_list F.slot_list_pop F.type_list_pop mt_pop ho (base_of hb) hl) fun σ H Q ⟨s, S, m, hs, hS, h⟩ =>
    ⟨s, S, m, hs, hS, h.bind.mono fun x S1 H1 m1 L1 R1 q v rv => pop_okD R1 rv q⟩

end
end TK
end
section
set_option autoImplicit false
set_option linter.all false
set_option maxRecDepth 100000
namespace TK
open PySem L2 PySem.Spec PyProof.Rows

/-! ### a hidden thing comes to light -/
section
variable {T : Tb} {H : Hp} {m : List Addr} {S : Sx} {p : Addr}
theorem At.adopt {a : Addr} {o : HO} (h : At (T.hide p) m H a o) : At T (m ++ [p]) H a o := ⟨h.1, fun q => by
  rcases List.mem_append.mp q with q | q
  · exact h.2.1 q
  · exact h.2.2 (by rw [List.mem_singleton.mp q]; exact List.mem_cons_self), fun q => h.2.2 (List.mem_cons_of_mem _ q)⟩
mutual
theorem RepV.adopt (nt : ∀ xs, ¬ Rd H p (.tup xs)) : ∀ (d : D) (v : V), RepV (T.hide p) H m d v → RepV T H (m ++ [p]) d v
  | .non, v, h => h
  | .bl b, v, h => h
  | .int i, v, h => h
  | .str x, v, h => h
  | .scr xs, v, h => by
    obtain ⟨a, e2, h1 | h1⟩ := h
    · refine ⟨a, e2, .inl ⟨h1.1, fun q => ?_, fun q => h1.2.2 (List.mem_cons_of_mem _ q)⟩⟩
      rcases List.mem_append.mp q with q | q
      · exact h1.2.1 q
      · exact h1.2.2 (by rw [List.mem_singleton.mp q]; exact List.mem_cons_self)
    · exact ⟨a, e2, .inr h1⟩
  | .tup ds, v, h => by
    obtain ⟨a, xs, e2, h1 | h1, h2⟩ := h
    · refine ⟨a, xs, e2, .inl ⟨h1.1, fun q => ?_⟩, RepL.adopt nt ds xs h2⟩
      rcases List.mem_append.mp q with q | q
      · exact h1.2 q
      · exact nt xs (List.mem_singleton.mp q ▸ h1.1)
    · exact ⟨a, xs, e2, .inr h1, RepL.adopt nt ds xs h2⟩
  | .lv ds, v, h => by
    obtain ⟨a, xs, e2, h1, h2⟩ := h
    exact ⟨a, xs, e2, h1.adopt, RepL.adopt nt ds xs h2⟩
  | .dv ks ds, v, h => by
    obtain ⟨a, xs, e2, h1, h2, h3⟩ := h
    exact ⟨a, xs, e2, h1.adopt, h2, RepL.adopt nt ds _ h3⟩
  | .iv c ns ds, v, h => by
    obtain ⟨a, dx, xs, e2, h1, h2, h3⟩ := h
    exact ⟨a, dx, xs, e2, h1.adopt, h2, RepL.adopt nt ds _ h3⟩
  | .obj n, v, h => by
    obtain ⟨a, e, h1⟩ := h
    exact ⟨a, e, by rw [List.getElem?_append_left (List.getElem?_eq_some_iff.mp h1).1]; exact h1⟩
  | .fn k, v, h => h
theorem RepL.adopt (nt : ∀ xs, ¬ Rd H p (.tup xs)) : ∀ (ds : List D) (vs : List V), RepL (T.hide p) H m ds vs → RepL T H (m ++ [p]) ds vs
  | [], vs, h => h
  | d :: ds, vs, h => by
    obtain ⟨v, r, e2, h1, h2⟩ := h
    exact ⟨v, r, e2, RepV.adopt nt d v h1, RepL.adopt nt ds r h2⟩
end
theorem RepO.adopt (nt : ∀ xs, ¬ Rd H p (.tup xs)) {a : Addr} {o : MO} (h : RepO (T.hide p) H m a o) : RepO T H (m ++ [p]) a o := by
  cases o with
  | lst ds => obtain ⟨xs, e1, h1⟩ := h; exact ⟨xs, e1, RepL.adopt nt ds xs h1⟩
  | dk ks ds => obtain ⟨xs, e1, h1, h2⟩ := h; exact ⟨xs, e1, h1, RepL.adopt nt ds _ h2⟩
  | dn ks ds => obtain ⟨xs, vs, e1, q1, q2⟩ := h; exact ⟨xs, vs, e1.move rfl rfl rfl, RepL.adopt nt ks _ q1, RepL.adopt nt ds _ q2⟩
  | sn b ks => obtain ⟨ks', xs, e1, q1⟩ := h; exact ⟨ks', xs, e1.move rfl rfl rfl, RepL.adopt nt ks' _ q1⟩
  | sk ks => exact h
  | ins c ns ds => obtain ⟨dx, xs, e1, h1, h2⟩ := h; exact ⟨dx, xs, e1, h1, RepL.adopt nt ds _ h2⟩
theorem RelH.adopt (R : RelH (T.hide p) H m S) (np : p ∉ T.hid) (nt : ∀ xs, ¬ Rd H p (.tup xs)) (ntb : ∀ ps, H p ≠ some (.tbl ps)) {o : MO} (q : RepO T H (m ++ [p]) p o) : RelH T H (m ++ [p]) (S ++ [o]) := by
  have hp : p ∉ m := (R.hid p List.mem_cons_self).1
  refine ⟨by simp [R.len], ?_, fun a ha => ⟨fun z => ?_, (R.hid a (List.mem_cons_of_mem _ ha)).2⟩, fun P hP => ⟨fun z => ?_, (R.tab P hP).2⟩, fun n a u h1 h2 => ?_⟩
  · rw [List.nodup_append]
    exact ⟨R.nd, by simp, fun x hx y hy e => hp (by rw [List.mem_singleton.mp hy] at e; exact e ▸ hx)⟩
  · rcases List.mem_append.mp z with z | z
    · exact (R.hid a (List.mem_cons_of_mem _ ha)).1 z
    · exact np (List.mem_singleton.mp z ▸ ha)
  · obtain ⟨k, ps, e, _⟩ := R.tab P hP
    rcases List.mem_append.mp z with z | z
    · exact k z
    · exact ntb ps (List.mem_singleton.mp z ▸ e)
  · by_cases hn : n < m.length
    · rw [List.getElem?_append_left hn] at h1
      rw [List.getElem?_append_left (by rw [← R.len]; exact hn)] at h2
      exact (R.obj n a u h1 h2).adopt nt
    · have hn2 : n = m.length := by
        have := (List.getElem?_eq_some_iff.mp h1).1
        simp at this
        omega
      subst hn2
      rw [List.getElem?_append_right (Nat.le_refl _)] at h1
      rw [R.len, List.getElem?_append_right (Nat.le_refl _)] at h2
      simp at h1 h2
      subst h1 h2
      exact q
theorem Later.adopt {H0 : Hp} {m0 : List Addr} (L : Later H0 H m0 m) (h0 : H0 p = none) (h1 : p ∉ m0) : Later H0 H m0 (m ++ [p]) := by
  obtain ⟨r, rfl, hr⟩ := L.pre
  refine ⟨⟨r ++ [p], by simp, fun a ha => ?_⟩, L.fr, L.tb⟩
  rcases List.mem_append.mp ha with z | z
  · exact hr a z
  · rw [List.mem_singleton.mp z]
    exact ⟨h0, h1⟩
theorem Later.off {H0 H' : Hp} {m0 : List Addr} (L : Later H0 H m0 m) (h0 : H0 p = none) (e : ∀ a, a ≠ p → H' a = H a) : Later H0 H' m0 m :=
  ⟨L.pre, fun a o h n nt => by rw [e a (ne_of_none h h0)]; exact L.fr a o h n nt, fun a ps h n => by rw [e a (ne_of_none h h0)]; exact L.tb a ps h n⟩
theorem nt_lst {xs : List V} (h : H p = some (.lst xs)) : ∀ ys, ¬ Rd H p (.tup ys) := fun ys q => by
  rcases q with q | ⟨o, q⟩ <;> rw [h] at q <;> cases q
theorem nt_dk {kvs : List (Key × V)} (h : H p = some (.dK kvs)) : ∀ ys, ¬ Rd H p (.tup ys) := fun ys q => by
  rcases q with q | ⟨o, q⟩ <;> rw [h] at q <;> cases q
theorem ntb_lst {xs : List V} (h : H p = some (.lst xs)) : ∀ ps, H p ≠ some (.tbl ps) := fun ps q => by rw [h] at q; cases q
theorem ntb_dk {kvs : List (Key × V)} (h : H p = some (.dK kvs)) : ∀ ps, H p ≠ some (.tbl ps) := fun ps q => by rw [h] at q; cases q
theorem Ok.bind0 {a b : Type} {E : XK} {P : b → Sx → Hp → List Addr → Prop} {f : a → Sx → TK.R b} : ∀ {r : TK.R a}, Ok T E H m P (r.bind f) → Ok T E H m (fun x S' _ _ => Ok T E H m P (f x S')) r
  | .ok x S', h => fun _ _ _ _ => h
  | .exc c e S', h => h
  | .bad, h => h
theorem Ok.hid {a : Type} {E : XK} {o : HO} {P P' : a → Sx → Hp → List Addr → Prop} {r : TK.R a} (hp : H p = none) (h : Ok T E H m P r) (w : ∀ x S' H' m', Later (upd H p o) H' m m' → RelH (T.hide p) H' m' S' → P x S' H' m' → P' x S' H' m') :
    Ok (T.hide p) E (upd H p o) m P' r := by
  cases r with
  | ok x S' => exact fun H' m' L R => w x S' H' m' L R (h H' m' ((later_new hp).trans L) R.unhide)
  | exc c e S' => exact fun H' m' x dd L R r q => h H' m' x dd ((later_new hp).trans L) R.unhide (RepV.unhide _ _ r) q.unhide
  | bad => exact h.elim
end

/-! ### expressions while something is built -/
section
variable {X : Cx} {T : Tb} {W : WX} {a b c o i : Expr} {as : List Expr} {fa fb fc : Vs → Sx → TK.R D} {fs : Vs → Sx → TK.R (List D)} {pos apos p : Pos}
def rdEx (T : Tb) (W : WX) (f : Vs → Sx → TK.R D) : TE := fun σ H Q => ∃ p, rdE (T.hide p) W f σ H Q
def rdTx (T : Tb) (W : WX) (f : Vs → Sx → TK.R Bool) : TT := fun σ H Q => ∃ p, rdT (T.hide p) W f σ H Q
theorem pe_ex (h : ∀ p, PE X a (rdE (T.hide p) W fa)) : PE X a (rdEx T W fa) := ⟨fun pins s σ H Q I ⟨p, q⟩ => (h p).run pins s σ H Q I q⟩
theorem pt_ex {f : Vs → Sx → TK.R Bool} (h : ∀ p, PT X a (rdT (T.hide p) W f)) : PT X a (rdTx T W f) := ⟨fun pins s σ H Q I ⟨p, q⟩ => (h p).run pins s σ H Q I q⟩

/-! ### dicts of written keys -/
/-- the pairs of a display, by their keys -/
def PPd (X : Cx) (T : Tb) (W : WX) (pos : Pos) (keys : List (Option Expr)) (vals : List Expr) (ks : List Key) (fs : Vs → Sx → TK.R (List D)) : Prop :=
  ∃ trs, PPs X pos keys vals trs ∧ ∀ p σ H (Q : List (V × V) → Hp → Prop), (∃ s S m, RelV (T.hide p) H m s σ ∧ RelH (T.hide p) H m S ∧
    Ok (T.hide p) (fun c d H' => W c d σ H') H m (fun ds S' H' m' => ∀ vs, RepL (T.hide p) H' m' ds vs → Q ((ks.zip vs).map fun q => (kV q.1, q.2)) H') (fs s S)) → tPairs trs σ H Q
theorem ppd_nil : PPd X T W pos [] [] [] (fun _ S => .ok [] S) := ⟨[], pps_nil, fun p σ H Q ⟨s, S, m, hs, hS, h⟩ => h H m .refl hS [] rfl⟩
theorem pe_key {e : Expr} {q : Key} (h : (match e, q with | .Constant (.str x) _ _, .inr y => decide (x = y) | .Constant (.int n) _ _, .inl m => decide (n = m) | _, _ => false) = true) : PE X e (tC (kV q)) := by
  split at h
  · cases of_decide_eq_true h
    exact pe_str
  · cases of_decide_eq_true h
    exact pe_int
  · cases h
theorem ppd_cons {e : Expr} {q : Key} {keys : List (Option Expr)} {ks : List Key} (hk : PE X e (tC (kV q))) (ha : ∀ p, PE X a (rdE (T.hide p) W fa)) (hr : PPd X T W pos keys as ks fs) :
    PPd X T W pos (some e :: keys) (a :: as) (q :: ks) (fun s S => (fa s S).bind fun x S => (fs s S).bind fun xs S => .ok (x :: xs) S) := by
  obtain ⟨trs, h1, h2⟩ := hr
  refine ⟨_, pps_cons hk (pe_ex ha) h1, fun p σ H Q ⟨s, S, m, hs, hS, h⟩ => ?_⟩
  show tC (kV q) σ H fun x H1 => (rdEx T W fa) σ H1 fun y H2 => tPairs trs σ H2 fun ps H3 => Q ((x, y) :: ps) H3
  show (rdEx T W fa) σ H fun y H2 => tPairs trs σ H2 fun ps H3 => Q ((kV q, y) :: ps) H3
  refine ⟨p, s, S, m, hs, hS, h.bind.mono fun d S1 H1 m1 L1 R1 g v rv => ?_⟩
  refine h2 p σ H1 _ ⟨s, S1, m1, hs.mono L1, R1, g.bind.mono fun ds S2 H2 m2 L2 R2 g2 vs rvs => ?_⟩
  exact g2 H2 m2 .refl R2 (v :: vs) ⟨v, vs, rfl, RepV.mono L2 d v rv, rvs⟩
theorem putK_new {kvs : List (Key × V)} {k : Key} {v : V} (h : k ∉ kvs.map (·.1)) : putK kvs k v = kvs ++ [(k, v)] := by
  unfold putK
  rw [if_neg]
  intro q
  obtain ⟨p, hp, e⟩ := List.any_eq_true.mp q
  exact h (List.mem_map.mpr ⟨p, hp, of_decide_eq_true e⟩)
theorem merge_new : ∀ (more kvs : List (Key × V)), (kvs.map (·.1) ++ more.map (·.1)).Nodup → mergeK kvs more = kvs ++ more
  | [], kvs, _ => by simp [mergeK]
  | p :: r, kvs, h => by
    have hp : p.1 ∉ kvs.map (·.1) := fun q => by
      rw [List.nodup_append] at h
      exact h.2.2 _ q _ (List.mem_cons_self) rfl
    have : mergeK kvs (p :: r) = mergeK (putK kvs p.1 p.2) r := rfl
    rw [this, putK_new hp, merge_new r]
    · simp
    · simpa using h
theorem s_dct {tr : Bool} {keys : List (Option Expr)} {ks : List Key} (hd : PPd X T W pos keys as ks fs) (hall : keys.all (·.isSome) = true) (hl : keys.length = as.length) (h0 : keys ≠ []) (h15 : keys.length ≤ 15) (hkl : keys.length = ks.length) :
    PE X (.Dict keys as pos) (rdE T W fun s S => (fs s S).bind fun xs S => if xs.length = ks.length ∧ ks.length ≤ 15 ∧ ks.Nodup then (if tr = true then .ok (.obj S.length) (S ++ [.dk ks xs]) else .ok (.dv ks xs) S) else .bad) := by
  obtain ⟨trs, h1, h2⟩ := hd
  refine PE_imp (pe_disp h1 hall hl h0 h15) fun σ H Q ⟨s, S, m, hs, hS, h⟩ => ?_
  intro p hp
  have np := hS.new hp
  refine h2 p σ _ _ ⟨s, S, m, hs.hide hp, hS.hide hp, h.bind0.hid hp fun ds S1 H1 m1 L1 R1 g vs rvs => ?_⟩
  split at g
  · rename_i hc
    obtain ⟨c1, c2, c3⟩ := hc
    have hD : H1 p = some (.dK []) := L1.fr p _ upd_same np (fun _ e => nomatch e)
    have lv : vs.length = ks.length := by rw [← rvs.len]; exact c1
    have z1 : (ks.zip vs).map (·.1) = ks := by rw [List.map_fst_zip]; omega
    have z2 : (ks.zip vs).map (·.2) = vs := by rw [List.map_snd_zip]; omega
    refine ⟨hD, ks.zip vs, rfl, by rw [List.length_zip]; omega, ?_⟩
    rw [merge_new _ _ (by simpa [z1] using c3), List.nil_append]
    have e : ∀ a, a ≠ p → (upd H1 p (.dK (ks.zip vs))) a = H1 a := fun a q => upd_ne q
    have nt := nt_dk hD
    have nt2 : ∀ xs, ¬ Rd (upd H1 p (.dK (ks.zip vs))) p (.tup xs) := nt_dk upd_same
    have R2 := R1.off e nt (ntb_dk hD) ⟨_, upd_same⟩
    have r2 := RepL.off e nt _ _ rvs
    have L : Later H H1 m m1 := (later_new hp).trans L1
    have L2 : Later H (upd H1 p (.dK (ks.zip vs))) m m1 := L.off hp e
    -- the answer is held at the start
    cases tr with
    | true =>
      simp only [if_true] at g
      have r3 := RepL.adopt nt2 _ _ r2
      have L3 := L2.adopt hp np
      exact g _ (m1 ++ [p]) L3 (R2.adopt (hS.fresh hp) nt2 (ntb_dk upd_same) ⟨ks.zip vs, upd_same, z1, by rw [z2]; exact r3⟩) _ ⟨p, rfl, by rw [← R1.len]; simp⟩
    | false =>
      simp only [Bool.false_eq_true, if_false] at g
      exact g _ m1 L2 R2.unhide _ ⟨p, ks.zip vs, rfl, ⟨upd_same, (R1.hid p List.mem_cons_self).1, hS.fresh hp⟩, z1, by rw [z2]; exact RepL.unhide _ _ r2⟩
  · exact g.elim
end
end TK
end
section
set_option autoImplicit false
set_option linter.all false
set_option maxRecDepth 100000
namespace TK
open PySem L2 PySem.Spec PyProof.Rows

/-! ### targets -/
def off (σ' σ : L2.St) (is : List Nat) : Prop := σ'.length = σ.length ∧ ∀ i, i ∉ is → σ'[i]? = σ[i]?
theorem off.refl {σ : L2.St} {is : List Nat} : off σ σ is := ⟨rfl, fun _ _ => rfl⟩
theorem off.trans {σ1 σ2 σ3 : L2.St} {is js : List Nat} (a : off σ2 σ1 is) (b : off σ3 σ2 js) : off σ3 σ1 (is ++ js) :=
  ⟨b.1.trans a.1, fun i h => (b.2 i fun q => h (List.mem_append_right _ q)).trans (a.2 i fun q => h (List.mem_append_left _ q))⟩
theorem wipe_get {σ : L2.St} {i : Nat} : ∀ {vs : List Nat}, (L2.wipe σ vs)[i]? = if i ∈ vs ∧ i < σ.length then some none else σ[i]?
  | [] => by simp [L2.wipe]
  | v :: vs => by
    show ((L2.wipe σ vs).set v none)[i]? = _
    rw [List.getElem?_set, L2.wipe_length]
    by_cases h : v = i
    · subst h
      rw [if_pos rfl]
      by_cases hl : v < σ.length
      · simp [hl]
      · simp [hl]
    · rw [if_neg h, wipe_get]
      simp [Ne.symm h]
theorem off.wipe {σ' σ : L2.St} {is vs : List Nat} (h : off σ' σ is) (hs : ∀ i ∈ is, i ∈ vs) : L2.wipe σ' vs = L2.wipe σ vs := by
  refine List.ext_getElem? fun i => ?_
  rw [wipe_get, wipe_get, h.1]
  by_cases hi : i ∈ vs ∧ i < σ.length
  · rw [if_pos hi, if_pos hi]
  · rw [if_neg hi, if_neg hi]
    by_cases hv : i ∈ vs
    · have : ¬ i < σ.length := fun q => hi ⟨hv, q⟩
      rw [List.getElem?_eq_none (by rw [h.1]; omega), List.getElem?_eq_none (by omega)]
    · exact h.2 i fun q => hv (hs i q)
theorem wipe_wipe {σ : L2.St} {vs : List Nat} : L2.wipe (L2.wipe σ vs) vs = L2.wipe σ vs := by
  refine List.ext_getElem? fun i => ?_
  rw [wipe_get, L2.wipe_length, wipe_get]
  split <;> rfl
def rdG (T : Tb) (tg : Tg) : TG := fun x σ H Q => ∃ d s s' m, RepV T H m d x ∧ RelV T H m s σ ∧ asg tg d s = some s' ∧ ∀ σ', RelV T H m s' σ' → off σ' σ tg.slots → Q σ' H
def rdGs (T : Tb) (tgs : List Tg) : TGs := fun xs σ H Q => ∃ ds s s' m, RepL T H m ds xs ∧ RelV T H m s σ ∧ asgs tgs ds s = some s' ∧ ∀ σ', RelV T H m s' σ' → off σ' σ (Tg.slotss tgs) → Q σ' H
section
variable {X : Cx} {T : Tb} {W : WX} {a b c o i : Expr} {as : List Expr} {fa fb fc : Vs → Sx → TK.R D} {fs : Vs → Sx → TK.R (List D)} {pos apos p : Pos}
theorem PG_imp {e : Expr} {t t' : TG} (h : PG X e t) (w : ∀ x σ H Q, t' x σ H Q → t x σ H Q) : PG X e t' := ⟨fun pins s σ H v u Q I r q => h.run pins s σ H v u Q I r (w v σ H Q q)⟩
theorem PGs_imp {e : List Expr} {t t' : TGs} (h : PGs X e t) (w : ∀ x σ H Q, t' x σ H Q → t x σ H Q) : PGs X e t' := ⟨fun pins s σ H v u Q I r q => h.run pins s σ H v u Q I r (w v σ H Q q)⟩
theorem s_gname {i : Nat} {x : Str} (hN : X.N.Nodup) (hi : X.N[i]? = some x) (hx : Loc X.env.scope x) (hf : X.fn x = true ∨ X.env.scope.names.lookup x = some .local) : PG X (.Name x pos) (rdG T (.nm i)) :=
  PG_imp (pg_name hN hi hx hf) fun x σ H Q ⟨d, s, s', m, rd, hs, e, q⟩ => by
    cases e
    refine q _ (hs.set i rd) ⟨by simp, fun j hj => ?_⟩
    rw [List.getElem?_set, if_neg fun e => hj (by rw [← e]; simp [Tg.slots])]
theorem assign_len {env : PySem.Env} : ∀ {as : List Expr}, as.all notStar = true → (assignEach as env).length = as.length ∧ (assignEach as env).findIdx? (·.1) = none
  | [], _ => ⟨rfl, rfl⟩
  | e :: es, h => by
    rw [List.all_cons, Bool.and_eq_true] at h
    obtain ⟨h1, h2⟩ := assign_len (env := env) h.2
    have e1 : assignEach (e :: es) env = (false, assign e env) :: assignEach es env := by
      cases e <;> first | rfl | cases h.1
    rw [e1]
    refine ⟨by simp [h1], ?_⟩
    rw [List.findIdx?_cons]
    simp [h2]
theorem assign_cons {env : PySem.Env} {e : Expr} {es : List Expr} (h : notStar e = true) : (assignEach (e :: es) env).map (·.2) = assign e env :: (assignEach es env).map (·.2) := by
  cases e <;> first | rfl | cases h
theorem s_gs_nil : PGs X [] (rdGs T []) := PGs_imp pgs_nil fun xs σ H Q ⟨ds, s, s', m, rd, hs, e, q⟩ => by
  cases ds with
  | nil =>
    cases e
    exact ⟨rd, q _ hs .refl⟩
  | cons d ds => cases e
theorem s_gs_cons {tg : Tg} {tgs : List Tg} (hst : notStar a = true) (h1 : PG X a (rdG T tg)) (h2 : PGs X as (rdGs T tgs)) : PGs X (a :: as) (rdGs T (tg :: tgs)) :=
  PGs_imp (pgs_cons h1 h2 (assign_cons hst)) fun xs σ H Q ⟨ds, s, s', m, rd, hs, e, q⟩ => by
    cases ds with
    | nil => cases e
    | cons d ds =>
      obtain ⟨v, r, rfl, r1, r2⟩ := rd
      simp only [asgs] at e
      split at e
      · rename_i s1 e1
        exact ⟨v, r, rfl, d, s, s1, m, r1, hs, e1, fun σ1 k1 o1 => ⟨ds, s1, s', m, r2, k1, e, fun σ2 k2 o2 => q σ2 k2 (o1.trans o2)⟩⟩
      · cases e
theorem s_gtup {tgs : List Tg} {k : Nat} (hK : X.K = T.K) (hc : X.calm = true) (hst : as.all notStar = true) (hl : as.length = tgs.length) (h : PGs X as (rdGs T tgs)) : PG X (.Tuple as k pos) (rdG T (.tp tgs)) :=
  PG_imp (pg_tup hc h ((assign_len hst).1.trans hl) (assign_len hst).2) fun x σ H Q ⟨d, s, s', m, rd, hs, e, q⟩ => by
    cases d with
    | tup ds =>
      obtain ⟨a, xs, rfl, h1, h2⟩ := rd
      have lens : ∀ (tgs : List Tg) (ds : List D) (s s' : Vs), asgs tgs ds s = some s' → ds.length = tgs.length := by
        intro tgs
        induction tgs with
        | nil => intro ds s s' e; cases ds with
          | nil => rfl
          | cons d ds => cases e
        | cons t tgs ih => intro ds s s' e; cases ds with
          | nil => cases e
          | cons d ds =>
            simp only [asgs] at e
            split at e
            · simp [ih _ _ _ e]
            · cases e
      have l1 := lens _ _ _ _ e
      exact ⟨a, xs, rfl, TupAt.sq hK h1, by rw [← h2.len, l1], ds, s, s', m, h2, hs, e, q⟩
    | _ => cases e

/-! ### what is walked -/
def Tb.hides (T : Tb) (hs : List Addr) : Tb := { T with hid := hs ++ T.hid }
theorem RepV.hides {H : Hp} {m : List Addr} : ∀ {hs : List Addr}, (∀ p ∈ hs, H p = none) → ∀ (d : D) (v : V), RepV T H m d v → RepV (T.hides hs) H m d v
  | [], _, d, v, h => h
  | p :: hs, hp, d, v, h => RepV.hide (T := T.hides hs) (hp p List.mem_cons_self) d v (RepV.hides (fun q hq => hp q (List.mem_cons_of_mem _ hq)) d v h)
theorem RepL.hides {H : Hp} {m : List Addr} : ∀ {hs : List Addr}, (∀ p ∈ hs, H p = none) → ∀ (d : List D) (v : List V), RepL T H m d v → RepL (T.hides hs) H m d v
  | [], _, d, v, h => h
  | p :: hs, hp, d, v, h => RepL.hide (T := T.hides hs) (hp p List.mem_cons_self) d v (RepL.hides (fun q hq => hp q (List.mem_cons_of_mem _ hq)) d v h)
def DWalk (T : Tb) (J : L2.It) (xs : List D) (still : Sx → Bool) (H0 : Hp) (m0 : List Addr) : Prop :=
  ∀ hs : List Addr, (∀ p ∈ hs, H0 p = none) → ∀ H m S, Later H0 H m0 m → RelH (T.hides hs) H m S → still S = true →
    (∀ i, i < xs.length → J.go i H) ∧ J.stop xs.length H ∧ ∀ i x H', i < xs.length → J.yld i H x H' → ∃ d, xs[i]? = some d ∧ RepV (T.hides hs) H' m d x ∧ RelH (T.hides hs) H' m S ∧ Later H H' m m
abbrev TDi := Vs → Sx → TK.R (List D × (Sx → Bool))
def rdI (T : Tb) (W : WX) (f : TDi) : TI := fun σ H R => ∃ s S m, RelV T H m s σ ∧ RelH T H m S ∧ Ok T (fun c d H' => W c d σ H') H m (fun q _ H' m' => ∀ J, DWalk T J q.1 q.2 H' m' → R J H') (f s S)
theorem PI_imp {tg e : Expr} {t t' : TI} (h : PI X tg e t) (w : ∀ σ H Q, t' σ H Q → t σ H Q) : PI X tg e t' := ⟨fun pins s σ H Q I q => h.run pins s σ H Q I (w σ H Q q)⟩
/-- a list or a tuple -/
def iSeq (K : PySem.W.Frag) (tl : TE) : TI := fun σ H R => tl σ H fun x H1 => ∃ a, x = .ref a ∧ (((∃ xs, SqL K H1 a xs) ∧ R (Itl K a) H1) ∨ ((∃ xs, SqT K H1 a xs) ∧ R (Itt K a) H1))
theorem pi_seq {tg l : Expr} {tl : TE} (hl : PE X l tl) : PI X tg l (iSeq X.K tl) := by
  refine ⟨fun pins s σ H R I h => thn (hl.run pins s σ H _ I h) fun v s1 ⟨x, H1, I1, r1, a, e, q⟩ => ?_⟩
  subst e
  cases r1
  have one : ∀ b ∈ [s1.heap.objs.size], FpOk X pins H1 b := fun b hb => by
    rw [List.mem_singleton.mp hb]
    exact I1.fpOk (Nat.le_refl _) (I1.hok.fresh (Nat.le_refl _))
  rcases q with ⟨⟨xs, hq⟩, q⟩ | ⟨⟨xs, hq⟩, q⟩
  · obtain ⟨its, rv, p, hz⟩ := I1.list hq
    exact wpAny_pyIter_list p.isList ⟨_, [s1.heap.objs.size], _, _, H1, rfl, I1.kept (t' := s1.toks) fun b o e => Heap.get?_push_of_some _ e, turn_list a _, ⟨_, Heap.get?_push_size _ rfl, rfl, rfl⟩, one, q⟩
  · obtain ⟨its, rv, p, hz⟩ := I1.tuple hq
    exact wpAny_pyIter_tuple (show s1.heap.IsTuple a its.toArray from p) ⟨_, [s1.heap.objs.size], _, _, H1, rfl, I1.kept (t' := s1.toks) fun b o e => Heap.get?_push_of_some _ e, turn_tuple a _, ⟨_, Heap.get?_push_size _ rfl, rfl, rfl⟩, one, q⟩
theorem sqT_of {H : Hp} {m : List Addr} {a : Addr} {xs : List V} (h1 : TupAt T H m a xs) : SqT T.K H a xs := by
  rcases h1 with h1 | h1
  · exact .inl h1.1
  · rcases h1 with h1 | h1
    · rcases h1 with h1 | ⟨_, h1⟩ <;> cases h1
    · exact .inr h1
/-- the walk by what stands at each turn -/
theorem dw_seq {J : L2.It} {K : PySem.W.Frag} {H : Hp} {m : List Addr} {S : Sx} {xs : List D} {vs : List V} {G : Hp → Prop} (w : Walk J vs.length G (YAt vs)) (g : G H) (r : RepL T H m xs vs) (R : RelH T H m S) :
    (∀ i, i < xs.length → J.go i H) ∧ J.stop xs.length H ∧ ∀ i x H', i < xs.length → J.yld i H x H' → ∃ d, xs[i]? = some d ∧ RepV T H' m d x ∧ RelH T H' m S ∧ Later H H' m m := by
  rw [r.len]
  refine ⟨fun i hi => w.goes i H hi g, w.stops H g, fun i x H' hi y => ?_⟩
  obtain ⟨rfl, e⟩ := w.yields i H x H' hi g y
  obtain ⟨d, e2, rd⟩ := r.get' e
  exact ⟨d, e2, rd, R, .refl⟩
theorem lst_cases {d : D} {S : Sx} {xs : List D} (e : lstOf d S = some xs) : d = .lv xs ∨ ∃ n, d = .obj n ∧ S[n]? = some (.lst xs) := by
  cases d with
  | lv ds => cases e; exact .inl rfl
  | obj n =>
    simp only [lstOf] at e
    split at e
    · rename_i e2
      cases e
      exact .inr ⟨n, rfl, e2⟩
    · cases e
  | _ => cases e
/-- a list stands still at its place -/
theorem lst_still {H0 : Hp} {m0 : List Addr} {S0 : Sx} (R0 : RelH T H0 m0 S0) {d : D} {v : V} {xs : List D} (r : RepV T H0 m0 d v) (e : lstOf d S0 = some xs) : ∃ a, v = .ref a ∧ ∀ hs : List Addr, (∀ p ∈ hs, H0 p = none) → ∀ H m S, Later H0 H m0 m → RelH (T.hides hs) H m S → stillOf d xs S = true →
    ∃ vs, SqL T.K H a vs ∧ RepL (T.hides hs) H m xs vs := by
  rcases lst_cases e with rfl | ⟨n, rfl, e⟩
  · obtain ⟨a, vs, rfl, h1, h2⟩ := r
    refine ⟨a, rfl, fun hs hp H m S L R _ => ⟨vs, .inl (.inl (L.at_ h1).1), RepL.mono L _ _ (RepL.hides hp _ _ h2)⟩⟩
  · obtain ⟨a, rfl, h1⟩ := r
    refine ⟨a, rfl, fun hs hp H m S L R st => ?_⟩
    obtain ⟨vs, h2, h3⟩ := R.obj n a _ (L.get h1) (of_decide_eq_true st)
    exact ⟨vs, .inl (.inl h2), h3⟩
theorem still_now {d : D} {S : Sx} {xs : List D} (e : lstOf d S = some xs) : stillOf d xs S = true := by
  rcases lst_cases e with rfl | ⟨n, rfl, e⟩
  · rfl
  · simp only [lstOf] at e
    split at e
    · rename_i e2
      cases e
      exact decide_eq_true e2
    · cases e
def seqI (d : D) (S : Sx) : TK.R (List D × (Sx → Bool)) := match seqOf d S with
  | some xs => .ok (xs, stillOf d xs) S
  | none => .bad
theorem si_e {tg : Expr} (hK : X.K = T.K) (ha : PE X a (rdE T W fa)) : PI X tg a (rdI T W fun s S => (fa s S).bind fun d S => seqI d S) :=
  PI_imp (pi_seq ha) fun σ H Q ⟨s, S, m, hs, hS, h⟩ => ⟨s, S, m, hs, hS, h.bind.mono fun d S1 H1 m1 L1 R1 q v rv => by
    unfold seqI at q
    split at q
    · rename_i xs e
      have q := q H1 m1 .refl R1
      rcases seq_cases e with rfl | e3
      · obtain ⟨a, vs, rfl, h1, h2⟩ := rv
        refine ⟨a, rfl, .inr ⟨⟨vs, TupAt.sq hK h1⟩, q _ fun hs hp H m S L R _ => ?_⟩⟩
        rw [hK]
        have h3 : RepV T H1 m1 (.tup xs) (.ref a) := ⟨a, vs, rfl, h1, h2⟩
        obtain ⟨a', vs', e1, k1, k2⟩ := RepV.mono L _ _ (RepV.hides hp _ _ h3)
        cases e1
        exact dw_seq (K := T.K) (walk_tup) (sqT_of k1) k2 R
      · clear e
        obtain ⟨a, rfl, f⟩ := lst_still R1 rv e3
        obtain ⟨vs0, g0, _⟩ := f [] (by simp) H1 m1 S1 .refl R1 (still_now e3)
        refine ⟨a, rfl, .inl ⟨⟨vs0, by rw [hK]; exact g0⟩, q _ fun hs hp H m S L R st => ?_⟩⟩
        rw [hK]
        obtain ⟨vs, g, r⟩ := f hs hp H m S L R st
        exact dw_seq (K := T.K) walk_list g r R
    · exact q.elim⟩
theorem len_rng (a b : Int) : (rngL a b).length = (b - a).toNat := by simp [rngL]
theorem dw_rng {lo hi : Int} {H : Hp} {m : List Addr} : DWalk T (Itr lo (hi - lo).toNat) (rngL lo hi) (fun _ => true) H m := by
  intro hs hp H m S L R _
  rw [len_rng]
  refine ⟨fun i hi => hi, Nat.le_refl _, fun i x H' hl y => ?_⟩
  obtain ⟨rfl, rfl⟩ := y
  refine ⟨.int (lo + i), ?_, rfl, R, .refl⟩
  simp [rngL, List.getElem?_range hl]
def rngI (l : Option Int) (h : D) (S : Sx) : TK.R (List D × (Sx → Bool)) := (lift (intD h) S).bind fun h S => if (-(2 ^ 62) ≤ l.getD 0 ∧ l.getD 0 < 2 ^ 62) ∧ (-(2 ^ 62) ≤ h ∧ h < 2 ^ 62) then .ok (rngL (l.getD 0) h, fun _ => true) S else .bad
theorem si_rng1 {tg : Expr} (hst : notStar a = true) (hg : Gl X "range") (hm : X.mg "range" = none) (ha : PE X a (rdE T W fa)) : PI X tg (.Call (.Name "range" p) [a] [] pos) (rdI T W fun s S => (R.ok none S).bind fun l S => (fa s S).bind fun h S => rngI l h S) :=
  PI_imp (pi_range1 hg hm (pa_cons ha pa_nil (star_cons hst [] X.env)) (star_cons hst [] X.env)) fun σ H Q ⟨s, S, m, hs, hS, h⟩ => ⟨s, S, m, hs, hS, (show Ok T _ H m _ ((fa s S).bind fun h S => rngI none h S) from h).bind.mono fun d S1 H1 m1 L1 R1 q v rv => by
    unfold rngI at q
    obtain ⟨j, e, q1⟩ := lift_ok q.bind
    have q3 := q1 H1 m1 .refl R1
    clear q q1
    cases d with
    | int j' =>
      cases e
      dsimp only at q3
      split at q3
      · rename_i hc
        rw [show v = .int j from rv]
        refine ⟨j, rfl, hc.2.1, hc.2.2, q3 H1 m1 .refl R1 _ ?_⟩
        have := dw_rng (T := T) (lo := 0) (hi := j) (H := H1) (m := m1)
        rw [Int.sub_zero] at this
        exact this
      · exact q3.elim
    | _ => cases e⟩
theorem si_rng2 {tg : Expr} (hst : notStar a = true) (hst2 : notStar b = true) (hg : Gl X "range") (hm : X.mg "range" = none) (ha : PE X a (rdE T W fa)) (hb : PE X b (rdE T W fb)) :
    PI X tg (.Call (.Name "range" p) [a, b] [] pos) (rdI T W fun s S => ((fa s S).bind fun d S => (lift (intD d) S).bind fun i S => .ok (some i) S).bind fun l S => (fb s S).bind fun h S => rngI l h S) :=
  PI_imp (pi_range2 hg hm (pa_cons ha (pa_cons hb pa_nil (star_cons hst2 [] X.env)) (star_cons hst [b] X.env)) (by rw [star_cons hst, star_cons hst2] <;> rfl) (star_cons hst2 [] X.env)) fun σ H Q ⟨s, S, m, hs, hS, h⟩ => by
    have h : Ok T _ H m _ (((fa s S).bind fun d S => (lift (intD d) S).bind fun i S => .ok (some i) S).bind fun l S => (fb s S).bind fun h S => rngI l h S) := h
    rw [bind_assoc] at h
    refine ⟨s, S, m, hs, hS, h.bind.mono fun d S1 H1 m1 L1 R1 q v rv => ?_⟩
    rw [bind_assoc] at q
    obtain ⟨i, e, q1⟩ := lift_ok q.bind
    have q3 := q1 H1 m1 .refl R1
    clear q q1
    cases d with
    | int i' =>
      cases e
      refine ⟨s, S1, m1, hs.mono L1, R1, (show Ok T _ H1 m1 _ ((fb s S1).bind fun h S => rngI (some i) h S) from q3).bind.mono fun d2 S2 H2 m2 L2 R2 q2 u ru => ?_⟩
      unfold rngI at q2
      obtain ⟨j, e, q4⟩ := lift_ok q2.bind
      have q5 := q4 H2 m2 .refl R2
      clear q2 q4
      cases d2 with
      | int j' =>
        cases e
        dsimp only at q5
        split at q5
        · rename_i hc
          rw [show v = .int i from rv, show u = .int j from ru]
          exact ⟨i, j, rfl, ⟨hc.1.1, hc.1.2, hc.2.1, hc.2.2⟩, q5 H2 m2 .refl R2 _ dw_rng⟩
        · exact q5.elim
      | _ => cases e
    | _ => cases e
end
end TK
end
section
set_option autoImplicit false
set_option linter.all false
set_option maxRecDepth 100000
namespace TK
open PySem L2 PySem.Spec PyProof.Rows

/-- no exception is wished for -/
def noW : WX := fun _ _ _ _ => False
theorem takes_no {X : Cx} : Takes X noW := fun u s' ⟨_, _, _, _, _, _, _, _, _, _, _, _, _, _, _, _, w⟩ => w.elim
theorem flat_no : Flat noW := fun _ _ _ _ _ h => h
def notSet : Expr → Bool
  | .Set _ _ _ => false
  | _ => true
theorem fold_not {e : Expr} {env : PySem.Env} (h : notSet e = true) (x : Value) : foldedSetIterable e env x = pure x := by
  cases e <;> first | rfl | cases h
section
variable {X : Cx} {T : Tb} {W : WX} {a b c o i elt iter tg : Expr} {ifs : List Expr} {fa fb fc : Vs → Sx → TK.R D} {fs : Vs → Sx → TK.R (List D)} {pos apos p : Pos} {tg' : Tg} {fi : TDi} {fe : Vs → Sx → TK.R D} {ft : Vs → Sx → TK.R Bool} {vs : List Nat} {still : Sx → Bool}
/-- a comprehension's list, as the walk goes on -/
def rdGx (T : Tb) (tg : Tg) : TG := fun x σ H Q => ∃ p, rdG (T.hide p) tg x σ H Q
theorem pg_ex (h : ∀ p, PG X tg (rdG (T.hide p) tg')) : PG X tg (rdGx T tg') := ⟨fun pins s σ H v u Q I r ⟨p, q⟩ => (h p).run pins s σ H v u Q I r q⟩
theorem nox_ok {a : Type} {r : TK.R a} {b : Type} {f : a → Sx → TK.R b} {E : XK} {H : Hp} {m : List Addr} {P : b → Sx → Hp → List Addr → Prop} (h : Ok T E H m P (r.nox.bind f)) : ∃ x S, r = .ok x S ∧ Ok T E H m P (f x S) := by
  cases r with
  | ok x S => exact ⟨x, S, rfl, h⟩
  | exc c v S => exact h.elim
  | bad => exact h.elim
/-- the turn's result -/
theorem bind_nox {a b : Type} {r : TK.R a} {f : a → Sx → TK.R b} {y : b} {S' : Sx} (h : r.bind f = .ok y S') : ∃ x S, r = .ok x S ∧ f x S = .ok y S' := by
  cases r with
  | ok x S => exact ⟨x, S, rfl, h⟩
  | exc c v S => cases h
  | bad => cases h
theorem lc_ok {tr : Bool} {J : L2.It} {σ : L2.St} {H1 : Hp} {m1 : List Addr} {S1 : Sx} {s : Vs} {E : XK} {Q : VK} {xs : List D} (hs : RelV T H1 m1 s σ) (R1 : RelH T H1 m1 S1) (w : DWalk T J xs still H1 m1) (hv : ∀ i ∈ tg'.slots, i ∈ vs)
    (h : Ok T E H1 m1 (PV T Q) ((lcL tg' ft fe still (wipeV s vs) xs [] S1).nox.bind fun ys S => newL tr ys S)) {Dl : Addr} (hD : H1 Dl = none) :
    ∃ Wi : Nat → Nat → Hp → Prop, (∃ n, Wi 0 n (upd H1 Dl (.lst []))) ∧ ∀ i n H, Wi i n H →
      (J.stop i H ∧ Q (.ref Dl) H) ∨ (J.go i H ∧ ∃ Nx : Hp → Prop, (∀ H', Nx H' → ∃ n', n' < n ∧ Wi (i + 1) n' H') ∧ ∀ x H', J.yld i H x H' → rdGx T tg' x (L2.wipe σ vs) H' fun σ2 H2 => L2.wipe σ2 vs = L2.wipe σ vs ∧ rdTx T noW ft σ2 H2 fun b H3 =>
        if b = true then rdEx T noW fe σ2 H3 fun y H4 => ∃ acc, H4 Dl = some (.lst acc) ∧ acc.length < sizeLine ∧ Nx (upd H4 Dl (.lst (acc ++ [y]))) else Nx H3) := by
  obtain ⟨ys, Sy, ey, h⟩ := nox_ok h
  have nD := R1.new hD
  refine ⟨fun i n H => n = xs.length - i ∧ i ≤ xs.length ∧ ∃ m S acc ws, Later H1 H m1 m ∧ RelH (T.hide Dl) H m S ∧ RelV (T.hide Dl) H m (wipeV s vs) (L2.wipe σ vs) ∧ H Dl = some (.lst ws) ∧ RepL (T.hide Dl) H m acc ws ∧ lcL tg' ft fe still (wipeV s vs) (xs.drop i) acc S = .ok ys Sy, ⟨xs.length, by simp, Nat.zero_le _, m1, S1, [], [], later_new hD, R1.hide hD, (hs.wipe vs).hide hD, upd_same, rfl, by simpa using ey⟩, ?_⟩
  rintro i n H ⟨rfl, hi, m, S, acc, ws, L, R, rv, eD, ra, el⟩
  have nDm : Dl ∉ m := (R.hid Dl List.mem_cons_self).1
  have hst : still S = true := by
    cases hx : xs.drop i with
    | nil =>
      rw [hx] at el
      unfold lcL at el
      split at el
      · assumption
      · cases el
    | cons d ds =>
      rw [hx] at el
      unfold lcL at el
      split at el
      · assumption
      · cases el
  obtain ⟨w1, w2, w3⟩ := w [Dl] (fun q hq => by rw [List.mem_singleton.mp hq]; exact hD) H m S L R hst
  by_cases hlt : i < xs.length
  · refine .inr ⟨w1 i hlt, _, fun H' q => ⟨xs.length - (i + 1), by omega, q⟩, fun x H' y => ?_⟩
    obtain ⟨d, e1, rd, R', L'⟩ := w3 i x H' hlt y
    have hdr : xs.drop i = d :: xs.drop (i + 1) := by
      rw [List.drop_eq_getElem_cons hlt]
      congr 1
      exact Option.some.inj ((List.getElem?_eq_getElem hlt).symm.trans e1)
    rw [hdr] at el
    unfold lcL at el
    rw [if_pos hst] at el
    split at el
    · rename_i s1 es1
      refine ⟨Dl, d, _, s1, m, rd, rv.mono L', es1, fun σ2 r2 o2 => ⟨?_, ?_⟩⟩
      · rw [o2.wipe hv, wipe_wipe]
      · obtain ⟨b, S2, eb, el⟩ := bind_nox el
        refine ⟨Dl, s1, S, m, r2, R', ?_⟩
        rw [eb]
        intro H3 m3 L3 R3
        have rs3 := rv.mono (L'.trans L3)
        have L13 := L.trans (L'.trans L3)
        have eD3 : H3 Dl = some (.lst ws) := (L'.trans L3).fr _ _ eD nDm (fun _ e => nomatch e)
        have ra3 := RepL.mono (L'.trans L3) _ _ ra
        cases b with
        | false =>
          simp only [Bool.false_eq_true, if_false] at el ⊢
          exact ⟨by first | rfl | trivial, hlt, m3, S2, acc, ws, L13, R3, rs3, eD3, ra3, el⟩
        | true =>
          simp only [if_true] at el ⊢
          obtain ⟨y, S4, ey4, el⟩ := bind_nox el
          refine ⟨Dl, s1, S2, m3, r2.mono L3, R3, ?_⟩
          rw [ey4]
          intro H4 m4 L4 R4 v rv4
          have eD4 : H4 Dl = some (.lst ws) := L4.fr _ _ eD3 (R3.hid Dl List.mem_cons_self).1 (fun _ e => nomatch e)
          split at el
          · rename_i hlen
            refine ⟨ws, eD4, by rw [← ra.len]; exact hlen, by first | rfl | trivial, hlt, m4, S4, acc ++ [y], ws ++ [v], ?_⟩
            have e : ∀ a, a ≠ Dl → (upd H4 Dl (.lst (ws ++ [v]))) a = H4 a := fun a q => upd_ne q
            have nt := nt_lst eD4
            exact ⟨(L13.trans L4).off hD e, R4.off e nt (ntb_lst eD4) ⟨_, upd_same⟩, (rs3.mono L4).off e nt, upd_same, RepL.off e nt _ _ ((RepL.mono L4 _ _ ra3).append (.one rv4)), el⟩
          · cases el
    · cases el
  · have e : i = xs.length := by omega
    subst e
    refine .inl ⟨w2, ?_⟩
    rw [List.drop_length] at el
    unfold lcL at el
    rw [if_pos hst] at el
    cases el
    have nt := nt_lst eD
    unfold newL at h
    split at h
    · cases tr with
      | true =>
        simp only [if_true] at h
        exact h H (m ++ [Dl]) (L.adopt hD nD) (R.adopt (R1.fresh hD) nt (ntb_lst eD) ⟨ws, eD, RepL.adopt nt _ _ ra⟩) _ ⟨Dl, rfl, by rw [← R.len]; simp⟩
      | false =>
        simp only [Bool.false_eq_true, if_false] at h
        exact h H m L R.unhide _ ⟨Dl, ws, rfl, ⟨eD, nDm, R1.fresh hD⟩, RepL.unhide _ _ ra⟩
    · exact h.elim
theorem rd_lc {tr : Bool} {σ : L2.St} {H : Hp} {Q : VK} (hv : ∀ i ∈ tg'.slots, i ∈ vs) (h : rdE T W (fun s S => (fi s S).bind fun xs S => (lcL tg' ft fe xs.2 (wipeV s vs) xs.1 [] S).nox.bind fun ys S => newL tr ys S) σ H Q) :
    tLc (rdI T W fi) (rdGx T tg') (rdTx T noW ft) (rdEx T noW fe) vs σ H Q := by
  obtain ⟨s, S, m, hs, hS, h⟩ := h
  refine ⟨s, S, m, hs, hS, h.bind.mono fun q S1 H1 m1 L1 R1 g J w Dl hD => ?_⟩
  exact lc_ok (hs.mono L1) R1 w hv g hD
/-- a comprehension's tests: none, or one -/
theorem pts_ex0 : PTs X [] (rdTx T W fun _ S => .ok true S) := ⟨fun pins s σ H Q I ⟨p, s0, S, m, hs, hS, q⟩ => pts_nil.run pins s σ H Q I (q H m .refl hS)⟩
theorem pts_ex1 (h : ∀ p, PT X c (rdT (T.hide p) W ft)) : PTs X [c] (rdTx T W ft) := pts_one (pt_ex h)
section
variable {scope : Scope} {own : List (Str × Nat)} {tr : Bool}
theorem s_lc (hc : X.calm = true) (hN : X.N.Nodup) (hi : PI X tg iter (rdI T W fi)) (ok : BlkOk X.N X.env.scope scope own) (hv : ∀ i ∈ tg'.slots, i ∈ own.map (·.2)) (hset : notSet iter = true)
    (hg : ∀ (s : Shared) (H : Hp) (C : Addr) (cl : List (Str × Addr)) (fp : List Addr) (p : Addr), PG (X.blk s H scope (compEnvC scope cl C X.env) fp) tg (rdG (T.hide p) tg'))
    (ht : ∀ (s : Shared) (H : Hp) (C : Addr) (cl : List (Str × Addr)) (fp : List Addr), PTs (X.blk s H scope (compEnvC scope cl C X.env) fp) ifs (rdTx T noW ft))
    (he : ∀ (s : Shared) (H : Hp) (C : Addr) (cl : List (Str × Addr)) (fp : List Addr) (p : Addr), PE (X.blk s H scope (compEnvC scope cl C X.env) fp) elt (rdE (T.hide p) noW fe)) :
    PE X (.ListComp elt [⟨tg, iter, ifs, 0⟩] scope pos) (rdE T W fun s S => (fi s S).bind fun xs S => (lcL tg' ft fe xs.2 (wipeV s (own.map (·.2))) xs.1 [] S).nox.bind fun ys S => newL tr ys S) :=
  PE_imp (pe_lc hc hN hi ok (fun s H C cl fp => pg_ex (hg s H C cl fp)) ht (fun s H C cl fp => pe_ex (he s H C cl fp)) (fold_not hset)) fun σ H Q h => rd_lc hv h
end
end
end TK
end
section
set_option autoImplicit false
set_option linter.all false
set_option maxRecDepth 100000
/-! ### a tuple's items with their places -/
namespace TK
open PySem L2 PySem.Spec PyProof.Rows
set_option maxHeartbeats 1000000 in
theorem mk_enum {y : Value} {ob : Obj} {Hs : Heap → Prop} (B : Begins y ob Hs) : Meets (Builtin.«enumerate.__new__» ⟨[.type "enumerate", y], []⟩) (fun _ R s => Hs s.heap ∧
    R (.ok (.ret (.ref (s.heap.push ob).objs.size))) { s with heap := (s.heap.push ob).push { cls := .type "enumerate", data := .fields #[.none, .bool false, .ref s.heap.objs.size, rawInt 0, .none, .none] } }) :=
  .of_wp fun prog w A R s h => by
    obtain ⟨hh, gg, dd, nn, oo⟩ := s
    obtain ⟨b1, h⟩ := h
    have su := sub_enumerate
    have bi : ∀ {A' : Around} {E Q : Value → Shared → Prop}, Q (.ref hh.objs.size) ⟨hh.push ob, gg, dd, nn, oo⟩ → wpAny (model prog w) A' (pyIter y) Q E ⟨hh, gg, dd, nn, oo⟩ :=
      fun z => B.iter prog w _ _ ⟨hh, gg, dd, nn, oo⟩ _ b1 z
    wp_walk using bi
    refine wpAny_stack_any fun _ => wpAny_pure ?_
    split
    · rename_i cc _ _ _ _ _
      cases (cc == Value.type "enumerate") <;> (wp_walk using bi; exact ⟨_, rfl, h⟩)
    · wp_walk using bi
      exact ⟨_, rfl, h⟩
section
variable {prog : Program} {w : World} {A : Around} {E : Value → Shared → Prop} {s : Shared}
/-- its two cells -/
theorem call_enum1 {y : Value} {ob : Obj} {Hs : Heap → Prop} {Q : Value → Shared → Prop} (B : Begins y ob Hs) (b1 : Hs s.heap)
    (k : ∀ h', IsEnum h' (s.heap.objs.size + 1) s.heap.objs.size 0 .none → h'.get? s.heap.objs.size = some ob → (∀ c o, s.heap.get? c = some o → h'.get? c = some o) → Q (.ref (s.heap.objs.size + 1)) { s with heap := h' }) :
    wpAny (model prog w) A (call (.type "enumerate") [y]) Q E s := by
  refine callType_new F.called_enumerate (by decide) (F.typeCall_enumerate_1 _) (F.newCall_enumerate_1 _) (fun z => F.args_object_init_2 z _) F.entry_enumerate_new (mk_enum B) ⟨b1, ?_⟩
  have sz : (s.heap.push ob).objs.size = s.heap.objs.size + 1 := Heap.size_push ..
  show _ ∧ _
  rw [sz]
  have ie : IsEnum ((s.heap.push ob).push { cls := .type "enumerate", data := .fields #[.none, .bool false, .ref s.heap.objs.size, rawInt 0, .none, .none] }) (s.heap.objs.size + 1) s.heap.objs.size 0 .none := by
    have z := Heap.get?_push_size (s.heap.push ob) (o := { cls := .type "enumerate", data := .fields #[.none, .bool false, .ref s.heap.objs.size, rawInt 0, .none, .none] }) rfl
    rw [sz] at z
    exact z
  exact ⟨⟨_, ie, rfl⟩, k _ ie (Heap.get?_push_of_some _ (Heap.get?_push_size _ B.free)) fun c o z => Heap.get?_push_of_some _ (Heap.get?_push_of_some _ z)⟩
theorem enT_end {e it t : Addr} {i : Nat} {c : Int} {its : Array Value} {old : Value} {Q : Option Value → Shared → Prop} (ha : A.handled = none) (ie : IsEnum s.heap e it c old) (ti : s.heap.IsTupleIter it t i) (ht : s.heap.IsTuple t its) (no : its[i]? = none)
    (k : ∀ h', Heap.ExtBut it s.heap h' → Q none { s with heap := h' }) : wpAny (model prog w) A (pyNext (.ref e)) Q E s := by
  have ty : s.TypeIs (.ref e) "enumerate" := ⟨_, ie, rfl⟩
  unfold pyNext
  refine wpAny_bind (wpAny_attempt (wpAny_callSpecial?_slot (name := Str.ofString "__next__") ty F.slot_enumerate_next (wpAny_call_entry F.slot_enumerate_next ty F.entry_enumerate_next ?_ (F.args_enumerate_next_1 _))))
  show wpAny _ _ (field (.ref e) 2 >>= _) _ _ s
  refine wpAny_bind (wpAny_field ie rfl (x := .ref it) rfl (wpAny_bind (wpAny_nextOf_tuple_end (show A.in1.handled = none from ha) ti ht no fun h' z eb hz => ?_)))
  obtain ⟨o, oz, oc⟩ := hz
  exact wpAny_bind (wpAny_isInstance (T := "StopIteration") (b := true) ⟨o, oz, oc⟩ isSubtype_stop (wpAny_pure (k _ eb)))
end
/-- the turns over a tuple at a -/
def IteT (K : PySem.W.Frag) (a : Addr) : L2.It :=
  ⟨fun i H => ∃ (xs : List V) (x : V), SqT K H a xs ∧ xs[i]? = some x, fun i H v H' => ∃ N x, v = .ref N ∧ H N = none ∧ H' = upd H N (.tup [.int (i : Nat), x]) ∧ ∀ xs, SqT K H a xs → xs[i]? = some x, fun i H => ∃ xs : List V, SqT K H a xs ∧ xs.length ≤ i⟩
theorem turn_enT {P : Program} {w : World} {K : PySem.W.Frag} {elts : List Expr} {kk : Nat} {tpos : Pos} (a e it : Addr) (hai : a ≠ it) (hae : a ≠ e) :
    Turn P w K (.Tuple elts kk tpos) (IteT K a) [e, it] e (fun i h => (∃ old, IsEnum h e it ((i : Nat) : Int) old) ∧ h.IsTupleIter it a i ∧ e ≠ it) where
  mem := by simp
  obj := fun i h st b hb => by
    obtain ⟨⟨old, ie⟩, ⟨o, ho, hc, hd⟩, _⟩ := st
    rcases (by simpa using hb : b = e ∨ b = it) with rfl | rfl
    · exact ⟨_, ie, fun v q => nomatch q⟩
    · exact ⟨o, ho, fun v q => by rw [hd] at q; cases q⟩
  keep := fun i h h' st k => by
    obtain ⟨⟨old, ie⟩, ti, ne⟩ := st
    exact ⟨⟨old, k e (by simp) _ ie⟩, ti.at fun o q => k it (by simp) o q, ne⟩
  item := by
    intro X hP hw hK hc i pins s σ H E I hf st hg
    subst hP hw hK
    obtain ⟨⟨old, ie⟩, ti, ne⟩ := st
    obtain ⟨xs, x, hq, hx⟩ := hg
    obtain ⟨its, rv, p, hz⟩ := I.tuple hq
    have p : s.heap.IsTuple a its.toArray := p
    obtain ⟨u, hu, ru⟩ := rv.get hx
    have el : e < s.heap.objs.size := Heap.lt_size ie
    have il : it < s.heap.objs.size := by obtain ⟨_, q, _⟩ := ti; exact Heap.lt_size q
    have D := Draws.tuple (prog := X.prog) (w := X.w) (A := X.A.in1) (I.ok.hd hc) it a hai its.toArray
    have ea : e ∉ [it, a] := by
      simp only [List.mem_cons, List.not_mem_nil, or_false, not_or]
      exact ⟨ne, fun q => hae q.symm⟩
    refine wpAny_pyNext_enum_itemD D ie ⟨ti, p⟩ (i := i) (by
      have := (List.getElem?_eq_some_iff.mp hu).1
      simpa using this) ne ea fun y h' tk hy ho st' hT hsz hk => ?_
    have ey : y = u := by
      have hy : its.toArray[i]? = some y := hy
      rw [List.getElem?_toArray, hu] at hy
      exact (Option.some.inj hy).symm
    subst ey
    refine ⟨_, rfl, wpAny_letOwnedTupleGo_enum (s := { s with heap := h', toks := tk + 1 }) ho fun h2 ie2 sb => ?_⟩
    have hT2 : h2.get? s.heap.objs.size = some { cls := .type "tuple", data := .seq #[.int i tk, y] } := (sb.2 _ (Nat.ne_of_gt el)).trans hT
    have new : ObjOk X.prog X.w (upd H s.heap.objs.size (.tup [.int (i : Nat), x])) h2 s.heap.objs.size (.tup [.int (i : Nat), x]) :=
      ⟨by show 2 ≤ sizeLine; decide, [.int i tk, y], .cons ⟨_, rfl⟩ (.cons ru .nil), ⟨_, hT2, rfl, _, rfl⟩⟩
    have I1 : Inv X pins σ (upd H s.heap.objs.size (.tup [.int (i : Nat), x])) { s with heap := h2, toks := tk + 1 } :=
      I.turnedNew (ch := [e, it]) (fun b ob hb q => (sb.2 b (fun z => hb (by simp [z]))).trans (hk b ob (fun z => hb (by simp [z])) (fun z => hb (by simp [z])) q)) hf (Nat.le_refl _) new
    have i1 : ((i + 1 : Nat) : Int) = (i : Int) + 1 := by omega
    refine ⟨.ref s.heap.objs.size, _, I1, rfl, ⟨_, x, rfl, I.hok.fresh (Nat.le_refl _), rfl, fun ys hy => by rw [I.tuple_inj hy hq]; exact hx⟩, ⟨⟨y, by rw [i1]; exact ie2⟩, st'.1.at fun o q => (sb.2 it (Ne.symm ne)).trans q, ne⟩, fun b hb => ?_⟩
    have bl : b < s.heap.objs.size := by
      rcases (by simpa using hb : b = e ∨ b = it) with rfl | rfl
      · exact el
      · exact il
    rw [upd_ne (Nat.ne_of_lt bl)]
    exact (hf b hb).1
  done := by
    intro X hP hw hK hc i pins s σ H E I hf st hg
    subst hP hw hK
    obtain ⟨⟨old, ie⟩, ti, ne⟩ := st
    obtain ⟨xs, hq, hx⟩ := hg
    obtain ⟨its, rv, p, hz⟩ := I.tuple hq
    have p : s.heap.IsTuple a its.toArray := p
    have hl := rv.length
    obtain ⟨f0, f1, f2, f3, f4, f5⟩ := hf it (by simp)
    exact enT_end (I.ok.hd hc) ie ti p (by simp; omega) fun h' eb => ⟨rfl, I.turned (t' := s.toks) (fun b o hb q => eb b o hb q) f0 f1 f3 f4 f5⟩
  self := fun A i s Q E st k => by
    obtain ⟨⟨old, ie⟩, _⟩ := st
    exact wpAny_pyIter_enum ie k
def iEnT (K : PySem.W.Frag) (ta : TA) : TI := fun σ H R => ta σ H fun vs H1 => ∃ a, vs = [.ref a] ∧ (((∃ xs, SqL K H1 a xs) ∧ R (Ite K a) H1) ∨ ((∃ xs, SqT K H1 a xs) ∧ R (IteT K a) H1))
theorem pi_enT {X : Cx} {e : Expr} {ta : TA} {p pos tpos : Pos} {elts : List Expr} {kk : Nat} (hg : Gl X "enumerate") (hm : X.mg "enumerate" = none) (ha : PA X [e] ta) (hs : starEach [e] X.env = [(false, eval e X.env)]) :
    PI X (.Tuple elts kk tpos) (.Call (.Name "enumerate" p) [e] [] pos) (iEnT X.K ta) := by
  refine ⟨fun pins s σ H R I h => ?_⟩
  refine Call_ (ld_blt I hg hm boot_enumerate (PyProof.Rows.callWith_type1 (thn (ha.run pos pins s σ H _ I h) fun us s1 ⟨vs, H1, I1, r1, a, ev, z⟩ => ?_) hs rfl))
  subst ev
  cases r1 with
  | cons r rr =>
    cases rr
    cases r
    have two : ∀ b ∈ [s1.heap.objs.size + 1, s1.heap.objs.size], FpOk X pins H1 b := fun b hb => by
      have le : s1.heap.objs.size ≤ b := by
        rcases (by simpa using hb : b = s1.heap.objs.size + 1 ∨ b = s1.heap.objs.size) with rfl | rfl
        · exact Nat.le_add_right _ _
        · exact Nat.le_refl _
      exact I1.fpOk le (I1.hok.fresh le)
    rcases z with ⟨⟨xs, hq⟩, z⟩ | ⟨⟨xs, hq⟩, z⟩
    · obtain ⟨its, rv, pl, hz⟩ := I1.list hq
      exact call_enum1 (begins_list a its.toArray) pl.isList fun h' ie ho hk => wpAny_pyIter_enum ie
        ⟨s1.heap.objs.size + 1, [s1.heap.objs.size + 1, s1.heap.objs.size], _, _, H1, rfl, I1.kept (t' := s1.toks) hk, turn_enum a _ _, ⟨⟨.none, ie⟩, ⟨_, ho, rfl, rfl⟩, Nat.succ_ne_self _⟩, two, z⟩
    · obtain ⟨its, rv, pl, hz⟩ := I1.tuple hq
      have pl : s1.heap.IsTuple a its.toArray := pl
      have al : a < s1.heap.objs.size := by obtain ⟨_, q, _⟩ := pl; exact Heap.lt_size q
      exact call_enum1 (begins_tuple a its.toArray) pl fun h' ie ho hk => wpAny_pyIter_enum ie
        ⟨s1.heap.objs.size + 1, [s1.heap.objs.size + 1, s1.heap.objs.size], _, _, H1, rfl, I1.kept (t' := s1.toks) hk, turn_enT a _ _ (Nat.ne_of_lt al) (Nat.ne_of_lt (Nat.lt_succ_of_lt al)), ⟨⟨.none, ie⟩, ⟨_, ho, rfl, rfl⟩, Nat.succ_ne_self _⟩, two, z⟩
section
variable {X : Cx} {T : Tb} {W : WX} {a : Expr} {fa : Vs → Sx → TK.R D} {pos p : Pos}
/-- the walk of the pairs -/
theorem len_pairs (xs : List D) : (enumL xs).length = xs.length := by simp [enumL]
theorem get_pairs {xs : List D} {i : Nat} {d : D} (h : xs[i]? = some d) : (enumL xs)[i]? = some (.tup [.int (i : Nat), d]) := by
  simp [enumL, List.getElem?_zipIdx, h]
def enumI (d : D) (S : Sx) : TK.R (List D × (Sx → Bool)) := match seqOf d S with
  | some xs => .ok (enumL xs, stillOf d xs) S
  | none => .bad
theorem walk_enT {K : PySem.W.Frag} {a : Addr} {xs : List V} : Walk (IteT K a) xs.length (fun H => SqT K H a xs) (YPair (fun i => some (.int (i : Nat))) (fun i => xs[i]?)) := by
  refine ⟨fun i _ hi q => ⟨xs, xs[i], q, by simp [hi]⟩, fun _ q => ⟨xs, q, Nat.le_refl _⟩, fun i H v H' _ q y => ?_⟩
  obtain ⟨N, x, k1, k2, k3, k4⟩ := y
  exact ⟨N, .int (i : Nat), x, k1, k2, k3, rfl, k4 xs q⟩
theorem dw_pair {J : L2.It} {H : Hp} {m : List Addr} {S : Sx} {xs : List D} {vs : List V} {G : Hp → Prop} (w : Walk J vs.length G (YPair (fun i => some (.int (i : Nat))) (fun i => vs[i]?))) (g : G H) (r : RepL T H m xs vs) (R : RelH T H m S) :
    (∀ i, i < (enumL xs).length → J.go i H) ∧ J.stop (enumL xs).length H ∧ ∀ i x H', i < (enumL xs).length → J.yld i H x H' → ∃ d, (enumL xs)[i]? = some d ∧ RepV T H' m d x ∧ RelH T H' m S ∧ Later H H' m m := by
  rw [len_pairs, r.len]
  refine ⟨fun i hi => w.goes i H hi g, w.stops H g, fun i x H' hi y => ?_⟩
  obtain ⟨N, u, v, rfl, fr, rfl, e1, e2⟩ := w.yields i H x H' hi g y
  cases e1
  obtain ⟨d, e3, rd⟩ := r.get' e2
  have L : Later H (upd H N (.tup [.int (i : Nat), v])) m m := later_new fr
  exact ⟨.tup [.int (i : Nat), d], get_pairs e3, ⟨N, _, rfl, .inl ⟨.inl upd_same, R.new fr⟩, ⟨_, _, rfl, rfl, RepL.one (RepV.mono L _ _ rd)⟩⟩, R.aside fr, L⟩
theorem si_enum {elts : List Expr} {kk : Nat} {tpos : Pos} (hK : X.K = T.K) (hst : notStar a = true) (hg : Gl X "enumerate") (hm : X.mg "enumerate" = none) (ha : PE X a (rdE T W fa)) :
    PI X (.Tuple elts kk tpos) (.Call (.Name "enumerate" p) [a] [] pos) (rdI T W fun s S => (fa s S).bind fun d S => enumI d S) :=
  PI_imp (pi_enT hg hm (pa_cons ha pa_nil (star_cons hst [] X.env)) (star_cons hst [] X.env)) fun σ H Q ⟨s, S, m, hs, hS, h⟩ => ⟨s, S, m, hs, hS, h.bind.mono fun d S1 H1 m1 L1 R1 q v rv => by
    unfold enumI at q
    split at q
    · rename_i xs e
      have q := q H1 m1 .refl R1
      rcases seq_cases e with rfl | e3
      · obtain ⟨a, vs, rfl, h1, h2⟩ := rv
        refine ⟨a, rfl, .inr ⟨⟨vs, TupAt.sq hK h1⟩, q _ fun hs hp H m S L R _ => ?_⟩⟩
        rw [hK]
        have h3 : RepV T H1 m1 (.tup xs) (.ref a) := ⟨a, vs, rfl, h1, h2⟩
        obtain ⟨a', vs', e1, k1, k2⟩ := RepV.mono L _ _ (RepV.hides hp _ _ h3)
        cases e1
        exact dw_pair (walk_enT (K := T.K)) (sqT_of k1) k2 R
      · clear e
        obtain ⟨a, rfl, f⟩ := lst_still R1 rv e3
        obtain ⟨vs0, g0, _⟩ := f [] (by simp) H1 m1 S1 .refl R1 (still_now e3)
        refine ⟨a, rfl, .inl ⟨⟨vs0, by rw [hK]; exact g0⟩, q _ fun hs hp H m S L R st => ?_⟩⟩
        rw [hK]
        obtain ⟨vs, g, r⟩ := f hs hp H m S L R st
        exact dw_pair (walk_enum (K := T.K)) g r R
    · exact q.elim⟩
theorem strs_rep {H : Hp} {m : List Addr} : ∀ {ds : List D} {vs : List V} {ys : List Str}, strsD ds = some ys → RepL T H m ds vs → vs = ys.map V.str
  | [], _, _, e, r => by
    cases e
    exact r
  | .str z :: ds, vs, ys, e, r => by
    obtain ⟨zs, e1, rfl⟩ := Option.map_eq_some_iff.mp (show (strsD ds).map (z :: ·) = some ys from e)
    obtain ⟨v, ws, rfl, rv, rw_⟩ := r
    rw [show v = .str z from rv, strs_rep e1 rw_]
    rfl
  | .non :: _, _, _, e, _ => by cases e
  | .int _ :: _, _, _, e, _ => by cases e
  | .bl _ :: _, _, _, e, _ => by cases e
  | .tup _ :: _, _, _, e, _ => by cases e
  | .scr _ :: _, _, _, e, _ => by cases e
  | .lv _ :: _, _, _, e, _ => by cases e
  | .dv _ _ :: _, _, _, e, _ => by cases e
  | .iv _ _ _ :: _, _, _, e, _ => by cases e
  | .obj _ :: _, _, _, e, _ => by cases e
  | .fn _ :: _, _, _, e, _ => by cases e
theorem s_join {o : Expr} {fo : Vs → Sx → TK.R D} {apos : Pos} (hK : X.K = T.K) (hu : notSup o = true) (hl : (apos.endLine == pos.line) = true) (hst : notStar a = true) (ho : PE X o (rdE T W fo)) (ha : PE X a (rdE T W fa)) :
    PE X (.Call (.Attribute o "join" apos) [a] [] pos) (rdE T W fun s S => (fo s S).bind fun x S => (lift (strD x) S).bind fun z S => (fa s S).bind fun y S => lift (joinD z y S) S) :=
  PE_imp (pe_join ho ha (star_cons hst [] X.env) (base_of hu) hl) fun σ H Q ⟨s, S, m, hs, hS, h⟩ => ⟨s, S, m, hs, hS, h.bind.mono fun x S1 H1 m1 L1 R1 q v rv => by
    obtain ⟨z, e, q1⟩ := lift_ok q.bind
    have q1 := q1 H1 m1 .refl R1
    cases x with
    | str z' =>
      cases e
      refine ⟨⟨z, rv⟩, s, S1, m1, hs.mono L1, R1, q1.bind.mono fun y S2 H2 m2 L2 R2 q2 u ru => ?_⟩
      obtain ⟨d, e2, q3⟩ := lift_ok q2
      unfold joinD at e2
      split at e2
      · rename_i xs e3
        split at e2
        · rename_i ys e4
          split at e2
          · rename_i hz
            cases e2
            rcases seq_cases e3 with rfl | e5
            · obtain ⟨b, vs, rfl, h1, h2⟩ := ru
              have ev := strs_rep e4 h2
              subst ev
              exact ⟨z, b, ys, rv, rfl, .inr (TupAt.sq hK h1), hz, q3 H2 m2 .refl R2 _ rfl⟩
            · obtain ⟨b, rfl, f⟩ := lst_still R2 ru e5
              obtain ⟨vs, g, r⟩ := f [] (by simp) H2 m2 S2 .refl R2 (still_now e5)
              have ev := strs_rep e4 r
              subst ev
              exact ⟨z, b, ys, rv, rfl, .inl (by rw [hK]; exact g), hz, q3 H2 m2 .refl R2 _ rfl⟩
          · cases e2
        · cases e2
      · cases e2
    | _ => cases e⟩
end
end TK
end
section
set_option autoImplicit false
set_option linter.all false
set_option maxRecDepth 100000
/-! ### two walks in one comprehension -/
namespace TK
open PySem L2 PySem.Spec PyProof.Rows
section
variable {X : Cx} {T : Tb} {W : WX} {elt iter tg iter1 tg1 : Expr} {tg' tg1' : Tg} {fi : TDi} {fi1 fe : Vs → Sx → TK.R D} {vs vs1 : List Nat} {still : Sx → Bool} {pos : Pos}
def rdTx2 (T : Tb) (W : WX) (f : Vs → Sx → TK.R D) : TI := fun σ H R => ∃ p, iSeq T.K (rdE (T.hide p) W f) σ H R
theorem pi_ex2 {a : Expr} (hK : X.K = T.K) (h : ∀ p, PE X a (rdE (T.hide p) W fe)) : PI X tg a (rdTx2 T W fe) := ⟨fun pins s σ H R I ⟨p, q⟩ => (pi_seq (h p)).run pins s σ H R I (by rw [hK]; exact q)⟩
theorem lc2_still {sw : Vs} {xs acc : List D} {S S' : Sx} {ys : List D} (h : lc2L tg' tg1' fi1 fe still sw vs1 xs acc S = .ok ys S') : still S = true := by
  cases xs <;> unfold lc2L at h <;> split at h <;> first | assumption | cases h
theorem lc1_still {ft : Vs → Sx → TK.R Bool} {sw : Vs} {xs acc : List D} {S S' : Sx} {ys : List D} (h : lcL tg' ft fe still sw xs acc S = .ok ys S') : still S = true := by
  cases xs <;> unfold lcL at h <;> split at h <;> first | assumption | cases h
theorem bind_ok2 {a b : Type} {r : TK.R a} {f : a → Sx → TK.R b} {y : b} {S' : Sx} (h : r.bind f = .ok y S') : ∃ x S, r = .ok x S ∧ f x S = .ok y S' := by
  cases r with
  | ok x S => exact ⟨x, S, rfl, h⟩
  | exc c v S => cases h
  | bad => cases h
theorem lc2_ok {tr : Bool} {J : L2.It} {σ : L2.St} {H1 : Hp} {m1 : List Addr} {S1 : Sx} {s : Vs} {E : XK} {Q : VK} {xs : List D} (hs : RelV T H1 m1 s σ) (R1 : RelH T H1 m1 S1) (w : DWalk T J xs still H1 m1) (hv : ∀ i ∈ tg'.slots, i ∈ vs) (hv1 : ∀ i ∈ tg1'.slots, i ∈ vs1)
    (h : Ok T E H1 m1 (PV T Q) ((lc2L tg' tg1' fi1 fe still (wipeV s vs) vs1 xs [] S1).nox.bind fun ys S => newL tr ys S)) {Dl : Addr} (hD : H1 Dl = none) :
    ∃ Wi : Nat → Nat → Hp → Prop, (∃ n, Wi 0 n (upd H1 Dl (.lst []))) ∧ ∀ i n H, Wi i n H →
      (J.stop i H ∧ Q (.ref Dl) H) ∨ (J.go i H ∧ ∃ Nx : Hp → Prop, (∀ H', Nx H' → ∃ n', n' < n ∧ Wi (i + 1) n' H') ∧ ∀ x H', J.yld i H x H' → rdGx T tg' x (L2.wipe σ vs) H' fun σ2 H2 => L2.wipe σ2 vs = L2.wipe σ vs ∧ rdTx T noW (fun _ S => .ok true S) σ2 H2 fun b H3 =>
        if b = true then rdTx2 T noW fi1 σ2 H3 fun J1 H4 => ∃ W1 : Nat → Nat → Hp → Prop, (∃ k, W1 0 k H4) ∧ ∀ j k H, W1 j k H →
          (J1.stop j H ∧ Nx H) ∨ (J1.go j H ∧ ∃ Nx1 : Hp → Prop, (∀ H', Nx1 H' → ∃ k', k' < k ∧ W1 (j + 1) k' H') ∧ ∀ x H', J1.yld j H x H' → rdGx T tg1' x (L2.wipe σ2 vs1) H' fun σ3 H5 => L2.wipe σ3 vs1 = L2.wipe σ2 vs1 ∧ rdTx T noW (fun _ S => .ok true S) σ3 H5 fun b H6 =>
            if b = true then rdEx T noW fe σ3 H6 fun y H7 => ∃ acc, H7 Dl = some (.lst acc) ∧ acc.length < sizeLine ∧ Nx1 (upd H7 Dl (.lst (acc ++ [y]))) else Nx1 H6)
        else Nx H3) := by
  obtain ⟨ys, Sy, ey, h⟩ := nox_ok h
  have nD := R1.new hD
  refine ⟨fun i n H => n = xs.length - i ∧ i ≤ xs.length ∧ ∃ m S acc ws, Later H1 H m1 m ∧ RelH (T.hide Dl) H m S ∧ RelV (T.hide Dl) H m (wipeV s vs) (L2.wipe σ vs) ∧ H Dl = some (.lst ws) ∧ RepL (T.hide Dl) H m acc ws ∧ lc2L tg' tg1' fi1 fe still (wipeV s vs) vs1 (xs.drop i) acc S = .ok ys Sy, ⟨xs.length, by simp, Nat.zero_le _, m1, S1, [], [], later_new hD, R1.hide hD, (hs.wipe vs).hide hD, upd_same, rfl, ey⟩, ?_⟩
  rintro i n H ⟨rfl, hi, m, S, acc, ws, L, R, rv, eD, ra, el⟩
  have nDm : Dl ∉ m := (R.hid Dl List.mem_cons_self).1
  have hst : still S = true := lc2_still el
  obtain ⟨w1, w2, w3⟩ := w [Dl] (fun q hq => by rw [List.mem_singleton.mp hq]; exact hD) H m S L R hst
  by_cases hlt : i < xs.length
  · refine .inr ⟨w1 i hlt, _, fun H' q => ⟨xs.length - (i + 1), by omega, q⟩, fun x H' y => ?_⟩
    obtain ⟨d, e1, rd, R', L'⟩ := w3 i x H' hlt y
    have hdr : xs.drop i = d :: xs.drop (i + 1) := by
      rw [List.drop_eq_getElem_cons hlt]
      congr 1
      exact Option.some.inj ((List.getElem?_eq_getElem hlt).symm.trans e1)
    rw [hdr] at el
    unfold lc2L at el
    rw [if_pos hst] at el
    split at el
    · rename_i s1 es1
      refine ⟨Dl, d, _, s1, m, rd, rv.mono L', es1, fun σ2 r2 o2 => ⟨?_, ?_⟩⟩
      · rw [o2.wipe hv, wipe_wipe]
      · obtain ⟨q1, S2, eb, el⟩ := bind_ok2 el
        refine ⟨Dl, s1, S, m, r2, R', ?_⟩
        intro H3 m3 L3 R3
        refine ⟨Dl, s1, S, m3, r2.mono L3, R3, ?_⟩
        rw [eb]
        intro H4 m4 L4 R4 v1 rv1
        split at el
        · rename_i xs1
          obtain ⟨b1, us, rfl, t1, t2⟩ := rv1
          have rt : RepV (T.hide Dl) H4 m4 (.tup xs1) (.ref b1) := ⟨b1, us, rfl, t1, t2⟩
          have L14 := L.trans (L'.trans (L3.trans L4))
          have eD4 : H4 Dl = some (.lst ws) := (L'.trans (L3.trans L4)).fr _ _ eD nDm (fun _ e => nomatch e)
          have ra4 := RepL.mono (L'.trans (L3.trans L4)) _ _ ra
          have rs4 := rv.mono (L'.trans (L3.trans L4))
          have r24 := r2.mono (L3.trans L4)
          refine ⟨b1, rfl, .inr ⟨⟨us, sqT_of t1⟩, fun j k H => k = xs1.length - j ∧ j ≤ xs1.length ∧ ∃ m S acc ws, Later H1 H m1 m ∧ RelH (T.hide Dl) H m S ∧ RelV (T.hide Dl) H m (wipeV s vs) (L2.wipe σ vs) ∧ RelV (T.hide Dl) H m (wipeV s1 vs1) (L2.wipe σ2 vs1) ∧ RepV (T.hide Dl) H m (.tup xs1) (.ref b1) ∧ H Dl = some (.lst ws) ∧ RepL (T.hide Dl) H m acc ws ∧ ((lcL tg1' (fun _ S => .ok true S) fe (fun _ => true) (wipeV s1 vs1) (xs1.drop j) acc S).bind fun acc1 S2 => lc2L tg' tg1' fi1 fe still (wipeV s vs) vs1 (xs.drop (i + 1)) acc1 S2) = .ok ys Sy,
            ⟨xs1.length, by simp, Nat.zero_le _, m4, S2, acc, ws, L14, R4, rs4, r24.wipe vs1, rt, eD4, ra4, el⟩, ?_⟩⟩
          rintro j k H5 ⟨rfl, hj, m5, S5, acc5, ws5, L5, R5, rs5, r25, rt5, eD5, ra5, el5⟩
          obtain ⟨acc6, S6, e6, el6⟩ := bind_ok2 el5
          obtain ⟨b2, us2, e9, t3, t4⟩ := id rt5
          cases e9
          obtain ⟨u1, u2, u3⟩ := dw_seq (K := T.K) walk_tup (sqT_of t3) t4 R5
          have nD5 : Dl ∉ m5 := (R5.hid Dl List.mem_cons_self).1
          by_cases hl1 : j < xs1.length
          · refine .inr ⟨u1 j hl1, _, fun H' q => ⟨xs1.length - (j + 1), by omega, q⟩, fun x1 H6 y1 => ?_⟩
            obtain ⟨d1, e7, rd1, R6, L6⟩ := u3 j x1 H6 hl1 y1
            have hdr1 : xs1.drop j = d1 :: xs1.drop (j + 1) := by
              rw [List.drop_eq_getElem_cons hl1]
              congr 1
              exact Option.some.inj ((List.getElem?_eq_getElem hl1).symm.trans e7)
            rw [hdr1] at el5
            unfold lcL at el5
            rw [if_pos rfl] at el5
            split at el5
            · rename_i s2 es2
              refine ⟨Dl, d1, _, s2, m5, rd1, r25.mono L6, es2, fun σ3 r3 o3 => ⟨?_, ?_⟩⟩
              · rw [o3.wipe hv1, wipe_wipe]
              · refine ⟨Dl, s2, S5, m5, r3, R6, ?_⟩
                intro H7 m7 L7 R7
                simp only [TK.R.bind_ok, if_true] at el5 ⊢
                obtain ⟨acc8, S8, e8, el8⟩ := bind_ok2 el5
                obtain ⟨y2, S9, ey2, e9⟩ := bind_ok2 e8
                refine ⟨Dl, s2, S5, m7, r3.mono L7, R7, ?_⟩
                have L59 := fun {H9 : Hp} {m9 : List Addr} (L9 : Later H7 H9 m7 m9) => L6.trans (L7.trans L9)
                rw [ey2]
                intro H9 m9 L9 R9 v rv9
                have eD9 : H9 Dl = some (.lst ws5) := (L59 L9).fr _ _ eD5 nD5 (fun _ e => nomatch e)
                split at e9
                · rename_i hlen
                  have e : ∀ a, a ≠ Dl → (upd H9 Dl (.lst (ws5 ++ [v]))) a = H9 a := fun a q => upd_ne q
                  have nt := nt_lst eD9
                  refine ⟨ws5, eD9, by rw [← ra5.len]; exact hlen, by first | rfl | trivial, hl1, m9, S9, acc5 ++ [y2], ws5 ++ [v], (L5.trans (L59 L9)).off hD e, R9.off e nt (ntb_lst eD9) ⟨_, upd_same⟩, (rs5.mono (L59 L9)).off e nt, (r25.mono (L59 L9)).off e nt, RepV.off e nt _ _ (RepV.mono (L59 L9) _ _ rt5), upd_same, RepL.off e nt _ _ ((RepL.mono (L59 L9) _ _ ra5).append (.one rv9)), ?_⟩
                  rw [e9]
                  exact el8
                · cases e9
            · cases el5
          · have ej : j = xs1.length := by omega
            subst ej
            refine .inl ⟨u2, by first | rfl | trivial, hlt, m5, S6, acc6, ws5, L5, ?_⟩
            rw [List.drop_length] at e6
            unfold lcL at e6
            rw [if_pos rfl] at e6
            cases e6
            exact ⟨R5, rs5, eD5, ra5, el6⟩
        · cases el
    · cases el
  · have e : i = xs.length := by omega
    subst e
    refine .inl ⟨w2, ?_⟩
    rw [List.drop_length] at el
    unfold lc2L at el
    rw [if_pos hst] at el
    cases el
    have nt := nt_lst eD
    unfold newL at h
    split at h
    · cases tr with
      | true =>
        simp only [if_true] at h
        exact h H (m ++ [Dl]) (L.adopt hD nD) (R.adopt (R1.fresh hD) nt (ntb_lst eD) ⟨ws, eD, RepL.adopt nt _ _ ra⟩) _ ⟨Dl, rfl, by rw [← R.len]; simp⟩
      | false =>
        simp only [Bool.false_eq_true, if_false] at h
        exact h H m L R.unhide _ ⟨Dl, ws, rfl, ⟨eD, nDm, R1.fresh hD⟩, RepL.unhide _ _ ra⟩
    · exact h.elim
theorem rd_lc2 {tr : Bool} {σ : L2.St} {H : Hp} {Q : VK} (hv : ∀ i ∈ tg'.slots, i ∈ vs) (hv1 : ∀ i ∈ tg1'.slots, i ∈ vs1) (h : rdE T W (fun s S => (fi s S).bind fun xs S => (lc2L tg' tg1' fi1 fe xs.2 (wipeV s vs) vs1 xs.1 [] S).nox.bind fun ys S => newL tr ys S) σ H Q) :
    tLc2 (rdI T W fi) (rdGx T tg') (rdTx T noW fun _ S => .ok true S) (rdTx2 T noW fi1) (rdGx T tg1') (rdTx T noW fun _ S => .ok true S) (rdEx T noW fe) vs vs1 σ H Q := by
  obtain ⟨s, S, m, hs, hS, h⟩ := h
  refine ⟨s, S, m, hs, hS, h.bind.mono fun q S1 H1 m1 L1 R1 g J w Dl hD => ?_⟩
  exact lc2_ok (hs.mono L1) R1 w hv hv1 g hD
theorem s_lc2 {scope : Scope} {own : List (Str × Nat)} {tr : Bool} (hK : X.K = T.K) (hc : X.calm = true) (hN : X.N.Nodup) (hi : PI X tg iter (rdI T W fi)) (ok : BlkOk X.N X.env.scope scope own) (hv : ∀ i ∈ tg'.slots, i ∈ own.map (·.2)) (hv1 : ∀ i ∈ tg1'.slots, i ∈ vs1) (ho : ∀ i ∈ vs1, i ∈ own.map (·.2)) (hset : notSet iter = true) (hset1 : notSet iter1 = true)
    (hg : ∀ (s : Shared) (H : Hp) (C : Addr) (cl : List (Str × Addr)) (fp : List Addr) (p : Addr), PG (X.blk s H scope (compEnvC scope cl C X.env) fp) tg (rdG (T.hide p) tg'))
    (h1 : ∀ (s : Shared) (H : Hp) (C : Addr) (cl : List (Str × Addr)) (fp : List Addr) (p : Addr), PE (X.blk s H scope (compEnvC scope cl C X.env) fp) iter1 (rdE (T.hide p) noW fi1))
    (hg1 : ∀ (s : Shared) (H : Hp) (C : Addr) (cl : List (Str × Addr)) (fp : List Addr) (p : Addr), PG (X.blk s H scope (compEnvC scope cl C X.env) fp) tg1 (rdG (T.hide p) tg1'))
    (he : ∀ (s : Shared) (H : Hp) (C : Addr) (cl : List (Str × Addr)) (fp : List Addr) (p : Addr), PE (X.blk s H scope (compEnvC scope cl C X.env) fp) elt (rdE (T.hide p) noW fe)) :
    PE X (.ListComp elt [⟨tg, iter, [], 0⟩, ⟨tg1, iter1, [], 0⟩] scope pos) (rdE T W fun s S => (fi s S).bind fun xs S => (lc2L tg' tg1' fi1 fe xs.2 (wipeV s (own.map (·.2))) vs1 xs.1 [] S).nox.bind fun ys S => newL tr ys S) :=
  PE_imp (pe_lc2 hc hN hi ok ho (fun s H C cl fp => pg_ex (hg s H C cl fp)) (fun s H C cl fp => pts_ex0) (fun s H C cl fp => pi_ex2 hK (h1 s H C cl fp)) (fun s H C cl fp => pg_ex (hg1 s H C cl fp)) (fun s H C cl fp => pts_ex0) (fun s H C cl fp => pe_ex (he s H C cl fp)) (fold_not hset) (fun env x => fold_not hset1 x)) fun σ H Q h => rd_lc2 hv hv1 h
end
end TK
end
section
set_option autoImplicit false
set_option linter.all false
set_option maxRecDepth 100000
set_option maxHeartbeats 1000000
/-! all(test for x in e): the tests are expressions of any kind -/
namespace TK
open PySem L2 PySem.Spec PyProof.Rows GenW

/-- the frame of a generator expression -/
abbrev gcx (X : Cx) (A' : Around) (s : Shared) (H : Hp) (genv : PySem.Env) (fp : List Addr) (pn : List (Addr × Obj)) : Cx :=
  { X with A := A', s_0 := s, H_0 := H, env := genv, outer := X.stack, stack := genv :: X.stack, ex := fp, fn := fun _ => false, pn := pn, xe := fun _ _ => False }
/-- the end of the walk -/
def GEnd (XG : Cx) (Q : VK) : GenEnd := fun n s₀ r s₁ => ((r = .ok (.ret .none) ∨ r = .ok .next) ∧ ∃ pins σ H, Inv XG pins σ H s₁ ∧ Q (.bl true) H) ∨ ∃ e, r = .error e ∧ False
/-- a test's answer is handed out -/
def GOut (XG : Cx) (Q : VK) : Protocol := fun n s₀ v s kap => ∃ b, v = .bool b ∧ ∃ pins σ H, Inv XG pins σ H s ∧
  ((b = false ∧ Q (.bl false) H) ∨ (b = true ∧ ∀ s'' : Shared, s''.os = s.os → s''.heap = s.heap → AllBare s''.gens → kap (.send .none) s''))
theorem inv_gens {X : Cx} {pins : List (Addr × Obj)} {σ : L2.St} {H : Hp} {s s'' : Shared} (I : Inv X pins σ H s) (ho : s''.os = s.os) (hh : s''.heap = s.heap) (hg : AllBare s''.gens) : Inv X pins σ H s'' :=
  I.call' (ch := []) ho (by rw [hh]; exact Un.kept fun _ _ e => e) (by rw [hh]; exact I.hok) hg fun b z => by cases z
section
variable {XG : Cx} {A2 : Around} {elt tg iter : Expr} {scope : Scope} {pos : Pos} {it : Addr} {fp : List Addr} {tn : Nat → Heap → Prop} {J : L2.It} {g : TG} {te : TE} {vs : List Nat} {σ0 : L2.St} {Q : VK} {W : Nat → Nat → Hp → Prop}
def genC (elt tg iter : Expr) (scope : Scope) (pos : Pos) (it : Addr) (env : PySem.Env) : Code := .compLoop (.GeneratorExp elt [⟨tg, iter, [], 0⟩] scope pos) 0 (.ref it) .none env
theorem gen_loop (hA : XG.A = A2.over (genC elt tg iter scope pos it XG.env) []) (hc : XG.calm = true) (hxe : XG.xe = fun _ _ => False) (hco : XG.env.scope.isCoroutine = false) (T : Turn XG.prog XG.w XG.K tg J fp it tn)
    (stat : ∀ σ H s, Inv XG [] σ H s → (∀ b ∈ fp, H b = none) → ∀ b ∈ fp, FpOk XG [] H b) (pg : PG XG tg g) (pe : PE XG elt te) (hw0 : L2.wipe σ0 vs = σ0)
    (turn : ∀ i n H, W i n H → (J.stop i H ∧ Q (.bl true) H) ∨ (J.go i H ∧ ∃ Nx : Hp → Prop, (∀ H', Nx H' → ∃ n', n' < n ∧ W (i + 1) n' H') ∧ ∀ x H', J.yld i H x H' → g x σ0 H' fun σ2 H2 => L2.wipe σ2 vs = σ0 ∧ te σ2 H2 fun y H3 => ∃ b, y = .bl b ∧ (if b = true then Nx H3 else Q (.bl false) H3))) :
    ∀ (m i n : Nat) (s₀ s : Shared) (H : Hp), W i m H → m < n → Inv XG [] σ0 H s → tn i s.heap → (∀ b ∈ fp, H b = none) →
      Seg (model XG.prog XG.w) A2 (GEnd XG Q) (GOut XG Q) n s₀ (genC elt tg iter scope pos it XG.env) ((model XG.prog XG.w).den (genC elt tg iter scope pos it XG.env)) [] s := by
  have pgr := fun pins s σ H v u Q' I r h => pg.run pins s σ H v u Q' I r h
  have per := fun pins s σ H Q' I h => pe.run pins s σ H Q' I h
  rw [hxe] at pgr per
  intro m
  induction m using Nat.strongRecOn with
  | ind m ih =>
    intro i n s₀ s H w hmn I st nf
    show Seg _ A2 _ _ _ s₀ _ ((compTurn (.GeneratorExp elt [⟨tg, iter, [], 0⟩] scope pos) 0 (.ref it) .none XG.env).onRaise (leaving XG.env)) [] s
    rw [compTurn_gen, Sem.onRaise_eq_wrap]
    refine seg_bind_wrap (wpAny_standAt ?_)
    rcases turn i m H w with ⟨stop, qq⟩ | ⟨go, Nx, hNx, step⟩
    · have td := T.done XG rfl rfl rfl hc i [] s _ H (fun _ _ => False) I (stat _ _ _ I nf) st stop
      rw [hA] at td
      refine seg_bind_wrap (thnF td fun r s6 ⟨hr, I6⟩ => ?_)
      subst hr
      exact seg_end (.ok .next) (.inl ⟨.inr rfl, _, _, _, I6, qq⟩)
    · have ti := T.item XG rfl rfl rfl hc i [] s _ H (fun _ _ => False) I (stat _ _ _ I nf) st go
      rw [hA] at ti
      refine seg_bind_wrap (thnF ti fun r s6 ⟨u, hr, h6⟩ => ?_)
      subst hr
      refine seg_bind_wrap (thnF h6 fun _ s7 ⟨x, H7, I7, r7, y7, st7, n7⟩ => ?_)
      have I7' := I7.pinned (stat _ _ _ I7 n7) (T.obj _ _ st7)
      have ga := pgr _ s7 _ H7 x u _ I7' r7 (step x H7 y7)
      rw [hA] at ga
      refine seg_bind_wrap (thnF ga fun _ s8 ⟨σ8, H8, I8, hw8, q8⟩ => ?_)
      simp only [List.forIn_nil]
      refine seg_bind_wrap (wpAny_pure ?_)
      simp only [if_true]
      have hy : ∀ v, yieldOut XG.env v = yieldValue v := fun v => by simp only [yieldOut, hco, Bool.false_eq_true, if_false]
      simp only [hy]
      rw [Sem.bind_eq_wrap', Sem.bind_eq_wrap', Sem.wrap_wrap, Sem.wrap_wrap]
      have ge := per _ s8 σ8 H8 _ I8 q8
      rw [hA] at ge
      refine seg_wrap (thnF ge fun y s9 ⟨z, H9, I9, r9, b, eb, q9⟩ => ?_)
      subst eb
      obtain rfl : y = Value.bool b := r9
      cases b with
      | false =>
        simp only [Bool.false_eq_true, if_false] at q9
        obtain ⟨n, rfl⟩ : ∃ k, n = k + 1 := ⟨n - 1, by omega⟩
        exact seg_at (seg_yield rfl rfl rfl ⟨false, rfl, _, _, _, I9, .inl ⟨rfl, q9⟩⟩)
      | true =>
        simp only [if_true] at q9
        obtain ⟨m', hm, w'⟩ := hNx H9 q9
        obtain ⟨n, rfl⟩ : ∃ k, n = k + 1 := ⟨n - 1, by omega⟩
        refine seg_at (seg_yield rfl rfl rfl ⟨true, rfl, _, _, _, I9, .inr ⟨rfl, fun s'' ho hh hg => ?_⟩⟩)
        have I10 := inv_gens I9 ho hh hg
        have pin' : ∀ b ∈ fp, ∀ o, s7.heap.get? b = some o → s''.heap.get? b = some o ∧ H9 b = none := fun b hb o e =>
          let z := I10.pin (b, o) (List.mem_append_right _ (List.mem_append_right _ (mem_pinsAt hb e)))
          ⟨z.1, z.2.1⟩
        have hl : σ0.length = σ8.length := by rw [← hw8, L2.wipe_length]
        refine seg_again rfl (ih m' hm (i + 1) n s'' s'' H9 w' (by omega) ((I10.unpinned (pins := [])).weak hl (fun j v e => ?_)) (T.keep _ _ _ st7 fun b hb o e => (pin' b hb o e).1) fun b hb => ?_)
        · rw [← hw8] at e
          exact (wipe_some e).1
        · obtain ⟨o, e, _⟩ := T.obj _ _ st7 b hb
          exact (pin' b hb o e).2

/-- all's loop -/
theorem all_drain {A : Around} {R : Result → Shared → Prop} {a : Addr} {gi : Nat} (hh : A.handled = none) (hd : A.depth < recursionLimit)
    (hgen : ∀ pins σ H s, Inv XG pins σ H s → s.heap.IsGen a gi)
    (hend : ∀ b pins σ H s s', Inv XG pins σ H s → Q (.bl b) H → s'.os = s.os → (∀ c o, s.heap.get? c = some o → s'.heap.get? c = some o) → AllBare s'.gens → R (.ok (.ret (.bool b))) s') :
    ∀ (n : Nat) (s : Shared), s.heap.IsGen a gi → s.heap.NoLimit →
      (∃ gs, s.gens[gi]? = some gs ∧ gs.Goes (model XG.prog XG.w) A.in1.in1 (GEnd XG Q) (GOut XG Q) n (.send .none) (s.setGen gi .running)) →
      codeAny (model XG.prog XG.w) A (.builtin "all.loop" ⟨[.ref a], []⟩) R s := by
  have goes : ∀ {gs : GenState} {B : Around} {n : Nat} {r : Resume} {s : Shared}, gs.Goes (model XG.prog XG.w) B (GEnd XG Q) (GOut XG Q) n r s →
      gs.Goes (model XG.prog XG.w) B (fun n s₀ r s1 => ((r = .ok (.ret .none) ∨ r = .ok .next) ∧ (∃ pins σ H, Inv XG pins σ H s1 ∧ Q (.bl true) H)) ∨ ∃ e, r = .error e ∧ False) (GOut XG Q) n r s := fun h => h
  have bt : ∀ {b : Bool} {s : Shared} {K : Bool → Shared → Prop} {E : Value → Shared → Prop}, K b s → wpAny (model XG.prog XG.w) A.in1 (truthy (.bool b)) K E s := fun h => wpAny_truthy_bool h
  intro n
  induction n with
  | zero =>
    intro s hg hl ⟨gs, hgs, hgo⟩
    refine codeAny_builtin F.entry_all_loop ?_
    rw [Around.under_plainId F.plain_all_loop _]
    show wpAny _ A.in1 (pyNext (.ref a) >>= _) _ _ s
    refine wpAny_bind (next_genG (Er := fun _ _ => False) (A := A.in1) hh hl hd hg hgs (goes hgo) (fun v s₁ gs' hbare hv => ?_) (fun s₁ hp h' hk => ?_) fun e s₁ he => he.elim)
    · obtain ⟨b, rfl, pins, σ, H, I, hv⟩ := hv
      rcases hv with ⟨rfl, q⟩ | ⟨rfl, q⟩
      · refine wpAny_bind (wpAny_holding (bt ?_))
        refine wpAny_bind (wpAny_letGo ?_)
        simp only [Bool.false_eq_true, if_false]
        refine wpAny_bind (wpAny_rule (wpAny_pure ?_))
        exact hend false pins σ H s₁ _ I q rfl (fun _ _ e => e) (allBare_setGen I.bare hbare)
      · exact False.elim (q s₁ rfl rfl I.bare)
    · obtain ⟨pins, σ, H, I, q⟩ := hp
      refine wpAny_bind (wpAny_rule (wpAny_pure ?_))
      exact hend true pins σ H s₁ _ I q rfl hk (allBare_setGen I.bare rfl)
  | succ n ih =>
    intro s hg hl ⟨gs, hgs, hgo⟩
    have hgl : gi < s.gens.size := (Array.getElem?_eq_some_iff.mp hgs).1
    refine codeAny_builtin F.entry_all_loop ?_
    rw [Around.under_plainId F.plain_all_loop _]
    show wpAny _ A.in1 (pyNext (.ref a) >>= _) _ _ s
    refine wpAny_bind (wpAny_gsz (n := gi + 1) hgl (next_genG (Er := fun _ _ => False) (A := A.in1) hh hl hd hg hgs (goes hgo) (fun v s₁ gs' hbare hv => ?_) (fun s₁ hp h' hk => ?_) fun e s₁ he => he.elim))
    · intro hsz
      obtain ⟨b, rfl, pins, σ, H, I, hv⟩ := hv
      refine wpAny_bind (wpAny_holding (bt ?_))
      refine wpAny_bind (wpAny_letGo ?_)
      rcases hv with ⟨rfl, q⟩ | ⟨rfl, q⟩
      · simp only [Bool.false_eq_true, if_false]
        refine wpAny_bind (wpAny_rule (wpAny_pure ?_))
        exact hend false pins σ H s₁ _ I q rfl (fun _ _ e => e) (allBare_setGen I.bare hbare)
      · simp only [if_true]
        have hsz1 : gi < s₁.gens.size := by
          have q : (s₁.setGen gi gs').gens.size = s₁.gens.size := setGen_size _ _ _
          have hsz' : gi + 1 ≤ (s₁.setGen gi gs').gens.size := hsz
          omega
        refine wpAny_pure ⟨plainId_quiet F.plain_all_loop _, ih (s₁.setGen gi gs') (hgen pins σ H s₁ I) I.nolimit ⟨gs', setGen_at hsz1, ?_⟩⟩
        exact q _ rfl rfl (allBare_setGen (s := s₁.setGen gi gs') (allBare_setGen I.bare hbare) rfl)
    · intro hsz
      obtain ⟨pins, σ, H, I, q⟩ := hp
      refine wpAny_bind (wpAny_rule (wpAny_pure ?_))
      exact hend true pins σ H s₁ _ I q rfl hk (allBare_setGen I.bare rfl)
end

section
variable {X : Cx} {pins : List (Addr × Obj)} {σ : L2.St} {H : Hp} {s s5 : Shared} {A' : Around} {scope : Scope} {own : List (Str × Nat)} {fp : List Addr} {code : Value} {a : Addr} {go : Obj} {m0 : Str → Option Value}
abbrev gEnv (X : Cx) (scope : Scope) (C : Addr) (code : Value) : PySem.Env := genEnv scope (cloFrom X.env.cells scope.names []) C code builtinsNs X.env
theorem inv_gen (I : Inv X pins σ H s) (ok : BlkOk X.N X.env.scope scope own) (hN : X.N.Nodup) (hfp : ∀ b ∈ fp, FpOk X pins H b ∧ b < s.heap.objs.size) (hcell : ∀ y ∈ scope.names, y.2 ≠ .cell) (hd : A'.handled = none)
    (hfr : A'.frames = some (gEnv X scope s.heap.objs.size code :: X.stack)) (hos : s5.os = s.os) (hb : AllBare s5.gens) (kp : ∀ b o, s.heap.get? b = some o → s5.heap.get? b = some o) (ns : s5.heap.Ns s.heap.objs.size m0)
    (ha : s5.heap.get? a = some go) (haC : s.heap.objs.size < a) (hgo : ∀ v, go.data ≠ .cell v) :
    Inv (gcx X A' s H (gEnv X scope s.heap.objs.size code) fp [(a, go)]) [] (L2.wipe σ (own.map (·.2))) H s5 := by
  have hfree : ∀ y ∈ scope.names, y.2 = .free → ∃ c, X.env.cells.lookup y.1 = some c := fun y hy e => by
    rcases ok.free y hy e with k | k
    · exact I.ok.has _ (.inl k)
    · exact I.ok.has _ (.inr k)
  generalize hcenv : gEnv X scope s.heap.objs.size code = cenv at hfr ⊢
  have hL : cenv.locals = s.heap.objs.size := by rw [← hcenv]; rfl
  have hcl : cenv.cells = cloFrom X.env.cells scope.names [] := by rw [← hcenv]; rfl
  have hsc : cenv.scope = scope := by rw [← hcenv]; rfl
  have hF : cenv.frame = some s.heap.objs.size := by rw [← hcenv]; rfl
  have cm : ∀ {y c}, (y, c) ∈ cloFrom X.env.cells scope.names [] → X.env.cells.lookup y = some c ∧ c < s.heap.objs.size := fun {y c} hm => by
    rcases cloFrom_mem hm with hm | ⟨h1, rfl⟩
    · cases hm
    · obtain ⟨c, hc⟩ := hfree _ h1 rfl
      rw [hc]
      obtain ⟨w, z⟩ := I.cell _ _ hc
      exact ⟨rfl, z.lt⟩
  have mem : ∀ {y c}, cenv.cells.lookup y = some c → X.env.cells.lookup y = some c ∧ c < s.heap.objs.size := fun {y c} e => by
    rw [hcl] at e
    exact cm (PySem.mem_of_lookup e)
  have look : ∀ {y}, scope.names.lookup y = some .free → ∃ c, cenv.cells.lookup y = some c ∧ X.env.cells.lookup y = some c := fun {y} hl => by
    have hy : (y, NameKind.free) ∈ scope.names := PySem.mem_of_lookup hl
    obtain ⟨c', e'⟩ := mem_lookup (cloFrom_has (cells := X.env.cells) (acc := []) hy)
    rw [← hcl] at e'
    exact ⟨c', e', (mem e').1⟩
  have ncell : ∀ {y}, scope.names.lookup y ≠ some .cell := fun {y} e => hcell (y, .cell) (PySem.mem_of_lookup e) rfl
  have okG : (gcx X A' s H cenv fp [(a, go)]).Ok := by
    refine ⟨I.ok.mod, by show cenv.scope.kind = _; rw [hsc]; exact ok.kind, by show cenv.globals = _; rw [← hcenv]; exact I.ok.glob, by show cenv.builtins = _; rw [← hcenv] <;> rfl, by show s.heap.objs.size ≤ cenv.locals; rw [hL]; exact Nat.le_refl _,
      fun y z c e1 e2 => I.ok.inj y z c (mem e1).1 (mem e2).1, fun y hy => ?_, fun y c z e => absurd z Bool.false_ne_true, fun _ => hd, hfr, .inr ⟨rfl, by show cenv.frame = some cenv.locals; rw [hF, hL]⟩, fun b hb => ⟨?_, fun y c e z => ?_⟩, I.bs, Nat.le_trans I.ok.bsz I.sz, fun b o e hb => ?_, fun b hb z => ?_, I.stack, I.stkFree⟩
    · have hy : scope.names.lookup y = some .cell ∨ scope.names.lookup y = some .free := by
        have : cenv.kindOf y = some .cell ∨ cenv.kindOf y = some .free := hy
        unfold Env.kindOf at this
        rw [hsc] at this
        exact this
      rcases hy with hy | hy
      · exact absurd hy ncell
      · obtain ⟨c, e, _⟩ := look hy
        exact ⟨c, e⟩
    · show b ≠ cenv.locals
      rw [hL]; exact Nat.ne_of_lt (hfp b hb).2
    · exact (hfp b hb).1.2.2.2.2.1 y c (mem e).1 z
    · rcases (hfp b hb).1.2.2.2.1 with z | z
      · exact I.ok.noex b o e z
      · exact absurd (Nat.lt_of_lt_of_le (Heap.lt_size e) (Nat.le_trans I.ok.bsz z)) (Nat.lt_irrefl _)
    · rcases List.mem_cons.mp (I.stkSub b z) with z | z
      · exact (hfp b hb).1.2.1 z
      · exact (hfp b hb).1.2.2.1 z
  refine ⟨okG, hos, hb, Un.kept kp, ⟨m0, by show s5.heap.Ns cenv.locals m0; rw [hL]; exact ns, fun i y av e1 e2 e3 => ?_⟩, fun y c e => ?_, ?_, fun y c e => ?_, fun p hp => ?_, I.hok.kept kp, by rw [L2.wipe_length]; exact I.len⟩
  · obtain ⟨e2, hne⟩ := wipe_some e2
    have e3 : Vis scope y := by
      have : Vis cenv.scope y := e3
      rw [hsc] at this
      exact this
    have no : ∀ k', scope.names.lookup y = some k' → ¬ (k' = .local ∨ k' = .cell) := fun k' e hh => by
      rcases ok.own _ (PySem.mem_of_lookup e) hh with e' | e'
      · obtain ⟨p, hp, hpy⟩ := List.mem_map.mp e'
        have e3 := ok.ix p hp
        have : p.1 = y := hpy
        rw [this] at e3
        exact hne (List.mem_map.mpr ⟨p, hp, nodup_ix hN e3 e1⟩)
      · exact e' (List.mem_of_getElem? e1)
    have hfr : scope.names.lookup y = some .free := by
      rcases e3 with e3 | e3 | e3
      · exact absurd (.inl rfl) (no _ e3)
      · exact absurd (.inr rfl) (no _ e3)
      · exact e3
    obtain ⟨m, hn, hl⟩ := I.loc
    have hvis : Vis X.env.scope y := (ok.free _ (PySem.mem_of_lookup hfr) rfl).elim (fun k => .inr (.inl k)) (fun k => .inr (.inr k))
    obtain ⟨w, r, q⟩ := hl i y av e1 e2 hvis
    refine ⟨w, r, .inr ⟨.inr ?_, ?_⟩⟩
    · show cenv.kindOf y = _
      unfold Env.kindOf
      rw [hsc]
      exact hfr
    obtain ⟨c, h1, h2⟩ := look hfr
    rcases q with ⟨k, _⟩ | ⟨_, c', e', z⟩
    · have k : X.env.scope.names.lookup y = some .local := k
      rcases ok.free _ (PySem.mem_of_lookup hfr) rfl with k' | k' <;> rw [show X.env.scope.names.lookup y = _ from k'] at k <;> cases k
    · rw [h2] at e'; cases e'
      exact ⟨c, h1, z.keeps kp⟩
  · obtain ⟨w, z⟩ := I.cell y c (mem e).1
    exact ⟨w, z.keeps kp⟩
  · show H cenv.locals = none
    rw [hL]; exact I.hok.fresh (Nat.le_refl _)
  · exact I.freeC y c (mem e).1
  · have hp : p = (a, go) := by
      rcases List.mem_append.mp (show p ∈ [(a, go)] ++ [] from hp) with z | z
      · exact List.mem_singleton.mp z
      · cases z
    subst hp
    refine ⟨ha, I.hok.fresh (Nat.le_of_lt haC), ?_, fun z => ?_, hgo⟩
    · show a ≠ cenv.locals
      rw [hL]; exact Nat.ne_of_gt haC
    · rcases List.mem_cons.mp (I.stkSub a z) with z | z
      · have := I.lt
        rw [← z] at this
        exact absurd (Nat.lt_trans this haC) (Nat.lt_irrefl _)
      · exact I.nofs (Nat.le_of_lt haC) z
end

section
variable {X : Cx} {elt iter tg : Expr} {scope : Scope} {own : List (Str × Nat)} {wi : TI} {g : TG} {te : TE} {k : Nat} {c P : Addr} {p pos gpos : Pos}
/-- all(test for target in iter): W by the turn and a measure; the def's table may have grown -/
def tAll (P : Addr) (wi : TI) (g : TG) (te : TE) (vs : List Nat) : TE := fun σ H Q => wi σ H fun J H1 => GxR.TabG H1 P ∧ ∀ H2, GxR.Tabbed P H1 H2 → ∃ W : Nat → Nat → Hp → Prop, (∃ m, W 0 m H2) ∧ ∀ i n H, W i n H →
  (J.stop i H ∧ Q (.bl true) H) ∨ (J.go i H ∧ ∃ Nx : Hp → Prop, (∀ H', Nx H' → ∃ n', n' < n ∧ W (i + 1) n' H') ∧ ∀ x H', J.yld i H x H' → g x (L2.wipe σ vs) H' fun σ2 H2 => L2.wipe σ2 vs = L2.wipe σ vs ∧ te σ2 H2 fun y H3 => ∃ b, y = .bl b ∧ (if b = true then Nx H3 else Q (.bl false) H3))
theorem frames_gen {A : Around} {env : PySem.Env} {it : Addr} {st : List PySem.Env} (h : A.frames = some st) : (A.in1.in1.over (genC elt tg iter scope gpos it env) []).frames = some (env :: st) := by
  show pushEnvs [env] (pushEnvs [] A.frames) = _
  rw [h] <;> rfl
theorem room_gen {A : Around} {env : PySem.Env} {it : Addr} (h : Room (k + 1) A) : Room k (A.in1.in1.over (genC elt tg iter scope gpos it env) []) := by
  refine ⟨h.hd, ?_, ?_⟩
  · have := h.dp
    show A.depth + 0 + 1 + 3 * k + 5 < _
    omega
  · have := h.un
    show A.units + 1 + 1 + 0 + 3 + 16 * k + 200 < _
    omega
theorem pe_allG (hr : Room (k + 1) X.A) (hg : Gl X "all") (hm : X.mg "all" = none) (TB : GxR.TabB X.base X.mg c P) (hcode : X.env.code = .ref c) (hc : X.calm = true) (hN : X.N.Nodup) (hi : PI X tg iter wi) (ok : BlkOk X.N X.env.scope scope own)
    (hco : scope.isCoroutine = false) (hcell : ∀ y ∈ scope.names, y.2 ≠ .cell) (h0 : scope.names.lookup (".0" : Str) = some NameKind.local)
    (hgt : ∀ (A' : Around) (s : Shared) (H : Hp) (C : Addr) (code : Value) (fp : List Addr) (pn : List (Addr × Obj)), Room k A' → PG (gcx X A' s H (gEnv X scope C code) fp pn) tg g)
    (he : ∀ (A' : Around) (s : Shared) (H : Hp) (C : Addr) (code : Value) (fp : List Addr) (pn : List (Addr × Obj)), Room k A' → PE (gcx X A' s H (gEnv X scope C code) fp pn) elt te)
    (hs : ∀ v, genFold iter X.env v = pure v) :
    PE X (.Call (.Name "all" p) [.GeneratorExp elt [⟨tg, iter, [], 0⟩] scope gpos] [] pos) (tAll P wi g te (own.map (·.2))) := by
  refine ⟨fun pins s σ H Q I h => ?_⟩
  have hst : starEach [.GeneratorExp elt [⟨tg, iter, [], 0⟩] scope gpos] X.env = (false, eval (.GeneratorExp elt [⟨tg, iter, [], 0⟩] scope gpos) X.env) :: starEach [] X.env := rfl
  refine wpAny_Call_Name_kw (ld_blt I hg hm (show bootBuiltins "all" = some (.builtin "all") by decide +kernel) ?_)
  refine PyProof.Rows.callWith_builtin1 ?_ hst (by rfl)
  rw [hst]
  show wpAny _ _ (spliced ((false, eval (.GeneratorExp elt [⟨tg, iter, [], 0⟩] scope gpos) X.env) :: backTo pos (starEach [] X.env))) _ _ s
  have hfree : ∀ y ∈ scope.names, y.2 = .free → ∃ c, X.env.cells.lookup y.1 = some c := fun y hy e => by
    rcases ok.free y hy e with k | k
    · exact I.ok.has _ (.inl k)
    · exact I.ok.has _ (.inr k)
  refine Calls.spliced_cons (wpAny_GeneratorExp_make hco (closure_ok hfree) hcell h0 ok.kind (by have := hr.dp; omega) ?_ hs)
  refine thn (hi.run pins s σ H _ I h) fun xv s1 h1 => thn h1 fun itv s2 h2 => ?_
  obtain ⟨it, fp, tn, J, H2, rfl, I2, T, st2, f2, ⟨ps, hP, ht⟩, q⟩ := h2
  refine ⟨I2.nolimit, ?_⟩
  have hPs : s2.heap.get? P = some { cls := .none, data := .fields ps } := I2.hok P _ hP
  have cd : PySem.W.CodeHd s2.heap c P := TB.code.keeps fun b u e => I2.bk b u e
  have cont : ∀ (code : Value) (h3 : Heap) (tk : Nat) (more : Array Value), Heap.ExtBut P s2.heap h3 → s2.heap.objs.size ≤ h3.objs.size → h3.get? P = some { cls := .none, data := .fields (ps ++ more) } → TriplesOk (ps ++ more).toList →
      wpAny (model X.prog X.w) X.A (builtinsFor X.env.globals X.env.builtins) (fun bi s₄ =>
        ∀ h', h'.Ns s₄.heap.objs.size (fun y => if y = ".0" then some (.ref it) else none) → Heap.SameBut s₄.heap.objs.size (s₄.heap.push { cls := .type "frame", data := .dict #[] }) h' →
          wpAny (model X.prog X.w) X.A (spliced (backTo pos (starEach [] X.env))) (fun us s' => wpAny (model X.prog X.w) X.A (call (.builtin "all") (Value.ref h'.objs.size :: us)) (EP X pins σ Q) X.xe s') X.xe { s₄ with
            gens := s₄.gens.push (.fresh (.compStart (.GeneratorExp elt [⟨tg, iter, [], 0⟩] scope gpos) 0 (.ref it) .none (genEnv scope (cloFrom X.env.cells scope.names []) s₄.heap.objs.size code bi X.env))),
            toks := s₄.toks + 1 + 1 + 1,
            heap := h'.push { cls := .type "generator", data := .fields #[.int s₄.gens.size 0, .str "<genexpr>" (s₄.toks + 1), .str (X.env.qual ++ "<genexpr>") (s₄.toks + 1 + 1)] } }) X.xe { s2 with heap := h3, toks := tk } := by
    intro code h3 tk more hx hsz hP3 ht3
    obtain ⟨bm, ob, e1, e2, e3, e4, e5, e6, e7, e8⟩ := TB.bm
    have keep3 : ∀ b u, b ≠ P → s2.heap.get? b = some u → h3.get? b = some u := fun b u hb e => hx b u hb e
    refine wpAny_builtinsFor (m := X.mg) (by rw [I2.ok.glob]; exact (I2.mod.glob.keeps I2.bk).extBut hx TB.gP) e1 e2 (keep3 _ _ e4 (I2.bk _ _ e5)) e6 e7 e8 ?_
    have I4 : Inv X pins σ (upd H2 P (.tbl (ps ++ more))) { s2 with heap := h3, toks := tk } := GxR.inv_tab (more := more) (g' := s2.gens) (d' := s2.drawn) (t' := tk) I2 hP keep3 hP3 I2.bare
    have nP : ∀ b ∈ fp, b ≠ P := fun b hb z => by
      have := (f2 b hb).1
      rw [z, hP] at this
      cases this
    have st4 : tn 0 h3 := T.keep _ _ _ st2 fun b hb o e => keep3 b o (nP b hb) e
    obtain ⟨W, ⟨m0, w0⟩, turn⟩ := q (upd H2 P (.tbl (ps ++ more))) ⟨⟨_, upd_same, ht3⟩, fun b hb => upd_ne hb⟩
    intro h' hns hsb
    generalize hs4 : ({ s2 with heap := h3, toks := tk } : Shared) = s4 at I4 hns hsb ⊢
    have eh : h3 = s4.heap := by rw [← hs4]
    rw [eh] at st4 hsz hP3
    have hsz' : h'.objs.size = s4.heap.objs.size + 1 := by rw [hsb.1, Heap.size_push]
    have keep' : ∀ b o, s4.heap.get? b = some o → h'.get? b = some o := fun b o e => hsb.extBut b o (Nat.ne_of_lt (Heap.lt_size e)) (Heap.get?_push_of_some _ e)
    generalize hgo : ({ cls := .type "generator", data := .fields #[.int s4.gens.size 0, .str "<genexpr>" (s4.toks + 1), .str (X.env.qual ++ "<genexpr>") (s4.toks + 1 + 1)] } : Obj) = go
    have keep5 : ∀ b o, s4.heap.get? b = some o → (h'.push go).get? b = some o := fun b o e => Heap.get?_push_of_some _ (keep' b o e)
    have hpushed : (h'.push go).get? h'.objs.size = some go := by
      rw [← hgo]
      exact Heap.get?_push_size _ rfl
    have hgen : ∀ hh : Heap, hh.get? h'.objs.size = some go → hh.IsGen h'.objs.size s4.gens.size := fun hh e => by
      rw [← hgo] at e
      exact ⟨_, _, _, e, rfl, rfl, rfl⟩
    have f4 : ∀ b ∈ fp, FpOk X pins (upd H2 P (.tbl (ps ++ more))) b ∧ b < s4.heap.objs.size := fun b hb => by
      obtain ⟨o, e, _⟩ := T.obj _ _ st4 b hb
      exact ⟨⟨by rw [upd_ne (nP b hb)]; exact (f2 b hb).1, (f2 b hb).2⟩, Heap.lt_size e⟩
    have n4 : ∀ b ∈ fp, (upd H2 P (.tbl (ps ++ more))) b = none := fun b hb => (f4 b hb).1.1
    generalize hH4 : upd H2 P (.tbl (ps ++ more)) = H4 at I4 w0 f4 n4
    refine Calls.spliced_nil ?_
    generalize hs5 : ({ s4 with gens := s4.gens.push (.fresh (.compStart (.GeneratorExp elt [⟨tg, iter, [], 0⟩] scope gpos) 0 (.ref it) .none (genEnv scope (cloFrom X.env.cells scope.names []) s4.heap.objs.size code builtinsNs X.env))), toks := s4.toks + 1 + 1 + 1, heap := h'.push go } : Shared) = s5
    have e5h : s5.heap = h'.push go := by rw [← hs5]
    have e5g : s5.gens = s4.gens.push (.fresh (.compStart (.GeneratorExp elt [⟨tg, iter, [], 0⟩] scope gpos) 0 (.ref it) .none (gEnv X scope s4.heap.objs.size code))) := by rw [← hs5]
    have e5o : s5.os = s4.os := by rw [← hs5]
    have hb5 : AllBare s5.gens := by rw [e5g]; exact AllBare.push I4.bare rfl
    have hfr := frames_gen (elt := elt) (tg := tg) (iter := iter) (scope := scope) (gpos := gpos) (it := it) (env := gEnv X scope s4.heap.objs.size code) I4.ok.frames
    have hrA := room_gen (elt := elt) (tg := tg) (iter := iter) (scope := scope) (gpos := gpos) (it := it) (env := gEnv X scope s4.heap.objs.size code) hr
    generalize hAA : X.A.in1.in1.over (genC elt tg iter scope gpos it (gEnv X scope s4.heap.objs.size code)) [] = AA at hfr hrA
    have J5 : Inv (gcx X AA s4 H4 (gEnv X scope s4.heap.objs.size code) fp [(h'.objs.size, go)]) [] (L2.wipe σ (own.map (·.2))) H4 s5 :=
      inv_gen I4 ok hN f4 hcell hrA.hd hfr e5o hb5 (by rw [e5h]; exact keep5) (by rw [e5h]; exact hns.push _) (by rw [e5h]; exact hpushed) (by rw [hsz']; exact Nat.lt_succ_self _) (fun v e => by rw [← hgo] at e; cases e)
    have gen_of : ∀ pins' σ' H' s', Inv (gcx X AA s4 H4 (gEnv X scope s4.heap.objs.size code) fp [(h'.objs.size, go)]) pins' σ' H' s' → s'.heap.IsGen h'.objs.size s4.gens.size := fun pins' σ' H' s' I' =>
      hgen _ (I'.pin (h'.objs.size, go) (List.mem_append_left _ (List.mem_singleton.mpr rfl))).1
    refine call_function_tree F.kind_all F.plain_all F.entry_all (F.args_all1 _) ?_
    unfold Builtin.«all»
    refine wpAny_bind (m := oneArg "all" _) (wpAny_pure ?_)
    refine wpAny_bind (wpAny_pyIter_gen (gen_of _ _ _ _ J5) ?_)
    refine wpAny_pure ⟨plainId_quiet F.plain_all_loop _, ?_⟩
    refine all_drain (XG := gcx X AA s4 H4 (gEnv X scope s4.heap.objs.size code) fp [(h'.objs.size, go)]) (Q := Q) (gi := s4.gens.size) hr.hd (by have := hr.dp; omega) gen_of (fun b pins' σ' H' s6 s7 I6 hq ho hk hbb => ?_) (m0 + 1) s5 (gen_of _ _ _ _ J5) J5.nolimit ⟨.fresh (.compStart (.GeneratorExp elt [⟨tg, iter, [], 0⟩] scope gpos) 0 (.ref it) .none (gEnv X scope s4.heap.objs.size code)), by rw [e5g]; exact Array.getElem?_push_size .., show _ ∧ _ from ⟨rfl, ?_⟩⟩
    · refine ⟨.bl b, H', ?_, rfl, hq⟩
      exact I4.call' (ch := fp) (ho.trans I6.os) (I6.base.trans (Un.kept hk)) (I6.hok.kept hk) hbb fun b hb => ⟨(f4 b hb).1.2.2.2.1, (f4 b hb).1.2.1, (f4 b hb).1.2.2.2.2.1, (f4 b hb).1.2.2.2.2.2⟩
    · have J6 := inv_gens (s'' := s5.setGen s4.gens.size .running) J5 rfl rfl (allBare_setGen J5.bare rfl)
      have stat : ∀ {σ' : L2.St} {H' : Hp} {s' : Shared}, Inv (gcx X AA s4 H4 (gEnv X scope s4.heap.objs.size code) fp [(h'.objs.size, go)]) [] σ' H' s' → (∀ b ∈ fp, H' b = none) → ∀ b ∈ fp, FpOk (gcx X AA s4 H4 (gEnv X scope s4.heap.objs.size code) fp [(h'.objs.size, go)]) [] H' b := fun {σ' H' s'} I' hn b hb =>
        ⟨hn b hb, (I'.ok.exf b hb).1, I'.ok.exfs b hb, .inl hb, fun x c e => (I'.ok.exf b hb).2 x c e, fun p hp => by
          rcases List.mem_append.mp (show p ∈ [(h'.objs.size, go)] ++ [] from hp) with z | z
          · rw [List.mem_singleton.mp z]
            have := (f4 b hb).2
            exact Nat.ne_of_gt (by rw [hsz']; exact Nat.lt_succ_of_lt this)
          · cases z⟩
      have st6 : tn 0 (s5.setGen s4.gens.size .running).heap := T.keep _ _ _ st4 fun b _ o e => by
        show s5.heap.get? b = some o
        rw [e5h]
        exact keep5 b o e
      have loop := gen_loop (XG := gcx X AA s4 H4 (gEnv X scope s4.heap.objs.size code) fp [(h'.objs.size, go)]) (A2 := X.A.in1.in1) (pos := gpos) (iter := iter) (scope := scope) (fp := fp) (tn := tn) (J := J) (W := W) (Q := Q) (vs := own.map (·.2)) (σ0 := L2.wipe σ (own.map (·.2)))
        hAA.symm hc rfl hco T (fun _ _ _ I' hn => stat I' hn) (hgt AA s4 H4 _ code fp _ hrA) (he AA s4 H4 _ code fp _ hrA) wipe_wipe turn m0 0 (m0 + 1) (s5.setGen s4.gens.size .running) (s5.setGen s4.gens.size .running) H4 w0 (Nat.lt_succ_self _) J6 st6 n4
      show Seg _ X.A.in1.in1 _ _ _ (s5.setGen s4.gens.size .running) _ ((compStart (.GeneratorExp elt [⟨tg, iter, [], 0⟩] scope gpos) 0 (.ref it) .none (gEnv X scope s4.heap.objs.size code)).onRaise (leaving (gEnv X scope s4.heap.objs.size code))) [] (s5.setGen s4.gens.size .running)
      unfold compStart
      rw [Sem.onRaise_eq_wrap]
      show Seg _ X.A.in1.in1 _ _ _ (s5.setGen s4.gens.size .running) _ ((ask >>= _).wrap _ _ _ _) [] (s5.setGen s4.gens.size .running)
      refine seg_bind_wrap (wpAny_askSetting ?_)
      split
      · exact seg_again rfl loop
      · first
          | exact seg_bind_wrap (wpAny_rule (seg_bind_wrap (wpAny_standAt (seg_bind_wrap (T.self _ 0 _ _ _ st6 (seg_again rfl loop))))))
          | (refine seg_bind_wrap (wpAny_rule ?_); show Seg _ _ _ _ _ _ _ ((standAt iter.pos >>= _).wrap _ _ _ _) [] _; exact seg_bind_wrap (wpAny_standAt (seg_bind_wrap (T.self _ 0 _ _ _ st6 (seg_again rfl loop)))))
  cases hf : codeAmong gpos ps.toList with
  | none =>
    refine wpAny_genexprCodeX hcode (cd.code hPs ht) (cd.tab hPs) hf fun c' h' tk hx hge hlt hco' _ htab' _ => ?_
    obtain ⟨o1, vs, f1, tf, fl, tg', inF, tx, tt, op, _, _, _, _, _, _, _, _, _, htr, _⟩ := hco'
    exact cont _ h' tk _ hx (Nat.le_trans hge (Nat.le_of_lt hlt)) htab'.2 htr
  | some cv =>
    refine wpAny_genexprCode_hit hcode (cd.code hPs ht) hf ?_
    exact cont cv s2.heap s2.toks #[] (Heap.ExtBut.refl _ _) (Nat.le_refl _) (by simpa using hPs) (by simpa using ht)
end
end TK
end
section
set_option autoImplicit false
set_option linter.all false
set_option maxRecDepth 100000
namespace TK
open PySem L2 PySem.Spec PyProof.Rows

section
variable {X : Cx} {T : Tb} {W : WX} {elt iter tg : Expr} {tg' : Tg} {fi : TDi} {fe : Vs → Sx → TK.R D} {vs : List Nat} {P : Addr}
theorem later_tab {H H2 : Hp} {m : List Addr} (t : GxR.TabG H P) (h : GxR.Tabbed P H H2) : Later H H2 m m := by
  obtain ⟨ps, e, _⟩ := t
  obtain ⟨⟨qs, e2, _⟩, h⟩ := h
  refine ⟨⟨[], by simp, by simp⟩, fun a o ha _ nt => ?_, fun a rs ha _ => ?_⟩
  · rw [h a fun z => by rw [z, e] at ha; exact nt ps (Option.some.inj ha).symm]
    exact ha
  · by_cases z : a = P
    · exact ⟨qs, z ▸ e2⟩
    · exact ⟨rs, by rw [h a z]; exact ha⟩
theorem RelH.tabbed {H H2 : Hp} {m : List Addr} {S : Sx} (R : RelH T H m S) (hP : P ∈ T.tabs) (h : GxR.Tabbed P H H2) : RelH T H2 m S := by
  have L := later_tab (m := m) (R.tab P hP).2 h
  refine ⟨R.len, R.nd, fun a ha => ⟨(R.hid a ha).1, ?_⟩, fun P' hP' => ⟨(R.tab P' hP').1, ?_⟩, fun n a o h1 h2 => (R.obj n a o h1 h2).mono L (h.2 a fun z => (R.tab P hP).1 (by rw [← z]; exact List.mem_of_getElem? h1))⟩
  · by_cases z : a = P
    · obtain ⟨qs, e, _⟩ := h.1
      exact ⟨_, z ▸ e⟩
    · rw [h.2 a z]
      exact (R.hid a ha).2
  · by_cases z : P' = P
    · rw [z]; exact h.1
    · obtain ⟨ps, e, r⟩ := (R.tab P' hP').2
      exact ⟨ps, by rw [h.2 P' z]; exact e, r⟩
theorem rd_all {σ : L2.St} {H : Hp} {Q : VK} (hP : P ∈ T.tabs) (hv : ∀ i ∈ tg'.slots, i ∈ vs) (h : rdE T W (fun s S => (fi s S).bind fun xs S => (allL tg' fe xs.2 (wipeV s vs) xs.1 S).nox.bind fun b S => .ok (.bl b) S) σ H Q) :
    tAll P (rdI T W fi) (rdG T tg') (rdE T noW fe) vs σ H Q := by
  obtain ⟨s, S, m, hs, hS, h⟩ := h
  refine ⟨s, S, m, hs, hS, h.bind.mono fun q S1 H1 m1 L1 R1 g J w => ?_⟩
  obtain ⟨b0, Sb, eb, g⟩ := nox_ok g
  refine ⟨(R1.tab P hP).2, fun H2 ht => ?_⟩
  have La := later_tab (m := m1) (R1.tab P hP).2 ht
  have R2 := R1.tabbed hP ht
  have hs2 := (hs.mono L1).mono La
  refine ⟨fun i n H => n = q.1.length - i ∧ i ≤ q.1.length ∧ ∃ m S, Later H1 H m1 m ∧ RelH T H m S ∧ RelV T H m (wipeV s vs) (L2.wipe σ vs) ∧ allL tg' fe q.2 (wipeV s vs) (q.1.drop i) S = .ok b0 Sb, ⟨q.1.length, by simp, Nat.zero_le _, m1, S1, La, R2, hs2.wipe vs, by simpa using eb⟩, ?_⟩
  rintro i n H ⟨rfl, hi, m, S, L, R, rv, el⟩
  have hst : q.2 S = true := by
    cases hx : q.1.drop i with
    | nil =>
      rw [hx] at el
      unfold allL at el
      split at el
      · assumption
      · cases el
    | cons d ds =>
      rw [hx] at el
      unfold allL at el
      split at el
      · assumption
      · cases el
  obtain ⟨w1, w2, w3⟩ := w [] (by simp) H m S L R hst
  by_cases hlt : i < q.1.length
  · refine .inr ⟨w1 i hlt, _, fun H' z => ⟨q.1.length - (i + 1), by omega, z⟩, fun x H' y => ?_⟩
    obtain ⟨d, e1, rd, R', L'⟩ := w3 i x H' hlt y
    have hdr : q.1.drop i = d :: q.1.drop (i + 1) := by
      rw [List.drop_eq_getElem_cons hlt]
      congr 1
      exact Option.some.inj ((List.getElem?_eq_getElem hlt).symm.trans e1)
    rw [hdr] at el
    unfold allL at el
    rw [if_pos hst] at el
    split at el
    · rename_i s1 es1
      refine ⟨d, _, s1, m, rd, rv.mono L', es1, fun σ2 r2 o2 => ⟨?_, ?_⟩⟩
      · rw [o2.wipe hv, wipe_wipe]
      · obtain ⟨y, S2, ey, el⟩ := bind_nox el
        refine ⟨s1, S, m, r2, R', ?_⟩
        rw [ey]
        intro H3 m3 L3 R3 v rv3
        have rs3 := rv.mono (L'.trans L3)
        have L13 := L.trans (L'.trans L3)
        split at el
        · rename_i b
          refine ⟨b, rv3, ?_⟩
          cases b with
          | true =>
            simp only [if_true] at el ⊢
            exact ⟨by first | rfl | trivial, hlt, m3, S2, L13, R3, rs3, el⟩
          | false =>
            simp only [Bool.false_eq_true, if_false] at el ⊢
            cases el
            exact g H3 m3 L13 R3 _ rfl
        · cases el
    · cases el
  · have e : i = q.1.length := by omega
    subst e
    refine .inl ⟨w2, ?_⟩
    rw [List.drop_length] at el
    unfold allL at el
    rw [if_pos hst] at el
    cases el
    exact g H m L R _ rfl
theorem s_all {scope : Scope} {own : List (Str × Nat)} {k : Nat} {c : Addr} {p pos gpos : Pos} (hP : P ∈ T.tabs) (hv : ∀ i ∈ tg'.slots, i ∈ own.map (·.2)) (hr : Room (k + 1) X.A) (hg : Gl X "all") (hm : X.mg "all" = none) (TB : GxR.TabB X.base X.mg c P) (hcode : X.env.code = .ref c) (hc : X.calm = true) (hN : X.N.Nodup)
    (hi : PI X tg iter (rdI T W fi)) (ok : BlkOk X.N X.env.scope scope own) (hco : scope.isCoroutine = false) (hcell : ∀ y ∈ scope.names, y.2 ≠ .cell) (h0 : scope.names.lookup (".0" : Str) = some NameKind.local)
    (hgt : ∀ (A' : Around) (s : Shared) (H : Hp) (C : Addr) (code : Value) (fp : List Addr) (pn : List (Addr × Obj)), Room k A' → PG (gcx X A' s H (gEnv X scope C code) fp pn) tg (rdG T tg'))
    (he : ∀ (A' : Around) (s : Shared) (H : Hp) (C : Addr) (code : Value) (fp : List Addr) (pn : List (Addr × Obj)), Room k A' → PE (gcx X A' s H (gEnv X scope C code) fp pn) elt (rdE T noW fe))
    (hs : ∀ v, genFold iter X.env v = pure v) :
    PE X (.Call (.Name "all" p) [.GeneratorExp elt [⟨tg, iter, [], 0⟩] scope gpos] [] pos) (rdE T W fun s S => (fi s S).bind fun xs S => (allL tg' fe xs.2 (wipeV s (own.map (·.2))) xs.1 S).nox.bind fun b S => .ok (.bl b) S) :=
  PE_imp (pe_allG hr hg hm TB hcode hc hN hi ok hco hcell h0 hgt he hs) fun σ H Q h => rd_all hP hv h
end
end TK
end
section
set_option autoImplicit false
set_option linter.all false
set_option maxRecDepth 100000
namespace TK
open PySem L2 PySem.Spec PyProof.Rows

def PF (T : Tb) (D : Ends) : Fl → Sx → Hp → List Addr → Prop := fun f _ H m => match f with
  | .nx s => ∀ σ, RelV T H m s σ → D.nx σ H
  | .rt d => ∀ v, RepV T H m d v → D.rt v H
  | .bk s => ∀ σ, RelV T H m s σ → D.bk σ H
  | .ct s => ∀ σ, RelV T H m s σ → D.ct σ H
/-- a statement's reading (the exception's wish does not lean on the names) -/
def rdS (T : Tb) (W : WX) (f : Vs → Sx → TK.R Fl) : TS := fun D σ H => ∃ s S m, RelV T H m s σ ∧ RelH T H m S ∧ Ok T (fun c d H' => W c d [] H') H m (PF T D) (f s S)
section
variable {X : Cx} {T : Tb} {W : WX} {a b c o i e : Expr} {as : List Expr} {fa fb fc fe : Vs → Sx → TK.R D} {fs : Vs → Sx → TK.R (List D)} {ft : Vs → Sx → TK.R Bool} {f1 f2 : Vs → Sx → TK.R Fl} {pos apos p : Pos} {st : Stmt} {sts sts2 : List Stmt} {fi : TDi} {tg : Expr} {tg' : Tg}
theorem PS_imp {t t' : TS} (h : PS X st t) (w : ∀ D σ H, t' D σ H → t D σ H) : PS X st t' := ⟨fun pins s σ H D I q => h.run pins s σ H D I (w D σ H q)⟩
theorem PSs_imp {t t' : TS} (h : PSs X sts t) (w : ∀ D σ H, t' D σ H → t D σ H) : PSs X sts t' := ⟨fun pins s σ H D I q => h.run pins s σ H D I (w D σ H q)⟩
/-- the wish at any names -/
theorem Ok.names {a : Type} (hw : Flat W) {σ : L2.St} {H : Hp} {m : List Addr} {P : a → Sx → Hp → List Addr → Prop} : ∀ {r : TK.R a}, Ok T (fun c d H' => W c d [] H') H m P r → Ok T (fun c d H' => W c d σ H') H m P r
  | .ok d S', h => h
  | .exc c e S', h => fun H' m' x dd L R r k => hw _ _ [] σ _ (h H' m' x dd L R r k)
  | .bad, h => h
theorem st_never : PS X st (rdS T W fun _ _ => .bad) := ⟨fun _ _ _ _ _ _ ⟨s, S, m, _, _, q⟩ => q.elim⟩
theorem st_nil : PSs X [] (rdS T W fun s S => .ok (.nx s) S) := PSs_imp pss_nil fun D σ H ⟨s, S, m, hs, hS, h⟩ => h H m .refl hS σ hs
def seqF (f : Fl) (g : Vs → TK.R Fl) (S : Sx) : TK.R Fl := match f with
  | .nx s => g s
  | f => .ok f S
theorem st_cons (h1 : PS X st (rdS T W f1)) (h2 : PSs X sts (rdS T W f2)) : PSs X (st :: sts) (rdS T W fun s S => (f1 s S).bind fun f S => (match f with | .nx s' => f2 s' S | f => .ok f S)) :=
  PSs_imp (pss_cons h1 h2) fun D σ H ⟨s, S, m, hs, hS, h⟩ => ⟨s, S, m, hs, hS, h.bind.mono fun f S1 H1 m1 L1 R1 q => by
    cases f with
    | nx s' => exact fun σ' hs' => ⟨s', S1, m1, hs', R1, q⟩
    | rt d => exact fun v rv => q H1 m1 .refl R1 v rv
    | bk s' => exact fun σ' hs' => q H1 m1 .refl R1 σ' hs'
    | ct s' => exact fun σ' hs' => q H1 m1 .refl R1 σ' hs'⟩
theorem st_if (hw : Flat W) (hc : PT X c (rdT T W ft)) (ha : PSs X sts (rdS T W f1)) (hb : PSs X sts2 (rdS T W f2)) : PS X (.If c sts sts2 pos) (rdS T W fun s S => (ft s S).bind fun k S => if k = true then f1 s S else f2 s S) :=
  PS_imp (ps_if hc ha hb) fun D σ H ⟨s, S, m, hs, hS, h⟩ => ⟨s, S, m, hs, hS, (h.bind.names hw).mono fun k S1 H1 m1 L1 R1 q => by
    cases k with
    | true => exact ⟨s, S1, m1, hs.mono L1, R1, q⟩
    | false => exact ⟨s, S1, m1, hs.mono L1, R1, q⟩⟩
theorem st_pass : PS X (.Pass pos) (rdS T W fun s S => .ok (.nx s) S) := PS_imp ps_pass fun D σ H ⟨s, S, m, hs, hS, h⟩ => h H m .refl hS σ hs
theorem st_brk : PS X (.Break pos) (rdS T W fun s S => .ok (.bk s) S) := PS_imp ps_break fun D σ H ⟨s, S, m, hs, hS, h⟩ => h H m .refl hS σ hs
theorem st_ret (hw : Flat W) (ha : PE X a (rdE T W fa)) : PS X (.Return (some a) pos) (rdS T W fun s S => (fa s S).bind fun d S => .ok (.rt d) S) :=
  PS_imp (ps_ret ha) fun D σ H ⟨s, S, m, hs, hS, h⟩ => ⟨s, S, m, hs, hS, (h.bind.names hw).mono fun d S1 H1 m1 L1 R1 q v rv => q H1 m1 .refl R1 v rv⟩
theorem st_retN : PS X (.Return none pos) (rdS T W fun _ S => .ok (.rt .non) S) := PS_imp ps_retN fun D σ H ⟨s, S, m, hs, hS, h⟩ => h H m .refl hS _ rfl
theorem st_ex (hw : Flat W) (ha : PE X a (rdE T W fa)) (hsw : swapsWith a none pos.line X.env = pure false) : PS X (.Expr a pos) (rdS T W fun s S => (fa s S).bind fun _ S => .ok (.nx s) S) :=
  PS_imp (ps_expr ha hsw) fun D σ H ⟨s, S, m, hs, hS, h⟩ => ⟨s, S, m, hs, hS, (h.bind.names hw).mono fun d S1 H1 m1 L1 R1 q v rv => q H1 m1 .refl R1 σ (hs.mono L1)⟩
/-! ### stores -/
theorem st_set {k : Nat} {x : Str} (hw : Flat W) (hN : X.N.Nodup) (hi : X.N[k]? = some x) (hx : Loc X.env.scope x) (hf : X.fn x = true ∨ X.env.scope.names.lookup x = some .local) (ha : PE X a (rdE T W fa)) (hsw : swapsWith a (some (.Name x p)) pos.line X.env = pure false) :
    PS X (.Assign [.Name x p] a pos) (rdS T W fun s S => (fa s S).bind fun d S => .ok (.nx (s.set k (some d))) S) :=
  PS_imp (ps_set hN hi hx ha hsw hf) fun D σ H ⟨s, S, m, hs, hS, h⟩ => ⟨s, S, m, hs, hS, (h.bind.names hw).mono fun d S1 H1 m1 L1 R1 q v rv => q H1 m1 .refl R1 _ ((hs.mono L1).set k rv)⟩
theorem st_unp (hw : Flat W) (hg : PG X tg (rdG T tg')) (ha : PE X a (rdE T W fa)) (hs : swapsWithSole [tg] a pos.line X.env = pure false) (hw2 : swappedStores [tg] a X.env = pure none) (h1 : (assignEach [tg] X.env).map (·.2) = [assign tg X.env]) :
    PS X (.Assign [tg] a pos) (rdS T W fun s S => (fa s S).bind fun d S => (lift (asg tg' d s) S).bind fun s' S => .ok (.nx s') S) :=
  PS_imp (ps_asg ha hg hs hw2 h1) fun D σ H ⟨s, S, m, hs, hS, h⟩ => ⟨s, S, m, hs, hS, (h.bind.names hw).mono fun d S1 H1 m1 L1 R1 q v rv => by
    obtain ⟨s', es, q1⟩ := lift_ok q.bind
    have q2 := q1 H1 m1 .refl R1
    exact ⟨d, s, s', m1, rv, hs.mono L1, es, fun σ' hs' _ => q2 H1 m1 .refl R1 σ' hs'⟩⟩
theorem setD_own {x y d : D} {S S' : Sx} (h : setD x y d S = some S') : ∃ n i xs j, x = .obj n ∧ y = .int i ∧ S[n]? = some (.lst xs) ∧ ixN xs.length i = some j ∧ S' = S.set n (.lst (xs.set j d)) := by
  unfold setD at h
  split at h
  · rename_i n i
    split at h
    · rename_i xs e
      obtain ⟨j, e2, e3⟩ := Option.map_eq_some_iff.mp h
      exact ⟨n, i, xs, j, rfl, rfl, e, e2, e3.symm⟩
    · cases h
  · cases h
def notSlice : Expr → Bool
  | .Slice _ _ _ _ => false
  | _ => true
theorem assign_sub {env : PySem.Env} (hsl : notSlice i = true) (v : Value) : assign (.Subscript o i p) env v = (do
      let ov ← holding [v] (eval o env)
      let iv ← holding [v, ov] (eval i env)
      standAt p
      holding [v, ov, iv] (setItem ov iv v)
      release [v, ov, iv] []) := by
  cases i <;> first | rfl | cases hsl
theorem st_seti (hw : Flat W) (hsl : notSlice i = true) (ha : PE X a (rdE T W fa)) (ho : PE X o (rdE T W fb)) (hi : PE X i (rdE T W fc)) (hs : swapsWithSole [.Subscript o i p] a pos.line X.env = pure false) :
    PS X (.Assign [.Subscript o i p] a pos) (rdS T W fun s S => (fa s S).bind fun d S => (fb s S).bind fun x S => (fc s S).bind fun y S => (match setD x y d S with | some S' => .ok (.nx s) S' | none => .bad)) :=
  PS_imp (ps_asg ha (pg_sub ho hi set_list (assign_sub hsl)) hs rfl rfl) fun D σ H ⟨s, S, m, hs, hS, h⟩ => ⟨s, S, m, hs, hS, (h.bind.names hw).mono fun d S1 H1 m1 L1 R1 q v rv => by
    refine ⟨s, S1, m1, hs.mono L1, R1, (q.bind.names hw).mono fun x S2 H2 m2 L2 R2 q2 u ru => ?_⟩
    refine ⟨s, S2, m2, (hs.mono L1).mono L2, R2, (q2.bind.names hw).mono fun y S3 H3 m3 L3 R3 q3 w rw' => ?_⟩
    split at q3
    · rename_i S' e
      obtain ⟨n, j, xs, k, rfl, rfl, e1, e2, rfl⟩ := setD_own e
      obtain ⟨a, vs, rfl, hm, h1, h2⟩ := (RepV.mono L3 _ _ ru).own R3 e1
      rw [show w = .int j from rw']
      refine ⟨a, vs, j, k, rfl, rfl, h1, by rw [← h2.len]; exact e2, ?_⟩
      have La := later_set (u := .lst (vs.set k v)) (H := H3) hm
      exact q3 _ m3 La (R3.set hm ⟨_, upd_same, RepL.mono La _ _ (h2.set k (RepV.mono L3 _ _ (RepV.mono L2 _ _ rv)))⟩) σ ((((hs.mono L1).mono L2).mono L3).mono La)
    · exact q3.elim⟩
theorem putF_names {x : Str} {v : V} {d : D} {H : Hp} {m : List Addr} : ∀ {fs : List (Str × V)} {ns : List Str} {ds : List D}, fs.map (·.1) = ns → RepL T H m ds (fs.map (·.2)) → RepV T H m d v → (putF x v fs).map (·.1) = (putN ns ds x d).1 ∧ RepL T H m (putN ns ds x d).2 ((putF x v fs).map (·.2))
  | [], ns, ds, e, r, rd => by
    subst e
    cases ds with
    | nil => exact ⟨rfl, .one rd⟩
    | cons d ds => obtain ⟨_, _, e, _⟩ := r; cases e
  | (g, u) :: fs, ns, ds, e, r, rd => by
    subst e
    cases ds with
    | nil => cases r
    | cons d0 ds =>
      obtain ⟨v0, r0, e0, h1, h2⟩ := r
      have e1 : u = v0 := (List.cons.inj e0).1
      have e2 : fs.map (·.2) = r0 := (List.cons.inj e0).2
      subst e1 e2
      simp only [putF, List.map_cons, putN]
      by_cases hg : g = x
      · rw [if_pos hg, if_pos hg]
        exact ⟨rfl, v, _, rfl, rd, h2⟩
      · rw [if_neg hg, if_neg hg]
        obtain ⟨k1, k2⟩ := putF_names rfl h2 rd
        exact ⟨by rw [List.map_cons, k1], u, _, rfl, h1, k2⟩
theorem setF_own {c : Nat} {x d : D} {f : Str} {S S' : Sx} (h : setF c x f d S = some S') : ∃ n ns xs, x = .obj n ∧ S[n]? = some (.ins c ns xs) ∧ ns.length < 1000 ∧ S' = S.set n (.ins c (putN ns xs f d).1 (putN ns xs f d).2) := by
  unfold setF at h
  split at h
  · rename_i n
    split at h
    · rename_i c' ns xs e
      split at h
      · rename_i hc
        obtain ⟨rfl, hl⟩ := hc
        cases h
        exact ⟨n, ns, xs, rfl, e, hl, rfl⟩
      · cases h
    · cases h
  · cases h
theorem st_setf {k : Nat} {f : Str} (hw : Flat W) (hK : X.K = T.K) (hc : Cls T.K (T.C k)) (hn : NoAttr T.K (T.C k) f) (ha : PE X a (rdE T W fa)) (ho : PE X o (rdE T W fb)) (hs : swapsWith a (some (.Attribute o f p)) pos.line X.env = pure false) :
    PS X (.Assign [.Attribute o f p] a pos) (rdS T W fun s S => (fa s S).bind fun d S => (fb s S).bind fun x S => (match setF k x f d S with | some S' => .ok (.nx s) S' | none => .bad)) :=
  PS_imp (ps_fld ho ha hs) fun D σ H ⟨s, S, m, hs, hS, h⟩ => ⟨s, S, m, hs, hS, (h.bind.names hw).mono fun d S1 H1 m1 L1 R1 q v rv => by
    refine ⟨s, S1, m1, hs.mono L1, R1, (q.bind.names hw).mono fun x S2 H2 m2 L2 R2 q2 u ru => ?_⟩
    split at q2
    · rename_i S' e
      obtain ⟨n, ns, xs, rfl, e1, e2, rfl⟩ := setF_own e
      obtain ⟨a, rfl, hm⟩ := ru
      obtain ⟨dx, fl, h1, h2, h3⟩ := R2.obj n a _ hm e1
      refine ⟨a, T.C k, dx, fl, rfl, h1, by rw [hK]; exact hc, by rw [hK]; exact hn, by rw [← h2] at e2; simpa using e2, ?_⟩
      have La := later_set (u := .ins (T.C k) dx (putF f v fl)) (H := H2) hm
      obtain ⟨k1, k2⟩ := putF_names (x := f) h2 h3 (RepV.mono L2 _ _ rv)
      exact q2 _ m2 La (R2.set hm ⟨dx, _, upd_same, k1, RepL.mono La _ _ k2⟩) σ (((hs.mono L1).mono L2).mono La)
    · exact q2.elim⟩
theorem st_aug {k : Nat} {x : Str} (hw : Flat W) (hN : X.N.Nodup) (hi : X.N[k]? = some x) (hx : Loc X.env.scope x) (hf : X.fn x = true ∨ X.env.scope.names.lookup x = some .local) (ha : PE X a (rdE T W fa)) :
    PS X (.AugAssign (.Name x p) .Add a pos) (rdS T W fun s S => (match s.getD k none with
      | some (.int x) => (fa s S).bind fun d S => (match d with
        | .int y => .ok (.nx (s.set k (some (.int (x + y))))) S
        | _ => .bad)
      | _ => .bad)) :=
  PS_imp (ps_aug hN hi hx ha ip_add hf) fun D σ H ⟨s, S, m, hs, hS, h⟩ => by
    dsimp only at h
    split at h
    · rename_i i e
      obtain ⟨v, e1, rv⟩ := hs.2 k _ e
      rw [show v = .int i from rv] at e1
      refine ⟨_, e1, s, S, m, hs, hS, (h.bind.names hw).mono fun d S1 H1 m1 L1 R1 q v rv => ?_⟩
      split at q
      · rename_i j
        rw [show v = .int j from rv]
        exact ⟨i, j, rfl, rfl, q H1 m1 .refl R1 _ ((hs.mono L1).set k rfl)⟩
      · exact q.elim
    · exact h.elim
/-! ### loops -/
theorem st_for (hw : Flat W) (hp : PassesOwn (model X.prog X.w) X.A X.env X.xe) (hc : X.calm = true) (hi : PI X tg e (rdI T W fi)) (hg : PG X tg (rdG T tg')) (hb : PSs X sts (rdS T W f1)) (hset : notSet e = true) :
    PS X (.For tg e sts [] pos) (rdS T W fun s S => (fi s S).bind fun xs S => forL tg' xs.2 f1 xs.1 s S) :=
  PS_imp (ps_for hp hc hi hg hb (fold_not hset)) fun D σ H ⟨s, S, m, hs, hS, h⟩ => ⟨s, S, m, hs, hS, (h.bind.names hw).mono fun q S1 H1 m1 L1 R1 g J w => by
    refine ⟨fun i n σ H => n = q.1.length - i ∧ i ≤ q.1.length ∧ ∃ s m S, Later H1 H m1 m ∧ RelH T H m S ∧ RelV T H m s σ ∧ Ok T (fun c d H' => W c d [] H') H m (PF T D) (forL tg' q.2 f1 (q.1.drop i) s S), ⟨q.1.length, by simp, Nat.zero_le _, s, m1, S1, .refl, R1, hs.mono L1, g⟩, ?_⟩
    rintro i n σ' H' ⟨rfl, hi, s', m', S', L, R, rv, el⟩
    have hst : q.2 S' = true := by
      cases hx : q.1.drop i with
      | nil =>
        rw [hx] at el
        unfold forL at el
        split at el
        · assumption
        · exact el.elim
      | cons d ds =>
        rw [hx] at el
        unfold forL at el
        split at el
        · assumption
        · exact el.elim
    obtain ⟨w1, w2, w3⟩ := w [] (by simp) H' m' S' L R hst
    by_cases hlt : i < q.1.length
    · refine .inr ⟨w1 i hlt, fun σ' H' => ∃ n', n' < q.1.length - i ∧ (n' = q.1.length - (i + 1) ∧ i + 1 ≤ q.1.length ∧ ∃ s m S, Later H1 H' m1 m ∧ RelH T H' m S ∧ RelV T H' m s σ' ∧ Ok T (fun c d H' => W c d [] H') H' m (PF T D) (forL tg' q.2 f1 (q.1.drop (i + 1)) s S)), fun σ' H' z => z, fun x H2 y => ?_⟩
      obtain ⟨d, e1, rd, R2, La⟩ := w3 i x H2 hlt y
      have hdr : q.1.drop i = d :: q.1.drop (i + 1) := by
        rw [List.drop_eq_getElem_cons hlt]
        congr 1
        exact Option.some.inj ((List.getElem?_eq_getElem hlt).symm.trans e1)
      rw [hdr] at el
      unfold forL at el
      rw [if_pos hst] at el
      split at el
      · rename_i s1 es1
        refine ⟨d, s', s1, m', rd, rv.mono La, es1, fun σ2 r2 _ => ⟨s1, S', m', r2, R2, (el.shift La).bind.mono fun f S3 H3 m3 L3 R3 g3 => ?_⟩⟩
        cases f with
        | nx s3 => exact fun σ3 r3 => ⟨_, by omega, rfl, hlt, s3, m3, S3, L.trans (La.trans L3), R3, r3, g3⟩
        | ct s3 => exact fun σ3 r3 => ⟨_, by omega, rfl, hlt, s3, m3, S3, L.trans (La.trans L3), R3, r3, g3⟩
        | bk s3 => exact fun σ3 r3 => g3 H3 m3 .refl R3 σ3 r3
        | rt d => exact fun v rv => g3 H3 m3 .refl R3 v rv
      · exact el.elim
    · have e : i = q.1.length := by omega
      subst e
      refine .inl ⟨w2, ?_⟩
      rw [List.drop_length] at el
      unfold forL at el
      rw [if_pos hst] at el
      exact el H' m' .refl R σ' rv⟩
theorem st_whl (hw : Flat W) (hp : PassesOwn (model X.prog X.w) X.A X.env X.xe) (hc : PT X c (rdT T W ft)) (hb : PSs X sts (rdS T W f1)) (n : Nat) : PS X (.While c sts [] pos) (rdS T W fun s S => whlL ft f1 n s S) :=
  PS_imp (ps_while hp hc hb) fun D σ H ⟨s, S, m, hs, hS, h⟩ => by
    refine ⟨fun n σ H => ∃ s S m, RelV T H m s σ ∧ RelH T H m S ∧ Ok T (fun c d H' => W c d [] H') H m (PF T D) (whlL ft f1 n s S), ⟨n, s, S, m, hs, hS, h⟩, ?_⟩
    rintro n σ H ⟨s, S, m, hs, hS, h⟩
    cases n with
    | zero => exact h.elim
    | succ n =>
      unfold whlL at h
      refine ⟨s, S, m, hs, hS, (h.bind.names hw).mono fun b S1 H1 m1 L1 R1 q => ?_⟩
      cases b with
      | false => exact q H1 m1 .refl R1 σ (hs.mono L1)
      | true =>
        refine ⟨fun σ H => ∃ n', n' < n + 1 ∧ ∃ s S m, RelV T H m s σ ∧ RelH T H m S ∧ Ok T (fun c d H' => W c d [] H') H m (PF T D) (whlL ft f1 n' s S), fun σ' H' z => z, s, S1, m1, hs.mono L1, R1, q.bind.mono fun f S3 H3 m3 L3 R3 g3 => ?_⟩
        cases f with
        | nx s3 => exact fun σ3 r3 => ⟨n, Nat.lt_succ_self n, s3, S3, m3, r3, R3, g3⟩
        | ct s3 => exact fun σ3 r3 => ⟨n, Nat.lt_succ_self n, s3, S3, m3, r3, R3, g3⟩
        | bk s3 => exact fun σ3 r3 => g3 H3 m3 .refl R3 σ3 r3
        | rt d => exact fun v rv => g3 H3 m3 .refl R3 v rv
end
end TK
end
section
set_option autoImplicit false
set_option linter.all false
set_option maxRecDepth 100000
namespace TK
open PySem L2 PySem.Spec PyProof.Rows
section
variable {X : Cx} {T : Tb} {W : WX} {a b c o i : Expr} {fa fb fc : Vs → Sx → TK.R D} {pos apos p : Pos}
/-- {} -/
theorem s_dct0 {tr : Bool} : PE X (.Dict [] [] pos) (rdE T W fun s S => (R.ok [] S : TK.R (List D)).bind fun xs S => if xs.length = ([] : List Key).length ∧ ([] : List Key).length ≤ 15 ∧ ([] : List Key).Nodup then (if tr = true then .ok (.obj S.length) (S ++ [.dk [] xs]) else .ok (.dv [] xs) S) else .bad) :=
  PE_imp pe_dnewK fun σ H Q ⟨s, S, m, hs, hS, h⟩ => by
    intro p hp
    simp only [R.bind_ok] at h
    rw [if_pos ⟨rfl, by decide, List.nodup_nil⟩] at h
    cases tr with
    | true =>
      simp only [if_true] at h
      exact h _ (m ++ [p]) (later_push hS hp) (hS.push hp ⟨[], upd_same, rfl, rfl⟩) _ ⟨p, rfl, by rw [← hS.len]; simp⟩
    | false =>
      simp only [Bool.false_eq_true, if_false] at h
      exact h _ m (later_new hp) (hS.aside hp) _ ⟨p, [], rfl, ⟨upd_same, hS.new hp, hS.fresh hp⟩, rfl, rfl⟩
theorem put_names {H : Hp} {m : List Addr} {q : Key} {d : D} {v : V} {kvs : List (Key × V)} {ks : List Key} {ds : List D} (e : kvs.map (·.1) = ks) (r : RepL T H m ds (kvs.map (·.2))) (rd : RepV T H m d v) :
    (putK kvs q v).map (·.1) = (putKD ks ds q d).1 ∧ RepL T H m (putKD ks ds q d).2 ((putK kvs q v).map (·.2)) := by
  subst e
  unfold putK putKD
  have ea : ((kvs.map (·.1)).any fun k => decide (k = q)) = kvs.any fun kv => decide (kv.1 = q) := by rw [List.any_map]; rfl
  rw [ea]
  by_cases hq : (kvs.any fun kv => decide (kv.1 = q)) = true
  · rw [if_pos hq, if_pos hq]
    refine ⟨?_, ?_⟩
    · show ((kvs.map _).map _) = kvs.map _
      rw [List.map_map]
      apply List.map_congr_left
      intro kv _
      by_cases z : kv.1 = q <;> simp [z]
    · show RepL T H m (List.zipWith (fun k x => if k = q then d else x) (kvs.map (·.1)) ds) ((kvs.map fun kv => if kv.1 = q then (kv.1, v) else kv).map (·.2))
      clear hq ea
      induction kvs generalizing ds with
      | nil =>
        have : ds = [] := by cases ds with
          | nil => rfl
          | cons d ds => obtain ⟨_, _, e, _⟩ := r; cases e
        subst this
        exact rfl
      | cons kv kvs ih =>
        cases ds with
        | nil => exact absurd (show kv.2 :: kvs.map (·.2) = [] from r) (by simp)
        | cons x ds =>
          obtain ⟨u, us, e, h1, h2⟩ := r
          have e1 : kv.2 = u := (List.cons.inj e).1
          have e2 : kvs.map (·.2) = us := (List.cons.inj e).2
          subst e1 e2
          have := ih h2
          by_cases z : kv.1 = q
          · refine ⟨v, _, ?_, ?_, this⟩
            · simp [z]
            · show RepV T H m (if kv.1 = q then d else x) v
              rw [if_pos z]; exact rd
          · refine ⟨kv.2, _, ?_, ?_, this⟩
            · simp [z]
            · show RepV T H m (if kv.1 = q then d else x) kv.2
              rw [if_neg z]; exact h1
  · rw [if_neg hq, if_neg hq]
    refine ⟨by simp, ?_⟩
    show RepL T H m (ds ++ [d]) ((kvs ++ [(q, v)]).map (·.2))
    rw [List.map_append]
    exact r.append (.one rd)
theorem zip_rep {H : Hp} {m : List Addr} {d : D} {v : V} {k : NestedKey} {q : D} (hk : nkey q = some k) (rd : RepV T H m d v) {r : Value} (hr : L2.RelV v r) : ∀ {ks ds : List D} {xs : List (NestedKey × Addr × Value)} {vs : List V}, ks.map nkey = xs.map (fun x => some x.1) → RepL T H m ds vs → Vals vs (xs.map (·.2.2)) →
    ∃ vs', Vals vs' ((xs.map (putAt k r)).map (·.2.2)) ∧ RepL T H m (List.zipWith (fun x y => if x = q then d else y) ks ds) vs'
  | [], ds, [], vs, _, _, rv => by
    cases rv
    exact ⟨[], .nil, by simp [RepL]⟩
  | [], ds, y :: xs, vs, e, _, _ => by simp at e
  | x :: ks, ds, [], vs, e, _, _ => by simp at e
  | x :: ks, [], y :: xs, vs, e, h, rv => by
    rw [show vs = [] from h] at rv
    cases rv
  | x :: ks, z :: ds, y :: xs, vs, e, h, rv => by
    obtain ⟨v0, vs0, rfl, h1, h2⟩ := h
    simp only [List.map_cons, List.cons.injEq] at e
    rw [List.map_cons] at rv
    cases rv with
    | cons r1 r2 =>
      obtain ⟨vs', a1, a2⟩ := zip_rep hk rd hr e.2 h2 r2
      by_cases hx : x = q
      · subst hx
        have : y.1 = k := Option.some.inj (e.1.symm.trans hk)
        exact ⟨v :: vs', .cons (by simp [putAt, this]; exact hr) a1, v, vs', rfl, by simp; exact rd, a2⟩
      · have : ¬ y.1 = k := fun z => hx (nkey_inj x q k (by rw [e.1, z]) hk)
        exact ⟨v0 :: vs', .cons (by simp [putAt, this]; exact r1) a1, v0, vs', rfl, by simp [hx]; exact h1, a2⟩
theorem dn_put {H : Hp} {m : List Addr} {a b : Addr} {q d : D} {v : V} {k : NestedKey} {r : Value} {ks ds : List D} {xs : List (NestedKey × Addr × Value)} {vs : List V} (h : DnAt T H a ks xs vs) (r1 : RepL T H m ks (refN xs)) (r2 : RepL T H m ds vs) (rq : RepV T H m q (.ref b)) (hk : nkey q = some k) (hd : k.depth ≤ 8) (rd : RepV T H m d v) (hr : L2.RelV v r) {o : Hp} (ho : o a = some (DNO T.P T.w a (storedH xs k b r))) :
    ∃ vs', DnAt T o a (putND ks ds q d).1 (storedH xs k b r) vs' ∧ RepL T H m (putND ks ds q d).1 (refN (storedH xs k b r)) ∧ RepL T H m (putND ks ds q d).2 vs' := by
  have hf := find_key h.keys hk
  have hs := atKey_some (xs := xs) (k := k)
  unfold putND
  by_cases hq : q ∈ ks
  · have e1 : storedH xs k b r = xs.map (putAt k r) := by
      unfold storedH
      rw [hs, if_pos (by simpa using hf.mp hq)]
    rw [e1] at ho
    rw [if_pos hq, e1]
    obtain ⟨vs', a1, a2⟩ := zip_rep hk rd hr h.keys r2 h.vals
    have e2 : ∀ x : NestedKey × Addr × Value, (putAt k r x).1 = x.1 ∧ (putAt k r x).2.1 = x.2.1 := fun x => by
      unfold putAt
      split <;> simp
    refine ⟨vs', ⟨ho, h.off, ?_, fun x hx => ?_, a1⟩, ?_, a2⟩
    · rw [h.keys, List.map_map]
      apply List.map_congr_left
      intro x _
      simp [(e2 x).1]
    · obtain ⟨y, hy, rfl⟩ := List.mem_map.mp hx
      rw [(e2 y).1]
      exact h.deep y hy
    · have : refN (xs.map (putAt k r)) = refN xs := by
        show ((xs.map (putAt k r)).map fun x => V.ref x.2.1) = xs.map fun x => V.ref x.2.1
        rw [List.map_map]
        apply List.map_congr_left
        intro x _
        simp [(e2 x).2]
      rw [this]
      exact r1
  · have e1 : storedH xs k b r = xs ++ [(k, b, r)] := by
      unfold storedH
      rw [hs, if_neg (by simpa using fun z => hq (hf.mpr z))]
    rw [e1] at ho
    rw [if_neg hq, e1]
    refine ⟨vs ++ [v], ⟨ho, h.off, by simp [h.keys, hk], fun x hx => ?_, ?_⟩, ?_, r2.append (.one rd)⟩
    · rcases List.mem_append.mp hx with hx | hx
      · exact h.deep x hx
      · rw [List.mem_singleton.mp hx]; exact hd
    · rw [List.map_append]
      exact h.vals.append (.cons hr .nil)
    · have : refN (xs ++ [(k, b, r)]) = refN xs ++ [V.ref b] := by simp [refN]
      rw [this]
      exact r1.append (.one rq)
theorem dput_own {H : Hp} {m : List Addr} {S S' : Sx} {Q : Hp → Prop} (R : RelH T H m S) {x y d : D} {u w v : V} (rx : RepV T H m x u) (ry : RepV T H m y w) (rd : RepV T H m d v) (e : dputD x y d S = some S') (q : ∀ H', Later H H' m m → RelH T H' m S' → Q H') :
    ∃ a, u = .ref a ∧ PutAt T H a w v Q := by
  unfold dputD at e
  split at e
  · rename_i n
    obtain ⟨a, rfl, h1⟩ := rx
    obtain ⟨ob, ho, hq⟩ := R.there h1
    rw [ho] at e
    cases ob with
    | dk ks xs =>
      obtain ⟨q', e1, e2⟩ := Option.bind_eq_some_iff.mp e
      split at e2
      · rename_i hl
        cases e2
        obtain ⟨kvs, k1, k2, k3⟩ := hq
        obtain rfl := keyD_ok ry e1
        obtain ⟨z1, z2⟩ := put_names (q := q') k2 k3 rd
        have La := later_set (u := .dK (putK kvs q' v)) (H := H) h1
        refine ⟨a, rfl, .inl ⟨_, DPut.k k1 ?_, q _ La (R.set h1 ⟨_, upd_same, z1, RepL.mono La _ _ z2⟩)⟩⟩
        have := congrArg List.length k2
        simp at this
        omega
      · cases e2
    | dn ks ds =>
      simp only at e
      split at e
      · rename_i hc
        obtain ⟨ok, hl⟩ := hc
        cases e
        obtain ⟨xs, vs, k1, k2, k3⟩ := hq
        have hlx : xs.length ≤ sizeLine := by
          have := congrArg List.length k1.keys
          simp at this
          omega
        refine ⟨a, rfl, .inr ⟨m, ks, xs, vs, y, k1, k2, ry, ok, hlx, fun b k r eb hk hd hr => ?_⟩⟩
        subst eb
        have La := later_set (u := DNO T.P T.w a (storedH xs k b r)) (H := H) h1
        obtain ⟨vs', a1, a2, a3⟩ := dn_put k1 k2 k3 ry hk hd rd hr (o := upd H a (DNO T.P T.w a (storedH xs k b r))) upd_same
        exact q _ La (R.set h1 ⟨_, vs', a1, RepL.mono La _ _ a2, RepL.mono La _ _ a3⟩)
      · cases e
    | _ => cases e
  · cases e
theorem st_dput (hS : Same X T) (hw : Flat W) (hu : X.A.units + 65 < cLine) (ha : PE X a (rdE T W fa)) (ho : PE X o (rdE T W fb)) (hi : PE X i (rdE T W fc)) (hs : swapsWith a (some (.Subscript o i p)) pos.line X.env = pure false) :
    PS X (.Assign [.Subscript o i p] a pos) (rdS T W fun s S => (fa s S).bind fun d S => (fb s S).bind fun x S => (fc s S).bind fun y S => (match dputD x y d S with | some S' => .ok (.nx s) S' | none => .bad)) :=
  PS_imp (ps_putN hS hu ho hi ha hs) fun D σ H ⟨s, S, m, hs, hS, h⟩ => ⟨s, S, m, hs, hS, (h.bind.names hw).mono fun d S1 H1 m1 L1 R1 q v rv => by
    refine ⟨s, S1, m1, hs.mono L1, R1, (q.bind.names hw).mono fun x S2 H2 m2 L2 R2 q2 u ru => ?_⟩
    refine ⟨s, S2, m2, (hs.mono L1).mono L2, R2, (q2.bind.names hw).mono fun y S3 H3 m3 L3 R3 q3 w rw' => ?_⟩
    split at q3
    · rename_i S' e
      exact dput_own R3 (RepV.mono L3 _ _ ru) rw' (RepV.mono L3 _ _ (RepV.mono L2 _ _ rv)) e fun H4 L4 R4 => q3 H4 m3 L4 R4 σ ((((hs.mono L1).mono L2).mono L3).mono L4)
    · exact q3.elim⟩
/-- {} of trees -/
theorem s_dnew (hS : Same X T) : PE X (.Dict [] [] pos) (rdE T W fun _ S => .ok (.obj S.length) (S ++ [.dn [] []])) :=
  PE_imp (pe_dnew hS) fun σ H Q ⟨s, S, m, hs, hS, h⟩ => fun p hp hm =>
    h _ (m ++ [p]) (later_push hS hp) (hS.push hp ⟨[], [], ⟨upd_same, hm, rfl, (fun _ z => by cases z), .nil⟩, rfl, rfl⟩) _ ⟨p, rfl, by rw [← hS.len]; simp⟩
theorem s_dn1 (hS : Same X T) (hu : X.A.units + 65 < cLine) (ha : ∀ p, PE X a (rdE (T.hide p) W fa)) (hb : ∀ p, PE X b (rdE (T.hide p) W fb)) :
    PE X (.Dict [some a] [b] pos) (rdE T W fun s S => ((fa s S).bind fun x S => (fb s S).bind fun y S => (R.ok [x, y] S : TK.R (List D))).bind fun xs S => dn1D xs S) := by
  refine PE_imp (pe_disp1 hS hu (pps_cons (pe_ex ha) (pe_ex hb) pps_nil)) fun σ H Q ⟨s, S, m, hs, hS, h⟩ => ?_
  intro p hp hm
  have np := hS.new hp
  have key : Ok (T.hide p) (fun c d H' => W c d σ H') (upd H p (DNO T.P T.w p [])) m (fun ds S1 H1 m1 => ∀ vs, RepL (T.hide p) H1 m1 ds vs → (H1 p = some (DNO T.P T.w p []) ∧ ∃ (m : List Addr) (d : D) (y v : V), (vs = [y, v]) ∧ RepV T H1 m d y ∧ nkOk d = true ∧ ∀ b k r, y = .ref b → nkey d = some k → k.depth ≤ 8 → L2.RelV v r → Q (.ref p) (upd H1 p (DNO T.P T.w p [(k, b, r)]))))
      ((fa s S).bind fun x S => (fb s S).bind fun y S => (R.ok [x, y] S : TK.R (List D))) := by
    refine h.bind0.hid hp fun ds S1 H1 m1 L1 R1 g vs rvs => ?_
    unfold dn1D at g
    split at g
    · rename_i d e
      split at g
      · rename_i ok
        have hD : H1 p = some (DNO T.P T.w p []) := L1.fr p _ upd_same np (fun _ e => nomatch e)
        obtain ⟨y, r0, rfl, k1, v, r1, rfl, k2, k3⟩ := rvs
        rw [show r1 = [] from k3]
        have nt : ∀ xs, ¬ Rd H1 p (.tup xs) := fun xs z => by
          rcases z with z | ⟨_, z⟩ <;> rw [hD] at z <;> cases z
        have ntb : ∀ ps, H1 p ≠ some (.tbl ps) := fun ps z => by rw [hD] at z; cases z
        refine ⟨hD, m1, d, y, v, rfl, RepV.unhide d y k1, ok, fun b k r eb hk hd hr => ?_⟩
        subst eb
        have e1 : ∀ a, a ≠ p → (upd H1 p (DNO T.P T.w p [(k, b, r)])) a = H1 a := fun a q => upd_ne q
        have nt2 : ∀ xs, ¬ Rd (upd H1 p (DNO T.P T.w p [(k, b, r)])) p (.tup xs) := fun xs z => by
          rcases z with z | ⟨_, z⟩ <;> rw [upd_same] at z <;> cases z
        have ntb2 : ∀ ps, upd H1 p (DNO T.P T.w p [(k, b, r)]) p ≠ some (.tbl ps) := fun ps z => by rw [upd_same] at z; cases z
        have R2 := R1.off e1 nt ntb ⟨_, upd_same⟩
        have r2 := RepV.adopt nt2 _ _ (RepV.off e1 nt _ _ k1)
        have r3 := RepV.adopt nt2 _ _ (RepV.off e1 nt _ _ k2)
        have L : Later H H1 m m1 := (later_new hp).trans L1
        have L3 := (L.off hp e1).adopt hp np
        refine g _ (m1 ++ [p]) L3 (R2.adopt (hS.fresh hp) nt2 ntb2 ⟨[(k, b, r)], [v], ⟨upd_same, hm, by simp [hk], fun x hx => ?_, .cons hr .nil⟩, .one r2, .one r3⟩) _ ⟨p, rfl, by rw [← R1.len]; simp⟩
        rw [List.mem_singleton.mp hx]; exact hd
      · exact g.elim
    · exact g.elim
  show (rdEx T W fa) σ (upd H p (DNO T.P T.w p [])) fun y H2 => (rdEx T W fb) σ H2 fun v H3 => _
  refine ⟨p, s, S, m, hs.hide hp, hS.hide hp, key.bind.mono fun d S1 H1 m1 L1 R1 g v rv => ?_⟩
  refine ⟨p, s, S1, m1, (hs.hide hp).mono L1, R1, g.bind.mono fun e S2 H2 m2 L2 R2 g2 u ru => ?_⟩
  obtain ⟨z1, m', d', y', v', z2, z3⟩ := g2 H2 m2 .refl R2 [v, u] ⟨v, _, rfl, RepV.mono L2 d v rv, u, _, rfl, ru, rfl⟩
  cases z2
  exact ⟨z1, m', d', v, u, rfl, z3⟩
theorem isDk_is {H : Hp} {m : List Addr} {S : Sx} (R : RelH T H m S) {d : D} {v : V} (h : RepV T H m d v) (e : isDk d S = true) : ∃ a, v = .ref a ∧ IsD H a := by
  unfold isDk at e
  split at e
  · obtain ⟨a, kvs, rfl, h1, _⟩ := h
    exact ⟨a, rfl, .inl ⟨kvs, .inl h1.1⟩⟩
  · rename_i n
    obtain ⟨a, rfl, h1⟩ := h
    obtain ⟨ob, ho, hq⟩ := R.there h1
    rw [ho] at e
    cases ob with
    | dk ks xs =>
      obtain ⟨kvs, k1, _⟩ := hq
      exact ⟨a, rfl, .inl ⟨kvs, .inl k1⟩⟩
    | _ => cases e
  · cases e
theorem valV_lookO {H : Hp} {m : List Addr} {kvs : List (Key × V)} {ks : List Key} {ds : List D} {q : Key} (e : kvs.map (·.1) = ks) (r : RepL T H m ds (kvs.map (·.2))) {z : D} {w : V} (rz : RepV T H m z w) : RepV T H m ((lookK ks ds q).getD z) ((valV kvs q).getD w) := by
  cases l : lookK ks ds q with
  | some d =>
    obtain ⟨v, h1, h2⟩ := valV_look e r l
    rw [h1]; exact h2
  | none =>
    have : valV kvs q = none := by
      subst e
      induction kvs generalizing ds with
      | nil => rfl
      | cons kv kvs ih =>
        cases ds with
        | nil => exact absurd (show kv.2 :: kvs.map (·.2) = [] from r) (by simp)
        | cons x ds =>
          obtain ⟨u, us, e, h1, h2⟩ := r
          have e2 : kvs.map (·.2) = us := (List.cons.inj e).2
          subst e2
          simp only [List.map_cons, lookK] at l
          split at l
          · cases l
          · rename_i hk
            rw [valV_neg hk]
            exact ih h2 l
    rw [this]; exact rz
theorem s_dgetd (hK : X.K = T.K) (hu : X.A.units + 1 < cLine) (hsup : notSup o = true) (hl : (apos.endLine == pos.line) = true) (hst : notStar a = true) (hst2 : notStar b = true) (ho : PE X o (rdE T W fc)) (ha : PE X a (rdE T W fa)) (hb : PE X b (rdE T W fb)) :
    PE X (.Call (.Attribute o "get" apos) [a, b] [] pos) (rdE T W fun s S => (fc s S).bind fun d S => if isDk d S = true then (fa s S).bind fun y S => (fb s S).bind fun z S => lift (dgetdD d y z S) S else .bad) := by
  have sc : starEach [a, b] X.env = [(false, eval a X.env), (false, eval b X.env)] := by
    rw [star_cons hst [b] X.env, star_cons hst2 [] X.env]; rfl
  refine PE_imp (pe_dget2 hu ho ha hb ⟨base_of hsup, ?_, hl, ?_⟩) fun σ H Q ⟨s, S, m, hs, hS, h⟩ => ?_
  · rw [sc]; rfl
  · rw [sc]; rfl
  refine ⟨s, S, m, hs, hS, h.bind.mono fun d S1 H1 m1 L1 R1 q v rv => ?_⟩
  split at q
  · rename_i hd
    obtain ⟨ad, rfl, g⟩ := isDk_is R1 rv hd
    refine ⟨ad, rfl, g, s, S1, m1, hs.mono L1, R1, q.bind.mono fun y S2 H2 m2 L2 R2 q2 u ru => ?_⟩
    refine ⟨s, S2, m2, (hs.mono L1).mono L2, R2, q2.bind.mono fun z S3 H3 m3 L3 R3 q3 w rw' => ?_⟩
    obtain ⟨r, er, q4⟩ := lift_ok q3
    have rv3 := RepV.mono L3 _ _ (RepV.mono L2 _ _ rv)
    unfold dgetdD at er
    split at er
    · rename_i ks xs
      obtain ⟨k, e1, e2⟩ := Option.map_eq_some_iff.mp er
      subst e2
      obtain ⟨ad', kvs, e3, h1, h2, h3⟩ := rv3
      cases e3
      exact ⟨_, .inl ⟨kvs, k, .inl h1.1, keyD_ok (RepV.mono L3 _ _ ru) e1, rfl⟩, q4.here R3 (valV_lookO h2 h3 rw')⟩
    · rename_i n
      obtain ⟨ad', e3, h1⟩ := rv3
      cases e3
      obtain ⟨ob, ho, hq⟩ := R3.there h1
      rw [ho] at er
      cases ob with
      | dk ks xs =>
        obtain ⟨k, e1, e2⟩ := Option.map_eq_some_iff.mp er
        subst e2
        obtain ⟨kvs, h1, h2, h3⟩ := hq
        exact ⟨_, .inl ⟨kvs, k, .inl h1, keyD_ok (RepV.mono L3 _ _ ru) e1, rfl⟩, q4.here R3 (valV_lookO h2 h3 rw')⟩
      | _ => cases er
    · cases er
  · exact q.elim
theorem RepL.reverse {H : Hp} {m : List Addr} : ∀ {ds : List D} {vs : List V}, RepL T H m ds vs → RepL T H m ds.reverse vs.reverse
  | [], vs, h => by rw [show vs = [] from h]; exact rfl
  | d :: ds, vs, h => by
    obtain ⟨v, r, rfl, h1, h2⟩ := h
    rw [List.reverse_cons, List.reverse_cons]
    exact (RepL.reverse h2).append (.one h1)
/-- xs[::-1] of a list -/
theorem s_rev {tr : Bool} {k : Nat} {p1 p2 p3 : Pos} (ha : PE X a (rdE T W fa)) :
    PE X (.Subscript a (.Slice none none (some (.UnaryOp .USub (.Constant (.int 1) k p1) p2)) p3) pos) (rdE T W fun s S => (fa s S).bind fun d S => (lift (lstOf d S) S).bind fun xs S => newL tr xs.reverse S) :=
  PE_imp (pe_revL ha) fun σ H Q ⟨s, S, m, hs, hS, h⟩ => ⟨s, S, m, hs, hS, h.bind.mono fun d S1 H1 m1 L1 R1 q v rv => by
    obtain ⟨xs, e, q1⟩ := lift_ok q.bind
    have q1 := q1 H1 m1 .refl R1
    obtain ⟨a, vs, rfl, h1, h2⟩ := rv.lst R1 e
    exact ⟨a, vs, rfl, .inl (.inl h1), fun p hp => q1.lst R1 hp h2.reverse⟩⟩
/-- two lists in a new list -/
theorem addl_ok : OpR X (binaryOp .Add) (r2 T fun d e S => addlD d e S) := by
  intro pins s σ H x y v u Q I rx ry h
  obtain ⟨d, e, S, m, hd, he, R, h⟩ := h
  have h : Ok T (fun _ _ _ => False) H m (PV T Q) (addlD d e S) := h
  unfold addlD at h
  split at h
  · rename_i xs ys e1 e2
    have hz := newL_len h
    rw [List.length_append] at hz
    obtain ⟨a, vs, rfl, h1, h2⟩ := hd.lst R e1
    obtain ⟨b, us, rfl, h3, h4⟩ := he.lst R e2
    exact op_cat pins s σ H _ _ v u Q I rx ry ⟨a, b, vs, us, rfl, rfl, h1, h3, by rw [← h2.len, ← h4.len]; exact hz, fun p hp => Ok.lst (tr := true) R h hp (h2.append h4)⟩
  · exact h.elim
theorem nx_addl (d e : D) (S : Sx) (c : Nat) (v : D) (S' : Sx) : addlD d e S ≠ .exc c v S' := by
  unfold addlD
  split
  · exact nx_newL _ _ _ _ _ _
  · intro h; cases h
theorem s_addl (ha : PE X a (rdE T W fa)) (hb : PE X b (rdE T W fb)) : PE X (.BinOp a .Add b pos) (rdE T W fun s S => (fa s S).bind fun x S => (fb s S).bind fun y S => addlD x y S) :=
  PE_imp (pe_op addl_ok ha hb) fun σ H Q h => rd_bin (fun d e S => nx_addl d e S) h
end
end TK
end
section
set_option autoImplicit false
set_option linter.all false
set_option maxRecDepth 100000
namespace TK
open PySem L2 PySem.Spec PyProof.Rows
section
variable {X : Cx} {T : Tb} {W : WX} {a b c o i : Expr} {as : List Expr} {fa fb fc : Vs → Sx → TK.R D} {fs : Vs → Sx → TK.R (List D)} {pos apos p : Pos} {x : Str}
/-- a call of what a name of the def holds -/
theorem s_callv {lv md i : Nat} {ks : List Nat} {G : Gm} (E : Same X T) (F : ∀ k, k ∈ ks → FOa T lv k (G k) ∧ PySem.W.keepIn T.K (.ref (T.F k)) = true) (hr : Room lv X.A) (hN : X.N[i]? = some x) (hv : Vis X.env.scope x) (hdb : (x == ("__debug__" : Str)) = false) (hcd : (x == ("__classdict__" : Str)) = false) (tk : Takes X W) (hw : Flat W)
    (hst : as.all notStar = true) (hz : as ≠ []) (ha : PA X as (rdA T W fs)) : PE X (.Call (.Name x p) as [] pos) (rdE T W fun s S => match s.getD i none with
      | some (.fn k) => if k ∈ ks then (fs s S).bind fun xs S => wrp md S (G k xs S) else .bad
      | _ => .bad) := by
  refine ⟨fun pins s σ H Q I h0 => ?_⟩
  obtain ⟨vs, S, m, hs, hS, h⟩ := h0
  dsimp only at h
  split at h
  · rename_i k e
    split at h
    · rename_i hk
      obtain ⟨v, e1, rv⟩ := hs.2 i _ e
      rw [show v = .ref (T.F k) from rv] at e1
      obtain ⟨⟨fd, ps, F, hb, ar⟩, hkp⟩ := F k hk
      rw [← E.P, ← E.w, ← E.K, ← E.mg, ← E.base] at F
      rw [← E.K] at hb hkp
      cases as with
      | nil => exact absurd rfl hz
      | cons e es =>
        rw [List.all_cons, Bool.and_eq_true] at hst
        have h3 := rd_call (σ := σ) (H := H) (Q := Q) hw ar ⟨vs, S, m, hs, hS, h⟩
        exact (pe_callL (i := i) (f := T.F k) F hr hN hv hkp hb .nil (pass_flat tk hw) ha hdb hcd (star_cons hst.1 es X.env) (any_back hst.2)).run pins s σ H Q I ⟨e1, h3⟩
    · exact h.elim
  · exact h.elim
/-- dict(d) -/
theorem dcp_ok : CallR X (.type "dict") (rL T (g1 dcpD)) := by
  intro pins s σ H xs us Q I rx h0
  obtain ⟨x, rfl, d, S, m, hd, R, h⟩ := rL1 h0
  clear h0
  have key : ∀ (a : Addr) (kvs : List (Key × V)) (ks : List Key) (ds : List D), x = .ref a → Rd H a (.dK kvs) → kvs.map (·.1) = ks → RepL T H m ds (kvs.map (·.2)) → Ok T (fun _ _ _ => False) H m (PV T Q) (.ok (.obj S.length) (S ++ [.dk ks ds])) → wpAny (model X.prog X.w) X.A (call (.type "dict") us) (EP X pins σ Q) X.xe s := by
    intro a kvs ks ds ex h1 h2 h3 h
    subst ex
    exact call_dictD pins s σ H _ us Q I rx ⟨a, kvs, rfl, h1, fun p hp => h _ (m ++ [p]) (later_push R hp) (R.push hp ⟨kvs, upd_same, h2, RepL.mono (later_push R hp) _ _ h3⟩) _ ⟨p, rfl, by rw [← R.len]; simp⟩⟩
  replace h : Ok T (fun _ _ _ => False) H m (PV T Q) (dcpD d S) := h
  unfold dcpD at h
  split at h
  · rename_i ks ds
    obtain ⟨a, kvs, rfl, h1, h2, h3⟩ := hd
    exact key a kvs ks ds rfl (.inl h1.1) h2 h3 h
  · rename_i n
    split at h
    · rename_i ks ds e
      obtain ⟨a, rfl, h1⟩ := hd
      obtain ⟨o, ho, q⟩ := R.there h1
      rw [e] at ho
      cases ho
      obtain ⟨kvs, q1, q2, q3⟩ := q
      exact key a kvs ks ds rfl (.inl q1) q2 q3 h
    · exact h.elim
  · exact h.elim
theorem insI_perm (x : Int) : ∀ ys : List Int, (insI x ys).Perm (x :: ys)
  | [] => .refl _
  | y :: ys => by
    simp only [insI]
    split
    · exact .refl _
    · exact ((insI_perm x ys).cons y).trans (.swap x y ys)
theorem srtI_perm : ∀ xs : List Int, (srtI xs).Perm xs
  | [] => .refl _
  | x :: xs => (insI_perm x (srtI xs)).trans ((srtI_perm xs).cons x)
theorem insI_srt (x : Int) : ∀ ys : List Int, ys.Pairwise (· ≤ ·) → (insI x ys).Pairwise (· ≤ ·)
  | [], _ => by simp [insI]
  | y :: ys, h => by
    obtain ⟨h1, h2⟩ := List.pairwise_cons.mp h
    simp only [insI]
    split
    · rename_i hxy
      refine List.pairwise_cons.mpr ⟨fun z hz => ?_, h⟩
      rcases List.mem_cons.mp hz with rfl | hz
      · exact hxy
      · exact Int.le_trans hxy (h1 z hz)
    · refine List.pairwise_cons.mpr ⟨fun z hz => ?_, insI_srt x ys h2⟩
      rcases List.mem_cons.mp ((insI_perm x ys).mem_iff.mp hz) with rfl | hz
      · omega
      · exact h1 z hz
theorem srtI_srt : ∀ xs : List Int, (srtI xs).Pairwise (· ≤ ·)
  | [] => .nil
  | x :: xs => insI_srt x _ (srtI_srt xs)
theorem srt_uniq : ∀ l1 l2 : List Int, l1.Perm l2 → l1.Pairwise (· ≤ ·) → l2.Pairwise (· ≤ ·) → l1 = l2
  | [], l2, h, _, _ => by rw [h.symm.eq_nil]
  | a :: l1, [], h, _, _ => by cases h.eq_nil
  | a :: l1, b :: l2, h, h1, h2 => by
    obtain ⟨k1, k2⟩ := List.pairwise_cons.mp h1
    obtain ⟨k3, k4⟩ := List.pairwise_cons.mp h2
    have e : a = b := by
      rcases List.mem_cons.mp (h.mem_iff.mp List.mem_cons_self) with e | e
      · exact e
      · rcases List.mem_cons.mp (h.mem_iff.mpr List.mem_cons_self) with e2 | e2
        · exact e2.symm
        · have := k1 b e2
          have := k3 a e
          omega
    subst e
    rw [srt_uniq l1 l2 (List.Perm.cons_inv h) k2 k4]
theorem intsD_eq : ∀ {xs : List D} {zs : List Int}, intsD xs = some zs → xs = zs.map .int
  | [], zs, h => by cases h; rfl
  | x :: xs, zs, h => by
    cases x <;> first
      | (simp only [intsD] at h
         obtain ⟨r, e, rfl⟩ := Option.map_eq_some_iff.mp h
         rw [intsD_eq e]; rfl)
      | (simp [intsD] at h)
theorem RepL.intsI {H : Hp} {m : List Addr} : ∀ {zs : List Int} {vs : List V}, RepL T H m (zs.map .int) vs → vs = zs.map V.int
  | [], vs, h => h
  | z :: zs, vs, h => by
    obtain ⟨v, r, rfl, h1, h2⟩ := h
    rw [show v = .int z from h1, RepL.intsI h2]
    rfl
/-- sorted(xs), ints -/
theorem srt_ok (hK : X.K = T.K) (tr : Bool) : CallR X (.builtin "sorted") (rL T (g1 (srtD tr))) := by
  intro pins s σ H xs us Q I rx h0
  obtain ⟨x, rfl, d, S, m, hd, R, h⟩ := rL1 h0
  clear h0
  replace h : Ok T (fun _ _ _ => False) H m (PV T Q) (srtD tr d S) := h
  unfold srtD at h
  split at h
  · rename_i ds e1
    split at h
    · rename_i zs e2
      obtain ⟨a, vs, rfl, h1, h2⟩ := hd.lst R e1
      rw [intsD_eq e2] at h2
      have e3 := RepL.intsI h2
      subst e3
      refine cr_sortedI pins s σ H _ us Q I rx ⟨a, zs, rfl, .inl (.inl h1), fun ns p hn hs hp => ?_⟩
      have e4 := srt_uniq ns (srtI zs) (hn.trans (srtI_perm zs).symm) hs (srtI_srt zs)
      subst e4
      exact h.lst R hp (RepL.of_ints _)
    · exact h.elim
  · exact h.elim
theorem nx_dcp (d : D) (S : Sx) (c : Nat) (v : D) (S' : Sx) : dcpD d S ≠ .exc c v S' := by
  unfold dcpD
  intro h
  split at h
  · cases h
  · split at h <;> cases h
  · cases h
theorem nx_srt (tr : Bool) (d : D) (S : Sx) (c : Nat) (v : D) (S' : Sx) : srtD tr d S ≠ .exc c v S' := by
  unfold srtD
  intro h
  split at h
  · split at h
    · exact nx_newL _ _ _ _ _ _ h
    · cases h
  · cases h
theorem s_dcp (hst : notStar a = true) (hg : Gl X "dict") (hm : X.mg "dict" = none) (ha : PE X a (rdE T W fa)) : PE X (.Call (.Name "dict" p) [a] [] pos) (rdE T W fun s S => (fa s S).bind fun x S => dcpD x S) := by
  have pa : PA X [a] (tCons (rdE T W fa) tNil) := pa_cons ha pa_nil (star_cons hst [] X.env)
  exact PE_imp (pe_callTy dcp_ok (x := "dict") hg hm (by decide +kernel) pa (by decide +kernel) (by decide +kernel) (star_cons hst [] X.env) rfl) fun σ H Q h => rd_call1 (fun d S => nx_dcp d S) h
theorem s_srt (hK : X.K = T.K) (tr : Bool) (hst : notStar a = true) (hg : Gl X "sorted") (hm : X.mg "sorted" = none) (ha : PE X a (rdE T W fa)) : PE X (.Call (.Name "sorted" p) [a] [] pos) (rdE T W fun s S => (fa s S).bind fun x S => srtD tr x S) := by
  have pa : PA X [a] (tCons (rdE T W fa) tNil) := pa_cons ha pa_nil (star_cons hst [] X.env)
  exact PE_imp (pe_callB (srt_ok hK tr) hg hm (by decide +kernel) pa (by decide +kernel) (by decide +kernel) (star_cons hst [] X.env) rfl) fun σ H Q h => rd_call1 (fun d S => nx_srt tr d S) h
end
end TK
end
section
set_option autoImplicit false
set_option linter.all false
set_option maxRecDepth 100000
namespace TK
open PySem L2 PySem.Spec PyProof.Rows
section
variable {X : Cx} {T : Tb} {W : WX} {a b c o i : Expr} {fa : Vs → Sx → TK.R D} {pos apos p p2 : Pos}
/-- set(xs) of a tuple of ints -/
def rSetTup (K : PySem.W.Frag) (w : World) : List V → Hp → VK → Prop := fun xs H Q => ∃ (a : Addr) (ns : List Int), xs = [V.ref a] ∧ SqT K H a (ns.map V.int) ∧ ns.length + 1 < scanBound ∧
  ∀ (p : Addr) (c : Nat), H p = none → c ≤ ns.length → Q (.ref p) (upd H p (SetO w p (fun j => decide (j ∈ ns)) c))
theorem cr_setTup (hc : X.calm = true) : CallR X (.type "set") (rSetTup X.K X.w) := by
  intro pins s σ H xs us Q I r h
  obtain ⟨a, ns, rfl, hs, hb, q⟩ := h
  rw [Vals.ref1 r]
  obtain ⟨its, rv, pl, hz⟩ := I.tuple hs
  have hn : H s.heap.objs.size = none := I.hok.fresh (Nat.le_refl _)
  refine call_set_tupI (P := X.prog) (w := X.w) ns (I.ok.hd hc) (items := its.toArray) pl (by simpa using rv.ints) hb fun h' tk c R hcn keep => ?_
  exact ⟨.ref _, upd H s.heap.objs.size (SetO X.w s.heap.objs.size (fun j => decide (j ∈ ns)) c), I.laid (t' := tk) keep (Nat.le_refl _) (setO_new R), rfl, q _ c hn hcn⟩
theorem uniqI_mem {k : Int} : ∀ {xs : List Int}, k ∈ uniqI xs ↔ k ∈ xs
  | [] => .rfl
  | x :: xs => by
    simp only [uniqI]
    split
    · rename_i hx
      rw [uniqI_mem, List.mem_cons]
      exact ⟨.inr, fun h => h.elim (fun e => by rw [e]; exact hx) id⟩
    · rw [List.mem_cons, List.mem_cons, uniqI_mem]
theorem uniqI_nodup : ∀ {xs : List Int}, (uniqI xs).Nodup
  | [] => .nil
  | x :: xs => by
    simp only [uniqI]
    split
    · exact uniqI_nodup
    · rename_i hx
      exact List.nodup_cons.mpr ⟨fun h => hx (uniqI_mem.mp h), uniqI_nodup⟩
theorem srts_uniq {zs ns : List Int} (h1 : ns.Pairwise (· < ·)) (h2 : ∀ k : Int, k ∈ ns ↔ k ∈ zs) : ns = srtI (uniqI zs) := by
  have hn : ns.Nodup := h1.imp fun {a b} h => by omega
  have hp : ns.Perm (uniqI zs) := (List.perm_ext_iff_of_nodup hn uniqI_nodup).mpr fun k => by rw [h2 k, uniqI_mem]
  exact srt_uniq _ _ (hp.trans (srtI_perm _).symm) (h1.imp fun {a b} h => by omega) (srtI_srt _)
theorem s_srts (hK : X.K = T.K) (hc : X.calm = true) (hst : notStar a = true) (hst2 : notStar (.Call (.Name ("set" : Str) p2) [a] [] apos) = true) (hg : Gl X "sorted") (hm : X.mg "sorted" = none) (hg2 : Gl X "set") (hm2 : X.mg "set" = none) (ha : PE X a (rdE T W fa)) : PE X (.Call (.Name "sorted" p) [.Call (.Name "set" p2) [a] [] apos] [] pos) (rdE T W fun s S => (fa s S).bind fun x S => srtsD x S) := by
  have pa : PA X [a] (tCons (rdE T W fa) tNil) := pa_cons ha pa_nil (star_cons hst [] X.env)
  have inner := pe_callTy (pos := apos) (p := p2) (cr_setTup hc) (x := "set") hg2 hm2 (by decide +kernel) pa (by decide +kernel) (by decide +kernel) (star_cons hst [] X.env) rfl
  have pb := pa_cons inner pa_nil (star_cons hst2 [] X.env)
  refine PE_imp (pe_callB (cr_sortedSet hc) hg hm (by decide +kernel) pb (by decide +kernel) (by decide +kernel) (star_cons hst2 [] X.env) rfl) fun σ H Q ⟨s, S, m, hs, hS, h⟩ => ?_
  refine ⟨s, S, m, hs, hS, h.bind.mono fun d S1 H1 m1 L1 R1 q v rv => ?_⟩
  unfold srtsD at q
  split at q
  · rename_i ds
    split at q
    · rename_i zs e
      split at q
      · rename_i hz
        obtain ⟨a, vs, rfl, h1, h2⟩ := rv
        rw [intsD_eq e] at h2
        have e3 := RepL.intsI h2
        subst e3
        refine ⟨a, zs, rfl, h1.sq hK, Nat.lt_of_lt_of_le (by omega : zs.length + 1 < 64) (by decide), fun p c hp hcn => ⟨p, _, c, rfl, upd_same, by omega, fun ns p2 k1 k2 k3 hp2 => ?_⟩⟩
        have e4 := srts_uniq (zs := zs) k1 fun k => by rw [k2 k, decide_eq_true_eq]
        subst e4
        have R2 := R1.aside (o := SetO X.w p (fun j => decide (j ∈ zs)) c) hp
        unfold newL at q
        split at q
        · exact q _ m1 ((later_new hp).trans (later_new hp2)) (R2.aside hp2) _ ⟨p2, _, rfl, ⟨upd_same, R2.new hp2, R2.fresh hp2⟩, RepL.of_ints _⟩
        · exact q.elim
      · exact q.elim
    · exact q.elim
  · exact q.elim
end
end TK
end
section
set_option autoImplicit false
set_option linter.all false
set_option maxRecDepth 100000
/-! ### sets: {x}, s.add(x) -/
namespace TK
open PySem L2 PySem.Spec PyProof.Rows
theorem sn_obj {P : Program} {w : World} {H : Hp} {h : Heap} {a : Addr} {l : Bool} {L : List (Addr × NestedKey)} (R : SN0 P w h a l L) : ObjOk P w H h a (SNO P w a l L) := by
  have ⟨es, ep, t, ⟨o, ho, r⟩, q⟩ := R.ex
  refine ⟨R, ⟨o, ho⟩, fun h1 h2 p k => ?_⟩
  have ⟨es', ep', t', ⟨o', ho', r'⟩, q'⟩ := SN0.ex p
  exact ⟨es', ep', t', ⟨o', k o' ho', r'⟩, q'⟩
section
variable {P : Program} {w : World} {h : Heap} {a : Addr} {l : Bool} {L : List (Addr × NestedKey)} {es : Array (Int × Value)} {ep : Nat} {t : SetTable}
theorem SetN.sn (R : SetN P w h a l L es ep t) : SN0 P w h a l L := ⟨es, ep, t, R.here, R.rows, R.tab, R.once, R.pl, R.ld, R.wide, R.few⟩
theorem fresh_tab {led : Bool} {hs : List Int} (h : hs = []) : TabOk (.fresh 0 0 led) hs := by
  subst h
  exact ⟨List.Pairwise.nil, rfl, rfl, .inl rfl, (fun x hx => by cases hx), (fun i h j hi => by simp at hi)⟩
theorem setN_new {led : Bool} (ho : h.get? a = some { cls := .type "set", dict := none, data := .set #[] 0 (.fresh 0 0 led) }) (hl : l = true → w.params.followText "set-order" = true ∨ led = true) : SetN P w h a l [] #[] 0 (.fresh 0 0 led) :=
  ⟨⟨_, ho, ⟨rfl, rfl, rfl⟩, rfl⟩, rfl, fresh_tab rfl, List.nodup_nil, (fun x hx => by cases hx), rfl, hl, (by show 0 * 5 < 7 * 3; decide), (by show 0 < 64; decide)⟩
theorem setK_of0 (R : SN0 P w h a l []) : h.SetOf (mixKind P w) a (fun _ => false) 0 := by
  obtain ⟨es, ep, t, ⟨o, ho, hex, hd⟩, h1, h2, h3, _⟩ := R.ex
  have e0 : es = #[] := by
    apply Array.toList_inj.mp
    rw [h1]; rfl
  subst e0
  have hz : t.place.size = 0 := h2.sz
  refine ⟨o, #[], ep, t, ho, hex, hd, (fun e he => by simp at he), (fun k => by simp), (by decide), ?_, rfl⟩
  unfold SetTable.fits SetTable.fill
  rw [h2.dm]
  simp [hz]
/-- the set is marked -/
theorem unled_any {A : Around} {E : Value → Shared → Prop} {s : Shared} {K : Type} [DecidableEq K] {knd : KeyKind P w K} {S : K → Bool} {n : Nat} {Q : Unit → Shared → Prop} (hS : s.heap.SetOf knd a S n) (q : ∀ h', Heap.SameBut a s.heap h' → h'.SetOf knd a S n → Q () { s with heap := h' }) : wpAny (model P w) A (setUnled a) Q E s := by
  obtain ⟨o, es, ep, t, ho, hex, hd, hel, hm, hb, hf, hn⟩ := hS
  have hf' : ({ t with led := false } : SetTable).fits es.size = true := by cases t; exact hf
  unfold setUnled
  refine wpAny_bind (wpAny_setState_of ho hd hf ?_)
  dsimp only
  refine wpAny_storeSet_of ho hd ?_ (fits_of_scanBound hb)
  obtain ⟨_, hS⟩ := SetOf_store (knd := knd) ho hex hd hel hm hb hf'
  rw [hn] at hS
  exact q _ (Heap.SameBut.update ..) hS
theorem unled_n {A : Around} {E : Value → Shared → Prop} {s : Shared} {Q : Unit → Shared → Prop} (R : SetN P w s.heap a false L es ep t) (q : ∀ h' ep' t', Heap.SameBut a s.heap h' → SetN P w h' a false L es ep' t' → Q () { s with heap := h' }) : wpAny (model P w) A (setUnled a) Q E s := by
  obtain ⟨o, ho, hex, hd⟩ := R.here
  unfold setUnled
  refine wpAny_bind (wpAny_setState_of ho hd R.fit ?_)
  dsimp only
  refine wpAny_storeSet_of ho hd ?_ (by rw [R.count, sizeLine_eq]; have := R.few; omega)
  have sb : Heap.SameBut a s.heap (s.heap.update a (Obj.putSet es { t with led := false })) := Heap.SameBut.update ..
  have T := R.tab
  exact q _ (ep + 1) _ sb ⟨⟨_, store_at ho hd, ⟨hex.1, hex.2.1, hex.2.2⟩, rfl⟩, R.rows, ⟨T.ris, T.dm, T.sz, T.mok, T.bd, T.reach⟩, R.once, fun x hx => (R.keys x hx).but ho hd sb, R.pl, (fun z => by cases z), R.wide, R.few⟩
end
mutual
theorem wordless_of : ∀ (d : D) (k : NestedKey), nkey d = some k → noStr d = true → wordless k = true
  | .non, k, h, _ => by cases h; rfl
  | .int i, k, h, _ => by cases h; rfl
  | .str x, k, _, h => by cases h
  | .tup ds, k, h, h2 => by
    obtain ⟨ks, h1, rfl⟩ := Option.map_eq_some_iff.mp (show (nkeys ds).map NestedKey.tup = some k from h)
    exact wordless_all ds ks h1 h2
  | .bl _, k, h, _ => by simp [nkey] at h
  | .scr _, k, h, _ => by simp [nkey] at h
  | .lv _, k, h, _ => by simp [nkey] at h
  | .dv _ _, k, h, _ => by simp [nkey] at h
  | .iv _ _ _, k, h, _ => by simp [nkey] at h
  | .obj _, k, h, _ => by simp [nkey] at h
  | .fn _, k, h, _ => by simp [nkey] at h
theorem wordless_all : ∀ (ds : List D) (ks : List NestedKey), nkeys ds = some ks → noStrs ds = true → wordlessAll ks = true
  | [], ks, h, _ => by cases h; rfl
  | d :: ds, ks, h, h2 => by
    simp only [nkeys] at h
    split at h
    · rename_i k ks' a1 a2
      cases h
      simp only [noStrs, Bool.and_eq_true] at h2
      simp only [wordlessAll, Bool.and_eq_true]
      exact ⟨wordless_of d k a1 h2.1, wordless_all ds ks' a2 h2.2⟩
    · cases h
end
section
variable {X : Cx} {T : Tb} {W : WX} {a b : Expr} {fa fb : Vs → Sx → TK.R D} {pos apos : Pos}
/-- a member -/
theorem mem_ref {pins : List (Addr × Obj)} {σ : L2.St} {H : Hp} {s : Shared} {m : List Addr} (hK : X.K = T.K) (I : Inv X pins σ H s) {d : D} {v : V} {u : Value} (h : RepV T H m d v) (r : L2.RelV v u) (e : nsOk d = true) : ∃ b k, v = .ref b ∧ u = .ref b ∧ nkey d = some k ∧ k.depth ≤ 8 ∧ wordless k = true ∧ IsK X.prog X.w s.heap k b := by
  unfold nsOk at e
  obtain ⟨e1, e2⟩ := Bool.and_eq_true_iff.mp e
  obtain ⟨b, k, h1, h2, h3, h4, h5⟩ := key_ref hK I h r e1
  exact ⟨b, k, h1, h2, h3, h4, wordless_of d k h3 e2, h5⟩
/-- what {x} wants -/
def tSet1 (T : Tb) (ta : TE) : TE := fun σ H Q => ∀ p, H p = none → ta σ (upd H p (SNO T.P T.w p false [])) fun x H2 => H2 p = some (SNO T.P T.w p false []) ∧
  ((∃ (m : List Addr) (d : D), RepV T H2 m d x ∧ nsOk d = true ∧ ∀ b k, x = .ref b → nkey d = some k → k.depth ≤ 8 → Q (.ref p) (upd H2 p (SNO T.P T.w p false [(b, k)]))) ∨ (∃ k : Key, x = kV k ∧ Q (.ref p) (upd H2 p (SetK T.P T.w p (memK [k]) 1))))
theorem pe_set1 {ta : TE} (S : Same X T) (hu : X.A.units + 65 < cLine) (hcd : PySem.W.kdsCode X.K X.env.code = true) (hst : notStar a = true) (ha : PE X a ta) : PE X (.Set [a] 0 pos) (tSet1 T ta) := by
  refine ⟨fun pins s σ H Q I h => ?_⟩
  have hpl : [a].all PySem.W.kdsPlain = true := by cases a <;> first | rfl | cases hst
  have hn := I.hok.fresh (Nat.le_refl s.heap.objs.size)
  rw [arm_eval_Set]
  refine wpAny_bind (wpAny_standAt ?_)
  refine wpAny_bind (PySem.W.kds_main I.kIn hcd fun b => ?_)
  rw [PySem.W.kds_star [a] hpl, List.map_map]
  refine PySem.W.kds_core (ts := (evalEach [a] X.env).map fun t => do let v ← t; standAt pos; pure v) (road0 [a]) ?_ ?_ ?_ fun led => ?_
  · refine List.findIdx?_eq_none_iff.mpr fun x hx => ?_
    obtain ⟨t, _, rfl⟩ := List.mem_map.mp hx
    rfl
  · rw [List.length_map, PySem.W.kds_len]
    simp
  · rw [List.map_map]
    try rfl
  · have R0 : SetN X.prog X.w (s.heap.push { cls := .type "set", dict := none, data := .set #[] 0 (.fresh 0 0 led) }) s.heap.objs.size false [] #[] 0 (.fresh 0 0 led) := setN_new (Heap.get?_push_size _ rfl) (fun z => by cases z)
    have I1 := I.laid (a := s.heap.objs.size) (o := SNO X.prog X.w s.heap.objs.size false []) (h' := s.heap.push { cls := .type "set", dict := none, data := .set #[] 0 (.fresh 0 0 led) }) (t' := s.toks) (fun _ _ z => Heap.get?_push_of_some _ z) (Nat.le_refl _) (sn_obj R0.sn)
    have q0 := h _ hn
    rw [← S.P, ← S.w] at q0
    refine PySem.W.kds_all pos [a] _ _ ?_
    show wpAny _ _ (eval a X.env) (fun v s' => PySem.W.KdsFill (model X.prog X.w) X.A X.xe (displayRoad 0 [a] == .unsure) s.heap.objs.size (EP X pins σ Q) [v] s') X.xe _
    refine wpAny_mono (ha.run pins _ σ _ _ I1 q0) (fun v s2 hh => ?_) fun _ _ x => x
    obtain ⟨x, H2, I2, rx, e, alt⟩ := hh
    refine PySem.W.kds_fill_cons ?_
    have z0 : SN0 X.prog X.w s2.heap s.heap.objs.size false [] := (I2.hok _ _ e).1
    rcases alt with ⟨m, d, rd, ok, q⟩ | ⟨k, rfl, q⟩
    · obtain ⟨b, k, rfl, rfl, e1, e2, e3, hk⟩ := mem_ref S.K I2 rd rx ok
      obtain ⟨es, ep, t, h2, h3, h4, h5, h6, h7, h8, h9⟩ := z0.ex
      have R2 : SetN X.prog X.w s2.heap s.heap.objs.size false [] es ep t := ⟨h2, h3, h4, h5, (fun x hx => by cases hx), h6, h7, h8, h9⟩
      refine add_key R2 hk e3 (by omega) (.inl (by decide)) fun r h' L' es' ep' t' tk sb R' _ hn2 htk => ?_
      have pm : L' = [(b, k)] := List.perm_singleton.mp (hn2 (by simp))
      subst pm
      have fin : ∀ (h2 : Heap) (es2 : Array (Int × Value)) (ep2 : Nat) (t2 : SetTable), Heap.SameBut s.heap.objs.size s2.heap h2 → SetN X.prog X.w h2 s.heap.objs.size false [(b, k)] es2 ep2 t2 → EP X pins σ Q (.ref s.heap.objs.size) { s2 with heap := h2, toks := tk } := fun h2 es2 ep2 t2 sb2 R3 => by
        have q3 := q b k rfl e1 e2
        obtain ⟨o', ho', _⟩ := R3.here
        exact ⟨.ref s.heap.objs.size, _, d_write I2 (by rw [e]; exact True.intro) sb2 ⟨o', ho'⟩ (sn_obj R3.sn), rfl, q3⟩
      cases hu : (displayRoad 0 [a] == DisplayRoad.unsure) with
      | false => exact PySem.W.kds_fill_nil rfl (fin _ _ _ _ sb R')
      | true =>
        refine PySem.W.kds_fill_unled rfl (unled_n (s := { s2 with heap := h', toks := tk }) R' fun h3 ep3 t3 sb3 R3 => ?_)
        exact fin h3 _ _ _ (sb.trans sb3) R3
    · have S2 := setK_of0 z0
      unfold setAdd
      refine wpAny_holding (wpAny_bind ((mixKind X.prog X.w).pyHash (kV_is rx) ?_))
      refine wpAny_setAddHashed_of (knd := mixKind X.prog X.w) (s := { s2 with toks := s2.toks + 1 }) (kV_is rx) (key_scan rx) S2 (by decide) fun h' sb S3 => ?_
      have ef : (fun j : Key => (fun _ : Key => false) j || decide (j = k)) = memK [k] := funext fun j => by
        unfold memK
        simp only [List.any_cons, List.any_nil, Bool.or_false, Bool.false_or]
        exact decide_eq_decide.mpr ⟨Eq.symm, Eq.symm⟩
      have S4 : h'.SetOf (mixKind X.prog X.w) s.heap.objs.size (memK [k]) 1 := by
        rw [← ef]
        exact S3
      have fin : ∀ (h2 : Heap), Heap.SameBut s.heap.objs.size s2.heap h2 → h2.SetOf (mixKind X.prog X.w) s.heap.objs.size (memK [k]) 1 → EP X pins σ Q (.ref s.heap.objs.size) { s2 with heap := h2, toks := s2.toks + 1 } := fun h2 sb2 S5 => by
        have q3 := q
        have ⟨o', _, _, _, ho', _⟩ := S5
        exact ⟨.ref s.heap.objs.size, _, d_write I2 (by rw [e]; exact True.intro) sb2 ⟨o', ho'⟩ (setK_new S5), rfl, q3⟩
      cases hu : (displayRoad 0 [a] == DisplayRoad.unsure) with
      | false => exact PySem.W.kds_fill_nil rfl (fin _ sb S4)
      | true =>
        refine PySem.W.kds_fill_unled rfl (unled_any (s := { s2 with heap := h', toks := s2.toks + 1 }) S4 fun h3 sb3 S5 => ?_)
        exact fin h3 (sb.trans sb3) S5
theorem keyD'_V {H : Hp} {m : List Addr} {d : D} {v : V} {q : Key} (h : RepV T H m d v) (e : keyD' d = some q) : v = kV q := by
  cases d with
  | int i => cases e; exact h
  | str x => cases e; exact h
  | _ => cases e
theorem s_sn1 (hS : Same X T) (hu : X.A.units + 65 < cLine) (hcd : PySem.W.kdsCode X.K X.env.code = true) (hst : notStar a = true) (ha : ∀ p, PE X a (rdE (T.hide p) W fa)) : PE X (.Set [a] 0 pos) (rdE T W fun s S => (fa s S).bind fun d S => sn1D d S) := by
  refine PE_imp (pe_set1 hS hu hcd hst (pe_ex ha)) fun σ H Q ⟨s, S, m, hs, hS, h⟩ => ?_
  intro p hp
  have np := hS.new hp
  refine ⟨p, s, S, m, hs.hide hp, hS.hide hp, h.bind0.hid hp fun d S1 H1 m1 L1 R1 g v rv => ?_⟩
  have hD : H1 p = some (SNO T.P T.w p false []) := L1.fr p _ upd_same np (fun _ e => nomatch e)
  have nt : ∀ xs, ¬ Rd H1 p (.tup xs) := fun xs z => by
    rcases z with z | ⟨_, z⟩ <;> rw [hD] at z <;> cases z
  have ntb : ∀ ps, H1 p ≠ some (.tbl ps) := fun ps z => by rw [hD] at z; cases z
  have L : Later H H1 m m1 := (later_new hp).trans L1
  refine ⟨hD, ?_⟩
  unfold sn1D at g
  split at g
  · rename_i k e
    refine .inr ⟨k, keyD'_V rv e, ?_⟩
    have e1 : ∀ a, a ≠ p → (upd H1 p (SetK T.P T.w p (memK [k]) 1)) a = H1 a := fun a q => upd_ne q
    have nt2 : ∀ xs, ¬ Rd (upd H1 p (SetK T.P T.w p (memK [k]) 1)) p (.tup xs) := fun xs z => by
      rcases z with z | ⟨_, z⟩ <;> rw [upd_same] at z <;> cases z
    have ntb2 : ∀ ps, upd H1 p (SetK T.P T.w p (memK [k]) 1) p ≠ some (.tbl ps) := fun ps z => by rw [upd_same] at z; cases z
    have R2 := R1.off e1 nt ntb ⟨_, upd_same⟩
    exact g _ (m1 ++ [p]) ((L.off hp e1).adopt hp np) (R2.adopt (hS.fresh hp) nt2 ntb2 (o := .sk [k]) upd_same) _ ⟨p, rfl, by rw [← R1.len]; simp⟩
  · split at g
    · rename_i ok
      refine .inl ⟨m1, d, RepV.unhide d v rv, ok, fun b k eb hk hd => ?_⟩
      subst eb
      have e1 : ∀ a, a ≠ p → (upd H1 p (SNO T.P T.w p false [(b, k)])) a = H1 a := fun a q => upd_ne q
      have nt2 : ∀ xs, ¬ Rd (upd H1 p (SNO T.P T.w p false [(b, k)])) p (.tup xs) := fun xs z => by
        rcases z with z | ⟨_, z⟩ <;> rw [upd_same] at z <;> cases z
      have ntb2 : ∀ ps, upd H1 p (SNO T.P T.w p false [(b, k)]) p ≠ some (.tbl ps) := fun ps z => by rw [upd_same] at z; cases z
      have R2 := R1.off e1 nt ntb ⟨_, upd_same⟩
      have r2 := RepV.adopt nt2 _ _ (RepV.off e1 nt _ _ rv)
      refine g _ (m1 ++ [p]) ((L.off hp e1).adopt hp np) (R2.adopt (hS.fresh hp) nt2 ntb2 (o := .sn false [d]) ⟨[d], [(b, k)], ⟨upd_same, .refl _, by simp [hk], fun x hx => ?_⟩, .one r2⟩) _ ⟨p, rfl, by rw [← R1.len]; simp⟩
      rw [List.mem_singleton.mp hx]; exact hd
    · exact g.elim
/-- a set of one kind or the other -/
def IsS (T : Tb) (H : Hp) (a : Addr) : Prop := (∃ l L, H a = some (SNO T.P T.w a l L)) ∨ ∃ S n, H a = some (SetK T.P T.w a S n)
/-- what s.add(y) wants -/
def AddAt (T : Tb) (H : Hp) (a : Addr) (y : V) (Q : VK) : Prop :=
  (∃ (m : List Addr) (l : Bool) (ks ks' : List D) (L : List (Addr × NestedKey)) (d : D), SnAt T H a l ks ks' L ∧ RepL T H m ks' (refS L) ∧ RepV T H m d y ∧ nsOk d = true ∧ (L.length + 1 < 64 ∨ d ∈ ks) ∧
    ∀ b k L', y = .ref b → nkey d = some k → k.depth ≤ 8 → (d ∈ ks → L' = L) → (d ∉ ks → L'.Perm ((b, k) :: L)) → Q .non (upd H a (SNO T.P T.w a l L'))) ∨
  ∃ (S : Key → Bool) (n : Nat) (k : Key), H a = some (SetK T.P T.w a S n) ∧ y = kV k ∧ n + 1 < scanBound ∧ Q .non (upd H a (SetK T.P T.w a (fun j => S j || decide (j = k)) (if S k = true then n else n + 1)))
def tAddN (T : Tb) (to te : TE) : TE := fun σ H Q => to σ H fun x H1 => ∃ a, x = .ref a ∧ IsS T H1 a ∧ te σ H1 fun y H2 => AddAt T H2 a y Q
theorem pe_addN {to te : TE} (S : Same X T) (hu : X.A.units + 65 < cLine) (hsup : notSup a = true) (hl : (apos.endLine == pos.line) = true) (hst : notStar b = true) (ho : PE X a to) (he : PE X b te) : PE X (.Call (.Attribute a "add" apos) [b] [] pos) (tAddN T to te) := by
  refine ⟨fun pins s σ H Q I h => ?_⟩
  have hs := star_cons hst [] X.env
  have few : ((backTo pos (starEach [b] X.env)).all (fun x => !x.1) && (backToKw pos (keywordEach [] X.env)).all (fun x => x.1.isSome) && decide ([b].length + ([] : List Keyword).length + (if ([] : List Keyword).isEmpty then 0 else 1) < 30)) = true := by rw [hs]; rfl
  refine wpAny_Call_method_late (base_of hsup) few hl rfl (thn (ho.run pins s σ H _ I h) fun v s1 ⟨x, H1, I1, r1, ad, ex, ty, q1⟩ => ?_)
  subst ex
  obtain rfl : v = Value.ref ad := r1
  have isSet : s1.TypeIs (.ref ad) "set" ∧ ∀ b, Value.ref ad = .ref b → ∃ ob, s1.heap.get? b = some ob ∧ ob.dict = none := by
    rcases ty with ⟨l, L, e⟩ | ⟨S', n, e⟩
    · rw [← S.P, ← S.w] at e
      obtain ⟨es, ep, t, ⟨o, ho, hex, _⟩, _⟩ := ((I1.hok _ _ e).1 : SN0 X.prog X.w s1.heap ad l L).ex
      exact ⟨⟨o, ho, hex.1⟩, fun b eb => by cases eb; exact ⟨o, ho, hex.2.1⟩⟩
    · rw [← S.P, ← S.w] at e
      have hS := setK_get I1 e
      exact ⟨hS.typeIs, hS.noDict⟩
  refine ⟨"set", "set.add", F.plainAttrs_set, F.slot_set_add, F.type_set_add, isSet.1, isSet.2, ?_⟩
  rw [hs]
  refine Calls.callWith_builtin rfl (Calls.evalArgs_plain (Calls.spliced_cons (thn (he.run pins s1 σ H1 _ I1 q1) fun u s2 ⟨y, H2, I2, r2, q2⟩ => Calls.spliced_nil ?_)))
  rcases q2 with ⟨m, l, ks, ks', L, d, sn, rL, rd, ok, room, q⟩ | ⟨S', n, k, e, rfl, room, q⟩
  · obtain ⟨b', k, rfl, rfl, e1, e2, e3, hk⟩ := mem_ref S.K I2 rd r2 ok
    obtain ⟨es, ep, t, R⟩ := sn.full S.P.symm S.w.symm S.K I2 rL
    obtain ⟨o, ho', hex, _⟩ := R.here
    have fnd := find_sn sn.keys sn.perm e1
    have hu1 : X.A.in1.units + 8 < cLine := by
      have : X.A.in1.units = X.A.units + 1 := rfl
      omega
    refine wpAny_call_entry F.slot_set_add ⟨o, ho', hex.1⟩ F.entry_set_add ?_ (F.args_set_add_2 _ _)
    unfold Builtin.«set.add» Builtin.Frozenset.oneOther
    simp only [List.isEmpty_nil, bind_assoc]
    unfold Builtin.Frozenset.addrOf
    refine wpAny_bind (wpAny_pure ?_)
    try dsimp only
    refine wpAny_bind (add_key R hk e3 hu1 (room.imp id fnd.mp) fun r h' L' es' ep' t' tk sb R' y n htk => ?_)
    have q3 := q b' k L' rfl e1 e2 (fun z => y (fnd.mp z)) (fun z => n fun z' => z (fnd.mpr z'))
    have he1 := sn.at_
    rw [← S.P, ← S.w] at q3 he1
    obtain ⟨o', ho2, _⟩ := R'.here
    show wpAny _ _ (ret Value.none) _ _ _
    exact wpAny_pure ⟨_, rfl, .non, _, d_write I2 (by rw [he1]; exact True.intro) sb ⟨o', ho2⟩ (sn_obj R'.sn), rfl, q3⟩
  · rw [← S.P, ← S.w] at e q
    have hS := setK_get I2 e
    refine call_set_add (kV_is r2) (key_scan r2) hS room fun h' sb new => ?_
    have ⟨o, _, _, _, ho, _⟩ := new
    exact ⟨.non, _, d_write I2 (by rw [e]; exact True.intro) sb ⟨o, ho⟩ (setK_new new), rfl, q⟩
/-- rows in another order -/
theorem rep_perm {H : Hp} {m : List Addr} {M M' : List (Addr × NestedKey)} (p : M'.Perm M) : ∀ {xs : List D}, RepL T H m xs (refS M) → (xs.map nkey = M.map fun x => some x.2) → ∃ xs', xs'.Perm xs ∧ RepL T H m xs' (refS M') ∧ xs'.map nkey = M'.map fun x => some x.2 := by
  induction p with
  | nil => exact fun {xs} r e => ⟨xs, .refl _, r, e⟩
  | cons x _ ih =>
    intro xs r e
    cases xs with
    | nil => simp at e
    | cons d ds =>
      obtain ⟨v, vs, ev, r1, r2⟩ := r
      simp only [List.map_cons, List.cons.injEq] at e ev
      obtain ⟨rfl, rfl⟩ := ev
      obtain ⟨xs', p', r', e'⟩ := ih r2 e.2
      exact ⟨d :: xs', p'.cons d, ⟨_, _, rfl, r1, r'⟩, by simp [e.1, e']⟩
  | swap x y l =>
    intro xs r e
    match xs, e, r with
    | [], e, _ => simp at e
    | [_], e, _ => simp at e
    | d :: f :: ds, e, r =>
      obtain ⟨v, vs, ev, r1, r2⟩ := r
      obtain ⟨v2, vs2, ev2, r3, r4⟩ := r2
      subst ev2
      simp only [refS, List.map_cons, List.cons.injEq] at e ev
      obtain ⟨rfl, rfl, rfl⟩ := ev
      exact ⟨f :: d :: ds, .swap .., ⟨_, _, rfl, r3, _, _, rfl, r1, r4⟩, by simp [e.1, e.2.1, e.2.2]⟩
  | trans _ _ ih1 ih2 =>
    intro xs r e
    obtain ⟨xs1, p1, r1, e1⟩ := ih2 r e
    obtain ⟨xs2, p2, r2, e2⟩ := ih1 r1 e1
    exact ⟨xs2, p2.trans p1, r2, e2⟩
theorem putS_len {ks : List D} {d : D} : (putS ks d).length = if d ∈ ks then ks.length else ks.length + 1 := by
  unfold putS
  split <;> simp
theorem memK_put {ks : List Key} {k : Key} : memK (putSK ks k) = fun j => memK ks j || decide (j = k) := by
  funext j
  unfold putSK
  split
  · rename_i h
    by_cases e : j = k
    · subst e
      simp [h]
    · simp [e]
  · unfold memK
    rw [List.any_append]
    simp only [List.any_cons, List.any_nil, Bool.or_false]
    congr 1
    exact decide_eq_decide.mpr ⟨Eq.symm, Eq.symm⟩
theorem isSet_is {H : Hp} {m : List Addr} {S : Sx} (R : RelH T H m S) {d : D} {v : V} (h : RepV T H m d v) (e : isSet d S = true) : ∃ a, v = .ref a ∧ IsS T H a := by
  unfold isSet at e
  split at e
  · rename_i n
    obtain ⟨a, rfl, h1⟩ := h
    obtain ⟨ob, ho, hq⟩ := R.there h1
    rw [ho] at e
    cases ob with
    | sn l ks =>
      obtain ⟨ks', L, k1, _⟩ := hq
      exact ⟨a, rfl, .inl ⟨l, L, k1.at_⟩⟩
    | sk ks => exact ⟨a, rfl, .inr ⟨_, _, hq⟩⟩
    | _ => cases e
  · cases e
theorem s_sadd (hS : Same X T) (hu : X.A.units + 65 < cLine) (hsup : notSup a = true) (hl : (apos.endLine == pos.line) = true) (hst : notStar b = true) (ha : PE X a (rdE T W fa)) (hb : PE X b (rdE T W fb)) :
    PE X (.Call (.Attribute a "add" apos) [b] [] pos) (rdE T W fun s S => (fa s S).bind fun d S => if isSet d S = true then (fb s S).bind fun e S => saddD d e S else .bad) :=
  PE_imp (pe_addN hS hu hsup hl hst ha hb) fun σ H Q ⟨s, S, m, hs, hS, h⟩ => ⟨s, S, m, hs, hS, h.bind.mono fun x S1 H1 m1 L1 R1 q v rv => by
    split at q
    · rename_i e
      obtain ⟨ad, rfl, ty⟩ := isSet_is R1 rv e
      refine ⟨ad, rfl, ty, s, S1, m1, hs.mono L1, R1, q.bind.mono fun y S2 H2 m2 L2 R2 q2 u ru => ?_⟩
      have rx := RepV.mono L2 _ _ rv
      unfold saddD at q2
      split at q2
      · rename_i n
        obtain ⟨ad', e0, h1⟩ := rx
        cases e0
        obtain ⟨ob, ho, hq⟩ := R2.there h1
        rw [ho] at q2
        cases ob with
        | sn l ks =>
          simp only at q2
          split at q2
          · rename_i hc
            obtain ⟨ok, hlen⟩ := hc
            obtain ⟨ks', L, k1, k2⟩ := hq
            have ln : L.length = ks.length := by
              have h1 := congrArg List.length k1.keys
              have h2 := k1.perm.length_eq
              simp at h1
              omega
            refine .inl ⟨m2, l, ks, ks', L, y, k1, k2, ru, ok, ?_, fun b k L' eb hk hd yes no => ?_⟩
            · rw [putS_len] at hlen
              by_cases hm : y ∈ ks
              · exact .inr hm
              · rw [if_neg hm] at hlen
                exact .inl (by omega)
            · subst eb
              have La := later_set (u := SNO T.P T.w ad l L') (H := H2) h1
              have new : ∃ ks'', SnAt T (upd H2 ad (SNO T.P T.w ad l L')) ad l (putS ks y) ks'' L' ∧ RepL T H2 m2 ks'' (refS L') := by
                by_cases hm : y ∈ ks
                · obtain rfl := yes hm
                  exact ⟨ks', ⟨upd_same, by rw [show putS ks y = ks from if_pos hm]; exact k1.perm, k1.keys, k1.deep⟩, k2⟩
                · obtain ⟨xs', p', r', e'⟩ := rep_perm (T := T) (no hm) (xs := y :: ks') ⟨_, _, rfl, ru, k2⟩ (by simp [hk, k1.keys])
                  refine ⟨xs', ⟨upd_same, ?_, e', fun x hx => ?_⟩, r'⟩
                  · rw [show putS ks y = ks ++ [y] from if_neg hm]
                    exact p'.trans ((k1.perm.cons y).trans (List.perm_append_singleton y ks).symm)
                  · rcases List.mem_cons.mp ((no hm).mem_iff.mp hx) with rfl | hx
                    · exact hd
                    · exact k1.deep x hx
              obtain ⟨ks'', n1, n2⟩ := new
              exact q2 _ m2 La (R2.set h1 ⟨ks'', L', n1, RepL.mono La _ _ n2⟩) _ rfl
          · exact q2.elim
        | sk ks =>
          simp only at q2
          split at q2
          · rename_i k ek
            split at q2
            · rename_i hlen
              refine .inr ⟨_, _, k, hq, keyD'_V ru ek, by unfold scanBound; omega, ?_⟩
              have La := later_set (u := SetK T.P T.w ad (fun j => memK ks j || decide (j = k)) (if memK ks k = true then ks.length else ks.length + 1)) (H := H2) h1
              refine q2 _ m2 La (R2.set h1 ?_) _ rfl
              show upd H2 ad _ ad = some (SetK T.P T.w ad (memK (putSK ks k)) (putSK ks k).length)
              rw [upd_same, memK_put]
              congr 2
              unfold putSK
              split <;> simp
            · exact q2.elim
          · exact q2.elim
        | _ => exact q2.elim
      · exact q2.elim
    · exact q.elim⟩
end
end TK
end
section
set_option autoImplicit false
set_option linter.all false
set_option maxRecDepth 100000
/-! ### x.split(y), xs[k::2], o.f += e -/
namespace TK
open PySem L2 PySem.Spec PyProof.Rows
section
variable {X : Cx} {T : Tb} {W : WX} {a b c o i : Expr} {fa fb fo : Vs → Sx → TK.R D} {pos apos p p2 : Pos}
theorem RepL.of_strs {H : Hp} {m : List Addr} : ∀ (xs : List Str), RepL T H m (xs.map D.str) (xs.map V.str)
  | [] => rfl
  | x :: xs => ⟨.str x, xs.map V.str, rfl, rfl, RepL.of_strs xs⟩
theorem s_splt {o : Expr} {fo : Vs → Sx → TK.R D} {apos : Pos} {tr : Bool} (hu : notSup o = true) (hl : (apos.endLine == pos.line) = true) (hst : notStar a = true) (ho : PE X o (rdE T W fo)) (ha : PE X a (rdE T W fa)) :
    PE X (.Call (.Attribute o "split" apos) [a] [] pos) (rdE T W fun s S => (fo s S).bind fun x S => (lift (strD x) S).bind fun _ S => (fa s S).bind fun y S => spltD tr x y S) :=
  PE_imp (pe_split ho ha (star_cons hst [] X.env) (base_of hu) hl) fun σ H Q ⟨s, S, m, hs, hS, h⟩ => ⟨s, S, m, hs, hS, h.bind.mono fun x S1 H1 m1 L1 R1 q v rv => by
    obtain ⟨z, e, q1⟩ := lift_ok q.bind
    have q1 := q1 H1 m1 .refl R1
    cases x with
    | str z' =>
      cases e
      refine ⟨⟨z, rv⟩, s, S1, m1, hs.mono L1, R1, q1.bind.mono fun y S2 H2 m2 L2 R2 q2 u ru => ?_⟩
      cases y with
      | str b' =>
        have q3 : Ok T _ H2 m2 (PV T Q) (if (b'.length == 0) = false ∧ z.length + 2 ≤ sizeLine then newL tr ((Txt.split z b').map .str) S2 else .bad) := q2
        split at q3
        · rename_i hz
          exact ⟨z, b', rv, by rw [show u = .str b' from ru], hz.1, hz.2, fun p hp => q3.lst R2 hp (RepL.of_strs _)⟩
        · exact q3.elim
      | _ => exact q2.elim
    | _ => cases e⟩
/-! o.f += e -/
theorem st_augf {k : Nat} {f : Str} (hw : Flat W) (hK : X.K = T.K) (hc : Cls T.K (T.C k)) (hn : NoAttr T.K (T.C k) f) (ho : PE X o (rdE T W fb)) (ha : PE X a (rdE T W fa)) :
    PS X (.AugAssign (.Attribute o f p) .Add a pos) (rdS T W fun s S => (fb s S).bind fun x S => (lift (fldD k x f S) S).bind fun d S => (match d with
      | .int i => (fa s S).bind fun d S => (match d with
        | .int j => (match setF k x f (.int (i + j)) S with
          | some S' => .ok (.nx s) S'
          | none => .bad)
        | _ => .bad)
      | _ => .bad)) :=
  PS_imp (ps_fldaug ho ha in_add) fun D σ H ⟨s, S, m, hs, hS, h⟩ => ⟨s, S, m, hs, hS, (h.bind.names hw).mono fun x S1 H1 m1 L1 R1 q u ru => by
    obtain ⟨z, ez, q1⟩ := lift_ok q.bind
    have q1 := q1 H1 m1 .refl R1
    obtain ⟨ns, xs, e1, e2⟩ := fldD_cases ez
    obtain ⟨ad, dx, fs, rfl, h1, h2, h3⟩ := ru.ins R1 e1
    obtain ⟨v, h4, h5⟩ := look_names h2 h3 e2
    refine ⟨ad, T.C k, dx, fs, v, rfl, h1, by rw [hK]; exact hc, by rw [hK]; exact hn, h4, ?_⟩
    cases z with
    | int i =>
      refine ⟨s, S1, m1, hs.mono L1, R1, (q1.bind.names hw).mono fun y S2 H2 m2 L2 R2 q2 w rw' => ?_⟩
      cases y with
      | int j =>
        refine ⟨i, j, h5, rw', ?_⟩
        dsimp only at q2
        split at q2
        · rename_i S' e
          obtain ⟨n, ns2, xs2, ex, e3, e4, rfl⟩ := setF_own e
          subst ex
          have ru2 := RepV.mono L2 _ _ ru
          obtain ⟨a2, ea2, hm⟩ := ru2
          cases ea2
          obtain ⟨dx2, fl2, k1, k2, k3⟩ := R2.obj n ad _ hm e3
          refine ⟨dx2, fl2, k1, by rw [← k2] at e4; simpa using e4, ?_⟩
          have La := later_set (u := .ins (T.C k) dx2 (putF f (.int (i + j)) fl2)) (H := H2) hm
          obtain ⟨g1, g2⟩ := putF_names (x := f) k2 k3 (show RepV T H2 m2 (.int (i + j)) (.int (i + j)) from rfl)
          exact q2 _ m2 La (R2.set hm ⟨dx2, _, upd_same, g1, RepL.mono La _ _ g2⟩) σ (((hs.mono L1).mono L2).mono La)
        · exact q2.elim
      | _ => exact q2.elim
    | _ => exact q1.elim⟩
end
end TK
end
section
set_option autoImplicit false
set_option linter.all false
set_option maxRecDepth 100000
/-! ### xs[k::2] of a list -/
namespace TK
open PySem L2 PySem.Spec PyProof.Rows
theorem every_both {α : Type} : ∀ (xs : List α), everyO false xs = (List.range ((xs.length + 1) / 2)).filterMap (fun k => xs[2 * k]?) ∧ everyO true xs = (List.range (xs.length / 2)).filterMap (fun k => xs[2 * k + 1]?)
  | [] => ⟨by simp [everyO], by simp [everyO]⟩
  | x :: xs => by
    obtain ⟨h1, h2⟩ := every_both xs
    constructor
    · rw [show ((x :: xs).length + 1) / 2 = xs.length / 2 + 1 by simp only [List.length_cons]; omega, List.range_succ_eq_map, List.filterMap_cons, List.filterMap_map]
      show x :: everyO true xs = _
      rw [h2]
      show _ = x :: _
      congr 1
    · show everyO false xs = _
      rw [h1, show (x :: xs).length / 2 = (xs.length + 1) / 2 by simp only [List.length_cons]]
      rfl
theorem pick_2 {items : Array Value} : (slicePick items none none (some 2)) = (everyO false items.toList).toArray := by
  unfold slicePick
  have hb : sliceBounds none none (some 2) items.size = (0, (items.size : Int), 2) := by simp [sliceBounds]
  rw [hb]
  have hr : sliceRange 0 (items.size : Int) 2 = (List.range ((items.size + 1) / 2)).map fun k => 2 * k := by
    unfold sliceRange
    by_cases h : (0 : Int) < items.size
    · simp only [show (2 : Int) > 0 by decide, if_true, h]
      have e : (((items.size : Int) - 0 + 2 - 1) / 2).toNat = (items.size + 1) / 2 := by omega
      rw [e]
      apply List.map_congr_left
      intro k _
      omega
    · have : items.size = 0 := by omega
      simp [this]
  show ((sliceRange 0 (items.size : Int) 2).filterMap (items[·]?)).toArray = _
  rw [hr, List.filterMap_map, (every_both items.toList).1]
  simp [Function.comp_def]
theorem pick_12 {items : Array Value} : (slicePick items (some 1) none (some 2)) = (everyO true items.toList).toArray := by
  unfold slicePick
  have hb : sliceBounds (some 1) none (some 2) items.size = (((min 1 items.size : Nat) : Int), (items.size : Int), 2) := by
    simp [sliceBounds]; omega
  rw [hb]
  have hr : sliceRange ((min 1 items.size : Nat) : Int) (items.size : Int) 2 = (List.range (items.size / 2)).map fun k => 2 * k + 1 := by
    unfold sliceRange
    by_cases h : ((min 1 items.size : Nat) : Int) < items.size
    · simp only [show (2 : Int) > 0 by decide, if_true, h]
      have e : (((items.size : Int) - ((min 1 items.size : Nat) : Int) + 2 - 1) / 2).toNat = items.size / 2 := by omega
      rw [e]
      apply List.map_congr_left
      intro k _
      omega
    · have : items.size / 2 = 0 := by omega
      simp only [this, h, if_false]
      simp
  show ((sliceRange ((min 1 items.size : Nat) : Int) (items.size : Int) 2).filterMap (items[·]?)).toArray = _
  rw [hr, List.filterMap_map, (every_both items.toList).2]
  simp [Function.comp_def]
theorem everyO_len {α : Type} : ∀ (k : Bool) (xs : List α), (everyO k xs).length ≤ xs.length
  | _, [] => by simp [everyO]
  | true, _ :: xs => by have := everyO_len false xs; simp only [everyO, List.length_cons]; omega
  | false, x :: xs => by have := everyO_len true xs; simp only [everyO, List.length_cons]; omega
section
variable {X : Cx} {T : Tb} {W : WX} {H : Hp} {m : List Addr}
theorem RepL.every : ∀ (k : Bool) (ds : List D) (vs : List V), RepL T H m ds vs → RepL T H m (everyO k ds) (everyO k vs)
  | _, [], vs, r => by cases (show vs = [] from r); cases ‹Bool› <;> rfl
  | true, _ :: ds, vs, r => by
    obtain ⟨v, vs', rfl, _, r2⟩ := r
    exact RepL.every false ds vs' r2
  | false, _ :: ds, vs, r => by
    obtain ⟨v, vs', rfl, r1, r2⟩ := r
    exact ⟨v, _, rfl, r1, RepL.every true ds vs' r2⟩
theorem Vals.every : ∀ (k : Bool) (xs : List V) (vs : List Value), Vals xs vs → Vals (everyO k xs) (everyO k vs)
  | _, [], vs, r => by cases r; cases ‹Bool› <;> exact .nil
  | true, _ :: xs, vs, r => by
    cases r with
    | cons _ r2 => exact Vals.every false xs _ r2
  | false, _ :: xs, vs, r => by
    cases r with
    | cons r1 r2 => exact .cons r1 (Vals.every true xs _ r2)
/-- xs[k::2] -/
def tStp (K : PySem.W.Frag) (k : Bool) (te : TE) : TE := fun σ H Q => te σ H fun x H1 => ∃ a xs, x = .ref a ∧ SqL K H1 a xs ∧ ∀ p, H1 p = none → Q (.ref p) (upd H1 p (.lst (everyO k xs)))
theorem pe_stp0 {e : Expr} {te : TE} {k : Nat} {p2 p3 pos : Pos} (he : PE X e te) : PE X (.Subscript e (.Slice none none (some (.Constant (.int 2) k p2)) p3) pos) (tStp X.K false te) := by
  refine ⟨fun pins s σ H Q I h => ?_⟩
  refine Subscript_ (thn (he.run pins s σ H _ I h) fun v s1 ⟨x, H1, I1, r1, q1⟩ => ?_)
  obtain ⟨a, xs, ex, hx, q⟩ := q1
  subst ex
  cases r1
  have hst : PO X (some (.Constant (.int 2) k p2)) (tPart (tC (.int 2))) := po_some pe_int
  refine wpAny_Slice (thn (po_none.run pins s1 σ H1 (fun o H2 => o = none ∧ H2 = H1) I1 ⟨rfl, rfl⟩) fun vl s2 ⟨l, H2, I2, pl, el, e2⟩ => ?_)
  subst el e2
  refine thn (po_none.run pins s2 σ H2 (fun o H3 => o = none ∧ H3 = H2) I2 ⟨rfl, rfl⟩) fun vu s3 ⟨u, H3, I3, pu, eu, e3⟩ => ?_
  subst eu e3
  refine thn (hst.run pins s3 σ H3 (fun o H4 => o = some 2 ∧ H4 = H3) I3 ⟨2, rfl, rfl, rfl⟩) fun vs s4 ⟨o, H4, I4, ps, eo, e4⟩ => ?_
  subst eo e4
  have I5 : Inv X pins σ H4 { s4 with heap := s4.heap.push { cls := .type "slice", data := .fields #[vl, vu, vs] } } := I4.kept (t' := s4.toks) fun b ob q => Heap.get?_push_of_some _ q
  obtain ⟨its, r, ht, hz⟩ := I5.list hx
  have hlen := r.length
  show wpAny (model X.prog X.w) X.A (subscriptTail e (.Slice none none (some (.Constant (.int 2) k p2)) p3) (.ref a) (.ref s4.heap.objs.size)) (EP X pins σ Q) X.xe { s4 with heap := s4.heap.push { cls := .type "slice", data := .fields #[vl, vu, vs] } }
  refine tail_any (ops := [.ref a, .ref s4.heap.objs.size]) ht.isList.typeIs (PySem.slot_list_getitem.lookup) ?_ (by with_unfolding_all rfl)
  refine wpAny_getItem_list_slice ht.isList (Heap.IsSliceOf.new _ vl vu vs) pl pu ps (by decide) ?_ (by rw [List.size_toArray]; omega)
  rw [pick_2]
  refine ⟨.ref _, _, I5.laid (t' := s4.toks) (o := .lst (everyO false xs)) (fun b ob q => Heap.get?_push_of_some _ q) (Nat.le_refl _) ?_, rfl, q _ (I5.hok.fresh (Nat.le_refl _))⟩
  exact ⟨Nat.le_trans (everyO_len _ _) hz, _, 0, Vals.every false _ _ r, Heap.get?_push_size _ rfl⟩
theorem pe_stp1 {e : Expr} {te : TE} {k k1 : Nat} {p1 p2 p3 pos : Pos} (he : PE X e te) : PE X (.Subscript e (.Slice (some (.Constant (.int 1) k1 p1)) none (some (.Constant (.int 2) k p2)) p3) pos) (tStp X.K true te) := by
  refine ⟨fun pins s σ H Q I h => ?_⟩
  refine Subscript_ (thn (he.run pins s σ H _ I h) fun v s1 ⟨x, H1, I1, r1, q1⟩ => ?_)
  obtain ⟨a, xs, ex, hx, q⟩ := q1
  subst ex
  cases r1
  have hst : PO X (some (.Constant (.int 2) k p2)) (tPart (tC (.int 2))) := po_some pe_int
  have hst1 : PO X (some (.Constant (.int 1) k1 p1)) (tPart (tC (.int 1))) := po_some pe_int
  refine wpAny_Slice (thn (hst1.run pins s1 σ H1 (fun o H2 => o = some 1 ∧ H2 = H1) I1 ⟨1, rfl, rfl, rfl⟩) fun vl s2 ⟨l, H2, I2, pl, el, e2⟩ => ?_)
  subst el e2
  refine thn (po_none.run pins s2 σ H2 (fun o H3 => o = none ∧ H3 = H2) I2 ⟨rfl, rfl⟩) fun vu s3 ⟨u, H3, I3, pu, eu, e3⟩ => ?_
  subst eu e3
  refine thn (hst.run pins s3 σ H3 (fun o H4 => o = some 2 ∧ H4 = H3) I3 ⟨2, rfl, rfl, rfl⟩) fun vs s4 ⟨o, H4, I4, ps, eo, e4⟩ => ?_
  subst eo e4
  have I5 : Inv X pins σ H4 { s4 with heap := s4.heap.push { cls := .type "slice", data := .fields #[vl, vu, vs] } } := I4.kept (t' := s4.toks) fun b ob q => Heap.get?_push_of_some _ q
  obtain ⟨its, r, ht, hz⟩ := I5.list hx
  have hlen := r.length
  show wpAny (model X.prog X.w) X.A (subscriptTail e (.Slice (some (.Constant (.int 1) k1 p1)) none (some (.Constant (.int 2) k p2)) p3) (.ref a) (.ref s4.heap.objs.size)) (EP X pins σ Q) X.xe { s4 with heap := s4.heap.push { cls := .type "slice", data := .fields #[vl, vu, vs] } }
  refine tail_any (ops := [.ref a, .ref s4.heap.objs.size]) ht.isList.typeIs (PySem.slot_list_getitem.lookup) ?_ (by with_unfolding_all rfl)
  refine wpAny_getItem_list_slice ht.isList (Heap.IsSliceOf.new _ vl vu vs) pl pu ps (by decide) ?_ (by rw [List.size_toArray]; omega)
  rw [pick_12]
  refine ⟨.ref _, _, I5.laid (t' := s4.toks) (o := .lst (everyO true xs)) (fun b ob q => Heap.get?_push_of_some _ q) (Nat.le_refl _) ?_, rfl, q _ (I5.hok.fresh (Nat.le_refl _))⟩
  exact ⟨Nat.le_trans (everyO_len _ _) hz, _, 0, Vals.every true _ _ r, Heap.get?_push_size _ rfl⟩
variable {a : Expr} {fa : Vs → Sx → TK.R D} {pos : Pos}
theorem stp_of {e : Expr} {k tr : Bool} (hK : X.K = T.K) (h : PE X e (tStp X.K k (rdE T W fa))) : PE X e (rdE T W fun s S => (fa s S).bind fun d S => stp2D tr k d S) :=
  PE_imp h fun σ H Q ⟨s, S, m, hs, hS, h⟩ => ⟨s, S, m, hs, hS, h.bind.mono fun d S1 H1 m1 L1 R1 q v rv => by
    unfold stp2D at q
    split at q
    · rename_i xs e
      obtain ⟨b, rfl, f⟩ := lst_still R1 rv e
      obtain ⟨vs, g, r⟩ := f [] (by simp) H1 m1 S1 .refl R1 (still_now e)
      exact ⟨b, vs, rfl, by rw [hK]; exact g, fun p hp => q.lst R1 hp (RepL.every k _ _ r)⟩
    · exact q.elim⟩
end
end TK
end
section
set_option autoImplicit false
set_option linter.all false
set_option maxRecDepth 100000
set_option maxHeartbeats 1000000
/-! ### list(zip(xs, ys)) of two lists -/
namespace TK
open PySem L2 PySem.Spec PyProof.Rows
theorem zip_no_len : typeLookup (.type "zip") "__len__" = pure none := by rw [typeLookup_type, builtinLookup_eq_fast]; kernel_rfl
theorem zip_no_hint : typeLookup (.type "zip") "__length_hint__" = pure none := by rw [typeLookup_type, builtinLookup_eq_fast]; kernel_rfl
section
variable {prog : Program} {w : World} {A : Around} {E : Value → Shared → Prop} {s : Shared} {z TI TO i1 i2 l1 l2 : Addr} {xs ys : Array Value}
def ZS (z TI TO i1 i2 l1 l2 : Addr) (xs ys : Array Value) (S : Addr) (h : Heap) (i : Nat) : Prop := IsPair h TI (.ref i1) (.ref i2) ∧ h.IsListIter i1 l1 i ∧ h.IsListIter i2 l2 i ∧ h.IsList l1 xs ∧ h.IsList l2 ys ∧
  ((IsZip h z TI TO .none ∧ ∃ a b, IsPair h TO a b) ∨ ∃ T f oT, IsZipHeld h z TI TO T f ∧ h.get? T = some oT ∧ T ≠ z ∧ T ≠ i1 ∧ T ≠ i2 ∧ T ≠ S)
theorem ZS.keep {S : Addr} {h h' : Heap} {i : Nat} (st : ZS z TI TO i1 i2 l1 l2 xs ys S h i) (hS : S ∉ [z, TI, TO, i1, i2, l1, l2]) (hk : ∀ c o, c ≠ S → h.get? c = some o → h'.get? c = some o) : ZS z TI TO i1 i2 l1 l2 xs ys S h' i := by
  simp only [List.mem_cons, List.not_mem_nil, or_false, not_or] at hS
  obtain ⟨dz, dTI, dTO, di1, di2, dl1, dl2⟩ := hS
  obtain ⟨hTI, h1, h2, hl1, hl2, hz⟩ := st
  refine ⟨hk _ _ (Ne.symm dTI) hTI, h1.at fun o e => hk _ o (Ne.symm di1) e, h2.at fun o e => hk _ o (Ne.symm di2) e, hl1.at fun o e => hk _ o (Ne.symm dl1) e, hl2.at fun o e => hk _ o (Ne.symm dl2) e, ?_⟩
  rcases hz with ⟨hz, a, b, hTO⟩ | ⟨T, f, oT, hz, hT, r1, r2, r3, r4⟩
  · exact .inl ⟨hk _ _ (Ne.symm dz) hz, a, b, hk _ _ (Ne.symm dTO) hTO⟩
  · exact .inr ⟨T, f, oT, hk _ _ (Ne.symm dz) hz, hk _ _ r4 hT, r1, r2, r3, r4⟩
/-- one item -/
theorem zs_item (D : ZipApart z TI TO i1 i2 l1 l2) {S : Addr} {i : Nat} {x y : Value} (st : ZS z TI TO i1 i2 l1 l2 xs ys S s.heap i) (hx : xs[i]? = some x) (hy : ys[i]? = some y) (hS : S < s.heap.objs.size) {Q : Option Value → Shared → Prop}
    (hQ : ∀ h', ZS z TI TO i1 i2 l1 l2 xs ys S h' (i + 1) → IsPair h' s.heap.objs.size x y → h'.objs.size = s.heap.objs.size + 1 → (∀ c o, c ≠ z → c ≠ TO → c ≠ i1 → c ≠ i2 → s.heap.get? c = some o → h'.get? c = some o) → Q (some (.ref s.heap.objs.size)) { s with heap := h' }) :
    wpAny (model prog w) A (pyNext (.ref z)) Q E s := by
  obtain ⟨hTI, h1, h2, hl1, hl2, hz⟩ := st
  have lt : ∀ {c o}, s.heap.get? c = some o → s.heap.objs.size ≠ c := fun e => Nat.ne_of_gt (Heap.lt_size e)
  have n1 : s.heap.objs.size ≠ i1 := let ⟨_, e, _⟩ := h1; lt e
  have n2 : s.heap.objs.size ≠ i2 := let ⟨_, e, _⟩ := h2; lt e
  rcases hz with ⟨hz, a, b, hTO⟩ | ⟨T, f, oT, hz, hT, r1, r2, r3, r4⟩
  · refine wpAny_pyNext_zip_item D hz hTI hTO h1 h2 hl1 hl2 hx hy fun h' a1 a2 a3 a4 a5 a6 hk => ?_
    exact hQ h' ⟨hk _ _ D.TIz D.TITO D.TIi1 D.TIi2 hTI, a3, a4, hl1.at fun o e => hk _ o D.l1z D.l1TO D.l1i1 D.l1i2 e, hl2.at fun o e => hk _ o D.l2z D.l2TO D.l2i1 D.l2i2 e,
      .inr ⟨s.heap.objs.size, false, _, a1, a5, lt hz, n1, n2, Nat.ne_of_gt hS⟩⟩ a5 a6 hk
  · refine wpAny_pyNext_zip_item_held D hz hT hTI h1 h2 hl1 hl2 hx hy fun h' a1 a3 a4 a5 a6 hk => ?_
    exact hQ h' ⟨hk _ _ D.TIz D.TIi1 D.TIi2 hTI, a3, a4, hl1.at fun o e => hk _ o D.l1z D.l1i1 D.l1i2 e, hl2.at fun o e => hk _ o D.l2z D.l2i1 D.l2i2 e,
      .inr ⟨T, true, oT, a1, hk _ _ r1 r2 r3 hT, r1, r2, r3, r4⟩⟩ a5 a6 fun c o c1 _ c3 c4 e => hk c o c1 c3 c4 e
theorem zs_end (hh : A.handled = none) (D : ZipApart z TI TO i1 i2 l1 l2) {S : Addr} {i : Nat} (st : ZS z TI TO i1 i2 l1 l2 xs ys S s.heap i) (hend : xs[i]? = none ∨ ys[i]? = none) {Q : Option Value → Shared → Prop}
    (hQ : ∀ h', (∀ c o, c ≠ z → c ≠ TO → c ≠ i1 → c ≠ i2 → s.heap.get? c = some o → h'.get? c = some o) → Q none { s with heap := h' }) : wpAny (model prog w) A (pyNext (.ref z)) Q E s := by
  obtain ⟨hTI, h1, h2, hl1, hl2, hz⟩ := st
  rcases hz with ⟨hz, a, b, hTO⟩ | ⟨T, f, oT, hz, hT, r1, r2, r3, r4⟩
  · exact wpAny_pyNext_zip_end hh D hz hTI hTO h1 h2 hl1 hl2 hend fun h' hk => hQ h' hk
  · exact wpAny_pyNext_zip_end_held hh D hz hT hTI h1 h2 hl1 hl2 hend fun h' hk => hQ h' fun c o c1 _ c3 c4 e => hk c o c1 c3 c4 e
/-- the tuples made so far -/
structure ZMk (B : Nat) (xs ys : Array Value) (h : Heap) (as : List Addr) : Prop where
  rise : as.Pairwise (· < ·)
  above : ∀ a ∈ as, B ≤ a
  pairs : ∀ (j : Nat) (a : Addr), as[j]? = some a → ∃ x y, xs[j]? = some x ∧ ys[j]? = some y ∧ IsPair h a x y
theorem ZMk.keep {B : Nat} {h h' : Heap} {as : List Addr} (m : ZMk B xs ys h as) (hk : ∀ c o, B ≤ c → h.get? c = some o → h'.get? c = some o) : ZMk B xs ys h' as :=
  ⟨m.rise, m.above, fun j a e => by
    obtain ⟨x, y, e1, e2, e3⟩ := m.pairs j a e
    exact ⟨x, y, e1, e2, hk _ _ (m.above a (List.mem_of_getElem? e)) e3⟩⟩
theorem ZMk.there {B : Nat} {h : Heap} {as : List Addr} (m : ZMk B xs ys h as) {a : Addr} (ha : a ∈ as) : a < h.objs.size := by
  obtain ⟨j, hj⟩ := List.mem_iff_getElem?.mp ha
  obtain ⟨_, _, _, _, e⟩ := m.pairs j a hj
  exact Heap.lt_size e
theorem ZMk.add {B : Nat} {h : Heap} {as : List Addr} {a : Addr} {x y : Value} (m : ZMk B xs ys h as) (hx : xs[as.length]? = some x) (hy : ys[as.length]? = some y) (hp : IsPair h a x y) (hB : B ≤ a) (hl : ∀ b ∈ as, b < a) : ZMk B xs ys h (as ++ [a]) := by
  refine ⟨?_, fun b hb => ?_, fun j b e => ?_⟩
  · rw [List.pairwise_append]
    exact ⟨m.rise, List.pairwise_singleton _ _, fun b hb c hc => by rw [List.mem_singleton.mp hc]; exact hl b hb⟩
  · rcases List.mem_append.mp hb with hb | hb
    · exact m.above b hb
    · rw [List.mem_singleton.mp hb]; exact hB
  · by_cases hj : j < as.length
    · rw [List.getElem?_append_left hj] at e
      exact m.pairs j b e
    · rw [List.getElem?_append_right (by omega)] at e
      have hj2 : j = as.length := by
        by_cases h2 : j - as.length = 0
        · omega
        · rw [List.getElem?_eq_none (by simp; omega)] at e; cases e
      subst hj2
      simp at e
      subst e
      exact ⟨x, y, hx, hy, hp⟩
theorem zip_loop (hh : A.in1.handled = none) (D : ZipApart z TI TO i1 i2 l1 l2) {S B : Nat} (hS : S ∉ [z, TI, TO, i1, i2, l1, l2]) (hB : z < B ∧ TO < B ∧ i1 < B ∧ i2 < B ∧ S < B) (h0 : Heap) (h0z : ∀ c ∈ [z, TO, i1, i2, S], h0.get? c = none)
    {n : Nat} (hn : n = min xs.size ys.size) (hn2 : n ≤ sizeLine) {R : Result → Shared → Prop} :
    ∀ (m i : Nat) (s : Shared) (as : List Addr) (c : Nat), n - i = m → i ≤ n → ZS z TI TO i1 i2 l1 l2 xs ys S s.heap i → s.heap.get? S = some { cls := .type "list", dict := none, data := .seq (as.map Value.ref).toArray c, slots := #[] } → as.length = i →
      ZMk B xs ys s.heap as → B ≤ s.heap.objs.size → (∀ b o, h0.get? b = some o → s.heap.get? b = some o) →
      (∀ h' as' c', h'.get? S = some { cls := .type "list", dict := none, data := .seq (as'.map Value.ref).toArray c', slots := #[] } → as'.length = n → ZMk B xs ys h' as' → (∀ b o, h0.get? b = some o → h'.get? b = some o) → R (.ok (.ret .none)) { s with heap := h' }) →
      codeAny (model prog w) A (.builtin "list.extend.loop" ⟨[.ref S, .ref z, .none], []⟩) R s := by
  have hS' := hS
  simp only [List.mem_cons, List.not_mem_nil, or_false, not_or] at hS'
  obtain ⟨dz, dTI, dTO, di1, di2, dl1, dl2⟩ := hS'
  obtain ⟨b1, b2, b3, b4, b5⟩ := hB
  have off : ∀ c o, h0.get? c = some o → c ≠ z ∧ c ≠ TO ∧ c ≠ i1 ∧ c ≠ i2 ∧ c ≠ S := fun c o e => by
    refine ⟨?_, ?_, ?_, ?_, ?_⟩ <;> (rintro rfl; rw [h0z _ (by simp)] at e; cases e)
  intro m
  induction m with
  | zero =>
    intro i s as c hm hi st hSo hl mk hBs kp fin
    obtain rfl : i = n := by omega
    refine codeAny_builtin F.entry_extend_loop ?_
    rw [Around.under_plainId F.plain_extend_loop _]
    show wpAny _ A.in1 (pyNext (.ref z) >>= _) _ _ s
    have hend : xs[i]? = none ∨ ys[i]? = none := by
      rcases Nat.le_total xs.size ys.size with h | h
      · exact .inl (Array.getElem?_eq_none (by rw [hn, Nat.min_eq_left h]; exact Nat.le_refl _))
      · exact .inr (Array.getElem?_eq_none (by rw [hn, Nat.min_eq_right h]; exact Nat.le_refl _))
    refine wpAny_bind (zs_end hh D st hend fun h' hk => ?_)
    refine wpAny_pure (fin h' as c (hk _ _ dz dTO di1 di2 hSo) hl (mk.keep fun c o hc e => hk c o (by rintro rfl; exact absurd hc (Nat.not_le.mpr b1)) (by rintro rfl; exact absurd hc (Nat.not_le.mpr b2)) (by rintro rfl; exact absurd hc (Nat.not_le.mpr b3)) (by rintro rfl; exact absurd hc (Nat.not_le.mpr b4)) e) fun b o e => ?_)
    obtain ⟨q1, q2, q3, q4, q5⟩ := off b o e
    exact hk b o q1 q2 q3 q4 (kp b o e)
  | succ m ih =>
    intro i s as c hm hi st hSo hl mk hBs kp fin
    have hlt : i < n := by omega
    refine codeAny_builtin F.entry_extend_loop ?_
    rw [Around.under_plainId F.plain_extend_loop _]
    show wpAny _ A.in1 (pyNext (.ref z) >>= _) _ _ s
    have hix : i < xs.size := Nat.lt_of_lt_of_le hlt (by rw [hn]; exact Nat.min_le_left ..)
    have hiy : i < ys.size := Nat.lt_of_lt_of_le hlt (by rw [hn]; exact Nat.min_le_right ..)
    refine wpAny_bind (zs_item D st (Array.getElem?_eq_getElem hix) (Array.getElem?_eq_getElem hiy) (Heap.lt_size hSo) fun h' st' hp hsz hk => ?_)
    have hS1 := hk _ _ dz dTO di1 di2 hSo
    have mk1 : ZMk B xs ys h' as := mk.keep fun c o hc e => hk c o (by rintro rfl; exact absurd hc (Nat.not_le.mpr b1)) (by rintro rfl; exact absurd hc (Nat.not_le.mpr b2)) (by rintro rfl; exact absurd hc (Nat.not_le.mpr b3)) (by rintro rfl; exact absurd hc (Nat.not_le.mpr b4)) e
    have mk2 : ZMk B xs ys h' (as ++ [s.heap.objs.size]) := mk1.add (by rw [hl]; exact Array.getElem?_eq_getElem hix) (by rw [hl]; exact Array.getElem?_eq_getElem hiy) hp hBs fun b hb => mk.there hb
    show wpAny _ A.in1 (updateSeq S (·.push (.ref s.heap.objs.size)) >>= _) _ _ _
    refine wpAny_bind ?_
    have oth : ∀ b o, b ≠ S → h'.get? b = some o → (h'.update S (Obj.mapSeq (·.push (Value.ref s.heap.objs.size)))).get? b = some o := fun b o hb e => (Heap.get?_update_other _ _ (Ne.symm hb)).trans e
    have hS2 := Heap.get?_update_self (Obj.mapSeq (·.push (Value.ref s.heap.objs.size))) hS1 rfl
    refine wpAny_updateSeq (s := { s with heap := h' }) hS1 rfl (wpAny_pure ⟨plainId_quiet F.plain_extend_loop _, ih (i + 1) _ (as ++ [s.heap.objs.size]) (c + 1) (by omega) hlt (st'.keep hS oth) ?_ (by simp [hl]) (mk2.keep fun c o hc e => oth c o (by rintro rfl; exact absurd hc (Nat.not_le.mpr b5)) e) ?_ (fun b o e => ?_) fun h2 as' c' e1 e2 e3 e4 => fin h2 as' c' e1 e2 e3 e4⟩)
      (by simp [hl]; omega) (by simp [hl]; omega)
    · rw [hS2]
      simp [Obj.mapSeq]
    · show B ≤ (h'.update S _).objs.size
      rw [Heap.size_update, hsz]; omega
    · obtain ⟨q1, q2, q3, q4, q5⟩ := off b o e
      exact oth b o q5 (hk b o q1 q2 q3 q4 (kp b o e))
end
end TK
end
section
set_option autoImplicit false
set_option linter.all false
set_option maxRecDepth 100000
set_option maxHeartbeats 2000000
/-! ### list(zip(xs, ys)): the call, what it leaves -/
namespace TK
open PySem L2 PySem.Spec PyProof.Rows
section
variable {prog : Program} {w : World} {A : Around} {E : Value → Shared → Prop} {s : Shared} {z TI TO i1 i2 l1 l2 : Addr} {xs ys : Array Value}
theorem ext_zip (hh : A.in1.handled = none) (D : ZipApart z TI TO i1 i2 l1 l2) {S B : Nat} (hS : S ∉ [z, TI, TO, i1, i2, l1, l2]) (hB : z < B ∧ TO < B ∧ i1 < B ∧ i2 < B ∧ S < B) (h0 : Heap) (h0z : ∀ c ∈ [z, TO, i1, i2, S], h0.get? c = none)
    {n : Nat} (hn : n = min xs.size ys.size) (hn2 : n ≤ sizeLine) {R : Result → Shared → Prop} (c : Nat) (st : ZS z TI TO i1 i2 l1 l2 xs ys S s.heap 0) (hz : s.TypeIs (.ref z) "zip") (hzz : IsZip s.heap z TI TO .none) (hSo : s.heap.get? S = some { cls := .type "list", data := .seq #[] c })
    (hBs : B ≤ s.heap.objs.size) (kp : ∀ b o, h0.get? b = some o → s.heap.get? b = some o)
    (fin : ∀ h' as' c', h'.get? S = some { cls := .type "list", dict := none, data := .seq (as'.map Value.ref).toArray c', slots := #[] } → as'.length = n → ZMk B xs ys h' as' → (∀ b o, h0.get? b = some o → h'.get? b = some o) → R (.ok (.ret .none)) { s with heap := h' }) :
    wpAny (model prog w) A.in1 (Builtin.List.listExtendWith (.ref S) (.ref z) .none)
      (fun fin s' => match fin with | .done f => R (.ok f) s' | .again c' => c'.quiet = true ∧ codeAny (model prog w) A c' R s') (fun e s' => R (.error e) s') s := by
  have hSI : S ≠ z := fun e => hS (by rw [e]; simp)
  unfold Builtin.List.listExtendWith
  refine wpAny_bind (wpAny_typeOf hz ?_)
  have h1 : Builtin.List.listSameRef (.ref S) (.ref z) = false := by simp [Builtin.List.listSameRef, hSI]
  have h2 : (Value.type "zip" == Value.type "list") = false := by decide
  have h3 : (Value.type "zip" == Value.type "tuple") = false := by decide
  simp only [h1, h2, h3, Bool.or_false, Bool.false_eq_true, if_false]
  refine wpAny_bind (wpAny_pyIter_zip hzz ?_)
  refine wpAny_bind (wpAny_holding ?_)
  unfold Builtin.List.listLengthHint
  refine wpAny_bind (wpAny_specialOf hz zip_no_len ?_)
  show wpAny _ A.in1 (specialOf (Value.ref z) (Str.ofString "__length_hint__") >>= _) _ _ _
  refine wpAny_bind (wpAny_specialOf hz zip_no_hint ?_)
  refine wpAny_pure ?_
  show wpAny _ A.in1 (rule "list.extend.makes-room" >>= fun _ => Builtin.List.listTouch (.ref S) >>= fun _ =>
    again (.builtin "list.extend.loop" ⟨[.ref S, .ref z, .none], []⟩)) _ _ _
  refine wpAny_bind (wpAny_rule ?_)
  refine wpAny_bind ?_
  show wpAny _ A.in1 (updateSeq S (·.push .none) >>= fun _ => updateSeq S (·.pop)) _ _ _
  refine wpAny_bind (wpAny_updateSeq hSo rfl ?_)
  have hS₂ := Heap.get?_update_self (Obj.mapSeq (·.push Value.none)) hSo rfl
  refine wpAny_updateSeq (hz := by seq_fits) hS₂ rfl ?_
  have hS₃ := Heap.get?_update_self (Obj.mapSeq (·.pop)) hS₂ rfl
  have oth : ∀ b o, b ≠ S → s.heap.get? b = some o → ((s.heap.update S (Obj.mapSeq (·.push Value.none))).update S (Obj.mapSeq (·.pop))).get? b = some o :=
    fun b o hb e => (Heap.get?_update_other _ _ (Ne.symm hb)).trans ((Heap.get?_update_other _ _ (Ne.symm hb)).trans e)
  have offS : ∀ b o, h0.get? b = some o → b ≠ S := fun b o e => by rintro rfl; rw [h0z _ (by simp)] at e; cases e
  refine wpAny_pure ⟨plainId_quiet F.plain_extend_loop _, zip_loop hh D hS hB h0 h0z hn hn2 n 0 _ [] _ rfl (Nat.zero_le _) (st.keep hS oth) hS₃ rfl ⟨List.Pairwise.nil, (fun a ha => absurd ha List.not_mem_nil), (fun j a e => by simp at e)⟩ ?_ (fun b o e => oth b o (offS b o e) (kp b o e)) fin⟩
  show B ≤ ((s.heap.update S _).update S _).objs.size
  rw [Heap.size_update, Heap.size_update]
  exact hBs
theorem init_zip (hh : A.in1.handled = none) (D : ZipApart z TI TO i1 i2 l1 l2) {S B : Nat} (hS : S ∉ [z, TI, TO, i1, i2, l1, l2]) (hB : z < B ∧ TO < B ∧ i1 < B ∧ i2 < B ∧ S < B) (h0 : Heap) (h0z : ∀ c ∈ [z, TO, i1, i2, S], h0.get? c = none)
    {n : Nat} (hn : n = min xs.size ys.size) (hn2 : n ≤ sizeLine) {R : Result → Shared → Prop} (st : ZS z TI TO i1 i2 l1 l2 xs ys S s.heap 0) (hzz : IsZip s.heap z TI TO .none) (hSo : s.heap.get? S = some { cls := .type "list", data := .seq #[] })
    (hBs : B ≤ s.heap.objs.size) (kp : ∀ b o, h0.get? b = some o → s.heap.get? b = some o)
    (fin : ∀ h' as' c', h'.get? S = some { cls := .type "list", dict := none, data := .seq (as'.map Value.ref).toArray c', slots := #[] } → as'.length = n → ZMk B xs ys h' as' → (∀ b o, h0.get? b = some o → h'.get? b = some o) → R (.ok (.ret .none)) { s with heap := h' }) :
    wpAny (model prog w) A.in1 (Builtin.«list.__init__» ⟨[.ref S, .ref z], []⟩)
      (fun fin s' => match fin with | .done f => R (.ok f) s' | .again c' => c'.quiet = true ∧ codeAny (model prog w) A c' R s') (fun e s' => R (.error e) s') s := by
  show wpAny _ A.in1 (do let old ← Builtin.List.listItems (.ref S); Builtin.List.listUpdate (.ref S) (fun _ => #[]); letGo old.toList.reverse; Builtin.List.listExtendWith (.ref S) (.ref z) .none) _ _ s
  refine wpAny_bind ?_
  unfold Builtin.List.listItems
  refine wpAny_bind (wpAny_seqItems hSo rfl (wpAny_pure ?_))
  show wpAny _ A.in1 (updateSeq S (fun _ => #[]) >>= fun _ => letGo (#[] : Array Value).toList.reverse >>= fun _ => Builtin.List.listExtendWith (.ref S) (.ref z) .none) _ _ s
  refine wpAny_bind (wpAny_updateSeq hSo rfl ?_)
  have hS₂ := Heap.get?_update_self (Obj.mapSeq (fun _ => (#[] : Array Value))) hSo rfl
  have oth : ∀ b o, b ≠ S → s.heap.get? b = some o → (s.heap.update S (Obj.mapSeq (fun _ => (#[] : Array Value)))).get? b = some o :=
    fun b o hb e => (Heap.get?_update_other _ _ (Ne.symm hb)).trans e
  refine wpAny_bind (wpAny_letGo ?_)
  have hSI : S ≠ z := fun e => hS (by rw [e]; simp)
  have offS : ∀ b o, h0.get? b = some o → b ≠ S := fun b o e => by rintro rfl; rw [h0z _ (by simp)] at e; cases e
  have hz2 := oth z _ (Ne.symm hSI) hzz
  refine ext_zip (s := { s with heap := s.heap.update S (Obj.mapSeq (fun _ => (#[] : Array Value))) }) hh D hS hB h0 h0z hn hn2 _ (st.keep hS oth) ⟨_, hz2, rfl⟩ hz2 hS₂ ?_ (fun b o e => oth b o (offS b o e) (kp b o e)) fin
  show B ≤ (s.heap.update S _).objs.size
  rw [Heap.size_update]
  exact hBs
/-- list(z) of a zip that was made just now -/
theorem call_list_zip {Q : Value → Shared → Prop} (hh : A.handled = none) (D : ZipApart z TI TO i1 i2 l1 l2) (h0 : Heap) (h0z : ∀ c ∈ [z, TO, i1, i2, s.heap.objs.size], h0.get? c = none)
    {n : Nat} (hn : n = min xs.size ys.size) (hn2 : n ≤ sizeLine) (hz : IsZip s.heap z TI TO .none) (hTI : IsPair s.heap TI (.ref i1) (.ref i2)) {a b : Value} (hTO : IsPair s.heap TO a b) (h1 : s.heap.IsListIter i1 l1 0) (h2 : s.heap.IsListIter i2 l2 0) (hl1 : s.heap.IsList l1 xs) (hl2 : s.heap.IsList l2 ys)
    (kp : ∀ b o, h0.get? b = some o → s.heap.get? b = some o)
    (fin : ∀ h' as' c', h'.get? s.heap.objs.size = some { cls := .type "list", dict := none, data := .seq (as'.map Value.ref).toArray c', slots := #[] } → as'.length = n → ZMk (s.heap.objs.size + 1) xs ys h' as' → (∀ b o, h0.get? b = some o → h'.get? b = some o) → Q (.ref s.heap.objs.size) { s with heap := h' }) :
    wpAny (model prog w) A (call (.type "list") [.ref z]) Q E s := by
  have lz := Heap.lt_size hz
  have lTI := Heap.lt_size hTI
  have lTO := Heap.lt_size hTO
  have li1 : i1 < s.heap.objs.size := by obtain ⟨_, e, _⟩ := h1; exact Heap.lt_size e
  have li2 : i2 < s.heap.objs.size := by obtain ⟨_, e, _⟩ := h2; exact Heap.lt_size e
  have ll1 : l1 < s.heap.objs.size := by obtain ⟨_, e, _⟩ := hl1; exact Heap.lt_size e
  have ll2 : l2 < s.heap.objs.size := by obtain ⟨_, e, _⟩ := hl2; exact Heap.lt_size e
  refine callType_codes (Q₁ := fun obj s₁ => obj = .ref s.heap.objs.size ∧ s₁ = { s with heap := s.heap.push { cls := .type "list", data := .seq #[] } }) F.called_list (F.typeCall_list_1 _) F.entry_list_init
    (code_list_new _ ⟨rfl, rfl⟩) fun obj s₁ h₁ => ?_
  obtain ⟨rfl, rfl⟩ := h₁
  have hS : (s.heap.push { cls := .type "list", data := .seq #[] }).get? s.heap.objs.size = some { cls := .type "list", data := .seq #[] } := Heap.get?_push_size _ rfl
  have pu : ∀ b o, s.heap.get? b = some o → (s.heap.push { cls := .type "list", data := .seq #[] }).get? b = some o := fun b o e => Heap.get?_push_of_some _ e
  refine ⟨⟨_, hS, rfl⟩, F.args_list_init_2 _ _, init_zip (A := A.in1) (R := wants (fun r s₂ => r = .none ∧ Q (.ref s.heap.objs.size) s₂) E) (S := s.heap.objs.size) (B := s.heap.objs.size + 1) (s := { s with heap := s.heap.push { cls := .type "list", data := .seq #[] } }) hh D ?_ ⟨Nat.lt_succ_of_lt lz, Nat.lt_succ_of_lt lTO, Nat.lt_succ_of_lt li1, Nat.lt_succ_of_lt li2, Nat.lt_succ_self _⟩ h0 h0z hn hn2
    ⟨pu _ _ hTI, h1.at (pu _), h2.at (pu _), hl1.at (pu _), hl2.at (pu _), .inl ⟨pu _ _ hz, a, b, pu _ _ hTO⟩⟩ (pu _ _ hz) hS (Nat.le_of_eq (Heap.size_push ..).symm) (fun b o e => pu b o (kp b o e)) fun h' as' c' e1 e2 e3 e4 => ⟨rfl, fin h' as' c' e1 e2 e3 e4⟩⟩
  simp only [List.mem_cons, List.not_mem_nil, or_false, not_or]
  exact ⟨Nat.ne_of_gt lz, Nat.ne_of_gt lTI, Nat.ne_of_gt lTO, Nat.ne_of_gt li1, Nat.ne_of_gt li2, Nat.ne_of_gt ll1, Nat.ne_of_gt ll2⟩
end
end TK
end
section
set_option autoImplicit false
set_option linter.all false
set_option maxRecDepth 100000
set_option maxHeartbeats 2000000
/-! ### list(zip(xs, ys)): the rule -/
namespace TK
open PySem L2 PySem.Spec PyProof.Rows
def putP : Hp → List Addr → List (V × V) → Hp
  | H, a :: as, p :: ps => putP (upd H a (.tup [p.1, p.2])) as ps
  | H, _, _ => H
theorem putP_off {b : Addr} : ∀ (as : List Addr) (ps : List (V × V)) (H : Hp), b ∉ as → putP H as ps b = H b
  | [], _, _, _ => rfl
  | _ :: _, [], _, _ => rfl
  | a :: as, p :: ps, H, h => by
    show putP (upd H a (.tup [p.1, p.2])) as ps b = H b
    rw [putP_off as ps _ (fun z => h (List.mem_cons_of_mem _ z)), upd_ne (fun z => h (by rw [z]; exact List.mem_cons_self))]
theorem putP_at : ∀ (as : List Addr) (ps : List (V × V)) (H : Hp), as.Nodup → ∀ (j : Nat) (a : Addr) (p : V × V), as[j]? = some a → ps[j]? = some p → putP H as ps a = some (.tup [p.1, p.2])
  | [], _, _, _, j, a, p, h, _ => by simp at h
  | _ :: _, [], _, _, j, a, p, _, h => by simp at h
  | a :: as, p :: ps, H, hn, 0, b, q, h1, h2 => by
    simp at h1 h2
    subst h1 h2
    show putP (upd H a (.tup [p.1, p.2])) as ps a = _
    rw [putP_off as ps _ (List.nodup_cons.mp hn).1, upd_same]
  | a :: as, p :: ps, H, hn, j + 1, b, q, h1, h2 => putP_at as ps _ (List.nodup_cons.mp hn).2 j b q (by simpa using h1) (by simpa using h2)
section
variable {T : Tb} {H : Hp} {m : List Addr} {S : Sx}
def RepPs (T : Tb) (H : Hp) (m : List Addr) : List (D × D) → List (V × V) → Prop
  | [], vs => vs = []
  | d :: ds, vs => ∃ v r, vs = v :: r ∧ (RepV T H m d.1 v.1 ∧ RepV T H m d.2 v.2) ∧ RepPs T H m ds r
theorem RepPs.mono {H' : Hp} {m' : List Addr} (L : Later H H' m m') : ∀ (ds : List (D × D)) (vs : List (V × V)), RepPs T H m ds vs → RepPs T H' m' ds vs
  | [], vs, h => h
  | d :: ds, vs, h => by
    obtain ⟨v, r, e, ⟨h1, h2⟩, h3⟩ := h
    exact ⟨v, r, e, ⟨RepV.mono L _ _ h1, RepV.mono L _ _ h2⟩, RepPs.mono L ds r h3⟩
theorem RepPs.zip : ∀ (ds es : List D) (vs us : List V), RepL T H m ds vs → RepL T H m es us → RepPs T H m (ds.zip es) (vs.zip us)
  | [], es, vs, us, h1, h2 => by rw [show vs = [] from h1]; rfl
  | _ :: _, [], vs, us, h1, h2 => by
    rw [show us = [] from h2, List.zip_nil_right, List.zip_nil_right]; rfl
  | d :: ds, e :: es, vs, us, h1, h2 => by
    obtain ⟨v, r, rfl, a1, a2⟩ := h1
    obtain ⟨u, q, rfl, b1, b2⟩ := h2
    exact ⟨(v, u), r.zip q, rfl, ⟨a1, b1⟩, RepPs.zip ds es r q a2 b2⟩
theorem put_rep : ∀ (as : List Addr) (ds : List (D × D)) (ps : List (V × V)) (H : Hp), RelH T H m S → as.length = ps.length → RepPs T H m ds ps → as.Nodup → (∀ a ∈ as, H a = none) →
    RelH T (putP H as ps) m S ∧ Later H (putP H as ps) m m ∧ RepL T (putP H as ps) m (ds.map fun p => D.tup [p.1, p.2]) (as.map V.ref)
  | [], ds, ps, H, R, hl, r, _, _ => by
    have : ps = [] := List.length_eq_zero_iff.mp hl.symm
    subst this
    cases ds with
    | nil => exact ⟨R, .refl, rfl⟩
    | cons d ds => obtain ⟨_, _, e, _⟩ := r; cases e
  | a :: as, ds, [], H, R, hl, r, _, _ => by cases hl
  | a :: as, [], p :: ps, H, R, hl, r, _, _ => by cases (show p :: ps = [] from r)
  | a :: as, d :: ds, p :: ps, H, R, hl, r, hn, hf => by
    obtain ⟨v, q, e, ⟨r1, r2⟩, r3⟩ := r
    cases e
    obtain ⟨n1, n2⟩ := List.nodup_cons.mp hn
    have ha := hf a List.mem_cons_self
    have L := later_new (H := H) (m := m) (o := .tup [p.1, p.2]) ha
    obtain ⟨R2, L2, r4⟩ := put_rep as ds ps (upd H a (.tup [p.1, p.2])) (R.aside ha) (Nat.succ.inj hl) (RepPs.mono L _ _ r3) n2 fun b hb => by
      rw [upd_ne (fun z => n1 (by rw [← z]; exact hb))]
      exact hf b (List.mem_cons_of_mem _ hb)
    refine ⟨R2, L.trans L2, ?_⟩
    refine ⟨.ref a, as.map V.ref, rfl, ?_, r4⟩
    refine RepV.mono L2 _ _ ⟨a, [p.1, p.2], rfl, .inl ⟨.inl upd_same, R.new ha⟩, p.1, [p.2], rfl, RepV.mono L _ _ r1, p.2, [], rfl, RepV.mono L _ _ r2, rfl⟩
end
section
variable {X : Cx} {pins : List (Addr × Obj)} {σ : L2.St} {H : Hp} {s : Shared}
theorem pairs_laid {h' : Heap} {n S0 c : Nat} {vxs vys : List V} {ixs iys : List Value} {as : List Addr} (I : Inv X pins σ H s) (rx : Vals vxs ixs) (ry : Vals vys iys) (hl : as.length = min ixs.length iys.length) (hz : as.length ≤ sizeLine)
    (hlo : s.heap.objs.size ≤ S0) (hk : ∀ b o, s.heap.get? b = some o → h'.get? b = some o) (hS : h'.get? S0 = some { cls := .type "list", dict := none, data := .seq (as.map Value.ref).toArray c, slots := #[] }) (mk : ZMk (S0 + 1) ixs.toArray iys.toArray h' as) :
    H S0 = none ∧ (∀ t ∈ as, H t = none) ∧ S0 ∉ as ∧ as.Nodup ∧ as.length = (vxs.zip vys).length ∧ Inv X pins σ (upd (putP H as (vxs.zip vys)) S0 (.lst (as.map V.ref))) { s with heap := h' } := by
  have lx := rx.length
  have ly := ry.length
  have hlen : as.length = (vxs.zip vys).length := by rw [List.length_zip, hl]; omega
  have hSn : S0 ∉ as := fun z => absurd (mk.above _ z) (by omega)
  have nd : as.Nodup := mk.rise.imp fun {a b} h => Nat.ne_of_lt h
  have new : ∀ t ∈ as, H t = none := fun t ht => I.hok.fresh (Nat.le_trans hlo (Nat.le_of_lt (mk.above t ht)))
  have newS : H S0 = none := I.hok.fresh hlo
  refine ⟨newS, new, hSn, nd, hlen, ?_⟩
  have off : ∀ b, b ∉ as → b ≠ S0 → upd (putP H as (vxs.zip vys)) S0 (.lst (as.map V.ref)) b = H b := fun b h1 h2 => by rw [upd_ne h2, putP_off as _ _ h1]
  have low : ∀ b o, s.heap.get? b = some o → b ∉ as ∧ b ≠ S0 := fun b o e => ⟨fun z => absurd (Heap.lt_size e) (Nat.not_lt.mpr (Nat.le_trans hlo (Nat.le_of_lt (mk.above b z)))), Nat.ne_of_lt (Nat.lt_of_lt_of_le (Heap.lt_size e) hlo)⟩
  have kp : ∀ b u, H b = some u → (upd (putP H as (vxs.zip vys)) S0 (.lst (as.map V.ref))) b = some u := fun b u e => by
    rw [off b (fun z => by rw [new b z] at e; cases e) (fun z => by rw [z, newS] at e; cases e)]
    exact e
  refine I.call' (ch := []) rfl ⟨fun b o q _ _ _ => hk b o q, fun b o q _ _ _ => ⟨o.slots, hk b o q⟩, fun b o q n _ => ?_, fun b o q _ => ⟨o, hk b o q⟩, fun b xs q => kp b _ q, fun b o u q => kp b _ q, fun b ps q => ⟨#[], by rw [kp b _ q]; simp⟩⟩ (fun b u q => ?_) I.bare fun b z => by simp at z
  · obtain ⟨z1, z2⟩ := low b o q
    rw [off b z1 z2]
    exact n
  · by_cases hb2 : b = S0
    · rw [hb2] at q ⊢
      rw [upd_same] at q
      cases q
      refine ⟨by rw [List.length_map]; exact hz, as.map Value.ref, c, LiI.vals_refs as, hS⟩
    · rw [upd_ne hb2] at q
      by_cases hb : b ∈ as
      · obtain ⟨j, hj⟩ := List.mem_iff_getElem?.mp hb
        obtain ⟨x, y, e1, e2, e3⟩ := mk.pairs j b hj
        have e1' : ixs[j]? = some x := by simpa using e1
        have e2' : iys[j]? = some y := by simpa using e2
        have jx := (List.getElem?_eq_some_iff.mp e1').1
        have jy := (List.getElem?_eq_some_iff.mp e2').1
        have gx : vxs[j]? = some (vxs[j]'(by omega)) := List.getElem?_eq_getElem _
        have gy : vys[j]? = some (vys[j]'(by omega)) := List.getElem?_eq_getElem _
        obtain ⟨u1, hu1, ru1⟩ := rx.get gx
        obtain ⟨u2, hu2, ru2⟩ := ry.get gy
        rw [e1'] at hu1
        rw [e2'] at hu2
        cases hu1
        cases hu2
        have gp : (vxs.zip vys)[j]? = some (vxs[j]'(by omega), vys[j]'(by omega)) := List.getElem?_zip_eq_some.mpr ⟨gx, gy⟩
        rw [putP_at as _ H nd j b _ hj gp] at q
        cases q
        exact ⟨by show 2 ≤ sizeLine; decide, [x, y], .cons ru1 (.cons ru2 .nil), ⟨_, e3, rfl, _, rfl⟩⟩
      · rw [putP_off as _ _ hb] at q
        exact (I.hok b u q).stay (fun d v _ y => hk d v y) (fun d y => kp d _ y) fun d xs y => kp d _ y
end
end TK
end
section
set_option autoImplicit false
set_option linter.all false
set_option maxRecDepth 100000
set_option maxHeartbeats 2000000
namespace TK
open PySem L2 PySem.Spec PyProof.Rows
section
variable {X : Cx} {T : Tb} {W : WX} {a b : Expr} {fa fb : Vs → Sx → TK.R D} {p p2 apos pos : Pos}
def tLZ (K : PySem.W.Frag) (ta : TA) : TE := fun σ H Q => ta σ H fun vs H1 => ∃ l1 l2 vxs vys, vs = [.ref l1, .ref l2] ∧ SqL K H1 l1 vxs ∧ SqL K H1 l2 vys ∧
  ∀ (S0 : Addr) (as : List Addr), H1 S0 = none → (∀ t ∈ as, H1 t = none) → S0 ∉ as → as.Nodup → as.length = (vxs.zip vys).length → Q (.ref S0) (upd (putP H1 as (vxs.zip vys)) S0 (.lst (as.map V.ref)))
theorem pe_lzip {ta : TA} (hc : X.calm = true) (ha : PA X [a, b] ta) (hg : Gl X "list") (hm : X.mg "list" = none) (hv : bootBuiltins "list" = some (.type "list")) (hg2 : Gl X "zip") (hm2 : X.mg "zip" = none)
    (hs : starEach [.Call (.Name "zip" p2) [a, b] [] apos] X.env = (false, eval (.Call (.Name "zip" p2) [a, b] [] apos) X.env) :: starEach [] X.env) (hs2 : starEach [a, b] X.env = (false, eval a X.env) :: starEach [b] X.env) (hpl : (backTo apos (starEach [b] X.env)).any (·.1) = false) :
    PE X (.Call (.Name "list" p) [.Call (.Name "zip" p2) [a, b] [] apos] [] pos) (tLZ X.K ta) := by
  refine ⟨fun pins s σ H Q I hq => ?_⟩
  refine wpAny_Call_Name_kw (ld_blt I hg hm hv ?_)
  refine PyProof.Rows.callWith_type1 ?_ hs rfl
  rw [hs]
  show wpAny _ _ (spliced ((false, eval (.Call (.Name "zip" p2) [a, b] [] apos) X.env) :: backTo pos (starEach [] X.env))) _ _ s
  refine Calls.spliced_cons ?_
  refine Call_ (ld_blt I hg2 hm2 PyProof.Rows.boot_zip (PyProof.Rows.callWith_type1 (thn (ha.run apos pins s σ H _ I hq) fun us s1 ⟨vs, H1, I1, r1, q1⟩ => ?_) hs2 hpl))
  obtain ⟨l1, l2, vxs, vys, ex, hqx, hqy, q⟩ := q1
  subst ex
  cases r1 with
  | cons r rr =>
    cases rr with
    | cons r' rr =>
      cases rr
      cases r
      cases r'
      obtain ⟨its, rv, p1, hz1⟩ := I1.list hqx
      have lx := rv.length
      obtain ⟨its2, rv2, p2, _⟩ := I1.list hqy
      refine call_zip_2 p1.isList p2.isList fun h' hz hTI hTO h1 h2 hsz hk => ?_
      refine Calls.spliced_nil ?_
      have none0 : ∀ c, s1.heap.objs.size ≤ c → s1.heap.get? c = none := fun c hc => by
        cases e : s1.heap.get? c with
        | none => rfl
        | some o => exact absurd (Heap.lt_size e) (Nat.not_lt.mpr hc)
      refine call_list_zip (n := min its.length its2.length) (s := { s1 with heap := h' }) (h0 := s1.heap) (I1.ok.hd hc) (PySem.W.ktu_apart s1.heap.objs.size l1 l2 p1.lt p2.lt) (fun c hcm => ?_) (by simp) ?_ hz hTI hTO h1 h2 (p1.isList.at fun o e => hk _ o e) (p2.isList.at fun o e => hk _ o e) hk fun h'' as c e1 e2 e3 e4 => ?_
      · refine none0 c ?_
        have e' : c = s1.heap.objs.size + 4 ∨ c = s1.heap.objs.size + 3 ∨ c = s1.heap.objs.size ∨ c = s1.heap.objs.size + 1 ∨ c = h'.objs.size := by simpa using hcm
        rcases e' with z | z | z | z | z <;> rw [z] <;> first | exact Nat.le_add_right _ _ | exact Nat.le_refl _ | (rw [hsz]; exact Nat.le_add_right _ _)
      · omega
      · have hle : s1.heap.objs.size ≤ h'.objs.size := by rw [hsz]; exact Nat.le_add_right _ _
        obtain ⟨g1, g2, g3, g4, g5, J⟩ := pairs_laid (n := 0) (h' := h'') I1 rv rv2 e2 (by omega) hle e4 e1 e3
        exact ⟨.ref _, _, J, rfl, q _ as g1 g2 g3 g4 g5⟩
theorem s_lzip {tr : Bool} (hK : X.K = T.K) (hc : X.calm = true) (hst : notStar a = true) (hst2 : notStar b = true) (hst3 : notStar (.Call (.Name ("zip" : Str) p2) [a, b] [] apos) = true) (hg : Gl X "list") (hm : X.mg "list" = none) (hg2 : Gl X "zip") (hm2 : X.mg "zip" = none) (ha : PE X a (rdE T W fa)) (hb : PE X b (rdE T W fb)) :
    PE X (.Call (.Name "list" p) [.Call (.Name "zip" p2) [a, b] [] apos] [] pos) (rdE T W fun s S => (fa s S).bind fun d S => (fb s S).bind fun e S => lzipD tr d e S) := by
  have pa : PA X [a, b] (tCons (rdE T W fa) (tCons (rdE T W fb) tNil)) := pa_cons ha (pa_cons hb pa_nil (star_cons hst2 [] X.env)) (star_cons hst [b] X.env)
  refine PE_imp (pe_lzip hc pa hg hm (by decide +kernel) hg2 hm2 (star_cons hst3 [] X.env) (star_cons hst [b] X.env) (by rw [star_cons hst2 [] X.env]; rfl)) fun σ H Q ⟨s, S, m, hs, hS, h⟩ => ?_
  refine ⟨s, S, m, hs, hS, h.bind.mono fun d S1 H1 m1 L1 R1 q v rv => ?_⟩
  refine ⟨s, S1, m1, hs.mono L1, R1, q.bind.mono fun e S2 H2 m2 L2 R2 q2 u ru => ?_⟩
  unfold lzipD at q2
  split at q2
  · rename_i xs ys ex ey
    have rv2 := RepV.mono L2 _ _ rv
    obtain ⟨l1, rfl, f1⟩ := lst_still R2 rv2 ex
    obtain ⟨vxs, g1, r1⟩ := f1 [] (by simp) H2 m2 S2 .refl R2 (still_now ex)
    obtain ⟨l2, rfl, f2⟩ := lst_still R2 ru ey
    obtain ⟨vys, g2, r2⟩ := f2 [] (by simp) H2 m2 S2 .refl R2 (still_now ey)
    refine ⟨l1, l2, vxs, vys, rfl, by rw [hK]; exact g1, by rw [hK]; exact g2, fun S0 as h1 h2 h3 h4 h5 => ?_⟩
    obtain ⟨R3, L3, r3⟩ := put_rep as (xs.zip ys) (vxs.zip vys) H2 R2 h5 (RepPs.zip _ _ _ _ r1 r2) h4 h2
    exact (Ok.shift L3 q2).lst R3 (by rw [putP_off as _ _ h3]; exact h1) r3
  · exact q2.elim
end
end TK
end
section
set_option autoImplicit false
set_option linter.all false
set_option maxRecDepth 100000
namespace TK
open PySem L2 PySem.Spec PyProof.Rows

/-! ### what the text's names stand for -/
structure TC where
  pos : List Nat
  fns : List (Str × Nat)
  cls : List (Str × (Nat × Nat))
  mts : List (Nat × Str × Nat)
  flds : List (Nat × Str)
  kws : List (Nat × List Str × List D)
  cons : List (Str × Nat)
def blts : List Str := ["len", "tuple", "list", "int", "bool", "str", "max", "min", "isinstance", "range", "all", "enumerate", "zip", "dict", "sorted", "set"]
abbrev Tb.at (T : Tb) (hs : List Addr) : Tb := { T with hid := hs }
structure TOk (T : Tb) (tb : TC) (gc : Nat → D) (G : Gm) (lv : Nat) : Prop where
  fns : ∀ x k, tb.fns.lookup x = some k → T.mg x = some (.ref (T.F k)) ∧ PySem.W.keepIn T.K (.ref (T.F k)) = true
  fo : ∀ k, k ∈ tb.pos → ∀ hs, FOa (T.at hs) lv k (G k)
  cls : ∀ x c k, tb.cls.lookup x = some (c, k) → T.mg x = some (.ref (T.C c)) ∧ Mk T.K (T.C c) (T.F k)
  mts : ∀ c x k, (c, x, k) ∈ tb.mts → Meth T.K (T.C c) x (T.F k) ∧ Cls T.K (T.C c)
  flds : ∀ c f, (c, f) ∈ tb.flds → NoAttr T.K (T.C c) f ∧ Cls T.K (T.C c)
  kws : ∀ k kw dfl, (k, kw, dfl) ∈ tb.kws → ∀ hs, FOk (T.at hs) lv k kw dfl (G k)
  cons : ∀ x j, tb.cons.lookup x = some j → ∃ u v, T.mg x = some u ∧ L2.RelV v u ∧ ∀ hs H m, RepV (T.at hs) H m (gc j) v
  blt : ∀ x ∈ blts, T.mg x = none
/-- where an expression stands -/
structure Ctx (X : Cx) (T : Tb) (W : WX) (N : List Str) (sc : Scope) (lv : Nat) (mkb top tabd : Bool) : Prop where
  same : Same X T
  names : X.N = N
  nd : N.Nodup
  scope : X.env.scope = sc
  calm : X.calm = true
  room : Room (if mkb = true then lv + 1 else lv) X.A
  tk : Takes X W
  fl : Flat W
  fnd : top = true → ∀ x, X.fn x = true
  tab : tabd = true → ∃ c P, X.env.code = .ref c ∧ GxR.TabB X.base X.mg c P ∧ P ∈ T.tabs
  cd : top = true → PySem.W.kdsCode X.K X.env.code = true
section
variable {X : Cx} {T : Tb} {W : WX} {N : List Str} {sc : Scope} {lv : Nat} {mkb top tabd : Bool}
theorem Ctx.roomL (C : Ctx X T W N sc lv mkb top tabd) : Room lv X.A := by
  have := C.room
  cases mkb with
  | true => exact this.mono (Nat.le_succ _)
  | false => exact this
theorem Ctx.room1 (C : Ctx X T W N sc lv true top tabd) : Room (lv + 1) X.A := C.room
theorem Ctx.units (C : Ctx X T W N sc lv mkb top tabd) : X.A.units + 65 < cLine := by have := C.roomL.un; omega
theorem Ctx.hide (C : Ctx X T W N sc lv mkb top tabd) (hs : List Addr) : Ctx X (T.at hs) W N sc lv mkb top tabd := ⟨⟨C.same.P, C.same.w, C.same.K, C.same.mg, C.same.base⟩, C.names, C.nd, C.scope, C.calm, C.room, C.tk, C.fl, C.fnd, C.tab, C.cd⟩
theorem TOk.at_ {tb : TC} {gc : Nat → D} {G : Gm} (O : TOk T tb gc G lv) (hs : List Addr) : TOk (T.at hs) tb gc G lv := ⟨O.fns, O.fo, O.cls, O.mts, O.flds, O.kws, O.cons, O.blt⟩
/-- a comprehension's block -/
theorem Ctx.blk (C : Ctx X T W N sc lv mkb top tabd) (s : Shared) (H : Hp) (scope : Scope) (c : Addr) (cl : List (Str × Addr)) (fp : List Addr) : Ctx (X.blk s H scope (compEnvC scope cl c X.env) fp) T noW N (relS scope sc) lv mkb false false :=
  ⟨⟨C.same.P, C.same.w, C.same.K, C.same.mg, C.same.base⟩, C.names, C.nd, by rw [← C.scope]; rfl, C.calm, C.room, takes_no, flat_no, fun h => (Bool.false_ne_true h).elim, fun h => (Bool.false_ne_true h).elim, fun h => (Bool.false_ne_true h).elim⟩
/-- a generator expression's frame -/
theorem Ctx.gen (C : Ctx X T W N sc lv mkb top tabd) {A' : Around} (hr : Room lv A') (s : Shared) (H : Hp) (scope : Scope) (c : Addr) (code : Value) (fp : List Addr) (pn : List (Addr × Obj)) : Ctx (gcx X A' s H (gEnv X scope c code) fp pn) T noW N scope lv false false false :=
  ⟨⟨C.same.P, C.same.w, C.same.K, C.same.mg, C.same.base⟩, C.names, C.nd, rfl, C.calm, hr, takes_no, flat_no, fun h => (Bool.false_ne_true h).elim, fun h => (Bool.false_ne_true h).elim, fun h => (Bool.false_ne_true h).elim⟩
theorem Ctx.nox (C : Ctx X T W N sc lv mkb top tabd) : Ctx X.nox T noW N sc lv mkb top tabd :=
  ⟨⟨C.same.P, C.same.w, C.same.K, C.same.mg, C.same.base⟩, C.names, C.nd, C.scope, C.calm, C.room, takes_no, flat_no, C.fnd, C.tab, C.cd⟩
end

/-! ### what must be seen of the text -/
def isKind (sc : Scope) (x : Str) (k : NameKind) : Bool := decide (sc.names.lookup x = some k)
def isVis (sc : Scope) (x : Str) : Bool := isKind sc x .local || isKind sc x .cell || isKind sc x .free
/-- a name that is stored to -/
def isTgt (top : Bool) (sc : Scope) (x : Str) : Bool := isKind sc x .local || (top && isKind sc x .cell)
def isGl (sc : Scope) (x : Str) : Bool := isKind sc x .globalImplicit
def notDbg (x : Str) : Bool := decide (x ≠ "__debug__" ∧ x ≠ "__classdict__" ∧ x ≠ "__name__")
def plainIx : Expr → Bool
  | .Slice _ _ _ _ => false
  | _ => true
/-- the parts of xs[k::2] -/
def isC (n : Int) : Expr → Bool
  | .Constant (.int m) _ _ => decide (m = n)
  | _ => false
def stpOk (k : Bool) (lo : Option Expr) (st : Expr) : Bool := isC 2 st && (match k, lo with
  | false, none => true
  | true, some e => isC 1 e
  | _, _ => false)
theorem isC_of {n : Int} {e : Expr} (h : isC n e = true) : ∃ k p, e = .Constant (.int n) k p := by
  unfold isC at h
  split at h
  · rename_i m k p
    exact ⟨_, _, by rw [of_decide_eq_true h]⟩
  · cases h
theorem stpOk_of {k : Bool} {lo : Option Expr} {st : Expr} (h : stpOk k lo st = true) : (∃ k1 p1, st = .Constant (.int 2) k1 p1) ∧ ((k = false ∧ lo = none) ∨ (k = true ∧ ∃ k2 p2, lo = some (.Constant (.int 1) k2 p2))) := by
  unfold stpOk at h
  rw [Bool.and_eq_true] at h
  refine ⟨isC_of h.1, ?_⟩
  have h2 := h.2
  split at h2
  · exact .inl ⟨rfl, rfl⟩
  · obtain ⟨a, b, e⟩ := isC_of h2
    exact .inr ⟨rfl, a, b, by rw [e]⟩
  · cases h2
mutual
def ckG (top : Bool) (N : List Str) (sc : Scope) : Tg → Expr → Bool
  | .nm i, .Name x _ => decide (N[i]? = some x) && isTgt top sc x
  | .tp ts, .Tuple es _ _ => es.all notStar && ckGs top N sc ts es
  | _, _ => false
def ckGs (top : Bool) (N : List Str) (sc : Scope) : List Tg → List Expr → Bool
  | [], [] => true
  | t :: ts, e :: es => ckG top N sc t e && ckGs top N sc ts es
  | _, _ => false
end
def ckC (d : D) (c : Const) : Bool := match d, c with
  | .non, .none => true
  | .bl a, .bool b => decide (a = b)
  | .int a, .int b => decide (a = b)
  | .str a, .str b => decide (a = b)
  | _, _ => false
def ownOf (N : List Str) (vs : List Nat) : List (Str × Nat) := vs.map fun i => (N[i]?.getD "", i)
def kfit (q : Key) (e : Expr) : Bool := match e, q with
  | .Constant (.str x) _ _, .inr y => decide (x = y)
  | .Constant (.int n) _ _, .inl m => decide (n = m)
  | _, _ => false
def ckK : List Key → List (Option Expr) → Bool
  | [], [] => true
  | q :: qs, some e :: es => kfit q e && ckK qs es
  | _, _ => false
/-- every value of a test that is asked as it stands -/
def plainT : Expr → Bool
  | .UnaryOp .Not _ _ => false
  | .BoolOp _ _ _ => false
  | .IfExp _ _ _ _ => false
  | .Compare _ _ _ _ => false
  | _ => true
theorem plain_true {a : Expr} {env : PySem.Env} (h : plainT a = true) : ∀ whole, isTrue a env whole = (do let v ← whole; standAt a.pos; holding [v] (truthy v)) := by
  intro whole
  cases a <;> first
    | rfl
    | (rename_i op x p; cases op <;> first | rfl | cases h)
    | cases h
def tyOf : String → Bool
  | t => decide (t ∈ ["int", "bool", "tuple", "list", "str"])
/-- where an expression stands: a new instance may be made; stores to cells; the table -/
structure KC where
  mkb : Bool
  top : Bool
  tabd : Bool
  sc : Scope
section
variable (tb : TC)
mutual
def ckE (N : List Str) : KC → E → Expr → Bool
  | q, .v i, .Name x _ => decide (N[i]? = some x) && isVis q.sc x && notDbg x
  | q, .c d, .Constant c _ _ => ckC d c
  | q, .g j, .Name x _ => decide (tb.cons.lookup x = some j) && isGl q.sc x && notDbg x
  | q, .bin o a b, .BinOp a' o' b' _ => decide (o' = o.py) && ckE N q a a' && ckE N q b b'
  | q, .neg a, .UnaryOp .USub a' _ => ckE N q a a'
  | q, .not a, .UnaryOp .Not a' _ => ckE N q a a'
  | q, .and es, .BoolOp .And as _ => ckEs N q es as && !as.isEmpty
  | q, .or es, .BoolOp .Or as _ => ckEs N q es as && !as.isEmpty
  | q, .cmp o a b, .Compare a' [o'] [b'] _ => decide (o' = o.py) && !(behindInMarks o.py b') && ckE N q a a' && ckE N q b b'
  | q, .chain o p a b c, .Compare a' [o', p'] [b', c'] _ => decide (o' = o.py) && decide (p' = p.py) && !(lastMarks [o.py, p.py] [b', c']) && ckE N q a a' && ckE N q b b' && ckE N q c c'
  | q, .ife t a b, .IfExp t' a' b' _ => ckE N q t t' && ckE N q a a' && ckE N q b b'
  | q, .sub a i, .Subscript a' i' _ => plainIx i' && ckE N q a a' && ckE N q i i'
  | q, .dget a i, .Subscript a' i' _ => plainIx i' && ckE N q a a' && ckE N q i i'
  | q, .slc a lo hi, .Subscript a' (.Slice lo' hi' none _) _ => ckE N q a a' && ckO N q lo lo' && ckO N q hi hi'
  | q, .tup es, .Tuple as _ _ => ckEs N q es as
  | q, .lst tr es, .List as _ => ckEs N q es as
  | q, .dct tr [] .nil, .Dict [] [] _ => true
  | q, .dnew, .Dict [] [] _ => true
  | q, .dn1 k a, .Dict [some k'] [a'] _ => ckE N q k k' && ckE N q a a'
  | q, .addl a b, .BinOp a' o' b' _ => decide (o' = .Add) && ckE N q a a' && ckE N q b b'
  | q, .gf k, .Name x _ => decide (tb.fns.lookup x = some k) && isGl q.sc x && notDbg x
  | q, .callv i ks md es, .Call (.Name x _) as [] _ => decide (N[i]? = some x) && isVis q.sc x && notDbg x && (ks.all fun k => decide (k ∈ tb.pos) && tb.fns.any fun r => decide (tb.fns.lookup r.1 = some k)) && !as.isEmpty && ckEs N q es as
  | q, .dcp a, .Call (.Name x _) [a'] [] _ => decide (x = "dict") && isGl q.sc x && notStar a' && ckE N q a a'
  | q, .srt tr a, .Call (.Name x _) [a'] [] _ => decide (x = "sorted") && isGl q.sc x && notStar a' && ckE N q a a'
  | q, .srts a, .Call (.Name x _) [.Call (.Name y _) [a'] [] _] [] _ => decide (x = "sorted") && decide (y = "set") && isGl q.sc x && isGl q.sc y && notStar a' && ckE N q a a'
  | q, .sn1 a, .Set [a'] k _ => q.top && decide (k = 0) && notStar a' && ckE N q a a'
  | q, .sadd a b, .Call (.Attribute a' x' apos) [b'] [] pos => decide (x' = "add") && notSup a' && (apos.endLine == pos.line) && notStar b' && ckE N q a a' && ckE N q b b'
  | q, .splt tr o a, .Call (.Attribute o' x p1) [a'] [] p2 => decide (x = "split") && notSup o' && (p1.endLine == p2.line) && notStar a' && ckE N q o o' && ckE N q a a'
  | q, .stp2 tr k a, .Subscript a' (.Slice lo none (some st) _) _ => stpOk k lo st && ckE N q a a'
  | q, .lzip tr a b, .Call (.Name x _) [.Call (.Name y _) [a', b'] [] _] [] _ => decide (x = "list") && decide (y = "zip") && isGl q.sc x && isGl q.sc y && notStar a' && notStar b' && ckE N q a a' && ckE N q b b'
  | q, .rev tr a, .Subscript a' (.Slice none none (some (.UnaryOp .USub (.Constant (.int n) _ _) _)) _) _ => decide (n = 1) && ckE N q a a'
  | q, .dgetd a i x, .Call (.Attribute a' y apos) [i', x'] [] pos => decide (y = "get") && notSup a' && (apos.endLine == pos.line) && notStar i' && notStar x' && ckE N q a a' && ckE N q i i' && ckE N q x x'
  | q, .dct tr ks es, .Dict keys as _ => ckEs N q es as && ckK ks keys && decide (keys.length = as.length ∧ keys ≠ [] ∧ keys.length ≤ 15)
  | q, .b1 f a, .Call (.Name x _) [a'] [] _ => decide (x = f.name) && isGl q.sc x && notStar a' && ckE N q a a'
  | q, .join o a, .Call (.Attribute o' x p1) [a'] [] p2 => decide (x = "join") && notSup o' && (p1.endLine == p2.line) && notStar a' && ckE N q o o' && ckE N q a a'
  | q, .mm m a b, .Call (.Name x _) [a', b'] [] _ => decide (x = mmN m) && isGl q.sc x && notStar a' && notStar b' && ckE N q a a' && ckE N q b b'
  | q, .isi t a, .Call (.Name x _) [a', .Name n _] [] _ => decide (x = "isinstance") && isGl q.sc x && notStar a' && isGl q.sc n && decide (n = Str.ofString t) && decide (bootBuiltins n = some (.type t)) && decide (n ∈ blts) && ckE N q a a'
  | q, .fld c a f, .Attribute a' f' _ => decide (f' = f) && decide ((c, f) ∈ tb.flds) && notSup a' && ckE N q a a'
  | q, .call k md es, .Call (.Name x _) as [] _ => decide (tb.fns.lookup x = some k) && decide (k ∈ tb.pos) && isGl q.sc x && notDbg x && ckEs N q es as
  | q, .new c k md es, .Call (.Name x _) as [] _ => q.mkb && decide (tb.cls.lookup x = some (c, k)) && decide (k ∈ tb.pos) && isGl q.sc x && notDbg x && ckEs N q es as
  | q, .newK c k md kw dfl es, .Call (.Name x _) [] kws _ => q.mkb && decide (tb.cls.lookup x = some (c, k)) && decide ((k, kw, dfl) ∈ tb.kws) && isGl q.sc x && notDbg x && kwOk kws kw && ckKw N q es kws
  | q, .mt c k md a x es, .Call (.Attribute a' x' apos) as [] pos => decide (x' = x) && decide ((c, x, k) ∈ tb.mts) && decide (k ∈ tb.pos) && notSup a' && (apos.endLine == pos.line) && decide (as.length < 30) && ckE N q a a' && ckEs N q es as
  | q, .app a b, .Call (.Attribute a' x' apos) [b'] [] pos => decide (x' = "append") && notSup a' && (apos.endLine == pos.line) && notStar b' && ckE N q a a' && ckE N q b b'
  | q, .ext a b, .Call (.Attribute a' x' apos) [b'] [] pos => decide (x' = "extend") && notSup a' && (apos.endLine == pos.line) && notStar b' && ckE N q a a' && ckE N q b b'
  | q, .pop a, .Call (.Attribute a' x' apos) [] [] pos => decide (x' = "pop") && notSup a' && (apos.endLine == pos.line) && ckE N q a a'
  | q, .popi a b, .Call (.Attribute a' x' apos) [b'] [] pos => decide (x' = "pop") && notSup a' && (apos.endLine == pos.line) && notStar b' && ckE N q a a' && ckE N q b b'
  | q, .lc tr tg it cond elt vs, .ListComp elt' gens scope _ => (match gens with
    | [⟨tg', iter', ifs', 0⟩] => ckI N q tg' it iter' && blkC N q.sc scope (ownOf N vs) && decide (∀ i ∈ tg.slots, i ∈ vs) && notSet iter' && ckG false N (relS scope q.sc) tg tg' && ckIf N ⟨q.mkb, false, false, relS scope q.sc⟩ cond ifs' && ckE N ⟨q.mkb, false, false, relS scope q.sc⟩ elt elt'
    | _ => false)
  | q, .lc2 tr tg tg1 it a1 elt vs vs1, .ListComp elt' gens scope _ => (match gens with
    | [⟨tg', iter', [], 0⟩, ⟨tg1', iter1', [], 0⟩] => ckI N q tg' it iter' && blkC N q.sc scope (ownOf N vs) && decide (∀ i ∈ tg.slots, i ∈ vs) && decide (∀ i ∈ tg1.slots, i ∈ vs1) && decide (∀ i ∈ vs1, i ∈ vs) && notSet iter' && notSet iter1' && ckG false N (relS scope q.sc) tg tg' && ckE N ⟨q.mkb, false, false, relS scope q.sc⟩ a1 iter1' && ckG false N (relS scope q.sc) tg1 tg1' && ckE N ⟨q.mkb, false, false, relS scope q.sc⟩ elt elt'
    | _ => false)
  | q, .all tg it elt vs, .Call (.Name x _) [.GeneratorExp elt' gens scope _] [] _ => (match gens with
    | [⟨tg', iter', [], 0⟩] => q.mkb && q.tabd && decide (x = "all") && isGl q.sc x && ckI N q tg' it iter' && blkC N q.sc scope (ownOf N vs) && decide (∀ i ∈ tg.slots, i ∈ vs) && (match iter' with | .Set _ _ _ => false | .List _ _ => false | _ => true) && decide (scope.isCoroutine = false) && (scope.names.all fun y => decide (y.2 ≠ .cell)) && isKind scope ".0" .local &&
        ckG false N scope tg tg' && ckE N ⟨false, false, false, scope⟩ elt elt'
    | _ => false)
  | _, _, _ => false
def ckEs (N : List Str) : KC → Es → List Expr → Bool
  | q, .nil, [] => true
  | q, .cons e es, a :: as => notStar a && ckE N q e a && ckEs N q es as
  | _, _, _ => false
def ckKw (N : List Str) : KC → Es → List Keyword → Bool
  | q, .nil, [] => true
  | q, .cons e es, ⟨_, a, _⟩ :: as => ckE N q e a && ckKw N q es as
  | _, _, _ => false
def ckO (N : List Str) : KC → Eo → Option Expr → Bool
  | q, .none, none => true
  | q, .some e, some a => ckE N q e a
  | _, _, _ => false
/-- a clause's tests -/
def ckIf (N : List Str) : KC → Eo → List Expr → Bool
  | q, .none, [] => true
  | q, .some e, [a] => ckE N q e a
  | _, _, _ => false
def ckI (N : List Str) : KC → Expr → It → Expr → Bool
  | q, _, .e a, a' => ckE N q a a'
  | q, _, .rng .none a, .Call (.Name x _) [a'] [] _ => decide (x = "range") && isGl q.sc x && notStar a' && ckE N q a a'
  | q, _, .rng (.some a) b, .Call (.Name x _) [a', b'] [] _ => decide (x = "range") && isGl q.sc x && notStar a' && notStar b' && ckE N q a a' && ckE N q b b'
  | q, .Tuple _ _ _, .enum a, .Call (.Name x _) [a'] [] _ => decide (x = "enumerate") && isGl q.sc x && notStar a' && ckE N q a a'
  | _, _, _, _ => false
end
end
end TK
end
section
set_option autoImplicit false
set_option linter.all false
set_option maxRecDepth 100000
set_option maxHeartbeats 4000000
namespace TK
open PySem L2 PySem.Spec PyProof.Rows

section
variable {X : Cx} {T : Tb} {W : WX} {a b c o i : Expr} {as : List Expr} {fa fb fc : Vs → Sx → TK.R D} {fs : Vs → Sx → TK.R (List D)} {pos apos p : Pos} {sc : Scope} {x : Str}
theorem pair (hK : X.K = T.K) (h : PE X a (rdE T W fa)) (hp : plainT a = true) : PE X a (rdE T W (mk fa).val) ∧ PT X a (rdT T W (mk fa).tst) := ⟨h, s_truth hK h (plain_true hp)⟩
theorem kind_of {k : NameKind} (h : isKind sc x k = true) : sc.names.lookup x = some k := of_decide_eq_true h
theorem vis_of (h : isVis sc x = true) : Vis sc x := by
  unfold isVis at h
  simp only [Bool.or_eq_true] at h
  rcases h with (h | h) | h
  · exact .inl (kind_of h)
  · exact .inr (.inl (kind_of h))
  · exact .inr (.inr (kind_of h))
theorem gl_of (hs : X.env.scope = sc) (h : isGl sc x = true) : Gl X x := by
  show X.env.scope.names.lookup x = _
  rw [hs]
  exact kind_of h
theorem dbg_of (h : notDbg x = true) : (x == ("__debug__" : Str)) = false ∧ (x == ("__classdict__" : Str)) = false ∧ x ≠ "__name__" := by
  obtain ⟨h1, h2, h3⟩ := of_decide_eq_true h
  exact ⟨beq_eq_false_iff_ne.mpr h1, beq_eq_false_iff_ne.mpr h2, h3⟩
theorem plain_ix (h : plainIx a = true) : PlainIx a := by
  cases a <;> first | (cases h; done) | (intros; rfl) | exact trivial | (unfold PlainIx; intros; rfl)
theorem noSl_of (h : plainIx a = true) : NoSl a := by
  cases a <;> first | (cases h; done) | (intros; rfl) | exact trivial | (unfold NoSl; intros; first | rfl | nofun)
theorem e_var {k : Nat} (hN : X.N[k]? = some x) (hv : Vis X.env.scope x) (hd : (x == ("__debug__" : Str)) = false) (hcd : (x == ("__classdict__" : Str)) = false) : PE X (.Name x pos) (rdE T W fun s S => lift (s.getD k none) S) :=
  PE_imp (pe_var hN hv hd hcd) fun σ H Q ⟨s, S, m, hs, hS, h⟩ => by
    obtain ⟨d, e, q⟩ := lift_ok h
    obtain ⟨v, e1, rv⟩ := hs.2 k d e
    exact ⟨v, e1, q.here hS rv⟩
theorem tC_of {v : V} {d : D} (h : PE X a (tC v)) (hd : ∀ H m, RepV T H m d v) : PE X a (rdE T W fun _ S => .ok d S) :=
  PE_imp h fun σ H Q ⟨s, S, m, hs, hS, h⟩ => h.here hS (hd H m)
theorem e_const {d : D} {k : Const} {n : Nat} (h : ckC d k = true) : PE X (.Constant k n pos) (rdE T W fun _ S => .ok d S) := by
  unfold ckC at h
  split at h
  · exact tC_of pe_non fun _ _ => rfl
  · cases of_decide_eq_true h
    exact tC_of pe_bl fun _ _ => rfl
  · cases of_decide_eq_true h
    exact tC_of pe_int fun _ _ => rfl
  · cases of_decide_eq_true h
    exact tC_of pe_str fun _ _ => rfl
  · cases h
theorem PE_bool1 {op : BoolOp} {t : TE} (h : PE X a t) : PE X (.BoolOp op [a] pos) t := ⟨fun pins s σ H Q I q => h.run pins s σ H Q I q⟩
theorem own_snd (N : List Str) (vs : List Nat) : (ownOf N vs).map (·.2) = vs := by
  unfold ownOf
  rw [List.map_map]
  exact List.map_id vs
theorem loc_of {top : Bool} (hs : X.env.scope = sc) (hf : top = true → ∀ x, X.fn x = true) (h : isTgt top sc x = true) : Loc X.env.scope x ∧ (X.fn x = true ∨ X.env.scope.names.lookup x = some .local) := by
  rw [hs]
  unfold isTgt at h
  simp only [Bool.or_eq_true, Bool.and_eq_true] at h
  rcases h with h | ⟨h1, h⟩
  · exact ⟨.inl (kind_of h), .inr (kind_of h)⟩
  · exact ⟨.inr (kind_of h), .inl (hf h1 x)⟩
mutual
theorem okG {N : List Str} {top : Bool} (hN : X.N = N) (nd : N.Nodup) (hs : X.env.scope = sc) (hf : top = true → ∀ x, X.fn x = true) (hK : X.K = T.K) (hc : X.calm = true) : ∀ (t : Tg) (e : Expr), ckG top N sc t e = true → PG X e (rdG T t)
  | .nm k, e, h => by
    cases e with
    | Name x p =>
      simp only [ckG, Bool.and_eq_true, decide_eq_true_eq] at h
      obtain ⟨h1, h2⟩ := loc_of hs hf h.2
      exact s_gname (by rw [hN]; exact nd) (by rw [hN]; exact h.1) h1 h2
    | _ => simp [ckG] at h
  | .tp ts, e, h => by
    cases e with
    | Tuple es k p =>
      simp only [ckG, Bool.and_eq_true] at h
      obtain ⟨h1, h2⟩ := okGs hN nd hs hf hK hc ts es h.1 h.2
      exact s_gtup hK hc h.1 h1 h2
    | _ => simp [ckG] at h
theorem okGs {N : List Str} {top : Bool} (hN : X.N = N) (nd : N.Nodup) (hs : X.env.scope = sc) (hf : top = true → ∀ x, X.fn x = true) (hK : X.K = T.K) (hc : X.calm = true) : ∀ (ts : List Tg) (es : List Expr), es.all notStar = true → ckGs top N sc ts es = true → es.length = ts.length ∧ PGs X es (rdGs T ts)
  | [], [], _, _ => ⟨rfl, s_gs_nil⟩
  | t :: ts, e :: es, hst, h => by
    simp only [ckGs, Bool.and_eq_true] at h
    rw [List.all_cons, Bool.and_eq_true] at hst
    obtain ⟨h1, h2⟩ := okGs hN nd hs hf hK hc ts es hst.2 h.2
    exact ⟨by simp [h1], s_gs_cons hst.1 (okG hN nd hs hf hK hc t e h.1) h2⟩
  | [], _ :: _, _, h => by simp [ckGs] at h
  | _ :: _, [], _, h => by simp [ckGs] at h
end
end
end TK
end
section
set_option autoImplicit false
set_option linter.all false
set_option maxRecDepth 100000
set_option maxHeartbeats 0
set_option maxHeartbeats 8000000
namespace TK
open PySem L2 PySem.Spec PyProof.Rows

section
variable {X : Cx} {T : Tb} {W : WX} {a b c o i : Expr} {as : List Expr} {fa fb fc : Vs → Sx → TK.R D} {fs : Vs → Sx → TK.R (List D)} {pos apos p : Pos} {sc : Scope} {x : Str}
theorem e_glob {gc : Nat → D} {G : Gm} {tb : TC} {lv j : Nat} (E : Same X T) (hs : X.env.scope = sc) (O : TOk T tb gc G lv) (h1 : tb.cons.lookup x = some j) (h2 : isGl sc x = true) (h3 : notDbg x = true) : PE X (.Name x pos) (rdE T W fun _ S => .ok (gc j) S) := by
  obtain ⟨u, v, e1, e2, e3⟩ := O.cons x j h1
  exact tC_of (pe_glob (gl_of hs h2) (by rw [E.mg]; exact e1) e2 (dbg_of h3).1) fun H m => e3 T.hid H m
theorem genFold_not {iter : Expr} {env : PySem.Env} (h : (match iter with | .Set _ _ _ => false | .List _ _ => false | _ => true) = true) (v : Value) : genFold iter env v = pure v := by
  cases iter <;> first | rfl | cases h
theorem keys_some : ∀ {ks : List Key} {keys : List (Option Expr)}, ckK ks keys = true → keys.all (·.isSome) = true ∧ keys.length = ks.length
  | [], [], _ => ⟨rfl, rfl⟩
  | q :: qs, some e :: es, h => by
    simp only [ckK, Bool.and_eq_true] at h
    obtain ⟨h1, h2⟩ := keys_some h.2
    exact ⟨by simpa using h1, by simp [h2]⟩
  | [], _ :: _, h => by simp [ckK] at h
  | _ :: _, [], h => by simp [ckK] at h
  | _ :: _, none :: _, h => by simp [ckK] at h
end
section
variable {tb : TC} {gc : Nat → D} {G : Gm} {lv : Nat} {N : List Str}
mutual
theorem okE (e : E) (a : Expr) (q : KC) (X : Cx) (T : Tb) (W : WX) (h : ckE tb N q e a = true) (C : Ctx X T W N q.sc lv q.mkb q.top q.tabd) (O : TOk T tb gc G lv) : PE X a (rdE T W (ev gc G e).val) ∧ PT X a (rdT T W (ev gc G e).tst) := by
  have hK : X.K = T.K := C.same.K
  have hs : X.env.scope = q.sc := C.scope
  have hu := C.units
  have blt : ∀ x, decide (x ∈ blts) = true → X.mg x = none := fun x hx => by rw [C.same.mg]; exact O.blt x (of_decide_eq_true hx)
  unfold ckE at h
  split at h
  · -- v
    rename_i i x p
    simp only [Bool.and_eq_true, decide_eq_true_eq] at h
    obtain ⟨⟨h1, h2⟩, h3⟩ := h
    exact pair hK (e_var (by rw [C.names]; exact h1) (by rw [hs]; exact vis_of h2) (dbg_of h3).1 (dbg_of h3).2.1) rfl
  · -- c
    exact pair hK (e_const h) rfl
  · -- g
    rename_i j x p
    simp only [Bool.and_eq_true, decide_eq_true_eq] at h
    exact pair hK (e_glob C.same hs O h.1.1 h.1.2 h.2) rfl
  · -- bin
    rename_i o a b a' o' b' p
    simp only [Bool.and_eq_true, decide_eq_true_eq] at h
    obtain ⟨⟨rfl, h1⟩, h2⟩ := h
    exact pair hK (s_bin hK o (okE a a' q X T W h1 C O).1 (okE b b' q X T W h2 C O).1) rfl
  · -- neg
    rename_i a a' p
    exact pair hK (s_neg (okE a a' q X T W h C O).1) rfl
  · -- not
    rename_i a a' p
    exact ⟨s_not hK (okE a a' q X T W h C O).1, s_notT (okE a a' q X T W h C O).2⟩
  · -- and
    rename_i es as p
    simp only [Bool.and_eq_true] at h
    have := okB es as q X T W h.1 (by simpa using h.2) C O p
    exact ⟨this.2.2.1, this.1.pt⟩
  · -- or
    rename_i es as p
    simp only [Bool.and_eq_true] at h
    have := okB es as q X T W h.1 (by simpa using h.2) C O p
    exact ⟨this.2.2.2, this.2.1.pt⟩
  · -- cmp
    rename_i o a b a' o' b' p
    simp only [Bool.and_eq_true, decide_eq_true_eq, Bool.not_eq_true'] at h
    obtain ⟨⟨⟨rfl, h0⟩, h1⟩, h2⟩ := h
    exact s_cmp C.same hu o h0 (okE a a' q X T W h1 C O).1 (okE b b' q X T W h2 C O).1
  · -- chain
    rename_i o o2 a b c a' o' o2' b' c' p
    simp only [Bool.and_eq_true, decide_eq_true_eq, Bool.not_eq_true'] at h
    obtain ⟨⟨⟨⟨⟨rfl, rfl⟩, h0⟩, h1⟩, h2⟩, h3⟩ := h
    exact s_chain C.same hu o o2 h0 (okE a a' q X T W h1 C O).1 (okE b b' q X T W h2 C O).1 (okE c c' q X T W h3 C O).1
  · -- ife
    rename_i t a b t' a' b' p
    simp only [Bool.and_eq_true] at h
    exact ⟨s_ife (okE t t' q X T W h.1.1 C O).2 (okE a a' q X T W h.1.2 C O).1 (okE b b' q X T W h.2 C O).1, PT_bad fun _ _ => rfl⟩
  · -- sub
    rename_i a i a' i' p
    simp only [Bool.and_eq_true] at h
    exact pair hK (s_sub hK (plain_ix h.1.1) (okE a a' q X T W h.1.2 C O).1 (okE i i' q X T W h.2 C O).1) rfl
  · -- dget
    rename_i a i a' i' p
    simp only [Bool.and_eq_true] at h
    exact pair hK (s_dget C.same hu (okE a a' q X T W h.1.2 C O).1 (okE i i' q X T W h.2 C O).1 (noSl_of h.1.1)) rfl
  · -- slc
    rename_i a lo hi a' lo' hi' p1 p2
    simp only [Bool.and_eq_true] at h
    exact pair hK (s_slc hK (okE a a' q X T W h.1.1 C O).1 (okO lo lo' q X T W h.1.2 C O) (okO hi hi' q X T W h.2 C O)) rfl
  · -- tup
    rename_i es as k p
    exact pair hK (s_tup (okEs es as q X T W h C O).1) rfl
  · -- lst
    rename_i tr es as p
    exact pair hK (s_lst (tr := tr) (okEs es as q X T W h C O).1) rfl
  · -- dct0
    rename_i tr p
    exact pair hK (s_dct0 (tr := tr)) rfl
  · -- dnew
    exact pair hK (s_dnew C.same) rfl
  · -- dn1
    rename_i k a k' a' p
    simp only [Bool.and_eq_true] at h
    exact pair hK (s_dn1 C.same hu (fun p => (okE k k' q X (T.at (p :: T.hid)) W h.1 (C.hide _) (O.at_ _)).1) (fun p => (okE a a' q X (T.at (p :: T.hid)) W h.2 (C.hide _) (O.at_ _)).1)) rfl
  · -- addl
    rename_i a b a' o' b' p
    simp only [Bool.and_eq_true, decide_eq_true_eq] at h
    obtain ⟨⟨rfl, h1⟩, h2⟩ := h
    exact pair hK (s_addl (okE a a' q X T W h1 C O).1 (okE b b' q X T W h2 C O).1) rfl
  · -- gf
    rename_i k x p
    simp only [Bool.and_eq_true, decide_eq_true_eq] at h
    obtain ⟨⟨h1, h2⟩, h3⟩ := h
    obtain ⟨k1, k2⟩ := O.fns x k h1
    exact pair hK (tC_of (pe_glob (gl_of hs h2) (by rw [C.same.mg]; exact k1) (v := .ref (T.F k)) rfl (dbg_of h3).1) fun H m => rfl) rfl
  · -- callv
    rename_i i ks md es x p1 as p2
    simp only [Bool.and_eq_true, decide_eq_true_eq] at h
    obtain ⟨⟨⟨⟨⟨h1, h2⟩, h3⟩, h4⟩, h5⟩, h6⟩ := h
    obtain ⟨e1, e2, e3⟩ := okEs es as q X T W h6 C O
    exact pair hK (s_callv (md := md) C.same (fun k hk => by
      have h7 := List.all_eq_true.mp h4 k hk
      simp only [Bool.and_eq_true, decide_eq_true_eq] at h7
      obtain ⟨r, _, h9⟩ := List.any_eq_true.mp h7.2
      exact ⟨O.fo k h7.1 T.hid, (O.fns r.1 k (of_decide_eq_true h9)).2⟩) C.roomL (by rw [C.names]; exact h1) (by rw [hs]; exact vis_of h2) (dbg_of h3).1 (dbg_of h3).2.1 C.tk C.fl e2 (by intro h; rw [h] at h5; cases h5) e1) rfl
  · -- dcp
    rename_i a x p1 a' p2
    simp only [Bool.and_eq_true, decide_eq_true_eq] at h
    obtain ⟨⟨⟨rfl, h1⟩, h2⟩, h3⟩ := h
    exact pair hK (s_dcp h2 (gl_of hs h1) (blt _ (by decide +kernel)) (okE a a' q X T W h3 C O).1) rfl
  · -- srt
    rename_i tr a x p1 a' p2
    simp only [Bool.and_eq_true, decide_eq_true_eq] at h
    obtain ⟨⟨⟨rfl, h1⟩, h2⟩, h3⟩ := h
    exact pair hK (s_srt hK tr h2 (gl_of hs h1) (blt _ (by decide +kernel)) (okE a a' q X T W h3 C O).1) rfl
  · -- srts
    rename_i a x p1 y p2 a' p3 p4
    simp only [Bool.and_eq_true, decide_eq_true_eq] at h
    obtain ⟨⟨⟨⟨⟨rfl, rfl⟩, h1⟩, h2⟩, h3⟩, h4⟩ := h
    exact pair hK (s_srts hK C.calm h3 rfl (gl_of hs h1) (blt _ (by decide +kernel)) (gl_of hs h2) (blt _ (by decide +kernel)) (okE a a' q X T W h4 C O).1) rfl
  · -- sn1
    rename_i a a' k p
    simp only [Bool.and_eq_true, decide_eq_true_eq] at h
    obtain ⟨⟨⟨h0, rfl⟩, h2⟩, h3⟩ := h
    exact pair hK (s_sn1 C.same hu (C.cd h0) h2 (fun p => (okE a a' q X (T.at (p :: T.hid)) W h3 (C.hide _) (O.at_ _)).1)) rfl
  · -- sadd
    rename_i a b a' x' apos b' p2
    simp only [Bool.and_eq_true, decide_eq_true_eq] at h
    obtain ⟨⟨⟨⟨⟨rfl, h1⟩, h2⟩, h3⟩, h4⟩, h5⟩ := h
    exact pair hK (s_sadd C.same hu h1 h2 h3 (okE a a' q X T W h4 C O).1 (okE b b' q X T W h5 C O).1) rfl
  · -- splt
    rename_i tr o a o' x p1 a' p2
    simp only [Bool.and_eq_true, decide_eq_true_eq] at h
    obtain ⟨⟨⟨⟨⟨rfl, h1⟩, h2⟩, h3⟩, h4⟩, h5⟩ := h
    exact pair hK (s_splt h1 h2 h3 (okE o o' q X T W h4 C O).1 (okE a a' q X T W h5 C O).1) rfl
  · -- stp2
    rename_i tr k a a' lo st p1 p
    simp only [Bool.and_eq_true] at h
    obtain ⟨⟨k1, q1, rfl⟩, ⟨rfl, rfl⟩ | ⟨rfl, k2, q2, rfl⟩⟩ := stpOk_of h.1
    · exact pair hK (stp_of hK (pe_stp0 (okE a a' q X T W h.2 C O).1)) rfl
    · exact pair hK (stp_of hK (pe_stp1 (okE a a' q X T W h.2 C O).1)) rfl
  · -- lzip
    rename_i tr a b x p1 y p2 a' b' p3 p4
    simp only [Bool.and_eq_true, decide_eq_true_eq] at h
    obtain ⟨⟨⟨⟨⟨⟨⟨rfl, rfl⟩, h1⟩, h2⟩, h3⟩, h4⟩, h5⟩, h6⟩ := h
    exact pair hK (s_lzip hK C.calm h3 h4 rfl (gl_of hs h1) (blt _ (by decide +kernel)) (gl_of hs h2) (blt _ (by decide +kernel)) (okE a a' q X T W h5 C O).1 (okE b b' q X T W h6 C O).1) rfl
  · -- rev
    rename_i tr a a' n k p1 p2 p3 p
    simp only [Bool.and_eq_true, decide_eq_true_eq] at h
    obtain ⟨rfl, h1⟩ := h
    exact pair hK (s_rev (okE a a' q X T W h1 C O).1) rfl
  · -- dgetd
    rename_i a i x a' y apos i' x' pos
    simp only [Bool.and_eq_true, decide_eq_true_eq] at h
    obtain ⟨⟨⟨⟨⟨⟨⟨rfl, h1⟩, h2⟩, h3⟩, h4⟩, h5⟩, h6⟩, h7⟩ := h
    exact pair hK (s_dgetd hK (by omega) h1 h2 h3 h4 (okE a a' q X T W h5 C O).1 (okE i i' q X T W h6 C O).1 (okE x x' q X T W h7 C O).1) rfl
  · -- dct
    rename_i tr ks es keys as p hno
    simp only [Bool.and_eq_true, decide_eq_true_eq] at h
    obtain ⟨⟨h1, h2⟩, h3, h4, h5⟩ := h
    obtain ⟨k1, k2⟩ := keys_some h2
    exact pair hK (s_dct (tr := tr) (okDs es as q X T W ks keys p h1 h2 h3 C O) k1 h3 h4 h5 k2) rfl
  · -- b1
    rename_i f a x p1 a' p2
    simp only [Bool.and_eq_true, decide_eq_true_eq] at h
    obtain ⟨⟨⟨rfl, h1⟩, h2⟩, h3⟩ := h
    exact pair hK (s_b1 hK f h2 (gl_of hs h1) (blt _ (by cases f with
      | list tr => exact (by decide +kernel : decide (Str.ofString "list" ∈ blts) = true)
      | _ => decide +kernel)) (okE a a' q X T W h3 C O).1) rfl
  · -- join
    rename_i o a o' x p1 a' p2
    simp only [Bool.and_eq_true, decide_eq_true_eq] at h
    obtain ⟨⟨⟨⟨⟨rfl, h1⟩, h2⟩, h3⟩, h4⟩, h5⟩ := h
    exact pair hK (s_join hK h1 h2 h3 (okE o o' q X T W h4 C O).1 (okE a a' q X T W h5 C O).1) rfl
  · -- mm
    rename_i m a b x p1 a' b' p2
    simp only [Bool.and_eq_true, decide_eq_true_eq] at h
    obtain ⟨⟨⟨⟨⟨rfl, h1⟩, h2⟩, h3⟩, h4⟩, h5⟩ := h
    exact pair hK (s_mm C.calm m h2 h3 (gl_of hs h1) (blt _ (by cases m <;> decide +kernel)) (okE a a' q X T W h4 C O).1 (okE b b' q X T W h5 C O).1) rfl
  · -- isi
    rename_i t a x p1 a' n p3 p2
    simp only [Bool.and_eq_true, decide_eq_true_eq] at h
    obtain ⟨⟨⟨⟨⟨⟨⟨rfl, h1⟩, h2⟩, h3⟩, h4⟩, h5⟩, h6⟩, h7⟩ := h
    have hn : n ≠ "__name__" ∧ (n == ("__debug__" : Str)) = false := by
      have z : ∀ y ∈ blts, y ≠ "__name__" ∧ (y == ("__debug__" : Str)) = false := by decide +kernel
      exact z n h6
    exact pair hK (s_isi hK h2 (gl_of hs h1) (blt _ (by decide +kernel)) (gl_of hs h3) (blt n (by rw [decide_eq_true_eq]; exact h6)) h5 hn.1 hn.2 (okE a a' q X T W h7 C O).1) rfl
  · -- fld
    rename_i c a f a' f' p
    simp only [Bool.and_eq_true, decide_eq_true_eq] at h
    obtain ⟨⟨⟨rfl, h1⟩, h2⟩, h3⟩ := h
    obtain ⟨k1, k2⟩ := O.flds c _ h1
    exact pair hK (s_fld hK k2 k1 h2 (okE a a' q X T W h3 C O).1) rfl
  · -- call
    rename_i k md es x p1 as p2
    simp only [Bool.and_eq_true, decide_eq_true_eq] at h
    obtain ⟨⟨⟨⟨h1, h2⟩, h3⟩, h4⟩, h5⟩ := h
    obtain ⟨k1, k2⟩ := O.fns x k h1
    obtain ⟨e1, e2, e3⟩ := okEs es as q X T W h5 C O
    exact pair hK (s_call (md := md) C.same (O.fo k h2 T.hid) C.roomL (gl_of hs h3) k1 k2 (dbg_of h4).1 C.tk C.fl e2 e3 e1) rfl
  · -- new
    rename_i c k md es x p1 as p2
    simp only [Bool.and_eq_true, decide_eq_true_eq] at h
    obtain ⟨⟨⟨⟨⟨h0, h1⟩, h2⟩, h3⟩, h4⟩, h5⟩ := h
    obtain ⟨k1, k2⟩ := O.cls x c k h1
    obtain ⟨e1, e2, e3⟩ := okEs es as q X T W h5 C O
    have hr : Room (lv + 1) X.A := by have := C.room; rw [h0] at this; exact this
    exact pair hK (s_new (md := md) C.same (O.fo k h2 T.hid) k2 hr (gl_of hs h3) k1 (dbg_of h4).1 C.tk C.fl e2 e3 e1) rfl
  · -- newK
    rename_i c k md kw dfl es x p1 kws p2
    simp only [Bool.and_eq_true, decide_eq_true_eq] at h
    obtain ⟨⟨⟨⟨⟨⟨h0, h1⟩, h2⟩, h3⟩, h4⟩, h5⟩, h6⟩ := h
    obtain ⟨k1, k2⟩ := O.cls x c k h1
    have hr : Room (lv + 1) X.A := by have := C.room; rw [h0] at this; exact this
    exact pair hK (s_newK (md := md) C.same (O.kws k kw dfl h2 T.hid) k2 hr (gl_of hs h3) k1 (dbg_of h4).1 C.tk C.fl h5 (okKw es kws q X T W h6 C O)) rfl
  · -- mt
    rename_i c k md a x es a' x' apos as p2
    simp only [Bool.and_eq_true, decide_eq_true_eq] at h
    obtain ⟨⟨⟨⟨⟨⟨⟨rfl, h1⟩, h2⟩, h3⟩, h4⟩, h5⟩, h6⟩, h7⟩ := h
    obtain ⟨k1, k2⟩ := O.mts c _ k h1
    obtain ⟨e1, e2, e3⟩ := okEs es as q X T W h7 C O
    exact pair hK (s_mt (md := md) C.same (O.fo k h2 T.hid) k2 k1 C.roomL C.tk C.fl h3 h4 h5 e2 e3 (okE a a' q X T W h6 C O).1 e1) rfl
  · -- app
    rename_i a b a' x' apos b' p2
    simp only [Bool.and_eq_true, decide_eq_true_eq] at h
    obtain ⟨⟨⟨⟨⟨rfl, h1⟩, h2⟩, h3⟩, h4⟩, h5⟩ := h
    exact pair hK (s_app h1 h2 h3 (okE a a' q X T W h4 C O).1 (okE b b' q X T W h5 C O).1) rfl
  · -- ext
    rename_i a b a' x' apos b' p2
    simp only [Bool.and_eq_true, decide_eq_true_eq] at h
    obtain ⟨⟨⟨⟨⟨rfl, h1⟩, h2⟩, h3⟩, h4⟩, h5⟩ := h
    exact pair hK (s_ext h1 h2 h3 (okE a a' q X T W h4 C O).1 (okE b b' q X T W h5 C O).1) rfl
  · -- pop
    rename_i a a' x' apos p2
    simp only [Bool.and_eq_true, decide_eq_true_eq] at h
    obtain ⟨⟨⟨rfl, h1⟩, h2⟩, h4⟩ := h
    exact pair hK (s_pop h1 h2 (okE a a' q X T W h4 C O).1) rfl
  · -- popi
    rename_i a b a' x' apos b' p2
    simp only [Bool.and_eq_true, decide_eq_true_eq] at h
    obtain ⟨⟨⟨⟨⟨rfl, h1⟩, h2⟩, h3⟩, h4⟩, h5⟩ := h
    exact pair hK (s_popi h1 h2 h3 (okE a a' q X T W h4 C O).1 (okE b b' q X T W h5 C O).1) rfl
  · -- lc
    rename_i tr tg it cond elt vs elt' gens scope p
    split at h
    · rename_i tg' iter' ifs'
      simp only [Bool.and_eq_true, decide_eq_true_eq] at h
      obtain ⟨⟨⟨⟨⟨⟨h1, h2⟩, h3⟩, h4⟩, h5⟩, h6⟩, h7⟩ := h
      have := s_lc (X := X) (T := T) (W := W) (elt := elt') (tg := tg') (iter := iter') (ifs := ifs') (scope := scope) (own := ownOf N vs) (tr := tr) (tg' := tg) (fi := evi gc G it) (fe := (ev gc G elt).val) (ft := evc gc G cond) (pos := p) C.calm (by rw [C.names]; exact C.nd)
        (okI it iter' q X T W tg' h1 C O) (by rw [C.names, hs]; exact blkOk_by h2) (by rw [own_snd]; exact h3) h4
        (fun s H c cl fp p => okG (T := T.at (p :: T.hid)) (C.blk s H scope c cl fp).names C.nd (C.blk s H scope c cl fp).scope (C.blk s H scope c cl fp).fnd hK C.calm tg tg' h5)
        (fun s H c cl fp => okIf cond ifs' ⟨q.mkb, false, false, relS scope q.sc⟩ _ T h6 (C.blk s H scope c cl fp) O)
        (fun s H c cl fp p => (okE elt elt' ⟨q.mkb, false, false, relS scope q.sc⟩ _ (T.at (p :: T.hid)) noW h7 ((C.blk s H scope c cl fp).hide _) (O.at_ _)).1)
      rw [own_snd] at this
      exact pair hK this rfl
    · cases h
  · -- lc2
    rename_i tr tg tg1 it a1 elt vs vs1 elt' gens scope p
    split at h
    · rename_i tg' iter' tg1' iter1'
      simp only [Bool.and_eq_true, decide_eq_true_eq] at h
      obtain ⟨⟨⟨⟨⟨⟨⟨⟨⟨⟨h1, h2⟩, h3⟩, h4⟩, h5⟩, h6⟩, h7⟩, h8⟩, h9⟩, h10⟩, h11⟩ := h
      have := s_lc2 (X := X) (T := T) (W := W) (elt := elt') (tg := tg') (iter := iter') (tg1 := tg1') (iter1 := iter1') (scope := scope) (own := ownOf N vs) (tr := tr) (tg' := tg) (tg1' := tg1) (vs1 := vs1) (fi := evi gc G it) (fi1 := (ev gc G a1).val) (fe := (ev gc G elt).val) (pos := p) hK C.calm (by rw [C.names]; exact C.nd)
        (okI it iter' q X T W tg' h1 C O) (by rw [C.names, hs]; exact blkOk_by h2) (by rw [own_snd]; exact h3) h4 (by rw [own_snd]; exact h5) h6 h7
        (fun s H c cl fp p => okG (T := T.at (p :: T.hid)) (C.blk s H scope c cl fp).names C.nd (C.blk s H scope c cl fp).scope (C.blk s H scope c cl fp).fnd hK C.calm tg tg' h8)
        (fun s H c cl fp p => (okE a1 iter1' ⟨q.mkb, false, false, relS scope q.sc⟩ _ (T.at (p :: T.hid)) noW h9 ((C.blk s H scope c cl fp).hide _) (O.at_ _)).1)
        (fun s H c cl fp p => okG (T := T.at (p :: T.hid)) (C.blk s H scope c cl fp).names C.nd (C.blk s H scope c cl fp).scope (C.blk s H scope c cl fp).fnd hK C.calm tg1 tg1' h10)
        (fun s H c cl fp p => (okE elt elt' ⟨q.mkb, false, false, relS scope q.sc⟩ _ (T.at (p :: T.hid)) noW h11 ((C.blk s H scope c cl fp).hide _) (O.at_ _)).1)
      rw [own_snd] at this
      exact pair hK this rfl
    · cases h
  · -- all
    rename_i tg it elt vs x p1 elt' gens scope p3 p2
    split at h
    · rename_i tg' iter'
      simp only [Bool.and_eq_true, decide_eq_true_eq] at h
      obtain ⟨⟨⟨⟨⟨⟨⟨⟨⟨⟨⟨⟨h0, ht⟩, rfl⟩, h1⟩, h2⟩, h3⟩, h4⟩, h5⟩, h6⟩, h7⟩, h8⟩, h9⟩, h10⟩ := h
      have hr : Room (lv + 1) X.A := by have := C.room; rw [h0] at this; exact this
      obtain ⟨c, P, t1, t2, t3⟩ := C.tab ht
      have := s_all (X := X) (T := T) (W := W) (elt := elt') (tg := tg') (iter := iter') (scope := scope) (own := ownOf N vs) (tg' := tg) (fi := evi gc G it) (fe := (ev gc G elt).val) (pos := p2) (p := p1) (gpos := p3) t3 (by rw [own_snd]; exact h4) hr (gl_of hs h1) (blt _ (by decide +kernel)) t2 t1 C.calm (by rw [C.names]; exact C.nd)
        (okI it iter' q X T W tg' h2 C O) (by rw [C.names, hs]; exact blkOk_by h3) h6 (fun y hy => by
          have := List.all_eq_true.mp h7 y hy
          exact of_decide_eq_true this) (kind_of h8)
        (fun A' s H c code fp pn hr' => okG (C.gen hr' s H scope c code fp pn).names C.nd (C.gen hr' s H scope c code fp pn).scope (C.gen hr' s H scope c code fp pn).fnd hK C.calm tg tg' h9)
        (fun A' s H c code fp pn hr' => (okE elt elt' ⟨false, false, false, scope⟩ _ T noW h10 (C.gen hr' s H scope c code fp pn) O).1)
        (genFold_not h5)
      rw [own_snd] at this
      exact pair hK this rfl
    · cases h
  · cases h
termination_by sizeOf e
theorem okEs (es : Es) (as : List Expr) (q : KC) (X : Cx) (T : Tb) (W : WX) (h : ckEs tb N q es as = true) (C : Ctx X T W N q.sc lv q.mkb q.top q.tabd) (O : TOk T tb gc G lv) : PA X as (rdA T W (evs gc G es).vals) ∧ as.all notStar = true ∧ (as = [] → ∀ s S, (evs gc G es).vals s S = .ok [] S) := by
  unfold ckEs at h
  split at h
  · exact ⟨s_pa_nil, rfl, fun _ _ _ => rfl⟩
  · rename_i e es a as
    simp only [Bool.and_eq_true] at h
    obtain ⟨⟨h1, h2⟩, h3⟩ := h
    obtain ⟨k1, k2, _⟩ := okEs es as q X T W h3 C O
    exact ⟨s_pa_cons h1 (okE e a q X T W h2 C O).1 k1, by rw [List.all_cons, h1, k2] <;> rfl, fun z => by cases z⟩
  · cases h
termination_by sizeOf es
theorem okB (es : Es) (as : List Expr) (q : KC) (X : Cx) (T : Tb) (W : WX) (h : ckEs tb N q es as = true) (hne : as ≠ []) (C : Ctx X T W N q.sc lv q.mkb q.top q.tabd) (O : TOk T tb gc G lv) (pos : Pos) :
    PW X (.BoolOp .And as pos) (rdT T W (evs gc G es).andT) ∧ PW X (.BoolOp .Or as pos) (rdT T W (evs gc G es).orT) ∧ PE X (.BoolOp .And as pos) (rdE T W (evs gc G es).andV) ∧ PE X (.BoolOp .Or as pos) (rdE T W (evs gc G es).orV) := by
  have hK : X.K = T.K := C.same.K
  unfold ckEs at h
  split at h
  · exact absurd rfl hne
  · rename_i e es a as
    simp only [Bool.and_eq_true] at h
    obtain ⟨⟨h1, h2⟩, h3⟩ := h
    have ha := okE e a q X T W h2 C O
    cases as with
    | nil =>
      cases es with
      | nil => exact ⟨s_and1 ha.2, s_or1 ha.2, PE_bool1 ha.1, PE_bool1 ha.1⟩
      | cons e2 es2 => simp [ckEs] at h3
    | cons a2 as2 =>
      obtain ⟨k1, k2, k3, k4⟩ := okB es (a2 :: as2) q X T W h3 (by simp) C O pos
      cases es with
      | nil => simp [ckEs] at h3
      | cons e2 es2 => exact ⟨s_andT ha.2 k1, s_orT ha.2 k2, s_andV hK ha.1 k3, s_orV hK ha.1 k4⟩
  · cases h
termination_by sizeOf es
theorem okDs (es : Es) (as : List Expr) (q : KC) (X : Cx) (T : Tb) (W : WX) (ks : List Key) (keys : List (Option Expr)) (pos : Pos) (h : ckEs tb N q es as = true) (hk : ckK ks keys = true) (hl : keys.length = as.length) (C : Ctx X T W N q.sc lv q.mkb q.top q.tabd) (O : TOk T tb gc G lv) :
    PPd X T W pos keys as ks (evs gc G es).vals := by
  unfold ckEs at h
  split at h
  · cases keys with
    | nil =>
      cases ks with
      | nil => exact ppd_nil
      | cons q qs => simp [ckK] at hk
    | cons k keys => cases hl
  · rename_i e es a as
    simp only [Bool.and_eq_true] at h
    obtain ⟨⟨h1, h2⟩, h3⟩ := h
    cases keys with
    | nil => cases hl
    | cons k keys =>
      cases ks with
      | nil => simp [ckK] at hk
      | cons y ys =>
        cases k with
        | none => simp [ckK] at hk
        | some k =>
          simp only [ckK, Bool.and_eq_true] at hk
          exact ppd_cons (pe_key hk.1) (fun p => (okE e a q X (T.at (p :: T.hid)) W h2 (C.hide _) (O.at_ _)).1) (okDs es as q X T W ys keys pos h3 hk.2 (by simpa using hl) C O)
  · cases h
termination_by sizeOf es
theorem okKw (es : Es) (kws : List Keyword) (q : KC) (X : Cx) (T : Tb) (W : WX) (h : ckKw tb N q es kws = true) (C : Ctx X T W N q.sc lv q.mkb q.top q.tabd) (O : TOk T tb gc G lv) : PK X kws (rdA T W (evs gc G es).vals) := by
  unfold ckKw at h
  split at h
  · exact s_pk_nil
  · rename_i e es n a p kws
    simp only [Bool.and_eq_true] at h
    exact s_pk_cons (okE e a q X T W h.1 C O).1 (okKw es kws q X T W h.2 C O)
  · cases h
termination_by sizeOf es
theorem okO (eo : Eo) (lo : Option Expr) (q : KC) (X : Cx) (T : Tb) (W : WX) (h : ckO tb N q eo lo = true) (C : Ctx X T W N q.sc lv q.mkb q.top q.tabd) (O : TOk T tb gc G lv) : PO X lo (rdO T W (evo gc G eo)) := by
  unfold ckO at h
  split at h
  · exact s_po_none
  · rename_i e a
    exact s_po_some (okE e a q X T W h C O).1
  · cases h
termination_by sizeOf eo
theorem okIf (eo : Eo) (ifs : List Expr) (q : KC) (X : Cx) (T : Tb) (h : ckIf tb N q eo ifs = true) (C : Ctx X T noW N q.sc lv q.mkb q.top q.tabd) (O : TOk T tb gc G lv) : PTs X ifs (rdTx T noW (evc gc G eo)) := by
  unfold ckIf at h
  split at h
  · exact pts_ex0
  · rename_i e a
    exact pts_ex1 fun p => (okE e a q X (T.at (p :: T.hid)) noW h (C.hide _) (O.at_ _)).2
  · cases h
termination_by sizeOf eo
theorem okI (it : It) (a : Expr) (q : KC) (X : Cx) (T : Tb) (W : WX) (tg : Expr) (h : ckI tb N q tg it a = true) (C : Ctx X T W N q.sc lv q.mkb q.top q.tabd) (O : TOk T tb gc G lv) : PI X tg a (rdI T W (evi gc G it)) := by
  have hK : X.K = T.K := C.same.K
  have hs : X.env.scope = q.sc := C.scope
  have blt : ∀ x, decide (x ∈ blts) = true → X.mg x = none := fun x hx => by rw [C.same.mg]; exact O.blt x (of_decide_eq_true hx)
  unfold ckI at h
  split at h
  · rename_i e0
    exact si_e hK (okE e0 a q X T W h C O).1
  · rename_i a x p1 a' p2
    simp only [Bool.and_eq_true, decide_eq_true_eq] at h
    obtain ⟨⟨⟨rfl, h1⟩, h2⟩, h3⟩ := h
    exact si_rng1 h2 (gl_of hs h1) (blt _ (by decide +kernel)) (okE a a' q X T W h3 C O).1
  · rename_i a b x p1 a' b' p2
    simp only [Bool.and_eq_true, decide_eq_true_eq] at h
    obtain ⟨⟨⟨⟨⟨rfl, h1⟩, h2⟩, h3⟩, h4⟩, h5⟩ := h
    exact si_rng2 h2 h3 (gl_of hs h1) (blt _ (by decide +kernel)) (okE a a' q X T W h4 C O).1 (okE b b' q X T W h5 C O).1
  · rename_i e1 e2 e3 a x p1 a' p2
    simp only [Bool.and_eq_true, decide_eq_true_eq] at h
    obtain ⟨⟨⟨rfl, h1⟩, h2⟩, h3⟩ := h
    exact si_enum hK h2 (gl_of hs h1) (blt _ (by decide +kernel)) (okE a a' q X T W h3 C O).1
  · cases h
termination_by sizeOf it
end
end
end TK
end
section
set_option autoImplicit false
set_option linter.all false
set_option maxRecDepth 100000
set_option maxHeartbeats 8000000
namespace TK
open PySem L2 PySem.Spec PyProof.Rows

/-! ### statements -/
def notComp : Expr → Bool
  | .ListComp _ _ _ _ => false
  | .SetComp _ _ _ _ => false
  | .DictComp _ _ _ _ _ => false
  | _ => true
theorem sw_not {a : Expr} {t : Option Expr} {l : Nat} {env : PySem.Env} (h : notComp a = true) : swapsWith a t l env = pure false := by
  cases a <;> first | rfl | cases h
theorem sw_cell {a : Expr} {x : Str} {p : Pos} {l : Nat} {env : PySem.Env} (h : env.scope.names.lookup x = some .cell) : swapsWith a (some (.Name x p)) l env = pure false := by
  have hk : (env.kindOf x == some .local) = false := by
    unfold PySem.Env.kindOf
    rw [h]
    rfl
  cases a <;> first
    | rfl
    | (unfold swapsWith
       simp [hk])
theorem sw_sub {a o i : Expr} {p : Pos} {l : Nat} {env : PySem.Env} : swapsWith a (some (.Subscript o i p)) l env = pure false := by
  cases a <;> rfl
theorem sw_att {a o : Expr} {f : Str} {p : Pos} {l : Nat} {env : PySem.Env} : swapsWith a (some (.Attribute o f p)) l env = pure false := by
  cases a <;> rfl
theorem sw_tup {a : Expr} {es : List Expr} {k : Nat} {p : Pos} {l : Nat} {env : PySem.Env} : swapsWith a (some (.Tuple es k p)) l env = pure false := by
  cases a <;> rfl
def notTup : Expr → Bool
  | .Tuple _ _ _ => false
  | _ => true
theorem swp_not {a : Expr} {es : List Expr} {k : Nat} {p : Pos} {env : PySem.Env} (h : notTup a = true) : swappedStores [.Tuple es k p] a env = pure none := by
  cases a <;> first | rfl | cases h
/-- the value of a comprehension is stored within its own loop -/
def swB (sc : Scope) (x : Str) (p : Pos) (scope : Scope) (pos : Pos) : Bool := isKind sc x .local && (p.line == pos.line) && !(scope.names.any fun (n, k) => n == x && (k == .local || k == .cell))
section
variable {X : Cx} {T : Tb} {W : WX} {elt iter tg : Expr} {ifs : List Expr} {tg' : Tg} {fi : TDi} {fe : Vs → Sx → TK.R D} {ft : Vs → Sx → TK.R Bool} {scope : Scope} {own : List (Str × Nat)} {tr : Bool} {pos spos py : Pos}
theorem st_setLc {k : Nat} {y : Str} (hw : Flat W) (hc : X.calm = true) (hN : X.N.Nodup) (hy : X.N[k]? = some y) (hyl : X.env.scope.names.lookup y = some .local) (hsw : swapsWith (.ListComp elt [⟨tg, iter, ifs, 0⟩] scope pos) (some (.Name y py)) spos.line X.env = pure true)
    (hi : PI X tg iter (rdI T W fi)) (ok : BlkOk X.N X.env.scope scope own) (hv : ∀ i ∈ tg'.slots, i ∈ own.map (·.2)) (hset : notSet iter = true)
    (hg : ∀ (s : Shared) (H : Hp) (C : Addr) (cl : List (Str × Addr)) (fp : List Addr) (p : Addr), PG (X.blk s H scope (compEnvC scope cl C X.env) fp) tg (rdG (T.hide p) tg'))
    (ht : ∀ (s : Shared) (H : Hp) (C : Addr) (cl : List (Str × Addr)) (fp : List Addr), PTs (X.blk s H scope (compEnvC scope cl C X.env) fp) ifs (rdTx T noW ft))
    (he : ∀ (s : Shared) (H : Hp) (C : Addr) (cl : List (Str × Addr)) (fp : List Addr) (p : Addr), PE (X.blk s H scope (compEnvC scope cl C X.env) fp) elt (rdE (T.hide p) noW fe)) :
    PS X (.Assign [.Name y py] (.ListComp elt [⟨tg, iter, ifs, 0⟩] scope pos) spos) (rdS T W fun s S => ((fi s S).bind fun xs S => (lcL tg' ft fe xs.2 (wipeV s (own.map (·.2))) xs.1 [] S).nox.bind fun ys S => newL tr ys S).bind fun d S => .ok (.nx (s.set k (some d))) S) :=
  PS_imp (ps_setLc hc hN hy hyl hsw hi ok (fun s H C cl fp => pg_ex (hg s H C cl fp)) ht (fun s H C cl fp => pe_ex (he s H C cl fp)) (fold_not hset)) fun D σ H ⟨s, S, m, hs, hS, h⟩ =>
    rd_lc (W := W) (tr := tr) (Q := fun v H1 => D.nx (σ.set k (some v)) H1) hv ⟨s, S, m, hs, hS, (h.bind.names hw).mono fun d S1 H1 m1 L1 R1 q v rv => q H1 m1 .refl R1 _ ((hs.mono L1).set k rv)⟩
end
section
variable (tb : TC)
mutual
def ckS (N : List Str) : KC → Sm → Stmt → Bool
  | q, .set i e, .Assign [.Name x p] a _ => decide (N[i]? = some x) && isTgt q.top q.sc x && ckE tb N q e a && (notComp a || isKind q.sc x .cell || (match a with
    | .ListComp _ gens scope pos => decide (gens.length = 1) && (match q.sc.kind with | .function => true | _ => false) && swB q.sc x p scope pos
    | _ => false))
  | q, .unp tg e, .Assign [.Tuple es k p] a _ => ckG q.top N q.sc tg (.Tuple es k p) && ckE tb N q e a && notTup a
  | q, .seti a i e, .Assign [.Subscript a' i' _] v _ => notSlice i' && ckE tb N q e v && ckE tb N q a a' && ckE tb N q i i'
  | q, .dput a i e, .Assign [.Subscript a' i' _] v _ => ckE tb N q e v && ckE tb N q a a' && ckE tb N q i i'
  | q, .setf c a f e, .Assign [.Attribute a' f' _] v _ => decide (f' = f) && decide ((c, f) ∈ tb.flds) && ckE tb N q e v && ckE tb N q a a'
  | q, .augf c a f e, .AugAssign (.Attribute a' f' _) .Add v _ => decide (f' = f) && decide ((c, f) ∈ tb.flds) && ckE tb N q e v && ckE tb N q a a'
  | q, .aug i e, .AugAssign (.Name x _) .Add a _ => decide (N[i]? = some x) && isTgt q.top q.sc x && ckE tb N q e a
  | q, .ite t a b, .If t' a' b' _ => ckE tb N q t t' && ckSs N q a a' && ckSs N q b b'
  | q, .for_ tg it b, .For tg' it' b' [] _ => ckI tb N q tg' it it' && ckG q.top N q.sc tg tg' && notSet it' && ckSs N q b b'
  | q, .whl _ t b, .While t' b' [] _ => ckE tb N q t t' && ckSs N q b b'
  | q, .ret e, .Return (some a) _ => ckE tb N q e a
  | q, .retN, .Return none _ => true
  | q, .ex e, .Expr a _ => ckE tb N q e a && notComp a
  | q, .brk, .Break _ => true
  | q, .pass, .Pass _ => true
  | q, .try_ _ _ b _, .Try b' hs [] [] _ => ckSs N q b b' && !hs.isEmpty
  | q, .never, _ => true
  | _, _, _ => false
def ckSs (N : List Str) : KC → Sms → List Stmt → Bool
  | q, .nil, [] => true
  | q, .cons s r, st :: sts => ckS N q s st && ckSs N q r sts
  | _, _, _ => false
end
end
/-- where a statement stands -/
structure CtxS (X : Cx) (T : Tb) (W : WX) (N : List Str) (sc : Scope) (lv : Nat) (mkb top tabd : Bool) : Prop extends Ctx X T W N sc lv mkb top tabd where
  own : PassesOwn (model X.prog X.w) X.A X.env X.xe
theorem CtxS.nox {X : Cx} {T : Tb} {W : WX} {N : List Str} {sc : Scope} {lv : Nat} {mkb top tabd : Bool} (C : CtxS X T W N sc lv mkb top tabd) : CtxS X.nox T noW N sc lv mkb top tabd := ⟨C.toCtx.nox, PassesOwn.never⟩
section
variable {tb : TC} {gc : Nat → D} {G : Gm} {lv : Nat} {N : List Str}
theorem ck_lc {q : KC} {e : E} {elt' : Expr} {gens : List Comprehension} {scope : Scope} {pos : Pos} (hgl : gens.length = 1) (h : ckE tb N q e (.ListComp elt' gens scope pos) = true) : ∃ tr tg it cond elt vs tg' iter' ifs', e = .lc tr tg it cond elt vs ∧ gens = [⟨tg', iter', ifs', 0⟩] ∧
    ckI tb N q tg' it iter' = true ∧ blkC N q.sc scope (ownOf N vs) = true ∧ (∀ i ∈ tg.slots, i ∈ vs) ∧ notSet iter' = true ∧ ckG false N (relS scope q.sc) tg tg' = true ∧ ckIf tb N ⟨q.mkb, false, false, relS scope q.sc⟩ cond ifs' = true ∧ ckE tb N ⟨q.mkb, false, false, relS scope q.sc⟩ elt elt' = true := by
  unfold ckE at h
  split at h <;> first | (cases h; done) | skip
  all_goals try (rename_i heq; cases heq; done)
  · rename_i heq
    cases heq
    split at h
    · simp only [Bool.and_eq_true, decide_eq_true_eq] at h
      obtain ⟨⟨⟨⟨⟨⟨k1, k2⟩, k3⟩, k4⟩, k5⟩, k6⟩, k7⟩ := h
      exact ⟨_, _, _, _, _, _, _, _, _, rfl, rfl, k1, k2, k3, k4, k5, k6, k7⟩
    · cases h
  · rename_i heq
    cases heq
    split at h
    · cases hgl
    · cases h
theorem ok_nox {T : Tb} {E : XK} {H : Hp} {m : List Addr} {P : Fl → Sx → Hp → List Addr → Prop} {r : TK.R Fl} (h : Ok T E H m P (match r with | .ok f S => .ok f S | _ => .bad)) : Ok T (fun _ _ _ => False) H m P r := by
  cases r with
  | ok f S => exact h
  | exc c v S => exact h.elim
  | bad => exact h.elim
mutual
theorem okS (e : Sm) (st : Stmt) (q : KC) (X : Cx) (T : Tb) (W : WX) (h : ckS tb N q e st = true) (C : CtxS X T W N q.sc lv q.mkb q.top q.tabd) (O : TOk T tb gc G lv) : PS X st (rdS T W (es gc G e)) := by
  have hK : X.K = T.K := C.same.K
  have hs : X.env.scope = q.sc := C.scope
  have nd : X.N.Nodup := by rw [C.names]; exact C.nd
  unfold ckS at h
  split at h
  · -- set
    rename_i i e x p a spos
    simp only [Bool.and_eq_true, decide_eq_true_eq, Bool.or_eq_true] at h
    obtain ⟨⟨⟨h1, h2⟩, h3⟩, h4⟩ := h
    obtain ⟨l1, l2⟩ := loc_of hs C.fnd h2
    rcases h4 with (h4 | h4) | h4
    · exact st_set C.fl nd (by rw [C.names]; exact h1) l1 l2 (okE e a q X T W h3 C.toCtx O).1 (sw_not h4)
    · exact st_set C.fl nd (by rw [C.names]; exact h1) l1 l2 (okE e a q X T W h3 C.toCtx O).1 (sw_cell (by rw [hs]; exact kind_of h4))
    · split at h4
      · rename_i elt' gens scope pos
        simp only [Bool.and_eq_true] at h4
        obtain ⟨⟨hgl, hk⟩, hsw⟩ := h4
        unfold swB at hsw
        simp only [Bool.and_eq_true, Bool.not_eq_true'] at hsw
        obtain ⟨⟨w1, w2⟩, w3⟩ := hsw
        have hkind : X.env.scope.kind = .function := by
          rw [hs]
          split at hk
          · assumption
          · cases hk
        have hyl : X.env.scope.names.lookup x = some .local := by rw [hs]; exact kind_of w1
        have hsw2 : ∀ gs, swapsWith (.ListComp elt' gs scope pos) (some (.Name x p)) spos.line X.env = pure true := fun gs => sw_true hkind hyl w2 w3
        obtain ⟨tr, tg, it, cond, elt, vs, tg', iter', ifs', rfl, rfl, k1, k2, k3, k4, k5, k6, k7⟩ := ck_lc (of_decide_eq_true hgl) h3
        have := st_setLc (X := X) (T := T) (W := W) (elt := elt') (tg := tg') (iter := iter') (ifs := ifs') (scope := scope) (own := ownOf N vs) (tr := tr) (tg' := tg) (fi := evi gc G it) (fe := (ev gc G elt).val) (ft := evc gc G cond) (pos := pos) (spos := spos) (py := p) (k := i) (y := x) C.fl C.calm nd (by rw [C.names]; exact h1) hyl (hsw2 _)
            (okI it iter' q X T W tg' k1 C.toCtx O) (by rw [C.names, hs]; exact blkOk_by k2) (by rw [own_snd]; exact k3) k4
            (fun s H c cl fp p => okG (T := T.at (p :: T.hid)) (C.toCtx.blk s H scope c cl fp).names C.nd (C.toCtx.blk s H scope c cl fp).scope (C.toCtx.blk s H scope c cl fp).fnd hK C.calm tg tg' k5)
            (fun s H c cl fp => okIf cond ifs' ⟨q.mkb, false, false, relS scope q.sc⟩ _ T k6 (C.toCtx.blk s H scope c cl fp) O)
            (fun s H c cl fp p => (okE elt elt' ⟨q.mkb, false, false, relS scope q.sc⟩ _ (T.at (p :: T.hid)) noW k7 ((C.toCtx.blk s H scope c cl fp).hide _) (O.at_ _)).1)
        rw [own_snd] at this
        exact this
      · cases h4
  · -- unp
    rename_i tg e es k p a spos
    simp only [Bool.and_eq_true] at h
    obtain ⟨⟨h1, h2⟩, h3⟩ := h
    exact st_unp C.fl (okG C.names C.nd hs C.fnd hK C.calm tg _ h1) (okE e a q X T W h2 C.toCtx O).1 (show swapsWith a (some (.Tuple es k p)) spos.line X.env = pure false from sw_tup) (swp_not h3) rfl
  · -- seti
    rename_i a i e a' i' p v spos
    simp only [Bool.and_eq_true] at h
    obtain ⟨⟨⟨h1, h2⟩, h3⟩, h4⟩ := h
    exact st_seti C.fl h1 (okE e v q X T W h2 C.toCtx O).1 (okE a a' q X T W h3 C.toCtx O).1 (okE i i' q X T W h4 C.toCtx O).1 (show swapsWith v (some (.Subscript a' i' p)) spos.line X.env = pure false from sw_sub)
  · -- dput
    rename_i a i e a' i' p v spos
    simp only [Bool.and_eq_true] at h
    obtain ⟨⟨h2, h3⟩, h4⟩ := h
    exact st_dput C.same C.fl C.toCtx.units (okE e v q X T W h2 C.toCtx O).1 (okE a a' q X T W h3 C.toCtx O).1 (okE i i' q X T W h4 C.toCtx O).1 (show swapsWith v (some (.Subscript a' i' p)) spos.line X.env = pure false from sw_sub)
  · -- setf
    rename_i c a f e a' f' p v spos
    simp only [Bool.and_eq_true, decide_eq_true_eq] at h
    obtain ⟨⟨⟨rfl, h1⟩, h2⟩, h3⟩ := h
    obtain ⟨k1, k2⟩ := O.flds c _ h1
    exact st_setf C.fl hK k2 k1 (okE e v q X T W h2 C.toCtx O).1 (okE a a' q X T W h3 C.toCtx O).1 sw_att
  · -- augf
    rename_i c a f e a' f' p v spos
    simp only [Bool.and_eq_true, decide_eq_true_eq] at h
    obtain ⟨⟨⟨rfl, h1⟩, h2⟩, h3⟩ := h
    obtain ⟨k1, k2⟩ := O.flds c _ h1
    exact st_augf C.fl hK k2 k1 (okE a a' q X T W h3 C.toCtx O).1 (okE e v q X T W h2 C.toCtx O).1
  · -- aug
    rename_i i e x p a spos
    simp only [Bool.and_eq_true, decide_eq_true_eq] at h
    obtain ⟨⟨h1, h2⟩, h3⟩ := h
    obtain ⟨l1, l2⟩ := loc_of hs C.fnd h2
    exact st_aug C.fl nd (by rw [C.names]; exact h1) l1 l2 (okE e a q X T W h3 C.toCtx O).1
  · -- ite
    rename_i t a b t' a' b' p
    simp only [Bool.and_eq_true] at h
    exact st_if C.fl (okE t t' q X T W h.1.1 C.toCtx O).2 (okSs a a' q X T W h.1.2 C O) (okSs b b' q X T W h.2 C O)
  · -- for
    rename_i tg it b tg' it' b' p
    simp only [Bool.and_eq_true] at h
    obtain ⟨⟨⟨h1, h2⟩, h3⟩, h4⟩ := h
    exact st_for C.fl C.own C.calm (okI it it' q X T W tg' h1 C.toCtx O) (okG C.names C.nd hs C.fnd hK C.calm tg tg' h2) (okSs b b' q X T W h4 C O) h3
  · -- while
    rename_i n t b t' b' p
    simp only [Bool.and_eq_true] at h
    exact st_whl C.fl C.own (okE t t' q X T W h.1 C.toCtx O).2 (okSs b b' q X T W h.2 C O) n
  · -- ret
    rename_i e a p
    exact st_ret C.fl (okE e a q X T W h C.toCtx O).1
  · exact st_retN
  · -- ex
    rename_i e a p
    simp only [Bool.and_eq_true] at h
    exact st_ex C.fl (okE e a q X T W h.1 C.toCtx O).1 (sw_not h.2)
  · exact st_brk
  · exact st_pass
  · -- try
    rename_i c i b hb b' hs' p
    simp only [Bool.and_eq_true] at h
    cases hs' with
    | nil => exact absurd h.2 (by simp)
    | cons h0 hs' =>
      exact PS_imp (ps_try_thru0 (okSs b b' q X.nox T noW h.1 C.nox O)) fun D σ H ⟨s, S, m, hs, hS, h⟩ => ⟨s, S, m, hs, hS, ok_nox h⟩
  · exact st_never
  · cases h
termination_by sizeOf e
theorem okSs (e : Sms) (st : List Stmt) (q : KC) (X : Cx) (T : Tb) (W : WX) (h : ckSs tb N q e st = true) (C : CtxS X T W N q.sc lv q.mkb q.top q.tabd) (O : TOk T tb gc G lv) : PSs X st (rdS T W (ess gc G e)) := by
  unfold ckSs at h
  split at h
  · exact st_nil
  · rename_i s r st sts
    simp only [Bool.and_eq_true] at h
    exact st_cons (okS s st q X T W h.1 C O) (okSs r sts q X T W h.2 C O)
  · cases h
termination_by sizeOf e
end
end
end TK
end
section
set_option autoImplicit false
set_option linter.all false
set_option maxRecDepth 100000
set_option maxHeartbeats 4000000
namespace TK
open PySem L2 PySem.Spec PyProof.Rows

/-! ### the defs, each against its row -/
structure Row where
  ps : List Str
  N : List Str
  scope : Scope
  body : List Stmt
  tabd : Bool
def ckD (tb : TC) (d : Row) (f : Fn) : Bool := C8.scC d.N d.ps d.scope && decide (f.np = d.ps.length) && decide (f.nv = d.N.length) && ckSs tb d.N ⟨true, true, d.tabd, d.scope⟩ f.body d.body
def ckAll (tb : TC) : List Row → List Fn → Bool
  | [], [] => true
  | d :: ds, f :: fs => ckD tb d f && ckAll tb ds fs
  | _, _ => false
theorem ckAll_at {tb : TC} : ∀ {rows : List Row} {fs : List Fn} {k : Nat} {d : Row}, ckAll tb rows fs = true → rows[k]? = some d → ∃ f, fs[k]? = some f ∧ ckD tb d f = true
  | [], _, _, _, _, h => by simp at h
  | _ :: _, [], _, _, h, _ => by simp [ckAll] at h
  | d :: ds, f :: fs, 0, e, h, h2 => by
    simp only [ckAll, Bool.and_eq_true] at h
    simp at h2
    subst h2
    exact ⟨f, by simp, h.1⟩
  | d :: ds, f :: fs, k + 1, e, h, h2 => by
    simp only [ckAll, Bool.and_eq_true] at h
    obtain ⟨f', h3, h4⟩ := ckAll_at h.2 (by simpa using h2)
    exact ⟨f', by simpa using h3, h4⟩
structure FD (T : Tb) (k : Nat) (d : Row) (fd : FuncData) : Prop where
  fn : ∃ x qual params dvs kws, FunD T.K x qual params d.body d.scope dvs kws (T.F k) fd
  tab : d.tabd = true → ∀ c, fd.code = .ref c → ∃ P, GxR.TabB T.base T.mg c P ∧ P ∈ T.tabs
abbrev FnK (T : Tb) (lv : Nat) (k : Nat) (d : Row) (fd : FuncData) (g : List D → Sx → TK.R D) : Prop := ∀ hs, FnOk T.P T.w T.K T.mg T.base (L2.CX T.P T.w) lv (T.F k) fd d.ps (spOf (T.at hs) d.ps.length g)
theorem arity_run {gc : Nat → D} {fs : List Fn} {k : Nat} {f : Fn} (hf : fs[k]? = some f) : ∀ n, Arity f.np (runF gc fs n k)
  | 0 => fun _ _ _ => rfl
  | n + 1 => fun ds S h => by
    show (match fs[k]? with | some f => runB gc (runF gc fs n) f ds S | none => .bad) = .bad
    rw [hf]
    show runB gc (runF gc fs n) f ds S = .bad
    unfold runB
    rw [if_neg h]
theorem takes_cx {CXw : Unit} {P : Program} {w : World} {K : PySem.W.Frag} {mg : Str → Option Value} {base : Heap} {N : List Str} {qual : Str} {scope : Scope} {f : Addr} {cd : Value} {A : Around} {outer : List PySem.Env} {s : Shared} {H : Hp} {E : XK} :
    Takes (cxOf (L2.CX P w) P w K mg base N qual scope f cd A outer s H E) (fun c d _ H => E c d H) := takes_of rfl rfl rfl rfl
theorem run_ok {T : Tb} {tb : TC} {gc : Nat → D} {rows : List Row} {fs : List Fn} {fdOf : Nat → FuncData} (ck : ckAll tb rows fs = true) (F : ∀ k d, rows[k]? = some d → FD T k d (fdOf k))
    (O : ∀ n, (∀ k d, rows[k]? = some d → FnK T (2 * n) k d (fdOf k) (runF gc fs n k)) → TOk T tb gc (runF gc fs n) (2 * n)) : ∀ n k d, rows[k]? = some d → FnK T (2 * n) k d (fdOf k) (runF gc fs n k) := by
  intro n
  induction n with
  | zero => exact fun k d hd hs => ⟨fun vs H Q E h => h.1, fun A outer s H args us vs Q E hr e0 hb r hsp => by
      obtain ⟨_, ds, S, m, _, _, h⟩ := hsp
      exact h.elim⟩
  | succ n ih =>
    intro k d hd hs
    obtain ⟨f, hf, hc⟩ := ckAll_at ck hd
    unfold ckD at hc
    simp only [Bool.and_eq_true, decide_eq_true_eq] at hc
    obtain ⟨⟨⟨c1, c2⟩, c3⟩, c4⟩ := hc
    have hF := F k d hd
    obtain ⟨x, qual, params, dvs, kws, hfn⟩ := hF.fn
    have tabs := hF.tab
    obtain ⟨oc, od, dV, kV, doc, pm, an, cdv, ct, osl, efd, lk, hcd, _, _⟩ := hfn.ex
    rw [efd] at tabs lk ⊢
    refine fn_of (k := 2 * n + 1) lk hcd (C8.fnScope_by c1) (fun vs H Q E h => h.1) fun A outer s H vs Q E hr hsp => ?_
    obtain ⟨hl, ds, S, m, hds, hS, h⟩ := hsp
    have C : CtxS (cxOf (L2.CX T.P T.w) T.P T.w T.K T.mg T.base d.N qual d.scope (T.F k) cdv A outer s H E) (T.at hs) (fun c d _ H => E c d H) d.N d.scope (2 * n) true true d.tabd :=
      ⟨⟨⟨rfl, rfl, rfl, rfl, rfl⟩, rfl, (C8.fnScope_by c1).nd, rfl, rfl, hr, takes_of rfl rfl rfl rfl, fun _ _ _ _ _ h => h, fun _ _ => rfl, fun ht => by
        obtain ⟨c, rfl⟩ := He.codeIn_ref hcd
        obtain ⟨P, t1, t2⟩ := tabs ht c rfl
        exact ⟨c, P, rfl, t1, t2⟩, fun _ => kdsCode_of hcd⟩, passes_of rfl⟩
    refine ⟨_, okSs f.body d.body ⟨true, true, d.tabd, d.scope⟩ _ (T.at hs) _ c4 C ((O n ih).at_ hs), startV d.N.length ds, S, m, RelV.start d.N hds, hS, ?_⟩
    have h : Ok (T.at hs) E H m (PV (T.at hs) Q) (match fs[k]? with | some f => runB gc (runF gc fs n) f ds S | none => .bad) := h
    rw [hf] at h
    have h : Ok (T.at hs) E H m (PV (T.at hs) Q) (runB gc (runF gc fs n) f ds S) := h
    unfold runB at h
    rw [if_pos (by rw [c2, hds.len]; exact hl), c3] at h
    cases e : ess gc (runF gc fs n) f.body (startV d.N.length ds) S with
    | ok fl S' =>
      rw [e] at h
      intro H' m' L R
      cases fl with
      | nx s' => exact fun σ _ => h H' m' L R _ rfl
      | rt v => exact h H' m' L R
      | bk s' => exact h.elim
      | ct s' => exact h.elim
    | exc c v S' =>
      rw [e] at h
      exact h
    | bad =>
      rw [e] at h
      exact h.elim
end TK
end
section
set_option autoImplicit false
set_option linter.all false
set_option maxRecDepth 100000
set_option maxHeartbeats 4000000
namespace TK
open PySem L2 PySem.Spec PyProof.Rows

/-! ### a law's defs, classes, names -/
structure RowD where
  d : He.DefD
  ps : List Str
  N : List Str
  tabd : Bool
def RowD.row (r : RowD) : Row := ⟨r.ps, r.N, r.d.scope, r.d.body, r.tabd⟩
structure LawD where
  rows : List RowD
  tb : TC
  /-- the classes' names -/
  cn : List Str
  /-- whole numbers and tuples of texts that the module's names stand for -/
  nums : List (Str × D)
  dep : Nat
  /-- more facts -/
  ex : PySem.W.Frag → Bool
def strsIn : List Value → List D → Bool
  | [], [] => true
  | .str x _ :: us, .str y :: ds => decide (x = y) && strsIn us ds
  | _, _ => false
/-- a tuple of texts of the module -/
def constT (K : PySem.W.Frag) (a : Addr) (ds : List D) : Bool := match K.lookup a with
  | some ⟨.type c, _, .seq its _, _⟩ => decide (c = "tuple") && decide (its.size ≤ 100) && strsIn its.toList ds
  | _ => false
def conT (K : PySem.W.Frag) (q : Str × D) : Bool := match q.2 with
  | .int _ => true
  | .tup ds => constT K (He.ga K q.1) ds
  | _ => false
def conAll (K : PySem.W.Frag) (l : List (Str × D)) : Bool := l.all (conT K)
def faOf (q : Str × D) : He.Fa := match q.2 with
  | .int i => .int q.1 i
  | _ => .glo q.1
theorem strsIn_rep {T : Tb} {H : Hp} {m : List Addr} : ∀ {us : List Value} {ds : List D}, strsIn us ds = true → ∃ xs, Vals xs us ∧ RepL T H m ds xs
  | [], [], _ => ⟨[], .nil, rfl⟩
  | .str x t :: us, .str y :: ds, h => by
    simp only [strsIn, Bool.and_eq_true, decide_eq_true_eq] at h
    obtain ⟨xs, h1, h2⟩ := strsIn_rep (T := T) (H := H) (m := m) h.2
    exact ⟨.str x :: xs, .cons ⟨t, rfl⟩ h1, _, _, rfl, by rw [← h.1]; rfl, h2⟩
  | [], _ :: _, h => by simp [strsIn] at h
  | u :: us, [], h => by cases u <;> simp [strsIn] at h
  | .str x t :: us, d :: ds, h => by
    cases d with
    | str y =>
      simp only [strsIn, Bool.and_eq_true, decide_eq_true_eq] at h
      obtain ⟨xs, h1, h2⟩ := strsIn_rep (T := T) (H := H) (m := m) h.2
      exact ⟨.str x :: xs, .cons ⟨t, rfl⟩ h1, _, _, rfl, by rw [← h.1]; rfl, h2⟩
    | _ => simp [strsIn] at h
  | .none :: _, _ :: _, h => by simp [strsIn] at h
  | .bool _ :: _, _ :: _, h => by simp [strsIn] at h
  | .int _ _ :: _, _ :: _, h => by simp [strsIn] at h
  | .float _ _ :: _, _ :: _, h => by simp [strsIn] at h
  | .bytes _ _ :: _, _ :: _, h => by simp [strsIn] at h
  | .ellipsis :: _, _ :: _, h => by simp [strsIn] at h
  | .notImplemented :: _, _ :: _, h => by simp [strsIn] at h
  | .type _ :: _, _ :: _, h => by simp [strsIn] at h
  | .builtin _ :: _, _ :: _, h => by simp [strsIn] at h
  | .ref _ :: _, _ :: _, h => by simp [strsIn] at h
theorem constT_rep {K : PySem.W.Frag} {a : Addr} {ds : List D} (h : constT K a ds = true) {T : Tb} (hK : T.K = K) (H : Hp) (m : List Addr) : RepV T H m (.tup ds) (.ref a) := by
  unfold constT at h
  split at h
  · rename_i c dd its n sl e
    simp only [Bool.and_eq_true, decide_eq_true_eq] at h
    obtain ⟨⟨h1, h2⟩, h3⟩ := h
    obtain ⟨xs, v1, v2⟩ := strsIn_rep (T := T) (H := H) (m := m) h3
    exact ⟨a, xs, rfl, .inr (.inr ⟨_, its, n, by rw [hK]; exact e, congrArg Value.type h1, rfl, Nat.le_trans h2 (by decide), v1⟩), v2⟩
  · cases h
namespace LawD
variable (L : LawD)
def tf : List He.Defn := (L.rows.filter (·.tabd)).map (·.d.at_)
def fa : List He.Fa := L.tb.fns.map (fun q => .glo q.1) ++ (L.cn.map (fun x => .glo x) ++ (L.cn.map (fun x => .cls x) ++ (L.tb.cls.map (fun q => .mkr q.1) ++ (L.tb.flds.map (fun q => .noat (L.cn.getD q.1 "") q.2) ++ (L.tb.mts.map (fun q => .meth (L.cn.getD q.1 "") q.2.1) ++ (L.nums.map faOf ++ blts.map (fun x => .free x)))))))
def fn : List He.DefD := L.rows.map (·.d)
def gc (j : Nat) : D := (L.nums.getD j ("", .int 0)).2
abbrev hk : PySem.W.Hook := He.hookX L.dep L.fa L.fn [] L.tf L.ex
def ob (s : PySem.W.SharedT) : He.AlX := He.obsX L.dep L.fa L.fn [] L.tf L.ex (HandSHeadRun.getT s)
theorem ob_eq (s : PySem.W.SharedT) : L.ob s = L.hk.obs s.abs := He.obsX_eq (HandSHeadRun.getT_eq s)
/-- the tables name what stands there -/
def ok : Bool :=
  (L.tb.fns.all fun q => match L.rows[q.2]? with | some r => decide (r.d.at_ = (q.1, none)) | none => false) &&
  (L.tb.cls.all fun q => decide (L.cn[q.2.1]? = some q.1) && (match L.rows[q.2.2]? with | some r => decide (r.d.at_ = (q.1, some ("__init__" : Str))) | none => false)) &&
  (L.tb.mts.all fun q => decide ((L.cn[q.1]?).isSome = true) && (match L.rows[q.2.2]? with | some r => decide (r.d.at_ = (L.cn.getD q.1 "", some q.2.1)) | none => false)) &&
  (L.tb.flds.all fun q => decide ((L.cn[q.1]?).isSome = true)) &&
  (L.tb.cons.all fun q => decide ((L.nums[q.2]?).map (·.1) = some q.1)) && decide (L.tb.pos.all fun k => decide (k < L.rows.length))
def T (P : Program) (w : World) (K : PySem.W.Frag) (mg : Str → Option Value) (base : Heap) : Tb :=
  ⟨P, w, K, mg, base, fun c => He.ga K (L.cn.getD c ""), fun k => He.fAd K (match L.rows[k]? with | some r => r.d.at_ | none => (("" : Str), (none : Option Str))), [], (L.tf.map (He.cT K)).map (·.2)⟩
end LawD
theorem mem_look {α : Type} : ∀ {l : List (Str × α)} {x : Str} {v : α}, l.lookup x = some v → (x, v) ∈ l
  | [], _, _, h => by simp at h
  | (y, u) :: l, x, v, h => by
    rw [List.lookup_cons] at h
    split at h
    · rename_i e
      cases h
      rw [beq_iff_eq.mp e]
      exact List.mem_cons_self
    · exact List.mem_cons_of_mem _ (mem_look h)
/-- positional binding -/
def BindP (d : He.DefD) (ps : List Str) : Prop := d.dfl = [] ∧ ∀ (kV doc pm : Value) (an : Option Addr) (cdv ct : Value) (us : List Value), us.length = ps.length → bindArgs (PySem.W.fnOf d.name d.qual d.params d.body d.scope .none kV doc pm an cdv ct) ⟨us, []⟩ = pure (ps.zip us)
section
variable {L : LawD} {P : Program} {w : World} {K : PySem.W.Frag} {mg : Str → Option Value} {base h : Heap}
theorem says_facts (c : He.SaysX L.fa L.fn [] L.tf L.ex w h K) {f : He.Fa} (hf : f ∈ L.fa) : f.ok K = true := He.SaysD.facts (He.SaysT.d c.t) hf
theorem tok_of (ok : L.ok = true) (KX : K.In h) (G : h.Ns mainGlobals mg) (c : He.SaysX L.fa L.fn [] L.tf L.ex w h K) {fdOf : Nat → FuncData} (hfd : ∀ k r, L.rows[k]? = some r → FunD K r.d.name r.d.qual r.d.params r.d.body r.d.scope (r.d.dvs K) (r.d.kws K) (He.fAd K r.d.at_) (fdOf k))
    (hb : ∀ k, k ∈ L.tb.pos → ∀ r, L.rows[k]? = some r → BindP r.d r.ps) {lv : Nat} {Gm' : Gm} (har : ∀ k r, L.rows[k]? = some r → Arity r.ps.length (Gm' k)) (hF : ∀ k r, L.rows[k]? = some r → FnK (L.T P w K mg base) lv k r.row (fdOf k) (Gm' k))
    (hkw : ∀ k kw dfl, (k, kw, dfl) ∈ L.tb.kws → ∃ r, L.rows[k]? = some r ∧ ∃ mvs gg, (∀ hs H m, RepL ((L.T P w K mg base).at hs) H m dfl mvs) ∧ KBn K (fdOf k) r.ps 1 kw gg (fun vs zs => vs ++ (zs ++ mvs)))
    (hcon : conAll K L.nums = true) : TOk (L.T P w K mg base) L.tb L.gc Gm' lv := by
  unfold LawD.ok at ok
  simp only [Bool.and_eq_true, List.all_eq_true, decide_eq_true_eq] at ok
  obtain ⟨⟨⟨⟨⟨o1, o2⟩, o3⟩, o4⟩, o5⟩, o6⟩ := ok
  have inFa : ∀ {f : He.Fa}, f ∈ L.fa → f.ok K = true := fun hf => says_facts c hf
  have at_ : ∀ {k : Nat} {r : RowD}, L.rows[k]? = some r → (L.T P w K mg base).F k = He.fAd K r.d.at_ := fun {k r} e => by
    show He.fAd K (match L.rows[k]? with | some r => r.d.at_ | none => (("" : Str), (none : Option Str))) = _
    rw [e]
  have cls_in : ∀ {j : Nat} {x : Str}, L.cn[j]? = some x → (L.T P w K mg base).C j = He.ga K x ∧ mg x = some (.ref (He.ga K x)) ∧ Cls K (He.ga K x) := fun {j x} e => by
    have hm : x ∈ L.cn := List.mem_of_getElem? e
    refine ⟨?_, He.glo_ok KX G (inFa ?_), He.cls_ok (inFa ?_)⟩
    · show He.ga K (L.cn.getD j "") = _
      rw [List.getD_eq_getElem?_getD, e] <;> rfl
    · unfold LawD.fa
      exact List.mem_append_right _ (List.mem_append_left _ (List.mem_map.mpr ⟨x, hm, rfl⟩))
    · unfold LawD.fa
      exact List.mem_append_right _ (List.mem_append_right _ (List.mem_append_left _ (List.mem_map.mpr ⟨x, hm, rfl⟩)))
  refine ⟨fun x k e => ?_, fun k hk hs => ?_, fun x cc k e => ?_, fun cc x k e => ?_, fun cc f e => ?_, fun k kw dfl e hs => ?_, fun x j e => ?_, fun x hx => ?_⟩
  · have h1 := o1 _ (mem_look e)
    split at h1
    · rename_i r hr
      have hr : L.rows[k]? = some r := hr
      have e1 : r.d.at_ = (x, none) := of_decide_eq_true h1
      have e2 : (L.T P w K mg base).F k = He.ga K x := by rw [at_ hr, e1] <;> rfl
      rw [e2]
      refine ⟨He.glo_ok KX G (inFa ?_), ?_⟩
      · unfold LawD.fa
        exact List.mem_append_left _ (List.mem_map.mpr ⟨(x, k), mem_look e, rfl⟩)
      · have := (hfd k r hr).kp
        rw [e1] at this
        exact this
    · cases h1
  · have h1 := o6 k hk
    obtain ⟨r, hr⟩ : ∃ r, L.rows[k]? = some r := ⟨_, List.getElem?_eq_getElem h1⟩
    obtain ⟨b1, b2⟩ := hb k hk r hr
    have hd := hfd k r hr
    have e0 : r.d.dvs K = [] := by unfold He.DefD.dvs; rw [b1] <;> rfl
    rw [e0] at hd
    exact ⟨fdOf k, r.ps, hF k r hr hs, FunD.bindsN hd b2, har k r hr⟩
  · obtain ⟨h1, h2⟩ := o2 _ (mem_look e)
    obtain ⟨c1, c2, _⟩ := cls_in h1
    split at h2
    · rename_i r hr
      have e1 : r.d.at_ = (x, some ("__init__" : Str)) := of_decide_eq_true h2
      refine ⟨by rw [c1]; exact c2, ?_⟩
      have hm : He.Fa.mkr x ∈ L.fa := by
        unfold LawD.fa
        exact List.mem_append_right _ (List.mem_append_right _ (List.mem_append_right _ (List.mem_append_left _ (List.mem_map.mpr ⟨(x, (cc, k)), mem_look e, rfl⟩))))
      have := He.mkr_ok (inFa hm)
      have e2 : (L.T P w K mg base).F k = He.ma K (He.ga K x) "__init__" := by rw [at_ hr, e1] <;> rfl
      rw [c1, e2]
      exact this
    · cases h2
  · obtain ⟨h1, h2⟩ := o3 _ e
    obtain ⟨y, hy⟩ := Option.isSome_iff_exists.mp h1
    obtain ⟨c1, _, c3⟩ := cls_in hy
    have ey : L.cn.getD cc "" = y := by rw [List.getD_eq_getElem?_getD, hy] <;> rfl
    split at h2
    · rename_i r hr
      have e1 : r.d.at_ = (L.cn.getD cc "", some x) := of_decide_eq_true h2
      have hm : He.Fa.meth (L.cn.getD cc "") x ∈ L.fa := by
        unfold LawD.fa
        exact List.mem_append_right _ (List.mem_append_right _ (List.mem_append_right _ (List.mem_append_right _ (List.mem_append_right _ (List.mem_append_left _ (List.mem_map.mpr ⟨(cc, x, k), e, rfl⟩))))))
      have := He.meth_ok (inFa hm)
      have e2 : (L.T P w K mg base).F k = He.ma K (He.ga K (L.cn.getD cc "")) x := by rw [at_ hr, e1] <;> rfl
      rw [ey] at this e2
      rw [c1, e2]
      exact ⟨this, c3⟩
    · cases h2
  · obtain ⟨y, hy⟩ := Option.isSome_iff_exists.mp (o4 _ e)
    obtain ⟨c1, _, c3⟩ := cls_in hy
    have ey : L.cn.getD cc "" = y := by rw [List.getD_eq_getElem?_getD, hy] <;> rfl
    have hm : He.Fa.noat (L.cn.getD cc "") f ∈ L.fa := by
      unfold LawD.fa
      exact List.mem_append_right _ (List.mem_append_right _ (List.mem_append_right _ (List.mem_append_right _ (List.mem_append_left _ (List.mem_map.mpr ⟨(cc, f), e, rfl⟩)))))
    have := He.noat_ok (inFa hm)
    rw [ey] at this
    rw [c1]
    exact ⟨this, c3⟩
  · obtain ⟨r, hr, mvs, gg, k1, k2⟩ := hkw k kw dfl e
    exact ⟨fdOf k, r.ps, mvs, gg, hF k r hr hs, k1 hs, k2, har k r hr⟩
  · obtain ⟨q, hq, eq⟩ := Option.map_eq_some_iff.mp (o5 _ (mem_look e))
    obtain ⟨y, i⟩ := q
    have ex : y = x := eq
    subst ex
    have hq : L.nums[j]? = some (y, i) := hq
    have hm : faOf (y, i) ∈ L.fa := by
      unfold LawD.fa
      exact List.mem_append_right _ (List.mem_append_right _ (List.mem_append_right _ (List.mem_append_right _ (List.mem_append_right _ (List.mem_append_right _ (List.mem_append_left _ (List.mem_map.mpr ⟨(y, i), List.mem_of_getElem? hq, rfl⟩)))))))
    have hc : conT K (y, i) = true := List.all_eq_true.mp hcon _ (List.mem_of_getElem? hq)
    have eg : L.gc j = i := by
      show (L.nums.getD j ("", .int 0)).2 = i
      rw [List.getD_eq_getElem?_getD, hq] <;> rfl
    rw [eg]
    cases i with
    | int i =>
      obtain ⟨t, ht⟩ := He.int_ok KX G (inFa hm)
      exact ⟨_, .int i, ht, ⟨t, rfl⟩, fun hs H m => rfl⟩
    | tup ds => exact ⟨_, .ref (He.ga K y), He.glo_ok KX G (inFa hm), rfl, fun hs H m => constT_rep hc rfl H m⟩
    | _ => cases hc
  · refine He.free_ok KX G (inFa ?_)
    unfold LawD.fa
    exact List.mem_append_right _ (List.mem_append_right _ (List.mem_append_right _ (List.mem_append_right _ (List.mem_append_right _ (List.mem_append_right _ (List.mem_append_right _ (List.mem_map.mpr ⟨x, hx, rfl⟩)))))))
/-- the law's promise at the head's heap -/
theorem law_of {l : PySem.W.OpenLaw} {fs : List Fn} {n N : Nat} {kl : Nat} {rl : RowD} {fa : Addr} {x : Str} (ok : L.ok = true) (ck : ckAll L.tb (L.rows.map RowD.row) fs = true) (KX : K.In h) (G : h.Ns mainGlobals mg) (c : He.SaysX L.fa L.fn [] L.tf L.ex w h K)
    (hb : ∀ k, k ∈ L.tb.pos → ∀ r, L.rows[k]? = some r → BindP r.d r.ps)
    (hkw : ∀ (fdOf : Nat → FuncData) (base : Heap), (∀ k r, L.rows[k]? = some r → FunD K r.d.name r.d.qual r.d.params r.d.body r.d.scope (r.d.dvs K) (r.d.kws K) (He.fAd K r.d.at_) (fdOf k)) → ∀ k kw dfl, (k, kw, dfl) ∈ L.tb.kws → ∃ r, L.rows[k]? = some r ∧ ∃ mvs gg, (∀ hs H m, RepL ((L.T l.prog w K mg base).at hs) H m dfl mvs) ∧ KBn K (fdOf k) r.ps 1 kw gg (fun vs zs => vs ++ (zs ++ mvs)))
    (hcon : conAll K L.nums = true) (hl : L.rows[kl]? = some rl) (hlp : rl.ps = [x]) (hlat : rl.d.at_ = (("law" : Str), (none : Option Str))) (hlb : BindP rl.d rl.ps) (hfa : mg ("law" : Str) = some (.ref fa)) (hfaL : He.Fa.glo "law" ∈ L.fa)
    (math : ∀ ns : List Int, ns.length ≤ N → ∃ S, runF L.gc fs n kl [.scr ns] [] = .ok (.bl true) S) :
    LamX.LawAtS l w K (L2.CX l.prog w) (2 * n) N x mg fa h := by
  have hlen : ∀ (k : Nat) (r : RowD), L.rows[k]? = some r → ∃ f : Fn, fs[k]? = some f ∧ f.np = r.ps.length := fun k r hr => by
    obtain ⟨f, h1, h2⟩ := ckAll_at ck (k := k) (d := r.row) (by rw [List.getElem?_map, hr] <;> rfl)
    unfold ckD at h2
    simp only [Bool.and_eq_true, decide_eq_true_eq] at h2
    exact ⟨f, h1, h2.1.1.2⟩
  have pick : ∀ k : Nat, ∃ fd : FuncData, ∀ r : RowD, L.rows[k]? = some r → FunD K r.d.name r.d.qual r.d.params r.d.body r.d.scope (r.d.dvs K) (r.d.kws K) (He.fAd K r.d.at_) fd := fun k => by
    cases hr : L.rows[k]? with
    | none =>
      obtain ⟨fd, _⟩ := He.SaysD.defs (He.SaysT.d c.t) (d := rl.d) (List.mem_map.mpr ⟨rl, List.mem_of_getElem? hl, rfl⟩)
      exact ⟨fd, fun r e => by cases e⟩
    | some r =>
      obtain ⟨fd, F⟩ := He.SaysD.defs (He.SaysT.d c.t) (d := r.d) (List.mem_map.mpr ⟨r, List.mem_of_getElem? hr, rfl⟩)
      exact ⟨fd, fun r' e => by cases e; exact F⟩
  obtain ⟨fdOf, hfd⟩ := Classical.axiomOfChoice pick
  have efa : fa = He.fAd K rl.d.at_ := by
    have := hfa.symm.trans (He.glo_ok KX G (says_facts c hfaL))
    cases this
    rw [hlat] <;> rfl
  have main : ∀ base : Heap, K.In base → base.Ns mainGlobals mg → (∀ p ∈ L.tf.map (He.cT K), GxR.TabB base mg p.1 p.2) → ∀ (k : Nat) (r : RowD), L.rows[k]? = some r → FnK (L.T l.prog w K mg base) (2 * n) k r.row (fdOf k) (runF L.gc fs n k) := fun base KB GB TB k r hr =>
    run_ok (T := L.T l.prog w K mg base) (tb := L.tb) (gc := L.gc) (rows := L.rows.map RowD.row) (fs := fs) (fdOf := fdOf) ck (fun k d hd => by
      rw [List.getElem?_map] at hd
      obtain ⟨r, hr, rfl⟩ := Option.map_eq_some_iff.mp hd
      have F := hfd k r hr
      have eF : (L.T l.prog w K mg base).F k = He.fAd K r.d.at_ := by
        show He.fAd K (match L.rows[k]? with | some r => r.d.at_ | none => (("" : Str), (none : Option Str))) = _
        rw [hr]
      refine ⟨⟨r.d.name, r.d.qual, r.d.params, r.d.dvs K, r.d.kws K, by rw [eF]; exact F⟩, fun ht cc hcc => ?_⟩
      obtain ⟨oc, od, dV, kV, doc, pm, an, cdv, ct, osl, efd, lk, _, _, _⟩ := F.ex
      have ec : He.codeOf K r.d.at_ = cc := He.codeOf_eq lk hcc
      have hm : He.cT K r.d.at_ ∈ L.tf.map (He.cT K) := List.mem_map.mpr ⟨r.d.at_, List.mem_map.mpr ⟨r, List.mem_filter.mpr ⟨List.mem_of_getElem? hr, ht⟩, rfl⟩, rfl⟩
      refine ⟨(He.cT K r.d.at_).2, ?_, List.mem_map.mpr ⟨_, hm, rfl⟩⟩
      have := TB _ hm
      rw [show (He.cT K r.d.at_).1 = cc from ec] at this
      exact this)
      (fun n hF => tok_of ok KX G c hfd hb (fun k r hr => by
        obtain ⟨f, h1, h2⟩ := hlen k r hr
        rw [← h2]
        exact arity_run h1 n) (fun k r hr => hF k r.row (by rw [List.getElem?_map, hr] <;> rfl)) (hkw fdOf base hfd) hcon) n k r.row (by rw [List.getElem?_map, hr] <;> rfl)
  have hb0 := hlb.2
  refine ⟨fdOf kl, L.tf.map (He.cT K), fun vs H Q E => ∀ b, spOf (L.T l.prog w K mg b) 1 (runF L.gc fs n kl) vs H Q E, ?_, ?_, ?_, ?_, ?_, ?_⟩
  · intro p hp
    obtain ⟨q, hq, rfl⟩ := List.mem_map.mp hp
    exact c.empty q hq
  · intro p hp
    obtain ⟨q, hq, rfl⟩ := List.mem_map.mp hp
    exact c.out q hq
  · intro p hp
    obtain ⟨q, hq, rfl⟩ := List.mem_map.mp hp
    exact PySem.W.codeHd_of_K KX (c.hd q hq)
  · intro s u
    have hd := hfd kl rl hl
    have e0 : rl.d.dvs K = [] := by unfold He.DefD.dvs; rw [hlb.1] <;> rfl
    have e1 : ∀ kws, FunD K rl.d.name rl.d.qual rl.d.params rl.d.body rl.d.scope [] kws (He.fAd K rl.d.at_) (fdOf kl) → BindsTo s (fdOf kl) ⟨[u], []⟩ [(x, u)] := fun kws hd => by
      have := FunD.bindsA (ps := rl.ps) hd hb0 s [u] (by rw [hlp] <;> rfl)
      rw [hlp] at this
      exact this
    rw [e0] at hd
    exact e1 _ hd
  · intro H a ns hN _ hT hS b
    obtain ⟨S, hm⟩ := math ns hN
    refine ⟨rfl, [.scr ns], [], [], ⟨.ref a, [], rfl, ⟨a, rfl, ?_⟩, rfl⟩, ⟨rfl, List.nodup_nil, fun _ z => (by cases z), fun P hP => ?_, fun n a o h1 _ => (by simp at h1)⟩, ?_⟩
    · rcases hS with z | z
      · exact .inl ⟨z, by simp, by intro q; cases q⟩
      · exact .inr (.inr z)
    · obtain ⟨p, hp, rfl⟩ := List.mem_map.mp hP
      exact ⟨by simp, #[], hT p hp, True.intro⟩
    · show Ok _ _ H [] _ (runF L.gc fs n kl [.scr ns] [])
      rw [hm]
      exact fun H' m' _ _ v rv => rv
  · intro base KB GB TB
    have := main base KB GB (fun p hp => ⟨(TB p hp).1, (TB p hp).2, (TB p hp).3⟩) kl rl hl []
    rw [show (L.T l.prog w K mg base).F kl = fa by
      rw [efa]
      show He.fAd K (match L.rows[kl]? with | some r => r.d.at_ | none => (("" : Str), (none : Option Str))) = _
      rw [hl]] at this
    have e2 : rl.row.ps = [x] := hlp
    rw [e2] at this
    exact this.imp fun vs H Q E z => z base
end
end TK
end
section
set_option autoImplicit false
set_option linter.all false
set_option maxRecDepth 100000
namespace TK
open PySem L2 PySem.Spec PyProof.Rows
/-- where a keyword's default stands -/
def kwAt (p : He.Defn) (x : Str) (K : PySem.W.Frag) : Addr := match K.lookup (He.fAd K p) with
  | some ⟨_, _, .func fd, _⟩ => (match fd.kwdefaults with
    | .ref D => (match PySem.W.nsIn K D x with
      | some (some (.ref a)) => a
      | _ => 0)
    | _ => 0)
  | _ => 0
def emptyT (K : PySem.W.Frag) (a : Addr) : Bool := match K.lookup a with
  | some ⟨.type c, _, .seq its _, _⟩ => decide (c = "tuple") && its.isEmpty
  | _ => false
theorem emptyT_rep {K : PySem.W.Frag} {a : Addr} (h : emptyT K a = true) {T : Tb} (hK : T.K = K) (H : Hp) (m : List Addr) : RepV T H m (.tup []) (.ref a) := by
  unfold emptyT at h
  split at h
  · rename_i c dd its n sl e
    obtain ⟨h1, h2⟩ := Bool.and_eq_true_iff.mp h
    refine ⟨a, [], rfl, .inr (.inr ⟨_, its, n, by rw [hK]; exact e, congrArg Value.type (of_decide_eq_true h1), rfl, by rw [Array.isEmpty_iff.mp h2]; decide, ?_⟩), rfl⟩
    rw [Array.isEmpty_iff.mp h2]
    exact .nil
  · cases h
end TK
end
section
set_option autoImplicit false
set_option linter.all false
set_option maxRecDepth 100000
/-! ### what the texts do, row by row -/
namespace TK
open PySem
section
variable {gc : Nat → D} {G : Gm} {s : Vs} {S : Sx}
@[simp] theorem ev_v {i : Nat} : (ev gc G (.v i)).val s S = lift (s.getD i none) S := rfl
@[simp] theorem ev_c {d : D} : (ev gc G (.c d)).val s S = .ok d S := rfl
@[simp] theorem ev_g {j : Nat} : (ev gc G (.g j)).val s S = .ok (gc j) S := rfl
@[simp] theorem ev_bin {o : Op} {a b : E} : (ev gc G (.bin o a b)).val s S = ((ev gc G a).val s S).bind fun x S => ((ev gc G b).val s S).bind fun y S => lift (opD o x y S) S := rfl
@[simp] theorem ev_neg {a : E} : (ev gc G (.neg a)).val s S = ((ev gc G a).val s S).bind fun x S => lift (negD x) S := rfl
@[simp] theorem ev_not {a : E} : (ev gc G (.not a)).val s S = ((ev gc G a).val s S).bind fun x S => (lift (truD x S) S).bind fun b S => .ok (.bl (!b)) S := rfl
@[simp] theorem ev_notT {a : E} : (ev gc G (.not a)).tst s S = ((ev gc G a).tst s S).bind fun b S => .ok (!b) S := rfl
@[simp] theorem ev_and {es : Es} : (ev gc G (.and es)).val s S = (evs gc G es).andV s S := rfl
@[simp] theorem ev_andT {es : Es} : (ev gc G (.and es)).tst s S = (evs gc G es).andT s S := rfl
@[simp] theorem ev_or {es : Es} : (ev gc G (.or es)).val s S = (evs gc G es).orV s S := rfl
@[simp] theorem ev_orT {es : Es} : (ev gc G (.or es)).tst s S = (evs gc G es).orT s S := rfl
@[simp] theorem ev_cmp {o : Cp} {a b : E} : (ev gc G (.cmp o a b)).val s S = (((ev gc G a).val s S).bind fun x S => ((ev gc G b).val s S).bind fun y S => lift (cmpD o x y S) S).bind fun b S => .ok (.bl b) S := rfl
@[simp] theorem ev_cmpT {o : Cp} {a b : E} : (ev gc G (.cmp o a b)).tst s S = ((ev gc G a).val s S).bind fun x S => ((ev gc G b).val s S).bind fun y S => lift (cmpD o x y S) S := rfl
@[simp] theorem ev_chain {o p : Cp} {a b c : E} : (ev gc G (.chain o p a b c)).val s S = (((ev gc G a).val s S).bind fun x S => ((ev gc G b).val s S).bind fun y S => (lift (cmpD o x y S) S).bind fun t S => if t = true then ((ev gc G c).val s S).bind fun z S => lift (cmpD p y z S) S else .ok false S).bind fun b S => .ok (.bl b) S := rfl
@[simp] theorem ev_chainT {o p : Cp} {a b c : E} : (ev gc G (.chain o p a b c)).tst s S = ((ev gc G a).val s S).bind fun x S => ((ev gc G b).val s S).bind fun y S => (lift (cmpD o x y S) S).bind fun t S => if t = true then ((ev gc G c).val s S).bind fun z S => lift (cmpD p y z S) S else .ok false S := rfl
@[simp] theorem ev_ife {t a b : E} : (ev gc G (.ife t a b)).val s S = ((ev gc G t).tst s S).bind fun k S => if k = true then (ev gc G a).val s S else (ev gc G b).val s S := rfl
@[simp] theorem ev_sub {a i : E} : (ev gc G (.sub a i)).val s S = ((ev gc G a).val s S).bind fun x S => ((ev gc G i).val s S).bind fun y S => lift (ixD x y S) S := rfl
@[simp] theorem ev_dget {a i : E} : (ev gc G (.dget a i)).val s S = ((ev gc G a).val s S).bind fun x S => ((ev gc G i).val s S).bind fun y S => lift (dgetD x y S) S := rfl
@[simp] theorem ev_slc {a : E} {lo hi : Eo} : (ev gc G (.slc a lo hi)).val s S = ((ev gc G a).val s S).bind fun x S => ((evo gc G lo) s S).bind fun l S => ((evo gc G hi) s S).bind fun h S => lift (slcD x l h S) S := rfl
@[simp] theorem ev_tup {es : Es} : (ev gc G (.tup es)).val s S = ((evs gc G es).vals s S).bind fun xs S => if xs.length ≤ sizeLine then .ok (.tup xs) S else .bad := rfl
@[simp] theorem ev_lst {tr : Bool} {es : Es} : (ev gc G (.lst tr es)).val s S = ((evs gc G es).vals s S).bind fun xs S => newL tr xs S := rfl
@[simp] theorem ev_dct {tr : Bool} {ks : List L2.Key} {es : Es} : (ev gc G (.dct tr ks es)).val s S = ((evs gc G es).vals s S).bind fun xs S => if xs.length = ks.length ∧ ks.length ≤ 15 ∧ ks.Nodup then (if tr = true then .ok (.obj S.length) (S ++ [.dk ks xs]) else .ok (.dv ks xs) S) else .bad := rfl
@[simp] theorem ev_join {o a : E} : (ev gc G (.join o a)).val s S = ((ev gc G o).val s S).bind fun x S => (lift (strD x) S).bind fun z S => ((ev gc G a).val s S).bind fun y S => lift (joinD z y S) S := rfl
@[simp] theorem ev_dgetd {a i x : E} : (ev gc G (.dgetd a i x)).val s S = ((ev gc G a).val s S).bind fun d S => if isDk d S = true then ((ev gc G i).val s S).bind fun y S => ((ev gc G x).val s S).bind fun z S => lift (dgetdD d y z S) S else .bad := rfl
@[simp] theorem ev_gf {k : Nat} : (ev gc G (.gf k)).val s S = .ok (.fn k) S := rfl
theorem ev_callv {i : Nat} {ks : List Nat} {md : Nat} {es : Es} : (ev gc G (.callv i ks md es)).val s S = match s.getD i none with
    | some (.fn k) => if k ∈ ks then ((evs gc G es).vals s S).bind fun xs S => wrp md S (G k xs S) else .bad
    | _ => .bad := rfl
@[simp] theorem ev_callv_fn {i k : Nat} {ks : List Nat} {md : Nat} {es : Es} (h : s.getD i none = some (.fn k)) (hk : k ∈ ks) : (ev gc G (.callv i ks md es)).val s S = ((evs gc G es).vals s S).bind fun xs S => wrp md S (G k xs S) := by
  rw [ev_callv, h]
  simp only [if_pos hk]
@[simp] theorem ev_dcp {a : E} : (ev gc G (.dcp a)).val s S = ((ev gc G a).val s S).bind fun d S => dcpD d S := rfl
@[simp] theorem ev_srt {tr : Bool} {a : E} : (ev gc G (.srt tr a)).val s S = ((ev gc G a).val s S).bind fun d S => srtD tr d S := rfl
@[simp] theorem ev_srts {a : E} : (ev gc G (.srts a)).val s S = ((ev gc G a).val s S).bind fun d S => srtsD d S := rfl
@[simp] theorem ev_splt {tr : Bool} {o a : E} : (ev gc G (.splt tr o a)).val s S = ((ev gc G o).val s S).bind fun x S => (lift (strD x) S).bind fun _ S => ((ev gc G a).val s S).bind fun y S => spltD tr x y S := rfl
@[simp] theorem ev_stp2 {tr k : Bool} {a : E} : (ev gc G (.stp2 tr k a)).val s S = ((ev gc G a).val s S).bind fun d S => stp2D tr k d S := rfl
@[simp] theorem ev_rvt {a : E} : (ev gc G (.rvt a)).val s S = ((ev gc G a).val s S).bind fun d S => lift (rvtD d) S := rfl
@[simp] theorem ev_lzip {tr : Bool} {a b : E} : (ev gc G (.lzip tr a b)).val s S = ((ev gc G a).val s S).bind fun d S => ((ev gc G b).val s S).bind fun e S => lzipD tr d e S := rfl
@[simp] theorem ev_sn1 {a : E} : (ev gc G (.sn1 a)).val s S = ((ev gc G a).val s S).bind fun d S => sn1D d S := rfl
@[simp] theorem ev_sof {a : E} : (ev gc G (.sof a)).val s S = ((ev gc G a).val s S).bind fun d S => sofD d S := rfl
@[simp] theorem ev_sadd {a b : E} : (ev gc G (.sadd a b)).val s S = ((ev gc G a).val s S).bind fun d S => if isSet d S = true then ((ev gc G b).val s S).bind fun e S => saddD d e S else .bad := rfl
@[simp] theorem ev_ssrt {tr : Bool} {a : E} : (ev gc G (.ssrt tr a)).val s S = ((ev gc G a).val s S).bind fun d S => ssrtD tr d S := rfl
@[simp] theorem ev_rev {tr : Bool} {a : E} : (ev gc G (.rev tr a)).val s S = ((ev gc G a).val s S).bind fun d S => (lift (lstOf d S) S).bind fun xs S => newL tr xs.reverse S := rfl
@[simp] theorem ev_addl {a b : E} : (ev gc G (.addl a b)).val s S = ((ev gc G a).val s S).bind fun d S => ((ev gc G b).val s S).bind fun e S => addlD d e S := rfl
@[simp] theorem ev_dnew : (ev gc G .dnew).val s S = .ok (.obj S.length) (S ++ [.dn [] []]) := rfl
@[simp] theorem ev_dn1 {k a : E} : (ev gc G (.dn1 k a)).val s S = (((ev gc G k).val s S).bind fun d S => ((ev gc G a).val s S).bind fun e S => (R.ok [d, e] S : R (List D))).bind fun xs S => dn1D xs S := rfl
@[simp] theorem ev_b1 {f : B1} {a : E} : (ev gc G (.b1 f a)).val s S = ((ev gc G a).val s S).bind fun x S => b1D f x S := rfl
@[simp] theorem ev_mm {m : Bool} {a b : E} : (ev gc G (.mm m a b)).val s S = ((ev gc G a).val s S).bind fun x S => ((ev gc G b).val s S).bind fun y S => lift (mmD m x y) S := rfl
@[simp] theorem ev_isi {t : String} {a : E} : (ev gc G (.isi t a)).val s S = ((ev gc G a).val s S).bind fun x S => lift ((isiD t x S).map .bl) S := rfl
@[simp] theorem ev_fld {c : Nat} {a : E} {x : Str} : (ev gc G (.fld c a x)).val s S = ((ev gc G a).val s S).bind fun d S => lift (fldD c d x S) S := rfl
@[simp] theorem ev_call {k m : Nat} {es : Es} : (ev gc G (.call k m es)).val s S = ((evs gc G es).vals s S).bind fun xs S => wrp m S (G k xs S) := rfl
@[simp] theorem ev_new {c k m : Nat} {es : Es} : (ev gc G (.new c k m es)).val s S = ((evs gc G es).vals s S).bind fun xs S => wrp m S (newD c (G k) xs S) := rfl
@[simp] theorem ev_newK {c k m : Nat} {kw : List Str} {dfl : List D} {es : Es} : (ev gc G (.newK c k m kw dfl es)).val s S = ((evs gc G es).vals s S).bind fun xs S => if xs.length = kw.length then wrp m S (newD c (G k) (xs ++ dfl) S) else .bad := rfl
@[simp] theorem ev_mt {c k m : Nat} {a : E} {x : Str} {es : Es} : (ev gc G (.mt c k m a x es)).val s S = ((ev gc G a).val s S).bind fun d S => (lift (mtD c x d S) S).bind fun _ S => ((evs gc G es).vals s S).bind fun xs S => wrp m S (G k (d :: xs) S) := rfl
@[simp] theorem ev_app {a b : E} : (ev gc G (.app a b)).val s S = ((ev gc G a).val s S).bind fun x S => if (lstOf x S).isSome = true then ((ev gc G b).val s S).bind fun y S => appD x y S else .bad := rfl
@[simp] theorem ev_ext {a b : E} : (ev gc G (.ext a b)).val s S = ((ev gc G a).val s S).bind fun x S => if (lstOf x S).isSome = true then ((ev gc G b).val s S).bind fun y S => extD x y S else .bad := rfl
@[simp] theorem ev_pop {a : E} : (ev gc G (.pop a)).val s S = ((ev gc G a).val s S).bind fun x S => popD x S := rfl
@[simp] theorem ev_popi {a i : E} : (ev gc G (.popi a i)).val s S = ((ev gc G a).val s S).bind fun x S => if (lstOf x S).isSome = true then ((ev gc G i).val s S).bind fun y S => popiD x y S else .bad := rfl
@[simp] theorem ev_lc {tr : Bool} {tg : Tg} {it : It} {cond : Eo} {elt : E} {vs : List Nat} : (ev gc G (.lc tr tg it cond elt vs)).val s S = ((evi gc G it) s S).bind fun xs S => (lcL tg (evc gc G cond) (ev gc G elt).val xs.2 (wipeV s vs) xs.1 [] S).nox.bind fun ys S => newL tr ys S := rfl
@[simp] theorem ev_lc2 {tr : Bool} {tg tg1 : Tg} {it : It} {a1 elt : E} {vs vs1 : List Nat} : (ev gc G (.lc2 tr tg tg1 it a1 elt vs vs1)).val s S = ((evi gc G it) s S).bind fun xs S => (lc2L tg tg1 (ev gc G a1).val (ev gc G elt).val xs.2 (wipeV s vs) vs1 xs.1 [] S).nox.bind fun ys S => newL tr ys S := rfl
@[simp] theorem ev_all {tg : Tg} {it : It} {elt : E} {vs : List Nat} : (ev gc G (.all tg it elt vs)).val s S = ((evi gc G it) s S).bind fun xs S => (allL tg (ev gc G elt).val xs.2 (wipeV s vs) xs.1 S).nox.bind fun b S => .ok (.bl b) S := rfl
/-- tests of values -/
@[simp] theorem tst_v {i : Nat} : (ev gc G (.v i)).tst s S = ((ev gc G (.v i)).val s S).bind fun d S => lift (truD d S) S := rfl
@[simp] theorem tst_call {k m : Nat} {es : Es} : (ev gc G (.call k m es)).tst s S = ((ev gc G (.call k m es)).val s S).bind fun d S => lift (truD d S) S := rfl
@[simp] theorem tst_isi {t : String} {a : E} : (ev gc G (.isi t a)).tst s S = ((ev gc G (.isi t a)).val s S).bind fun d S => lift (truD d S) S := rfl
@[simp] theorem tst_all {tg : Tg} {it : It} {elt : E} {vs : List Nat} : (ev gc G (.all tg it elt vs)).tst s S = ((ev gc G (.all tg it elt vs)).val s S).bind fun d S => lift (truD d S) S := rfl
@[simp] theorem tst_mt {c k m : Nat} {a : E} {x : Str} {es : Es} : (ev gc G (.mt c k m a x es)).tst s S = ((ev gc G (.mt c k m a x es)).val s S).bind fun d S => lift (truD d S) S := rfl
@[simp] theorem tst_sub {a i : E} : (ev gc G (.sub a i)).tst s S = ((ev gc G (.sub a i)).val s S).bind fun d S => lift (truD d S) S := rfl
@[simp] theorem tst_dget {a i : E} : (ev gc G (.dget a i)).tst s S = ((ev gc G (.dget a i)).val s S).bind fun d S => lift (truD d S) S := rfl
@[simp] theorem tst_fld {c : Nat} {a : E} {x : Str} : (ev gc G (.fld c a x)).tst s S = ((ev gc G (.fld c a x)).val s S).bind fun d S => lift (truD d S) S := rfl
/-! lists -/
@[simp] theorem evs_nil : (evs gc G .nil).vals s S = .ok [] S := rfl
@[simp] theorem evs_cons {e : E} {es : Es} : (evs gc G (.cons e es)).vals s S = ((ev gc G e).val s S).bind fun x S => ((evs gc G es).vals s S).bind fun xs S => .ok (x :: xs) S := rfl
@[simp] theorem andV_one {e : E} : (evs gc G (.cons e .nil)).andV s S = (ev gc G e).val s S := rfl
@[simp] theorem andV_cons {e f : E} {es : Es} : (evs gc G (.cons e (.cons f es))).andV s S = ((ev gc G e).val s S).bind fun x S => (lift (truD x S) S).bind fun b S => if b = true then (evs gc G (.cons f es)).andV s S else .ok x S := rfl
@[simp] theorem orV_one {e : E} : (evs gc G (.cons e .nil)).orV s S = (ev gc G e).val s S := rfl
@[simp] theorem orV_cons {e f : E} {es : Es} : (evs gc G (.cons e (.cons f es))).orV s S = ((ev gc G e).val s S).bind fun x S => (lift (truD x S) S).bind fun b S => if b = true then .ok x S else (evs gc G (.cons f es)).orV s S := rfl
@[simp] theorem andT_nil : (evs gc G .nil).andT s S = .ok true S := rfl
@[simp] theorem andT_cons {e : E} {es : Es} : (evs gc G (.cons e es)).andT s S = ((ev gc G e).tst s S).bind fun b S => if b = true then (evs gc G es).andT s S else .ok false S := rfl
@[simp] theorem orT_nil : (evs gc G .nil).orT s S = .ok false S := rfl
@[simp] theorem orT_cons {e : E} {es : Es} : (evs gc G (.cons e es)).orT s S = ((ev gc G e).tst s S).bind fun b S => if b = true then .ok true S else (evs gc G es).orT s S := rfl
@[simp] theorem evo_none : (evo gc G .none) s S = .ok none S := rfl
@[simp] theorem evo_some {e : E} : (evo gc G (.some e)) s S = ((ev gc G e).val s S).bind fun d S => (lift (intD d) S).bind fun i S => .ok (some i) S := rfl
@[simp] theorem evc_none : (evc gc G .none) s S = .ok true S := rfl
@[simp] theorem evc_some {e : E} : (evc gc G (.some e)) s S = (ev gc G e).tst s S := rfl
@[simp] theorem evi_e {a : E} : (evi gc G (.e a)) s S = ((ev gc G a).val s S).bind fun d S => seqI d S := rfl
@[simp] theorem evi_rng {lo : Eo} {a : E} : (evi gc G (.rng lo a)) s S = ((evo gc G lo) s S).bind fun l S => ((ev gc G a).val s S).bind fun h S => rngI l h S := rfl
@[simp] theorem evi_enum {a : E} : (evi gc G (.enum a)) s S = ((ev gc G a).val s S).bind fun d S => enumI d S := rfl
/-! statements -/
@[simp] theorem ess_nil : ess gc G .nil s S = .ok (.nx s) S := rfl
@[simp] theorem ess_cons {a : Sm} {r : Sms} : ess gc G (.cons a r) s S = (es gc G a s S).bind fun f S => (match f with | .nx s' => ess gc G r s' S | f => .ok f S) := rfl
@[simp] theorem es_set {i : Nat} {e : E} : es gc G (.set i e) s S = ((ev gc G e).val s S).bind fun d S => .ok (.nx (s.set i (some d))) S := rfl
@[simp] theorem es_unp {tg : Tg} {e : E} : es gc G (.unp tg e) s S = ((ev gc G e).val s S).bind fun d S => (lift (asg tg d s) S).bind fun s' S => .ok (.nx s') S := rfl
@[simp] theorem es_seti {a i e : E} : es gc G (.seti a i e) s S = ((ev gc G e).val s S).bind fun d S => ((ev gc G a).val s S).bind fun x S => ((ev gc G i).val s S).bind fun y S => (match setD x y d S with | some S' => .ok (.nx s) S' | none => .bad) := rfl
@[simp] theorem es_dput {a i e : E} : es gc G (.dput a i e) s S = ((ev gc G e).val s S).bind fun d S => ((ev gc G a).val s S).bind fun x S => ((ev gc G i).val s S).bind fun y S => (match dputD x y d S with | some S' => .ok (.nx s) S' | none => .bad) := rfl
@[simp] theorem es_setf {c : Nat} {a e : E} {x : Str} : es gc G (.setf c a x e) s S = ((ev gc G e).val s S).bind fun d S => ((ev gc G a).val s S).bind fun o S => (match setF c o x d S with | some S' => .ok (.nx s) S' | none => .bad) := rfl
@[simp] theorem es_aug {i : Nat} {e : E} : es gc G (.aug i e) s S = (match s.getD i none with | some (.int x) => ((ev gc G e).val s S).bind fun d S => (match d with | .int y => .ok (.nx (s.set i (some (.int (x + y))))) S | _ => .bad) | _ => .bad) := rfl
@[simp] theorem es_ite {t : E} {a b : Sms} : es gc G (.ite t a b) s S = ((ev gc G t).tst s S).bind fun k S => if k = true then ess gc G a s S else ess gc G b s S := rfl
@[simp] theorem es_for {tg : Tg} {it : It} {b : Sms} : es gc G (.for_ tg it b) s S = ((evi gc G it) s S).bind fun xs S => forL tg xs.2 (ess gc G b) xs.1 s S := rfl
@[simp] theorem es_whl {n : Nat} {t : E} {b : Sms} : es gc G (.whl n t b) s S = whlL (ev gc G t).tst (ess gc G b) n s S := rfl
@[simp] theorem es_ret {e : E} : es gc G (.ret e) s S = ((ev gc G e).val s S).bind fun d S => .ok (.rt d) S := rfl
@[simp] theorem es_retN : es gc G .retN s S = .ok (.rt .non) S := rfl
@[simp] theorem es_ex {e : E} : es gc G (.ex e) s S = ((ev gc G e).val s S).bind fun _ S => .ok (.nx s) S := rfl
@[simp] theorem es_brk : es gc G .brk s S = .ok (.bk s) S := rfl
@[simp] theorem es_pass : es gc G .pass s S = .ok (.nx s) S := rfl
@[simp] theorem es_try {c i : Nat} {b h : Sms} : es gc G (.try_ c i b h) s S = (match ess gc G b s S with | .ok f S => .ok f S | _ => .bad) := rfl
@[simp] theorem es_never : es gc G .never s S = .bad := rfl
end
@[simp] theorem asg_nm {i : Nat} {d : D} {s : Vs} : asg (.nm i) d s = some (s.set i (some d)) := rfl
@[simp] theorem asg_tp {ts : List Tg} {ds : List D} {s : Vs} : asg (.tp ts) (.tup ds) s = asgs ts ds s := rfl
@[simp] theorem asgs_nil {s : Vs} : asgs [] [] s = some s := rfl
@[simp] theorem asgs_cons {t : Tg} {ts : List Tg} {d : D} {ds : List D} {s : Vs} : asgs (t :: ts) (d :: ds) s = (match asg t d s with | some s' => asgs ts ds s' | none => none) := rfl
@[simp] theorem wipeV_nil {s : Vs} : wipeV s [] = s := rfl
@[simp] theorem wipeV_cons {s : Vs} {v : Nat} {vs : List Nat} : wipeV s (v :: vs) = (wipeV s vs).set v none := rfl
@[simp] theorem wrp_0 {S : Sx} {r : R D} : wrp 0 S r = r := by unfold wrp; rfl
@[simp] theorem op_add {i j : Int} {S : Sx} : opD .add (.int i) (.int j) S = some (.int (i + j)) := rfl
@[simp] theorem op_sub {i j : Int} {S : Sx} : opD .sub (.int i) (.int j) S = some (.int (i - j)) := rfl
@[simp] theorem tru_bl {b : Bool} {S : Sx} : truD (.bl b) S = some b := rfl
@[simp] theorem tru_int {i : Int} {S : Sx} : truD (.int i) S = some (i != 0) := rfl
@[simp] theorem cmp_lt {i j : Int} {S : Sx} : cmpD .lt (.int i) (.int j) S = some (decide (i < j)) := rfl
@[simp] theorem cmp_le {i j : Int} {S : Sx} : cmpD .le (.int i) (.int j) S = some (decide (i ≤ j)) := rfl
@[simp] theorem cmp_gt {i j : Int} {S : Sx} : cmpD .gt (.int i) (.int j) S = some (decide (j < i)) := rfl
@[simp] theorem cmp_ge {i j : Int} {S : Sx} : cmpD .ge (.int i) (.int j) S = some (decide (j ≤ i)) := rfl
@[simp] theorem cmp_is {a : D} {S : Sx} : cmpD .is_ a .non S = some (decide (a = .non)) := rfl
@[simp] theorem cmp_isn {a : D} {S : Sx} : cmpD .isn a .non S = some (!decide (a = .non)) := rfl
@[simp] theorem cmp_isb {a b : Bool} {S : Sx} : cmpD .is_ (.bl a) (.bl b) S = some (decide (a = b)) := rfl
@[simp] theorem cmp_isnb {a b : Bool} {S : Sx} : cmpD .isn (.bl a) (.bl b) S = some (!decide (a = b)) := rfl
@[simp] theorem b1_int {i : Int} {S : Sx} : b1D .int (.int i) S = .ok (.int i) S := rfl
@[simp] theorem b1_len {x : List D} {S : Sx} : b1D .len (.tup x) S = .ok (.int x.length) S := rfl
@[simp] theorem b1_lenl {x : List D} {S : Sx} : b1D .len (.lv x) S = .ok (.int x.length) S := rfl
@[simp] theorem b1_tup {x : List D} {S : Sx} : b1D .tuple (.lv x) S = .ok (.tup x) S := rfl
@[simp] theorem b1_tupt {x : List D} {S : Sx} : b1D .tuple (.tup x) S = .ok (.tup x) S := rfl
@[simp] theorem b1_list {tr : Bool} {x : List Int} {S : Sx} : b1D (.list tr) (.scr x) S = newL tr (x.map .int) S := rfl
@[simp] theorem neg_int {i : Int} : negD (.int i) = some (.int (-i)) := rfl
theorem op_mul {i j : Int} {S : Sx} (h : (-(2 ^ 64) < i ∧ i < 2 ^ 64) ∨ (-(2 ^ 64) < j ∧ j < 2 ^ 64)) : opD .mul (.int i) (.int j) S = some (.int (i * j)) := if_pos h
theorem op_mod {i j : Int} {S : Sx} (h : 0 < j) : opD .mod (.int i) (.int j) S = some (.int (i % j)) := if_pos h
theorem op_fdiv {i j : Int} {S : Sx} (h : 0 < j ∧ j < 1073741824) : opD .fdiv (.int i) (.int j) S = some (.int (i / j)) := if_pos h
theorem newL_f {xs : List D} {S : Sx} (h : xs.length ≤ sizeLine) : newL false xs S = .ok (.lv xs) S := by unfold newL; rw [if_pos h] <;> rfl
theorem newL_t {xs : List D} {S : Sx} (h : xs.length ≤ sizeLine) : newL true xs S = .ok (.obj S.length) (S ++ [.lst xs]) := by unfold newL; rw [if_pos h] <;> rfl
/-- the drawing state -/
def St (xs : List Int) (c s : Int) (r : Sx) : Sx := .lst (xs.map .int) :: .lst [.obj 0, .int c, .int s] :: r
end TK
end
section
set_option autoImplicit false
set_option linter.all false
set_option maxRecDepth 100000
namespace TK
open PySem
theorem szl : (1000000 : Nat) ≤ sizeLine := by decide
theorem b1_leno {n : Nat} {S : Sx} {xs : List D} (h : S[n]? = some (.lst xs)) : b1D .len (.obj n) S = .ok (.int xs.length) S := by simp [b1D, seqOf, lstOf, h]
theorem b1_tupo {n : Nat} {S : Sx} {xs : List D} (h : S[n]? = some (.lst xs)) : b1D .tuple (.obj n) S = .ok (.tup xs) S := by simp [b1D, seqOf, lstOf, h]
theorem ix_obj {n : Nat} {i : Int} {S : Sx} {xs : List D} (h : S[n]? = some (.lst xs)) : ixD (.obj n) (.int i) S = L2.atI xs i := by simp [ixD, seqOf, lstOf, h]
theorem ix_tup {i : Int} {S : Sx} {xs : List D} : ixD (.tup xs) (.int i) S = L2.atI xs i := by simp [ixD, seqOf]
theorem ix_lv {i : Int} {S : Sx} {xs : List D} : ixD (.lv xs) (.int i) S = L2.atI xs i := by simp [ixD, seqOf, lstOf]
theorem at_nat {α : Type} {xs : List α} {n : Nat} : L2.atI xs (n : Int) = xs[n]? := by
  unfold L2.atI L2.ixN
  by_cases h : n < xs.length
  · simp [h]
  · simp [h]
theorem at_int {α : Type} {xs : List α} {i : Int} (h : 0 ≤ i) : L2.atI xs i = xs[i.toNat]? := by
  obtain ⟨n, rfl⟩ := Int.eq_ofNat_of_zero_le h
  exact at_nat
@[simp] theorem at_0 {α : Type} {x : α} {xs : List α} : L2.atI (x :: xs) 0 = some x := by
  have := at_nat (xs := x :: xs) (n := 0)
  simpa using this
@[simp] theorem at_1 {α : Type} {x y : α} {xs : List α} : L2.atI (x :: y :: xs) 1 = some y := by
  have := at_nat (xs := x :: y :: xs) (n := 1)
  simpa using this
@[simp] theorem at_2 {α : Type} {x y z : α} {xs : List α} : L2.atI (x :: y :: z :: xs) 2 = some z := by
  have := at_nat (xs := x :: y :: z :: xs) (n := 2)
  simpa using this
theorem set_obj {n k : Nat} {d : D} {S : Sx} {xs : List D} (h : S[n]? = some (.lst xs)) (hk : k < xs.length) : setD (.obj n) (.int (k : Int)) d S = some (S.set n (.lst (xs.set k d))) := by
  simp [setD, h, L2.ixN, hk]
theorem popi_0 {n : Nat} {S : Sx} {x : D} {xs : List D} (h : S[n]? = some (.lst (x :: xs))) : popiD (.obj n) (.int 0) S = .ok x (S.set n (.lst xs)) := by
  simp [popiD, h, seqIndex?]
theorem lst_obj {n : Nat} {S : Sx} {xs : List D} (h : S[n]? = some (.lst xs)) : lstOf (.obj n) S = some xs := by simp [lstOf, h]
theorem app_obj {n : Nat} {d : D} {S : Sx} {xs : List D} (h : S[n]? = some (.lst xs)) (hl : xs.length < sizeLine) : appD (.obj n) d S = .ok .non (S.set n (.lst (xs ++ [d]))) := by simp [appD, h, hl]
section
variable {xs : List Int} {c s : Int} {r : Sx}
theorem st_0 : (St xs c s r)[0]? = some (.lst (xs.map .int)) := rfl
theorem st_1 : (St xs c s r)[1]? = some (.lst [.obj 0, .int c, .int s]) := rfl
/-- one drawing's places -/
theorem st_ix1 : ixD (.obj 1) (.int 1) (St xs c s r) = some (.int c) := by rw [ix_obj st_1] <;> rfl
theorem st_ix2 : ixD (.obj 1) (.int 2) (St xs c s r) = some (.int s) := by rw [ix_obj st_1] <;> rfl
theorem st_ix0 : ixD (.obj 1) (.int 0) (St xs c s r) = some (.obj 0) := by rw [ix_obj st_1] <;> rfl
theorem st_set1 {i : Int} : setD (.obj 1) (.int 1) (.int i) (St xs c s r) = some (St xs i s r) := (set_obj (n := 1) (k := 1) (d := .int i) (st_1 (xs := xs) (c := c) (s := s) (r := r)) (by simp)).trans rfl
theorem st_set2 {i : Int} : setD (.obj 1) (.int 2) (.int i) (St xs c s r) = some (St xs c i r) := (set_obj (n := 1) (k := 2) (d := .int i) (st_1 (xs := xs) (c := c) (s := s) (r := r)) (by simp)).trans rfl
theorem st_len : b1D .len (.obj 0) (St xs c s r) = .ok (.int xs.length) (St xs c s r) := by rw [b1_leno st_0]; simp
theorem st_lst : (lstOf (.obj 0) (St xs c s r)).isSome = true := by rw [lst_obj st_0] <;> rfl
theorem st_pop {x : Int} : popiD (.obj 0) (.int 0) (St (x :: xs) c s r) = .ok (.int x) (St xs c s r) := by rw [popi_0 (x := .int x) (xs := xs.map .int) rfl] <;> rfl
end
/-- a drawing def's text -/
def fNext : Sms := (.cons (.ite (.cmp .lt (.sub (.v 0) (.c (.int 1))) (.v 1)) (.cons (.ite (.cmp .gt (.b1 .len (.sub (.v 0) (.c (.int 0)))) (.c (.int 0))) (.cons (.set 2 (.popi (.sub (.v 0) (.c (.int 0))) (.c (.int 0)))) (.cons (.seti (.v 0) (.c (.int 1)) (.ife (.cmp .ge (.v 2) (.c (.int 0))) (.bin .mul (.c (.int 2)) (.v 2)) (.bin .sub (.bin .mul (.neg (.c (.int 2))) (.v 2)) (.c (.int 1))))) (.cons (.seti (.v 0) (.c (.int 2)) (.bin .mod (.b1 .int (.bin .add (.bin .mul (.sub (.v 0) (.c (.int 2))) (.c (.int 69621))) (.sub (.v 0) (.c (.int 1))))) (.c (.int 2147483647)))) .nil))) (.cons (.seti (.v 0) (.c (.int 2)) (.bin .mod (.b1 .int (.bin .add (.bin .mul (.sub (.v 0) (.c (.int 2))) (.c (.int 48271))) (.c (.int 11)))) (.c (.int 2147483647)))) (.cons (.seti (.v 0) (.c (.int 1)) (.bin .mod (.b1 .int (.bin .mul (.sub (.v 0) (.c (.int 2))) (.sub (.v 0) (.c (.int 2))))) (.c (.int 1000003)))) .nil))) .nil) .nil) (.cons (.set 3 (.bin .mod (.b1 .int (.sub (.v 0) (.c (.int 1)))) (.v 1))) (.cons (.seti (.v 0) (.c (.int 1)) (.bin .fdiv (.sub (.v 0) (.c (.int 1))) (.v 1))) (.cons (.ret (.v 3)) .nil))))
section
variable {gc : Nat → D} {G : Gm} {xs : List Int} {c s m : Int} {r : Sx}
theorem tail_ok (hm : 0 < m) (hm2 : m < 1073741824) {z : Option D} : ess gc G (.cons (.set 3 (.bin .mod (.b1 .int (.sub (.v 0) (.c (.int 1)))) (.v 1))) (.cons (.seti (.v 0) (.c (.int 1)) (.bin .fdiv (.sub (.v 0) (.c (.int 1))) (.v 1))) (.cons (.ret (.v 3)) .nil))) [some (.obj 1), some (.int m), z, none] (St xs c s r) = .ok (.rt (.int (c % m))) (St xs (c / m) s r) := by
  simp [st_ix1, op_mod hm, op_fdiv ⟨hm, hm2⟩, st_set1]
theorem next_ev (hm : 0 < m) (hm2 : m < 1073741824) : ∃ v ys c' s', ess gc G fNext [some (.obj 1), some (.int m), none, none] (St xs c s r) = .ok (.rt (.int v)) (St ys c' s' r) ∧ 0 ≤ v ∧ v < m ∧ ys.length ≤ xs.length := by
  have key : ∃ z ys c' s', es gc G (.ite (.cmp .lt (.sub (.v 0) (.c (.int 1))) (.v 1)) (.cons (.ite (.cmp .gt (.b1 .len (.sub (.v 0) (.c (.int 0)))) (.c (.int 0))) (.cons (.set 2 (.popi (.sub (.v 0) (.c (.int 0))) (.c (.int 0)))) (.cons (.seti (.v 0) (.c (.int 1)) (.ife (.cmp .ge (.v 2) (.c (.int 0))) (.bin .mul (.c (.int 2)) (.v 2)) (.bin .sub (.bin .mul (.neg (.c (.int 2))) (.v 2)) (.c (.int 1))))) (.cons (.seti (.v 0) (.c (.int 2)) (.bin .mod (.b1 .int (.bin .add (.bin .mul (.sub (.v 0) (.c (.int 2))) (.c (.int 69621))) (.sub (.v 0) (.c (.int 1))))) (.c (.int 2147483647)))) .nil))) (.cons (.seti (.v 0) (.c (.int 2)) (.bin .mod (.b1 .int (.bin .add (.bin .mul (.sub (.v 0) (.c (.int 2))) (.c (.int 48271))) (.c (.int 11)))) (.c (.int 2147483647)))) (.cons (.seti (.v 0) (.c (.int 1)) (.bin .mod (.b1 .int (.bin .mul (.sub (.v 0) (.c (.int 2))) (.sub (.v 0) (.c (.int 2))))) (.c (.int 1000003)))) .nil))) .nil) .nil) [some (.obj 1), some (.int m), none, none] (St xs c s r) = .ok (.nx [some (.obj 1), some (.int m), z, none]) (St ys c' s' r) ∧ ys.length ≤ xs.length := by
    by_cases h : c < m
    · cases xs with
      | nil =>
        have b : -18446744073709551616 < (s * 48271 + 11) % 2147483647 ∧ (s * 48271 + 11) % 2147483647 < 18446744073709551616 := by omega
        refine ⟨none, [], ((s * 48271 + 11) % 2147483647) * ((s * 48271 + 11) % 2147483647) % 1000003, (s * 48271 + 11) % 2147483647, ?_, Nat.le_refl _⟩
        simp [st_ix0, st_ix1, st_ix2, st_len, h, op_mul, op_mod, st_set1, st_set2, b]
      | cons x xs =>
        by_cases hx : 0 ≤ x
        · refine ⟨some (.int x), xs, 2 * x, (s * 69621 + 2 * x) % 2147483647, ?_, by simp⟩
          simp [st_ix0, st_ix1, st_ix2, st_len, h, op_mul, op_mod, st_set1, st_set2, st_lst, st_pop, hx]
        · refine ⟨some (.int x), xs, -2 * x - 1, (s * 69621 + (-2 * x - 1)) % 2147483647, ?_, by simp⟩
          simp [st_ix0, st_ix1, st_ix2, st_len, h, op_mul, op_mod, st_set1, st_set2, st_lst, st_pop, hx]
    · exact ⟨none, xs, c, s, by simp [st_ix1, h], Nat.le_refl _⟩
  obtain ⟨z, ys, c', s', e, hl⟩ := key
  refine ⟨c' % m, ys, c' / m, s', ?_, Int.emod_nonneg _ (by omega), Int.emod_lt_of_pos _ hm, hl⟩
  unfold fNext
  rw [ess_cons, e]
  exact tail_ok hm hm2
end
end TK
end
section
set_option autoImplicit false
set_option linter.all false
set_option maxRecDepth 100000
/-! ### the program's own checks, on right data -/
namespace TK
open PySem
/-- is_number -/
def f_is_number : Fn := ⟨3, 3, (.cons (.ret (.and (.cons (.isi "int" (.v 0)) (.cons (.not (.isi "bool" (.v 0))) (.cons (.chain .le .le (.v 1) (.v 0) (.v 2)) .nil))))) .nil)⟩
/-- are_numbers -/
def f_are_numbers : Fn := ⟨3, 4, (.cons (.ret (.all (.nm 3) (.e (.v 0)) (.call 0 0 (.cons (.v 3) (.cons (.v 1) (.cons (.v 2) .nil)))) [3])) .nil)⟩
/-- is_table -/
def f_is_table : Fn := ⟨2, 4, (.cons (.unp (.tp [(.nm 2), (.nm 3)]) (.v 1)) (.cons (.ite (.not (.call 0 0 (.cons (.v 2) (.cons (.c (.int 0)) (.cons (.bin .sub (.b1 .len (.v 0)) (.c (.int 1))) .nil))))) (.cons (.ret (.c (.bl false))) .nil) .nil) (.cons (.ret (.and (.cons (.cmp .eq (.b1 .len (.v 3)) (.sub (.v 0) (.v 2))) (.cons (.call 1 0 (.cons (.v 3) (.cons (.c (.int 0)) (.cons (.g 0) .nil)))) .nil)))) .nil)))⟩
/-- are_changes -/
def f_are_changes : Fn := ⟨2, 4, (.cons (.ite (.not (.chain .le .le (.c (.int 1)) (.b1 .len (.v 1)) (.c (.int 3)))) (.cons (.ret (.c (.bl false))) .nil) .nil) (.cons (.for_ (.tp [(.nm 2), (.nm 3)]) (.e (.v 1)) (.cons (.ite (.or (.cons (.not (.call 0 0 (.cons (.v 2) (.cons (.c (.int 0)) (.cons (.bin .sub (.b1 .len (.v 0)) (.c (.int 1))) .nil))))) (.cons (.not (.call 0 0 (.cons (.v 3) (.cons (.c (.int 1)) (.cons (.c (.int 3)) .nil))))) .nil))) (.cons (.ret (.c (.bl false))) .nil) .nil) .nil)) (.cons (.ret (.c (.bl true))) .nil)))⟩
/-- are_parts -/
def f_are_parts : Fn := ⟨2, 5, (.cons (.ite (.not (.chain .le .le (.c (.int 1)) (.b1 .len (.v 1)) (.c (.int 4)))) (.cons (.ret (.c (.bl false))) .nil) .nil) (.cons (.for_ (.tp [(.nm 2), (.nm 3), (.nm 4)]) (.e (.v 1)) (.cons (.ite (.or (.cons (.not (.call 2 0 (.cons (.v 0) (.cons (.v 2) .nil)))) (.cons (.not (.call 2 0 (.cons (.v 0) (.cons (.v 3) .nil)))) .nil))) (.cons (.ret (.c (.bl false))) .nil) .nil) (.cons (.ite (.and (.cons (.cmp .isn (.v 4) (.c .non)) (.cons (.not (.call 3 0 (.cons (.v 0) (.cons (.v 4) .nil)))) .nil))) (.cons (.ret (.c (.bl false))) .nil) .nil) .nil))) (.cons (.ret (.c (.bl true))) .nil)))⟩
/-- are_indexes -/
def f_are_indexes : Fn := ⟨2, 4, (.cons (.set 2 (.neg (.c (.int 1)))) (.cons (.for_ (.nm 3) (.e (.v 0)) (.cons (.ite (.not (.call 0 0 (.cons (.v 3) (.cons (.bin .add (.v 2) (.c (.int 1))) (.cons (.bin .sub (.v 1) (.c (.int 1))) .nil))))) (.cons (.ret (.c (.bl false))) .nil) .nil) (.cons (.set 2 (.v 3)) .nil))) (.cons (.ret (.c (.bl true))) .nil)))⟩
/-- Program.__init__ -/
def m_Program_init : Fn := ⟨6, 7, (.cons (.ite (.or (.cons (.not (.chain .le .le (.c (.int 1)) (.b1 .len (.v 1)) (.c (.int 3)))) (.cons (.not (.call 1 0 (.cons (.v 1) (.cons (.c (.int 2)) (.cons (.c (.int 4)) .nil))))) .nil))) (.cons .never .nil) .nil) (.cons (.ite (.not (.call 4 0 (.cons (.v 1) (.cons (.v 2) .nil)))) (.cons .never .nil) .nil) (.cons (.ite (.or (.cons (.cmp .gt (.b1 .len (.v 3)) (.c (.int 2))) (.cons (.not (.all (.nm 6) (.e (.v 3)) (.call 3 0 (.cons (.v 1) (.cons (.v 6) .nil))) [6])) .nil))) (.cons .never .nil) .nil) (.cons (.ite (.not (.call 5 0 (.cons (.v 4) (.cons (.b1 .len (.v 2)) .nil)))) (.cons .never .nil) .nil) (.cons (.ite (.not (.call 5 0 (.cons (.v 5) (.cons (.b1 .len (.v 2)) .nil)))) (.cons .never .nil) .nil) (.cons (.setf 0 (.v 0) "sizes" (.v 1)) (.cons (.setf 0 (.v 0) "parts" (.v 2)) (.cons (.setf 0 (.v 0) "ticks" (.v 3)) (.cons (.setf 0 (.v 0) "live" (.v 4)) (.cons (.setf 0 (.v 0) "skips" (.v 5)) .nil))))))))))⟩
/-- _law_next -/
def f_law_next : Fn := ⟨2, 4, (.cons (.ite (.cmp .lt (.sub (.v 0) (.c (.int 1))) (.v 1)) (.cons (.ite (.cmp .gt (.b1 .len (.sub (.v 0) (.c (.int 0)))) (.c (.int 0))) (.cons (.set 2 (.popi (.sub (.v 0) (.c (.int 0))) (.c (.int 0)))) (.cons (.seti (.v 0) (.c (.int 1)) (.ife (.cmp .ge (.v 2) (.c (.int 0))) (.bin .mul (.c (.int 2)) (.v 2)) (.bin .sub (.bin .mul (.neg (.c (.int 2))) (.v 2)) (.c (.int 1))))) (.cons (.seti (.v 0) (.c (.int 2)) (.bin .mod (.b1 .int (.bin .add (.bin .mul (.sub (.v 0) (.c (.int 2))) (.c (.int 69621))) (.sub (.v 0) (.c (.int 1))))) (.c (.int 2147483647)))) .nil))) (.cons (.seti (.v 0) (.c (.int 2)) (.bin .mod (.b1 .int (.bin .add (.bin .mul (.sub (.v 0) (.c (.int 2))) (.c (.int 48271))) (.c (.int 11)))) (.c (.int 2147483647)))) (.cons (.seti (.v 0) (.c (.int 1)) (.bin .mod (.b1 .int (.bin .mul (.sub (.v 0) (.c (.int 2))) (.sub (.v 0) (.c (.int 2))))) (.c (.int 1000003)))) .nil))) .nil) .nil) (.cons (.set 3 (.bin .mod (.b1 .int (.sub (.v 0) (.c (.int 1)))) (.v 1))) (.cons (.seti (.v 0) (.c (.int 1)) (.bin .fdiv (.sub (.v 0) (.c (.int 1))) (.v 1))) (.cons (.ret (.v 3)) .nil))))⟩
/-- _law_made -/
def f_law_made : Fn := ⟨1, 1, (.cons (.ret (.newK 0 6 2 ["sizes", "parts", "ticks", "live", "skips"] [] (.cons (.dget (.v 0) (.c (.str "sizes"))) (.cons (.dget (.v 0) (.c (.str "parts"))) (.cons (.dget (.v 0) (.c (.str "ticks"))) (.cons (.dget (.v 0) (.c (.str "live"))) (.cons (.dget (.v 0) (.c (.str "skips"))) .nil))))))) .nil)⟩
def comA : List Fn := [f_is_number, f_are_numbers, f_is_table, f_are_changes, f_are_parts, f_are_indexes, m_Program_init, f_law_next, f_law_made]
theorem allL_true {tg : Tg} {elt : Vs → Sx → R D} {still : Sx → Bool} {sw : Vs} {S : Sx} (hst : still S = true) : ∀ {ds : List D}, (∀ d ∈ ds, ∃ s1, asg tg d sw = some s1 ∧ elt s1 S = .ok (.bl true) S) → allL tg elt still sw ds S = .ok true S
  | [], _ => by simp [allL, hst]
  | d :: ds, h => by
    obtain ⟨s1, e1, e2⟩ := h d List.mem_cons_self
    have := allL_true hst fun d hd => h d (List.mem_cons_of_mem _ hd)
    simp [allL, hst, e1, e2, this]
theorem forL_thru {tg : Tg} {still : Sx → Bool} {b : Vs → Sx → R Fl} {S : Sx} (I : List D → Vs → Prop) (hst : still S = true) : ∀ {ds : List D} {s : Vs}, I ds s → (∀ d ds s, I (d :: ds) s → ∃ s1 s2, asg tg d s = some s1 ∧ b s1 S = .ok (.nx s2) S ∧ I ds s2) →
    ∃ s', forL tg still b ds s S = .ok (.nx s') S ∧ I [] s'
  | [], s, hi, _ => ⟨s, by simp [forL, hst], hi⟩
  | d :: ds, s, hi, h => by
    obtain ⟨s1, s2, e1, e2, i2⟩ := h d ds s hi
    obtain ⟨s', e3, i3⟩ := forL_thru I hst i2 h
    exact ⟨s', by simp [forL, hst, e1, e2, e3], i3⟩
@[simp] theorem isi_int {i : Int} {S : Sx} : isiD "int" (.int i) S = some true := by rfl
@[simp] theorem isi_intb {i : Int} {S : Sx} : isiD "bool" (.int i) S = some false := by rfl
/-! plain data -/
def Dat : Nat → D → Prop
  | _, .non => True
  | _, .int _ => True
  | _, .str x => PyData.strOk x = true
  | n + 1, .tup ds => ∀ d ∈ ds, Dat n d
  | _, _ => False
theorem dat_list {n : Nat} (ih : ∀ d, Dat n d → ∃ x, toPy d = some x ∧ PyData.canLay0 x = true ∧ PyData.depth x ≤ n) : ∀ ds : List D, (∀ d ∈ ds, Dat n d) → ∃ xs, toPys ds = some xs ∧ PyData.canLayAll0 xs = true ∧ PyData.depthAll xs ≤ n
  | [], _ => ⟨[], rfl, rfl, Nat.zero_le _⟩
  | d :: ds, h => by
    obtain ⟨x, h1, h2, h3⟩ := ih d (h d List.mem_cons_self)
    obtain ⟨xs, k1, k2, k3⟩ := dat_list ih ds fun e he => h e (List.mem_cons_of_mem _ he)
    exact ⟨x :: xs, by simp [toPys, h1, k1], by simp [PyData.canLayAll0, h2, k2], by simp [PyData.depthAll]; omega⟩
theorem Dat.py : ∀ (n : Nat) (d : D), Dat n d → ∃ x, toPy d = some x ∧ PyData.canLay0 x = true ∧ PyData.depth x ≤ n
  | n, .non, _ => ⟨.none, rfl, rfl, Nat.zero_le _⟩
  | n, .int i, _ => ⟨.int i, rfl, rfl, Nat.zero_le _⟩
  | n, .str x, h => ⟨.str x, rfl, by cases n <;> exact h, Nat.zero_le _⟩
  | n + 1, .tup ds, h => by
    obtain ⟨xs, k1, k2, k3⟩ := dat_list (Dat.py n) ds h
    exact ⟨.tuple xs, by simp [toPy, k1], k2, by simp [PyData.depth]; omega⟩
  | 0, .tup ds, h => by simp [Dat] at h
  | n, .bl _, h => by cases n <;> simp [Dat] at h
  | n, .scr _, h => by cases n <;> simp [Dat] at h
  | n, .lv _, h => by cases n <;> simp [Dat] at h
  | n, .dv _ _, h => by cases n <;> simp [Dat] at h
  | n, .iv _ _ _, h => by cases n <;> simp [Dat] at h
  | n, .obj _, h => by cases n <;> simp [Dat] at h
  | n, .fn _, h => by cases n <;> simp [Dat] at h
theorem dat_eqvs {n : Nat} (ih : ∀ d e x y, Dat n d → Dat n e → toPy d = some x → toPy e = some y → PyData.eqv x y = decide (d = e)) : ∀ (ds es : List D) (xs ys : List PyData), (∀ d ∈ ds, Dat n d) → (∀ d ∈ es, Dat n d) → toPys ds = some xs → toPys es = some ys → PyData.eqvAll xs ys = decide (ds = es)
  | [], [], xs, ys, _, _, h1, h2 => by cases h1; cases h2; rfl
  | [], e :: es, xs, ys, _, _, h1, h2 => by
    cases h1
    simp only [toPys] at h2
    split at h2
    · cases h2; rfl
    · cases h2
  | d :: ds, [], xs, ys, _, _, h1, h2 => by
    cases h2
    simp only [toPys] at h1
    split at h1
    · cases h1; rfl
    · cases h1
  | d :: ds, e :: es, xs, ys, k1, k2, h1, h2 => by
    simp only [toPys] at h1 h2
    split at h1
    · rename_i x xs' a1 a2
      cases h1
      split at h2
      · rename_i y ys' b1 b2
        cases h2
        have e1 := ih d e x y (k1 d List.mem_cons_self) (k2 e List.mem_cons_self) a1 b1
        have e2 := dat_eqvs ih ds es xs' ys' (fun z hz => k1 z (List.mem_cons_of_mem _ hz)) (fun z hz => k2 z (List.mem_cons_of_mem _ hz)) a2 b2
        simp [PyData.eqvAll, e1, e2]
      · cases h2
    · cases h1
theorem eqv_ii (i j : Int) : PyData.eqv (.int i) (.int j) = decide (D.int i = D.int j) := by
  by_cases h : i = j
  · subst h; simp [PyData.eqv]
  · simp [PyData.eqv, h]
theorem eqv_ss (i j : Str) : PyData.eqv (.str i) (.str j) = decide (D.str i = D.str j) := by
  by_cases h : i = j
  · subst h; simp [PyData.eqv]
  · simp [PyData.eqv, h]
theorem Dat.eqv : ∀ (n : Nat) (d e : D) (x y : PyData), Dat n d → Dat n e → toPy d = some x → toPy e = some y → PyData.eqv x y = decide (d = e) := by
  intro n
  induction n with
  | zero =>
    intro d e x y h1 h2 e1 e2
    cases d <;> simp [Dat] at h1 <;> cases e <;> simp [Dat] at h2 <;> cases e1 <;> cases e2 <;> first
      | exact eqv_ii ..
      | exact eqv_ss ..
      | simp [PyData.eqv]
  | succ n ih =>
    intro d e x y h1 h2 e1 e2
    have tl : ∀ ds z, toPy (.tup ds) = some z → ∃ xs, toPys ds = some xs ∧ z = .tuple xs := fun ds z h => by
      obtain ⟨xs, k1, k2⟩ := Option.map_eq_some_iff.mp (show (toPys ds).map PyData.tuple = some z from h)
      exact ⟨xs, k1, k2.symm⟩
    cases d with
    | tup ds =>
      obtain ⟨xs, k1, rfl⟩ := tl ds x e1
      cases e with
      | tup es =>
        obtain ⟨ys, k2, rfl⟩ := tl es y e2
        have := dat_eqvs ih ds es xs ys h1 h2 k1 k2
        simp [PyData.eqv, this]
      | non => cases e2; simp [PyData.eqv]
      | int i => cases e2; simp [PyData.eqv]
      | str z => cases e2; simp [PyData.eqv]
      | _ => simp [Dat] at h2
    | non =>
      cases e1
      cases e with
      | tup es => obtain ⟨ys, k2, rfl⟩ := tl es y e2; simp [PyData.eqv]
      | non => cases e2; simp [PyData.eqv]
      | int i => cases e2; simp [PyData.eqv]
      | str z => cases e2; simp [PyData.eqv]
      | _ => simp [Dat] at h2
    | int i =>
      cases e1
      cases e with
      | tup es => obtain ⟨ys, k2, rfl⟩ := tl es y e2; simp [PyData.eqv]
      | non => cases e2; simp [PyData.eqv]
      | int i => cases e2; exact eqv_ii ..
      | str z => cases e2; simp [PyData.eqv]
      | _ => simp [Dat] at h2
    | str z =>
      cases e1
      cases e with
      | tup es => obtain ⟨ys, k2, rfl⟩ := tl es y e2; simp [PyData.eqv]
      | non => cases e2; simp [PyData.eqv]
      | int i => cases e2; simp [PyData.eqv]
      | str z => cases e2; exact eqv_ss ..
      | _ => simp [Dat] at h2
    | _ => simp [Dat] at h1
theorem pyOf_dat {n : Nat} {d : D} {S : Sx} (h : Dat n d) : pyOf d S = toPy d := by
  cases d <;> first | rfl | (cases n <;> simp [Dat] at h)
theorem py1s_dat {n : Nat} {S : Sx} : ∀ {ds : List D}, (∀ d ∈ ds, Dat n d) → py1s ds S = toPys ds
  | [], _ => rfl
  | d :: ds, h => by
    simp only [py1s, toPys]
    rw [pyOf_dat (h d List.mem_cons_self), py1s_dat fun e he => h e (List.mem_cons_of_mem _ he)]
theorem pyOf2_dat {n : Nat} {d : D} {S : Sx} (h : Dat n d) : pyOf2 d S = toPy d := by
  cases d with
  | tup ds =>
    cases n with
    | zero => simp [Dat] at h
    | succ n =>
      simp only [pyOf2, toPy]
      rw [py1s_dat (n := n) fun d hd => h d hd]
  | _ => exact pyOf_dat (S := S) h
theorem eqD_dat {n : Nat} {d e : D} {S : Sx} (hn : n ≤ 64) (h1 : Dat n d) (h2 : Dat n e) : eqD d e S = some (decide (d = e)) := by
  obtain ⟨x, a1, a2, a3⟩ := h1.py
  obtain ⟨y, b1, b2, b3⟩ := h2.py
  have q := Dat.eqv n d e x y h1 h2 a1 b1
  have s1 : SeqAt.shaped x = true := by
    unfold SeqAt.shaped
    simp [a2]
    omega
  have s2 : SeqAt.shaped y = true := by
    unfold SeqAt.shaped
    simp [b2]
    omega
  simp [eqD, pyOf2_dat h1, pyOf2_dat h2, a1, b1, s1, s2, q]
@[simp] theorem eq_int {i j : Int} {S : Sx} : cmpD .eq (.int i) (.int j) S = some (decide (i = j)) := by
  have := eqD_dat (n := 1) (d := .int i) (e := .int j) (S := S) (by omega) trivial trivial
  simpa [cmpD] using this
theorem dat_ints {n : Nat} {zs : List Int} : Dat (n + 1) (.tup (zs.map .int)) := by
  intro d hd
  obtain ⟨z, _, rfl⟩ := List.mem_map.mp hd
  cases n <;> trivial
theorem Dat.up : ∀ {n : Nat} {d : D}, Dat n d → ∀ m, n ≤ m → Dat m d := by
  intro n
  induction n with
  | zero =>
    intro d h m _
    cases d <;> simp [Dat] at h <;> cases m <;> first | trivial | exact h
  | succ n ih =>
    intro d h m hm
    obtain ⟨m, rfl⟩ : ∃ k, m = k + 1 := ⟨m - 1, by omega⟩
    cases d with
    | tup ds => exact fun d hd => ih (h d hd) m (by omega)
    | non => trivial
    | int i => trivial
    | str z => exact h
    | _ => simp [Dat] at h

/-! ### right data -/
def Sizes (zs : List Int) : Prop := 1 ≤ zs.length ∧ zs.length ≤ 3 ∧ ∀ z ∈ zs, 2 ≤ z ∧ z ≤ 4
def isTab (zs : List Int) (d : D) : Prop := ∃ (v : Nat) (t : List Int), d = .tup [.int v, .tup (t.map .int)] ∧ zs[v]? = some (t.length : Int) ∧ ∀ x ∈ t, 0 ≤ x ∧ x ≤ 7
def isChg (zs : List Int) (d : D) : Prop := ∃ l : List (Nat × Int), d = .tup (l.map fun p => .tup [.int p.1, .int p.2]) ∧ 1 ≤ l.length ∧ l.length ≤ 3 ∧ ∀ p ∈ l, p.1 < zs.length ∧ 1 ≤ p.2 ∧ p.2 ≤ 3
def isPart (zs : List Int) (d : D) : Prop := ∃ a b p, d = .tup [a, b, p] ∧ isTab zs a ∧ isTab zs b ∧ (p = .non ∨ isChg zs p)
/-- ascending, from above last, below n -/
def Asc (n : Int) : Int → List Int → Prop
  | _, [] => True
  | last, x :: r => last < x ∧ x < n ∧ Asc n x r
structure PD where
  zs : List Int
  ps : List D
  ts : List D
  lv : List Int
  sk : List Int
structure PD.ok (p : PD) : Prop where
  zs : Sizes p.zs
  ps : 1 ≤ p.ps.length ∧ p.ps.length ≤ 4 ∧ ∀ d ∈ p.ps, isPart p.zs d
  ts : p.ts.length ≤ 2 ∧ ∀ d ∈ p.ts, isChg p.zs d
  lv : Asc p.ps.length (-1) p.lv
  sk : Asc p.ps.length (-1) p.sk
def fldN : List Str := ["sizes", "parts", "ticks", "live", "skips"]
def PD.vals (p : PD) : List D := [.tup (p.zs.map .int), .tup p.ps, .tup p.ts, .tup (p.lv.map .int), .tup (p.sk.map .int)]
section
variable {gc : Nat → D} {rest : List Fn} {n : Nat} {S : Sx}
abbrev rA (gc : Nat → D) (rest : List Fn) (n : Nat) : Gm := runF gc (comA ++ rest) n
theorem num_ok {i lo hi : Int} : rA gc rest (n + 1) 0 [.int i, .int lo, .int hi] S = .ok (.bl (decide (lo ≤ i) && decide (i ≤ hi))) S := by
  show runB gc (rA gc rest n) f_is_number [.int i, .int lo, .int hi] S = _
  unfold runB f_is_number
  by_cases h : lo ≤ i <;> simp [startV, h]
theorem nums_ok {t : List Int} {lo hi : Int} (h : ∀ x ∈ t, lo ≤ x ∧ x ≤ hi) : rA gc rest (n + 2) 1 [.tup (t.map .int), .int lo, .int hi] S = .ok (.bl true) S := by
  show runB gc (rA gc rest (n + 1)) f_are_numbers [.tup (t.map .int), .int lo, .int hi] S = _
  unfold runB f_are_numbers
  have := allL_true (tg := .nm 3) (elt := (ev gc (rA gc rest (n + 1)) (.call 0 0 (.cons (.v 3) (.cons (.v 1) (.cons (.v 2) .nil))))).val) (still := fun _ => true) (sw := [some (.tup (t.map .int)), some (.int lo), some (.int hi), none]) (S := S) rfl (ds := t.map .int) (fun d hd => by
    obtain ⟨x, hx, rfl⟩ := List.mem_map.mp hd
    refine ⟨_, rfl, ?_⟩
    obtain ⟨h1, h2⟩ := h x hx
    simp [num_ok, h1, h2])
  simp [startV, seqI, seqOf, stillOf]
  rw [this]
  rfl
@[simp] theorem atI_nat {xs : List D} {k : Nat} : L2.atI xs (k : Int) = xs[k]? := at_nat
theorem table_ok (h7 : gc 0 = .int 7) {zs : List Int} {d : D} (h : isTab zs d) : rA gc rest (n + 3) 2 [.tup (zs.map .int), d] S = .ok (.bl true) S := by
  obtain ⟨v, t, rfl, h1, h2⟩ := h
  show runB gc (rA gc rest (n + 2)) f_is_table [.tup (zs.map .int), .tup [.int v, .tup (t.map .int)]] S = _
  unfold runB f_is_table
  have hv : v < zs.length := (List.getElem?_eq_some_iff.mp h1).1
  have b1 : (0 : Int) ≤ v := Int.natCast_nonneg v
  have b2 : (v : Int) ≤ (zs.length : Int) - 1 := by omega
  have e1 : (zs.map D.int)[v]? = some (.int (t.length : Int)) := by rw [List.getElem?_map, h1] <;> rfl
  have num := @num_ok gc rest (n + 1) S v 0 ((zs.length : Int) - 1)
  simp only [b1, b2, decide_true, Bool.and_self] at num
  simp [startV, num, nums_ok h2, ix_tup, e1, h7]
theorem changes_ok {zs : List Int} {d : D} (h : isChg zs d) : rA gc rest (n + 2) 3 [.tup (zs.map .int), d] S = .ok (.bl true) S := by
  obtain ⟨l, rfl, h1, h2, h3⟩ := h
  show runB gc (rA gc rest (n + 1)) f_are_changes [.tup (zs.map .int), .tup (l.map fun p => .tup [.int p.1, .int p.2])] S = _
  unfold runB f_are_changes
  obtain ⟨s', e, x, y, rfl, _⟩ := forL_thru (S := S) (tg := .tp [.nm 2, .nm 3]) (still := fun _ => true) (b := ess gc (rA gc rest (n + 1)) (.cons (.ite (.or (.cons (.not (.call 0 0 (.cons (.v 2) (.cons (.c (.int 0)) (.cons (.bin .sub (.b1 .len (.v 0)) (.c (.int 1))) .nil))))) (.cons (.not (.call 0 0 (.cons (.v 3) (.cons (.c (.int 1)) (.cons (.c (.int 3)) .nil))))) .nil))) (.cons (.ret (.c (.bl false))) .nil) .nil) .nil))
    (fun ds s => ∃ x y, s = [some (.tup (zs.map .int)), some (.tup (l.map fun p => .tup [.int p.1, .int p.2])), x, y] ∧ ∀ d ∈ ds, ∃ p : Nat × Int, d = .tup [.int p.1, .int p.2] ∧ p.1 < zs.length ∧ 1 ≤ p.2 ∧ p.2 ≤ 3) rfl (ds := l.map fun p => .tup [.int p.1, .int p.2]) (s := [some (.tup (zs.map .int)), some (.tup (l.map fun p => .tup [.int p.1, .int p.2])), none, none])
    ⟨none, none, rfl, fun d hd => by
      obtain ⟨p, hp, rfl⟩ := List.mem_map.mp hd
      exact ⟨p, rfl, h3 p hp⟩⟩ (by
    rintro d ds s ⟨x, y, rfl, hall⟩
    obtain ⟨p, rfl, q1, q2, q3⟩ := hall d List.mem_cons_self
    have b1 : (0 : Int) ≤ p.1 := Int.natCast_nonneg _
    have b2 : (p.1 : Int) ≤ (zs.length : Int) - 1 := by omega
    refine ⟨_, _, rfl, ?_, some (.int p.1), some (.int p.2), rfl, fun d hd => hall d (List.mem_cons_of_mem _ hd)⟩
    simp [num_ok, b1, b2, q2, q3])
  have c1 : (1 : Int) ≤ (l.length : Int) := by omega
  have c2 : (l.length : Int) ≤ 3 := by omega
  simp [startV, c1, c2, seqI, seqOf, stillOf]
  rw [e]
  rfl
theorem parts_ok (h7 : gc 0 = .int 7) {zs : List Int} {ps : List D} (h1 : 1 ≤ ps.length) (h2 : ps.length ≤ 4) (h3 : ∀ d ∈ ps, isPart zs d) : rA gc rest (n + 4) 4 [.tup (zs.map .int), .tup ps] S = .ok (.bl true) S := by
  show runB gc (rA gc rest (n + 3)) f_are_parts [.tup (zs.map .int), .tup ps] S = _
  unfold runB f_are_parts
  obtain ⟨s', e, x, y, z, rfl, _⟩ := forL_thru (S := S) (tg := .tp [.nm 2, .nm 3, .nm 4]) (still := fun _ => true) (b := ess gc (rA gc rest (n + 3)) (.cons (.ite (.or (.cons (.not (.call 2 0 (.cons (.v 0) (.cons (.v 2) .nil)))) (.cons (.not (.call 2 0 (.cons (.v 0) (.cons (.v 3) .nil)))) .nil))) (.cons (.ret (.c (.bl false))) .nil) .nil) (.cons (.ite (.and (.cons (.cmp .isn (.v 4) (.c .non)) (.cons (.not (.call 3 0 (.cons (.v 0) (.cons (.v 4) .nil)))) .nil))) (.cons (.ret (.c (.bl false))) .nil) .nil) .nil)))
    (fun ds s => ∃ x y z, s = [some (.tup (zs.map .int)), some (.tup ps), x, y, z] ∧ ∀ d ∈ ds, isPart zs d) rfl (ds := ps) (s := [some (.tup (zs.map .int)), some (.tup ps), none, none, none])
    ⟨none, none, none, rfl, h3⟩ (by
    rintro d ds s ⟨x, y, z, rfl, hall⟩
    obtain ⟨a, b, p, rfl, q1, q2, q3⟩ := hall d List.mem_cons_self
    refine ⟨_, _, rfl, ?_, some a, some b, some p, rfl, fun d hd => hall d (List.mem_cons_of_mem _ hd)⟩
    rcases q3 with rfl | q3
    · simp [table_ok h7 q1, table_ok h7 q2]
    · have hp : p ≠ .non := by
        obtain ⟨l, rfl, _⟩ := q3
        simp
      simp [table_ok h7 q1, table_ok h7 q2, changes_ok q3, hp])
  have c1 : (1 : Int) ≤ (ps.length : Int) := by omega
  have c2 : (ps.length : Int) ≤ 4 := by omega
  simp [startV, c1, c2, seqI, seqOf, stillOf]
  rw [e]
  rfl
theorem indexes_ok {c : Int} {l : List Int} (h : Asc c (-1) l) : rA gc rest (n + 2) 5 [.tup (l.map .int), .int c] S = .ok (.bl true) S := by
  show runB gc (rA gc rest (n + 1)) f_are_indexes [.tup (l.map .int), .int c] S = _
  unfold runB f_are_indexes
  obtain ⟨s', e, x, k, rfl, _⟩ := forL_thru (S := S) (tg := .nm 3) (still := fun _ => true) (b := ess gc (rA gc rest (n + 1)) (.cons (.ite (.not (.call 0 0 (.cons (.v 3) (.cons (.bin .add (.v 2) (.c (.int 1))) (.cons (.bin .sub (.v 1) (.c (.int 1))) .nil))))) (.cons (.ret (.c (.bl false))) .nil) .nil) (.cons (.set 2 (.v 3)) .nil)))
    (fun ds s => ∃ (x : Option D) (k : Int), s = [some (.tup (l.map .int)), some (.int c), some (.int k), x] ∧ ∃ r : List Int, ds = r.map .int ∧ Asc c k r) rfl (ds := l.map .int) (s := [some (.tup (l.map .int)), some (.int c), some (.int (-1)), none])
    ⟨none, -1, rfl, l, rfl, h⟩ (by
    rintro d ds s ⟨x, k, rfl, r, hr, ha⟩
    cases r with
    | nil => cases hr
    | cons y r =>
      cases hr
      obtain ⟨q1, q2, q3⟩ := ha
      have b1 : k + 1 ≤ y := by omega
      have b2 : y ≤ c - 1 := by omega
      refine ⟨_, [some (.tup (l.map .int)), some (.int c), some (.int y), some (.int y)], rfl, ?_, some (.int y), y, rfl, r, rfl, q3⟩
      simp [num_ok, b1, b2])
  simp [startV, seqI, seqOf, stillOf]
  rw [e]
  rfl
end
end TK
end
section
set_option autoImplicit false
set_option linter.all false
set_option maxRecDepth 100000
namespace TK
open PySem
theorem dat_pures {n : Nat} (ih : ∀ d, Dat n d → d.pure = true) : ∀ ds : List D, (∀ d ∈ ds, Dat n d) → D.pures ds = true
  | [], _ => rfl
  | d :: ds, h => by
    unfold D.pures
    rw [ih d (h d List.mem_cons_self), dat_pures ih ds fun e he => h e (List.mem_cons_of_mem _ he)]
    rfl
theorem Dat.pure : ∀ (n : Nat) (d : D), Dat n d → d.pure = true
  | _, .non, _ => rfl
  | _, .int _, _ => rfl
  | _, .str _, _ => rfl
  | n + 1, .tup ds, h => dat_pures (Dat.pure n) ds h
  | 0, .tup ds, h => by simp [Dat] at h
  | n, .bl _, h => rfl
  | n, .scr _, h => rfl
  | n, .lv _, h => by cases n <;> simp [Dat] at h
  | n, .dv _ _, h => by cases n <;> simp [Dat] at h
  | n, .iv _ _ _, h => by cases n <;> simp [Dat] at h
  | n, .obj _, h => by cases n <;> simp [Dat] at h
  | n, .fn _, h => rfl
theorem tab_dat {zs : List Int} {d : D} (h : isTab zs d) : Dat 2 d := by
  obtain ⟨v, t, rfl, _⟩ := h
  intro d hd
  simp only [List.mem_cons, List.not_mem_nil, or_false] at hd
  rcases hd with rfl | rfl
  · trivial
  · exact dat_ints
theorem chg_dat {zs : List Int} {d : D} (h : isChg zs d) : Dat 2 d := by
  obtain ⟨l, rfl, _⟩ := h
  intro d hd
  obtain ⟨p, _, rfl⟩ := List.mem_map.mp hd
  intro d hd
  simp only [List.mem_cons, List.not_mem_nil, or_false] at hd
  rcases hd with rfl | rfl <;> trivial
theorem part_dat {zs : List Int} {d : D} (h : isPart zs d) : Dat 3 d := by
  obtain ⟨a, b, p, rfl, h1, h2, h3⟩ := h
  intro d hd
  simp only [List.mem_cons, List.not_mem_nil, or_false] at hd
  rcases hd with rfl | rfl | rfl
  · exact tab_dat h1
  · exact tab_dat h2
  · rcases h3 with rfl | h3
    · trivial
    · exact chg_dat h3
theorem PD.ok.dat {p : PD} (h : p.ok) : ∀ d ∈ p.vals, Dat 4 d := by
  intro d hd
  simp only [PD.vals, List.mem_cons, List.not_mem_nil, or_false] at hd
  rcases hd with rfl | rfl | rfl | rfl | rfl
  · exact dat_ints
  · exact fun d hd => part_dat (h.ps.2.2 d hd)
  · exact fun d hd => (chg_dat (h.ts.2 d hd)).up 3 (by omega)
  · exact dat_ints
  · exact dat_ints
theorem set_ins {k : Nat} {S : Sx} {ns : List Str} {xs : List D} {x : Str} {v : D} (h : S[k]? = some (.ins 0 ns xs)) (hl : ns.length < 1000) : setF 0 (.obj k) x v S = some (S.set k (.ins 0 (putN ns xs x v).1 (putN ns xs x v).2)) := by
  simp [setF, h, hl]
theorem set_ins2 {k : Nat} {S : Sx} {ns : List Str} {xs : List D} {x : Str} {v : D} (hk : k < S.length) (hl : ns.length < 1000) : setF 0 (.obj k) x v (S.set k (.ins 0 ns xs)) = some (S.set k (.ins 0 (putN ns xs x v).1 (putN ns xs x v).2)) := by
  rw [set_ins (ns := ns) (xs := xs) (by simp [hk]) hl, List.set_set]
section
variable {gc : Nat → D} {rest : List Fn} {n : Nat} {S : Sx}
theorem init_ok (h7 : gc 0 = .int 7) {p : PD} (h : p.ok) {k : Nat} (hk : S[k]? = some (.ins 0 [] [])) : rA gc rest (n + 5) 6 (.obj k :: p.vals) S = .ok .non (S.set k (.ins 0 fldN p.vals)) := by
  show runB gc (rA gc rest (n + 4)) m_Program_init (.obj k :: p.vals) S = _
  unfold runB m_Program_init PD.vals
  have hkl : k < S.length := (List.getElem?_eq_some_iff.mp hk).1
  obtain ⟨z1, z2, z3⟩ := h.zs
  obtain ⟨p1, p2, p3⟩ := h.ps
  obtain ⟨t1, t2⟩ := h.ts
  have c1 : (1 : Int) ≤ (p.zs.length : Int) := by omega
  have c2 : (p.zs.length : Int) ≤ 3 := by omega
  have c3 : ¬ (2 : Int) < (p.ts.length : Int) := by omega
  have al := allL_true (tg := .nm 6) (elt := (ev gc (rA gc rest (n + 4)) (.call 3 0 (.cons (.v 1) (.cons (.v 6) .nil)))).val) (still := fun _ => true) (sw := [some (.obj k), some (.tup (p.zs.map .int)), some (.tup p.ps), some (.tup p.ts), some (.tup (p.lv.map .int)), some (.tup (p.sk.map .int)), none]) (S := S) rfl (ds := p.ts) (fun d hd => by
    refine ⟨_, rfl, ?_⟩
    simp [changes_ok (n := n + 2) (t2 d hd)])
  have nu := @nums_ok gc rest (n + 2) S p.zs 2 4 z3
  have pa := @parts_ok gc rest n S h7 p.zs p.ps p1 p2 p3
  have i1 := @indexes_ok gc rest (n + 2) S p.ps.length p.lv h.lv
  have i2 := @indexes_ok gc rest (n + 2) S p.ps.length p.sk h.sk
  simp [startV, c1, c2, c3, nu, pa, i1, i2, seqI, seqOf, stillOf]
  rw [al]
  have s1 : setF 0 (.obj k) "sizes" (.tup (p.zs.map .int)) S = some (S.set k (.ins 0 ["sizes"] [.tup (p.zs.map .int)])) := (set_ins hk (by simp)).trans rfl
  have s2 : setF 0 (.obj k) "parts" (.tup p.ps) (S.set k (.ins 0 ["sizes"] [.tup (p.zs.map .int)])) = some (S.set k (.ins 0 ["sizes", "parts"] [.tup (p.zs.map .int), .tup p.ps])) := (set_ins2 hkl (by simp)).trans rfl
  have s3 : setF 0 (.obj k) "ticks" (.tup p.ts) (S.set k (.ins 0 ["sizes", "parts"] [.tup (p.zs.map .int), .tup p.ps])) = some (S.set k (.ins 0 ["sizes", "parts", "ticks"] [.tup (p.zs.map .int), .tup p.ps, .tup p.ts])) := (set_ins2 hkl (by simp)).trans rfl
  have s4 : setF 0 (.obj k) "live" (.tup (p.lv.map .int)) (S.set k (.ins 0 ["sizes", "parts", "ticks"] [.tup (p.zs.map .int), .tup p.ps, .tup p.ts])) = some (S.set k (.ins 0 ["sizes", "parts", "ticks", "live"] [.tup (p.zs.map .int), .tup p.ps, .tup p.ts, .tup (p.lv.map .int)])) := (set_ins2 hkl (by simp)).trans rfl
  have s5 : setF 0 (.obj k) "skips" (.tup (p.sk.map .int)) (S.set k (.ins 0 ["sizes", "parts", "ticks", "live"] [.tup (p.zs.map .int), .tup p.ps, .tup p.ts, .tup (p.lv.map .int)])) = some (S.set k (.ins 0 fldN p.vals)) := (set_ins2 hkl (by simp)).trans rfl
  simp [i1, i2, s1, s2, s3, s4, s5]
  rfl
theorem prog_ok (h7 : gc 0 = .int 7) {p : PD} (h : p.ok) : wrp 2 S (newD 0 (rA gc rest (n + 5) 6) p.vals S) = .ok (.iv 0 fldN p.vals) S := by
  have e : (S ++ [MO.ins 0 [] []])[S.length]? = some (.ins 0 [] []) := by simp
  unfold newD
  rw [init_ok h7 h e]
  have e2 : (S ++ [MO.ins 0 [] []]).set S.length (.ins 0 fldN p.vals) = S ++ [.ins 0 fldN p.vals] := by simp
  rw [e2]
  have pu : D.pures p.vals = true := dat_pures (Dat.pure 4) _ h.dat
  simp [wrp, pu]
end
def keysP : List L2.Key := [.inr "sizes", .inr "parts", .inr "ticks", .inr "live", .inr "skips"]
section
variable {p : PD} {S : Sx}
theorem dg_sizes : dgetD (.dv keysP p.vals) (.str "sizes") S = some (.tup (p.zs.map .int)) := rfl
theorem dg_parts : dgetD (.dv keysP p.vals) (.str "parts") S = some (.tup p.ps) := rfl
theorem dg_ticks : dgetD (.dv keysP p.vals) (.str "ticks") S = some (.tup p.ts) := rfl
theorem dg_live : dgetD (.dv keysP p.vals) (.str "live") S = some (.tup (p.lv.map .int)) := rfl
theorem dg_skips : dgetD (.dv keysP p.vals) (.str "skips") S = some (.tup (p.sk.map .int)) := rfl
theorem fd_sizes : fldD 0 (.iv 0 fldN p.vals) "sizes" S = some (.tup (p.zs.map .int)) := rfl
theorem fd_parts : fldD 0 (.iv 0 fldN p.vals) "parts" S = some (.tup p.ps) := rfl
theorem fd_ticks : fldD 0 (.iv 0 fldN p.vals) "ticks" S = some (.tup p.ts) := rfl
theorem fd_live : fldD 0 (.iv 0 fldN p.vals) "live" S = some (.tup (p.lv.map .int)) := rfl
theorem fd_skips : fldD 0 (.iv 0 fldN p.vals) "skips" S = some (.tup (p.sk.map .int)) := rfl
end
section
variable {gc : Nat → D} {rest : List Fn} {n : Nat} {S : Sx}
theorem made_ok (h7 : gc 0 = .int 7) {p : PD} (h : p.ok) : rA gc rest (n + 6) 8 [.dv keysP p.vals] S = .ok (.iv 0 fldN p.vals) S := by
  show runB gc (rA gc rest (n + 5)) f_law_made [.dv keysP p.vals] S = _
  unfold runB f_law_made
  have := @prog_ok gc rest n S h7 p h
  simp only [PD.vals] at this
  simp [startV, dg_sizes, dg_parts, dg_ticks, dg_live, dg_skips, this]
  rfl
end
/-! ### drawing -/
def Dr (r S : Sx) : Prop := ∃ xs c s, S = St xs c s r
section
variable {gc : Nat → D} {rest : List Fn} {n : Nat} {r S : Sx}
theorem draw {m : Int} (hm : 0 < m) (hm2 : m < 1073741824) (h : Dr r S) : ∃ v S', rA gc rest (n + 1) 7 [.obj 1, .int m] S = .ok (.int v) S' ∧ Dr r S' ∧ 0 ≤ v ∧ v < m := by
  obtain ⟨xs, c, s, rfl⟩ := h
  obtain ⟨v, ys, c', s', e, h1, h2, _⟩ := next_ev (gc := gc) (G := rA gc rest n) (xs := xs) (c := c) (s := s) (r := r) hm hm2
  refine ⟨v, _, ?_, ⟨ys, c', s', rfl⟩, h1, h2⟩
  show runB gc (rA gc rest n) f_law_next [.obj 1, .int m] (St xs c s r) = _
  unfold runB
  have : ess gc (rA gc rest n) f_law_next.body (startV f_law_next.nv [.obj 1, .int m]) (St xs c s r) = .ok (.rt (.int v)) (St ys c' s' r) := e
  rw [if_pos (show ([D.obj 1, D.int m] : List D).length = f_law_next.np from rfl), this]
end
theorem lc_draw {tg : Tg} {elt : Vs → Sx → R D} {cond : Vs → Sx → R Bool} {sw : Vs} {r : Sx} {P : D → Prop} (hc : ∀ s S, cond s S = .ok true S) : ∀ {ds acc : List D} {S : Sx}, Dr r S → acc.length + ds.length ≤ 1000000 →
    (∀ d ∈ ds, ∃ s1, asg tg d sw = some s1 ∧ ∀ S, Dr r S → ∃ y S', elt s1 S = .ok y S' ∧ Dr r S' ∧ P y) → ∃ zs S', lcL tg cond elt (fun _ => true) sw ds acc S = .ok (acc ++ zs) S' ∧ Dr r S' ∧ zs.length = ds.length ∧ ∀ z ∈ zs, P z
  | [], acc, S, hS, _, _ => ⟨[], S, by simp [lcL], hS, rfl, by simp⟩
  | d :: ds, acc, S, hS, hl, h => by
    obtain ⟨s1, e1, h1⟩ := h d List.mem_cons_self
    obtain ⟨y, S1, e2, d1, py⟩ := h1 S hS
    simp only [List.length_cons] at hl
    obtain ⟨zs, S2, e3, d2, l2, p2⟩ := lc_draw hc (acc := acc ++ [y]) d1 (by simp; omega) fun e he => h e (List.mem_cons_of_mem _ he)
    have hsz : acc.length < sizeLine := Nat.lt_of_lt_of_le (by omega) szl
    refine ⟨y :: zs, S2, ?_, d2, by simp [l2], fun z hz => ?_⟩
    · simp [lcL, e1, hc, e2, hsz, e3]
    · rcases List.mem_cons.mp hz with rfl | hz
      · exact py
      · exact p2 z hz
theorem lc_pick {tg : Tg} {elt : Vs → Sx → R D} {cond : Vs → Sx → R Bool} {sw : Vs} {r : Sx} : ∀ {ds acc : List D} {S : Sx}, Dr r S → acc.length + ds.length ≤ 1000000 →
    (∀ d ∈ ds, ∃ s1, asg tg d sw = some s1 ∧ (∀ S, elt s1 S = .ok d S) ∧ ∀ S, Dr r S → ∃ b S', cond s1 S = .ok b S' ∧ Dr r S') → ∃ zs S', lcL tg cond elt (fun _ => true) sw ds acc S = .ok (acc ++ zs) S' ∧ Dr r S' ∧ zs.Sublist ds
  | [], acc, S, hS, _, _ => ⟨[], S, by simp [lcL], hS, .slnil⟩
  | d :: ds, acc, S, hS, hl, h => by
    obtain ⟨s1, e1, h0, h1⟩ := h d List.mem_cons_self
    obtain ⟨b, S1, e2, d1⟩ := h1 S hS
    simp only [List.length_cons] at hl
    have hsz : acc.length < sizeLine := Nat.lt_of_lt_of_le (by omega) szl
    cases b with
    | true =>
      obtain ⟨zs, S2, e3, d2, l2⟩ := lc_pick (acc := acc ++ [d]) d1 (by simp; omega) fun e he => h e (List.mem_cons_of_mem _ he)
      exact ⟨d :: zs, S2, by simp [lcL, e1, e2, h0, hsz, e3], d2, l2.cons_cons d⟩
    | false =>
      obtain ⟨zs, S2, e3, d2, l2⟩ := lc_pick (acc := acc) d1 (by omega) fun e he => h e (List.mem_cons_of_mem _ he)
      exact ⟨zs, S2, by simp [lcL, e1, e2, e3], d2, l2.cons d⟩
/-- ascending places that are picked -/
theorem asc_pick {n : Nat} : ∀ {zs : List D} {a : Nat} {l : Nat}, a + l ≤ n → zs.Sublist ((List.range' a l).map fun i => D.int (i : Nat)) → ∃ xs : List Int, zs = xs.map .int ∧ Asc n ((a : Int) - 1) xs := by
  intro zs a l
  induction l generalizing zs a with
  | zero =>
    intro _ h
    simp at h
    exact ⟨[], by simp [h], trivial⟩
  | succ l ih =>
    intro hn h
    rw [List.range'_succ, List.map_cons] at h
    have weak : ∀ {xs : List Int} {b c : Int}, b ≤ c → Asc n c xs → Asc n b xs := fun {xs b c} hbc h => by
      cases xs with
      | nil => trivial
      | cons x xs => exact ⟨by have := h.1; omega, h.2⟩
    cases h with
    | cons _ h =>
      obtain ⟨xs, e, ha⟩ := ih (by omega) h
      exact ⟨xs, e, weak (by omega) ha⟩
    | cons_cons _ h =>
      obtain ⟨xs, e, ha⟩ := ih (by omega) h
      refine ⟨(a : Int) :: xs, by simp [e], by omega, by omega, ?_⟩
      have e2 : ((a + 1 : Nat) : Int) - 1 = (a : Int) := by omega
      rw [e2] at ha
      exact ha
theorem rng_eq {k : Int} (h : 0 ≤ k) : rngL 0 k = (List.range' 0 k.toNat).map fun i => D.int (i : Nat) := by
  unfold rngL
  rw [List.range_eq_range']
  simp
theorem rng_ok {k : Int} {S : Sx} (h1 : 0 ≤ k) (h2 : k ≤ 1000000) : rngI none (.int k) S = .ok (rngL 0 k, fun _ => true) S := by
  have hr : (-(2 ^ 62) ≤ (none : Option Int).getD 0 ∧ (none : Option Int).getD 0 < 2 ^ 62) ∧ (-(2 ^ 62) ≤ k ∧ k < 2 ^ 62) := by
    refine ⟨⟨by decide, by decide⟩, by omega, by omega⟩
  unfold rngI
  simp only [intD, lift_some, R.bind_ok]
  rw [if_pos hr]
  rfl
theorem rng_mem {k : Int} {d : D} (h : d ∈ rngL 0 k) : ∃ i : Nat, d = .int i ∧ (i : Int) < k := by
  unfold rngL at h
  obtain ⟨i, hi, rfl⟩ := List.mem_map.mp h
  have := List.mem_range.mp hi
  exact ⟨i, by simp, by omega⟩
theorem ints_of : ∀ {l : List D} {P : Int → Prop}, (∀ d ∈ l, ∃ i, d = .int i ∧ P i) → ∃ q : List Int, l = q.map .int ∧ ∀ i ∈ q, P i
  | [], P, _ => ⟨[], rfl, by simp⟩
  | d :: l, P, h => by
    obtain ⟨q, rfl, hq⟩ := ints_of fun z hz => h z (List.mem_cons_of_mem _ hz)
    obtain ⟨p, rfl, hp⟩ := h d List.mem_cons_self
    exact ⟨p :: q, rfl, fun z hz => by
      rcases List.mem_cons.mp hz with rfl | hz
      · exact hp
      · exact hq z hz⟩
theorem forL_dr {tg : Tg} {still : Sx → Bool} {b : Vs → Sx → R Fl} (I : List D → Vs → Sx → Prop) (hst : ∀ ds s S, I ds s S → still S = true) : ∀ {ds : List D} {s : Vs} {S : Sx}, I ds s S → (∀ d ds s S, I (d :: ds) s S → ∃ s1 s2 S2, asg tg d s = some s1 ∧ b s1 S = .ok (.nx s2) S2 ∧ I ds s2 S2) →
    ∃ s' S', forL tg still b ds s S = .ok (.nx s') S' ∧ I [] s' S'
  | [], s, S, hi, _ => ⟨s, S, by simp [forL, hst _ _ _ hi], hi⟩
  | d :: ds, s, S, hi, h => by
    obtain ⟨s1, s2, S2, e1, e2, i2⟩ := h d ds s S hi
    obtain ⟨s', S', e3, i3⟩ := forL_dr I hst i2 h
    exact ⟨s', S', by simp [forL, hst _ _ _ hi, e1, e2, e3], i3⟩
end TK
end
section
set_option autoImplicit false
set_option linter.all false
set_option maxRecDepth 100000
/-! ### the turns of a program: start, words, put, changed, next_focus, acts, changes_of, after -/
namespace TK
open PySem
/-- start -/
def f_start : Fn := ⟨1, 2, (.cons (.ret (.tup (.cons (.b1 .tuple (.lc false (.nm 1) (.e (.fld 0 (.v 0) "sizes")) .none (.c (.int 0)) [1])) (.cons (.c (.int 0)) (.cons (.tup .nil) .nil))))) .nil)⟩
/-- words -/
def f_words : Fn := ⟨2, 5, (.cons (.ret (.b1 .tuple (.lc false (.tp [(.nm 2), (.tp [(.nm 3), (.nm 4)]), (.nm 2)]) (.e (.fld 0 (.v 0) "parts")) .none (.sub (.v 4) (.sub (.v 1) (.v 3))) [2, 3, 4]))) .nil)⟩
/-- put -/
def f_put : Fn := ⟨2, 4, (.cons (.set 2 (.lc true (.nm 3) (.e (.v 0)) .none (.ife (.cmp .eq (.sub (.v 3) (.c (.int 0))) (.sub (.v 1) (.c (.int 0)))) (.v 1) (.v 3)) [3])) (.cons (.ite (.cmp .nin (.v 1) (.v 2)) (.cons (.ex (.app (.v 2) (.v 1))) .nil) .nil) (.cons (.ret (.b1 .tuple (.v 2))) .nil)))⟩
/-- changed -/
def f_changed : Fn := ⟨3, 6, (.cons (.set 3 (.b1 (.list true) (.v 1))) (.cons (.for_ (.tp [(.nm 4), (.nm 5)]) (.e (.v 2)) (.cons (.seti (.v 3) (.v 4) (.bin .mod (.bin .add (.sub (.v 3) (.v 4)) (.v 5)) (.sub (.fld 0 (.v 0) "sizes") (.v 4)))) .nil)) (.cons (.ret (.b1 .tuple (.v 3))) .nil)))⟩
/-- next_focus -/
def f_next_focus : Fn := ⟨2, 5, (.cons (.set 2 (.b1 .len (.fld 0 (.v 0) "parts"))) (.cons (.for_ (.nm 3) (.rng (.some (.c (.int 1))) (.bin .add (.v 2) (.c (.int 1)))) (.cons (.set 4 (.bin .mod (.bin .add (.v 1) (.v 3)) (.v 2))) (.cons (.ite (.cmp .nin (.v 4) (.fld 0 (.v 0) "skips")) (.cons (.ret (.v 4)) .nil) .nil) .nil))) (.cons (.ret (.v 1)) .nil)))⟩
/-- acts -/
def f_acts : Fn := ⟨2, 9, (.cons (.unp (.tp [(.nm 2), (.nm 3), (.nm 4)]) (.v 1)) (.cons (.set 5 (.lc true (.tp [(.nm 6), (.nm 7)]) (.enum (.fld 0 (.v 0) "parts")) (.some (.cmp .isn (.sub (.v 7) (.c (.int 2))) (.c .non))) (.tup (.cons (.c (.str "point")) (.cons (.v 6) .nil))) [6, 7])) (.cons (.ex (.app (.v 5) (.tup (.cons (.c (.str "next")) .nil)))) (.cons (.ite (.cmp .isn (.sub (.sub (.fld 0 (.v 0) "parts") (.v 3)) (.c (.int 2))) (.c .non)) (.cons (.ex (.app (.v 5) (.tup (.cons (.c (.str "press")) .nil)))) .nil) .nil) (.cons (.ex (.ext (.v 5) (.lc false (.nm 8) (.rng .none (.b1 .len (.fld 0 (.v 0) "ticks"))) .none (.tup (.cons (.c (.str "tick")) (.cons (.v 8) .nil))) [8]))) (.cons (.ite (.v 4) (.cons (.ex (.app (.v 5) (.tup (.cons (.c (.str "speak")) .nil)))) .nil) .nil) (.cons (.ret (.v 5)) .nil)))))))⟩
/-- changes_of -/
def f_changes_of : Fn := ⟨3, 4, (.cons (.ite (.cmp .eq (.sub (.v 2) (.c (.int 0))) (.c (.str "tick"))) (.cons (.ret (.sub (.fld 0 (.v 0) "ticks") (.sub (.v 2) (.c (.int 1))))) .nil) .nil) (.cons (.set 3 (.ife (.cmp .eq (.sub (.v 2) (.c (.int 0))) (.c (.str "press"))) (.v 1) (.sub (.v 2) (.c (.int 1))))) (.cons (.ret (.sub (.sub (.fld 0 (.v 0) "parts") (.v 3)) (.c (.int 2)))) .nil)))⟩
/-- after -/
def f_after : Fn := ⟨3, 10, (.cons (.ite (.cmp .nin (.v 2) (.call 14 2 (.cons (.v 0) (.cons (.v 1) .nil)))) (.cons .never .nil) .nil) (.cons (.unp (.tp [(.nm 3), (.nm 4), (.nm 5)]) (.v 1)) (.cons (.ite (.cmp .eq (.sub (.v 2) (.c (.int 0))) (.c (.str "speak"))) (.cons (.ret (.tup (.cons (.tup (.cons (.v 3) (.cons (.v 4) (.cons (.slc (.v 5) (.some (.c (.int 1))) .none) .nil)))) (.cons (.sub (.v 5) (.c (.int 0))) .nil)))) .nil) .nil) (.cons (.ite (.cmp .eq (.sub (.v 2) (.c (.int 0))) (.c (.str "next"))) (.cons (.set 4 (.call 13 0 (.cons (.v 0) (.cons (.v 4) .nil)))) (.cons (.ret (.tup (.cons (.tup (.cons (.v 3) (.cons (.v 4) (.cons (.call 11 2 (.cons (.v 5) (.cons (.tup (.cons (.v 4) (.cons (.sub (.call 10 0 (.cons (.v 0) (.cons (.v 3) .nil))) (.v 4)) .nil))) .nil))) .nil)))) (.cons (.tup .nil) .nil)))) .nil)) .nil) (.cons (.set 6 (.call 12 2 (.cons (.v 0) (.cons (.v 3) (.cons (.call 15 0 (.cons (.v 0) (.cons (.v 4) (.cons (.v 2) .nil)))) .nil))))) (.cons (.set 7 (.call 10 0 (.cons (.v 0) (.cons (.v 3) .nil)))) (.cons (.set 8 (.call 10 0 (.cons (.v 0) (.cons (.v 6) .nil)))) (.cons (.for_ (.nm 9) (.e (.fld 0 (.v 0) "live")) (.cons (.ite (.cmp .ne (.sub (.v 8) (.v 9)) (.sub (.v 7) (.v 9))) (.cons (.set 5 (.call 11 2 (.cons (.v 5) (.cons (.tup (.cons (.v 9) (.cons (.sub (.v 8) (.v 9)) .nil))) .nil)))) .nil) .nil) .nil)) (.cons (.ret (.tup (.cons (.tup (.cons (.v 6) (.cons (.v 4) (.cons (.v 5) .nil)))) (.cons (.tup .nil) .nil)))) .nil)))))))))⟩
def comB : List Fn := [f_start, f_words, f_put, f_changed, f_next_focus, f_acts, f_changes_of, f_after]
end TK
end
section
set_option autoImplicit false
set_option linter.all false
set_option maxRecDepth 100000
/-! ### drawn data, at any places of the law's own defs -/
namespace TK
open PySem
theorem run_at {gc : Nat → D} {fs : List Fn} {k n : Nat} {f : Fn} (h : fs[k]? = some f) : runF gc fs (n + 1) k = runB gc (runF gc fs n) f := by
  funext xs S
  simp [runF, h]
/-- _law_changes -/
def d_law_changes : Fn := ⟨2, 3, (.cons (.ret (.b1 .tuple (.lc false (.nm 2) (.rng .none (.bin .add (.c (.int 1)) (.call 7 0 (.cons (.v 0) (.cons (.c (.int 3)) .nil))))) .none (.tup (.cons (.call 7 0 (.cons (.v 0) (.cons (.b1 .len (.v 1)) .nil))) (.cons (.bin .add (.c (.int 1)) (.call 7 0 (.cons (.v 0) (.cons (.c (.int 3)) .nil)))) .nil))) [2]))) .nil)⟩
/-- _law_pair -/
def d_law_pair : Fn := ⟨3, 5, (.cons (.set 3 (.call 7 0 (.cons (.v 0) (.cons (.b1 .len (.v 1)) .nil)))) (.cons (.ret (.tup (.cons (.v 3) (.cons (.b1 .tuple (.lc false (.nm 4) (.rng .none (.sub (.v 1) (.v 3))) .none (.call 7 0 (.cons (.v 0) (.cons (.v 2) .nil))) [4])) .nil)))) .nil))⟩
/-- _law_data -/
def d_law_data (c q : Nat) : Fn := ⟨1, 11, (.cons (.set 1 (.b1 .tuple (.lc false (.nm 2) (.rng .none (.bin .add (.c (.int 1)) (.call 7 0 (.cons (.v 0) (.cons (.c (.int 3)) .nil))))) .none (.bin .add (.c (.int 2)) (.call 7 0 (.cons (.v 0) (.cons (.c (.int 3)) .nil)))) [2]))) (.cons (.set 3 (.lst true .nil)) (.cons (.for_ (.nm 2) (.rng .none (.bin .add (.c (.int 1)) (.call 7 0 (.cons (.v 0) (.cons (.c (.int 4)) .nil))))) (.cons (.set 4 (.sub (.lst false (.cons (.c (.int 8)) (.cons (.c (.int 2)) (.cons (.c (.int 3)) .nil)))) (.call 7 0 (.cons (.v 0) (.cons (.c (.int 3)) .nil))))) (.cons (.set 5 (.call q 0 (.cons (.v 0) (.cons (.v 1) (.cons (.v 4) .nil))))) (.cons (.set 6 (.call q 0 (.cons (.v 0) (.cons (.v 1) (.cons (.v 4) .nil))))) (.cons (.set 7 (.ife (.cmp .eq (.call 7 0 (.cons (.v 0) (.cons (.c (.int 4)) .nil))) (.c (.int 0))) (.c .non) (.call c 0 (.cons (.v 0) (.cons (.v 1) .nil))))) (.cons (.ex (.app (.v 3) (.tup (.cons (.v 5) (.cons (.v 6) (.cons (.v 7) .nil)))))) .nil)))))) (.cons (.set 8 (.b1 .tuple (.lc false (.nm 2) (.rng .none (.call 7 0 (.cons (.v 0) (.cons (.c (.int 3)) .nil)))) .none (.call c 0 (.cons (.v 0) (.cons (.v 1) .nil))) [2]))) (.cons (.set 9 (.b1 .tuple (.lc false (.nm 2) (.rng .none (.b1 .len (.v 3))) (.some (.cmp .eq (.call 7 0 (.cons (.v 0) (.cons (.c (.int 2)) .nil))) (.c (.int 0)))) (.v 2) [2]))) (.cons (.set 10 (.b1 .tuple (.lc false (.nm 2) (.rng .none (.b1 .len (.v 3))) (.some (.cmp .eq (.call 7 0 (.cons (.v 0) (.cons (.c (.int 4)) .nil))) (.c (.int 0)))) (.v 2) [2]))) (.cons (.ret (.dct false [.inr "sizes", .inr "parts", .inr "ticks", .inr "live", .inr "skips"] (.cons (.v 1) (.cons (.b1 .tuple (.v 3)) (.cons (.v 8) (.cons (.v 9) (.cons (.v 10) .nil))))))) .nil)))))))⟩
theorem run_rt {gc : Nat → D} {G : Gm} {f : Fn} {xs : List D} {S S' : Sx} {d : D} (h0 : xs.length = f.np) (h : ess gc G f.body (startV f.nv xs) S = .ok (.rt d) S') : runB gc G f xs S = .ok d S' := by
  unfold runB
  rw [if_pos h0, h]
theorem ess7 {gc : Nat → D} {G : Gm} {a1 a2 a3 a4 a5 a6 a7 : Sm} {s s1 s2 s3 s4 s5 s6 : Vs} {S S1 S2 S3 S4 S5 S6 S7 : Sx} {d : D} (h1 : es gc G a1 s S = .ok (.nx s1) S1) (h2 : es gc G a2 s1 S1 = .ok (.nx s2) S2) (h3 : es gc G a3 s2 S2 = .ok (.nx s3) S3) (h4 : es gc G a4 s3 S3 = .ok (.nx s4) S4) (h5 : es gc G a5 s4 S4 = .ok (.nx s5) S5) (h6 : es gc G a6 s5 S5 = .ok (.nx s6) S6) (h7 : es gc G a7 s6 S6 = .ok (.rt d) S7) :
    ess gc G (.cons a1 (.cons a2 (.cons a3 (.cons a4 (.cons a5 (.cons a6 (.cons a7 .nil))))))) s S = .ok (.rt d) S7 := by
  simp only [ess_cons, h1, h2, h3, h4, h5, h6, h7, R.bind_ok]
structure Pl (gc : Nat → D) (rest : List Fn) (c q w : Nat) : Prop where
  hc : (comA ++ rest)[c]? = some d_law_changes
  hq : (comA ++ rest)[q]? = some d_law_pair
  hw : (comA ++ rest)[w]? = some (d_law_data c q)
section
variable {gc : Nat → D} {rest : List Fn} {c q w : Nat} {n : Nat} {r S : Sx}
theorem dr (_ : Pl gc rest c q w) {m : Int} (hm : 0 < m) (hm2 : m < 1073741824) (h : Dr r S) : ∃ v S', rA gc rest (n + 1) 7 [.obj 1, .int m] S = .ok (.int v) S' ∧ Dr r S' ∧ 0 ≤ v ∧ v < m := draw (gc := gc) (rest := rest) hm hm2 h
theorem changes_dr (P : Pl gc rest c q w) {zs : List Int} (hz : Sizes zs) (h : Dr r S) : ∃ d S', rA gc rest (n + 2) c [.obj 1, .tup (zs.map .int)] S = .ok d S' ∧ Dr r S' ∧ isChg zs d := by
  rw [show rA gc rest (n + 2) c = runB gc (rA gc rest (n + 1)) d_law_changes from run_at P.hc]
  obtain ⟨z1, z2, _⟩ := hz
  have zl : (0 : Int) < zs.length := by omega
  have zl2 : (zs.length : Int) < 1073741824 := by omega
  obtain ⟨k, S1, e1, d1, k1, k2⟩ := dr P (n := n) (m := 3) (by omega) (by omega) h
  obtain ⟨l, S2, e2, d2, l2, p2⟩ := lc_draw (tg := .nm 2) (elt := (ev gc (rA gc rest (n + 1)) (.tup (.cons (.call 7 0 (.cons (.v 0) (.cons (.b1 .len (.v 1)) .nil))) (.cons (.bin .add (.c (.int 1)) (.call 7 0 (.cons (.v 0) (.cons (.c (.int 3)) .nil)))) .nil)))).val) (cond := evc gc (rA gc rest (n + 1)) .none) (sw := [some (.obj 1), some (.tup (zs.map .int)), none]) (r := r)
    (P := fun d => ∃ p : Nat × Int, d = .tup [.int p.1, .int p.2] ∧ p.1 < zs.length ∧ 1 ≤ p.2 ∧ p.2 ≤ 3) (fun _ _ => rfl) (ds := rngL 0 (1 + k)) (acc := []) d1 (by rw [len_rng]; simp; omega) (fun d hd => ⟨_, rfl, fun S hS => by
      obtain ⟨v, S1, e1, d1, v1, v2⟩ := dr P (n := n) zl zl2 hS
      obtain ⟨u, S2, e2, d2, u1, u2⟩ := dr P (n := n) (m := 3) (by omega) (by omega) d1
      obtain ⟨w, rfl⟩ := Int.eq_ofNat_of_zero_le v1
      refine ⟨.tup [.int w, .int (1 + u)], S2, ?_, d2, (w, 1 + u), rfl, by omega, by show 1 ≤ 1 + u; omega, by show 1 + u ≤ 3; omega⟩
      have : (2 : Nat) ≤ sizeLine := Nat.le_trans (by omega) szl
      simp [e1, e2, this]⟩)
  obtain ⟨q, hq⟩ : ∃ q : List (Nat × Int), l = (q.map fun p => .tup [.int p.1, .int p.2]) ∧ ∀ p ∈ q, p.1 < zs.length ∧ 1 ≤ p.2 ∧ p.2 ≤ 3 := by
    clear e2 l2
    induction l with
    | nil => exact ⟨[], rfl, by simp⟩
    | cons d l ih =>
      obtain ⟨q, rfl, hq⟩ := ih fun z hz => p2 z (List.mem_cons_of_mem _ hz)
      obtain ⟨p, rfl, hp⟩ := p2 d List.mem_cons_self
      exact ⟨p :: q, rfl, fun z hz => by
        rcases List.mem_cons.mp hz with rfl | hz
        · exact hp
        · exact hq z hz⟩
  obtain ⟨rfl, hq⟩ := hq
  have ql : q.length = (1 + k).toNat := by rw [List.length_map, len_rng] at l2; simpa using l2
  refine ⟨.tup (q.map fun p => .tup [.int p.1, .int p.2]), S2, ?_, d2, q, rfl, by omega, by omega, hq⟩
  have hsz : (q.map fun p => D.tup [.int p.1, .int p.2]).length ≤ sizeLine := Nat.le_trans (by simp; omega) szl
  unfold runB d_law_changes
  simp [startV, e1, rng_ok (k := 1 + k) (by omega) (by omega)]
  rw [e2]
  simp [newL_f hsz]
theorem pair_dr (P : Pl gc rest c q w) {zs : List Int} (hz : Sizes zs) {m : Int} (hm : 0 < m) (hm2 : m ≤ 8) (h : Dr r S) : ∃ d S', rA gc rest (n + 2) q [.obj 1, .tup (zs.map .int), .int m] S = .ok d S' ∧ Dr r S' ∧ isTab zs d := by
  rw [show rA gc rest (n + 2) q = runB gc (rA gc rest (n + 1)) d_law_pair from run_at P.hq]
  obtain ⟨z1, z2, z3⟩ := hz
  have zl : (0 : Int) < zs.length := by omega
  have zl2 : (zs.length : Int) < 1073741824 := by omega
  obtain ⟨v, S1, e1, d1, v1, v2⟩ := dr P (n := n) zl zl2 h
  obtain ⟨w, rfl⟩ := Int.eq_ofNat_of_zero_le v1
  have wl : w < zs.length := by omega
  obtain ⟨k, hk⟩ : ∃ k, zs[w]? = some k := ⟨_, List.getElem?_eq_getElem wl⟩
  obtain ⟨k1, k2⟩ := z3 k (List.mem_of_getElem? hk)
  have e3 : (zs.map D.int)[w]? = some (.int k) := by rw [List.getElem?_map, hk] <;> rfl
  obtain ⟨l, S2, e2, d2, l2, p2⟩ := lc_draw (tg := .nm 4) (elt := (ev gc (rA gc rest (n + 1)) (.call 7 0 (.cons (.v 0) (.cons (.v 2) .nil)))).val) (cond := evc gc (rA gc rest (n + 1)) .none) (sw := [some (.obj 1), some (.tup (zs.map .int)), some (.int m), some (.int w), none]) (r := r)
    (P := fun d => ∃ i : Int, d = .int i ∧ (0 ≤ i ∧ i < m)) (fun _ _ => rfl) (ds := rngL 0 k) (acc := []) d1 (by rw [len_rng]; simp; omega) (fun d hd => ⟨_, rfl, fun S hS => by
      obtain ⟨v, S1, e1, d1, v1, v2⟩ := dr P (n := n) hm (by omega) hS
      exact ⟨.int v, S1, by simp [e1], d1, v, rfl, v1, v2⟩⟩)
  obtain ⟨q, rfl, hq⟩ := ints_of p2
  have ql : q.length = k.toNat := by rw [List.length_map, len_rng] at l2; simpa using l2
  refine ⟨.tup [.int w, .tup (q.map .int)], S2, ?_, d2, w, q, rfl, by rw [hk, ql]; simp; omega, fun x hx => by have := hq x hx; omega⟩
  have hsz : (q.map D.int).length ≤ sizeLine := Nat.le_trans (by simp; omega) szl
  have h2 : (2 : Nat) ≤ sizeLine := Nat.le_trans (by omega) szl
  unfold runB d_law_pair
  simp [startV, e1, ix_tup, e3, rng_ok (k := k) (by omega) (by omega)]
  rw [e2]
  simp [newL_f hsz, h2]
theorem dct_ok {gc : Nat → D} {G : Gm} {ks : List L2.Key} {es : Es} {s : Vs} {S S' : Sx} {xs : List D} (h : (evs gc G es).vals s S = .ok xs S') (kl : xs.length = ks.length ∧ ks.length ≤ 15 ∧ ks.Nodup) : (ev gc G (.dct false ks es)).val s S = .ok (.dv ks xs) S' := by
  rw [ev_dct, h]
  simp only [R.bind_ok]
  rw [if_pos kl]
  rfl
/-- one part's text -/
def bPart (c q : Nat) : Sms := (.cons (.set 4 (.sub (.lst false (.cons (.c (.int 8)) (.cons (.c (.int 2)) (.cons (.c (.int 3)) .nil)))) (.call 7 0 (.cons (.v 0) (.cons (.c (.int 3)) .nil))))) (.cons (.set 5 (.call q 0 (.cons (.v 0) (.cons (.v 1) (.cons (.v 4) .nil))))) (.cons (.set 6 (.call q 0 (.cons (.v 0) (.cons (.v 1) (.cons (.v 4) .nil))))) (.cons (.set 7 (.ife (.cmp .eq (.call 7 0 (.cons (.v 0) (.cons (.c (.int 4)) .nil))) (.c (.int 0))) (.c .non) (.call c 0 (.cons (.v 0) (.cons (.v 1) .nil))))) (.cons (.ex (.app (.v 3) (.tup (.cons (.v 5) (.cons (.v 6) (.cons (.v 7) .nil)))))) .nil)))))
theorem mosts {v : Int} (h1 : 0 ≤ v) (h2 : v < 3) : ∃ m : Int, L2.atI [D.int 8, D.int 2, D.int 3] v = some (.int m) ∧ 0 < m ∧ m ≤ 8 := by
  have : v = 0 ∨ v = 1 ∨ v = 2 := by omega
  rcases this with rfl | rfl | rfl
  · exact ⟨8, by simp, by omega, by omega⟩
  · exact ⟨2, by simp, by omega, by omega⟩
  · exact ⟨3, by simp, by omega, by omega⟩
theorem part_dr (P : Pl gc rest c q w) {zs : List Int} (hz : Sizes zs) {ps : List D} (hp : ∀ d ∈ ps, isPart zs d) (hl : ps.length < 1000) (h : Dr [.lst ps] S) {x2 x4 x5 x6 x7 y8 y9 y10 : Option D} : ∃ s2 S2 d, ess gc (rA gc rest (n + 2)) (bPart c q) [some (.obj 1), some (.tup (zs.map .int)), x2, some (.obj 2), x4, x5, x6, x7, none, none, none] S = .ok (.nx s2) S2 ∧
    Dr [.lst (ps ++ [d])] S2 ∧ isPart zs d ∧ ∃ z4 z5 z6 z7, s2 = [some (.obj 1), some (.tup (zs.map .int)), x2, some (.obj 2), z4, z5, z6, z7, none, none, none] := by
  obtain ⟨v, S1, e1, d1, v1, v2⟩ := dr P (n := n + 1) (m := 3) (by omega) (by omega) h
  obtain ⟨m, em, m1, m2⟩ := mosts v1 v2
  obtain ⟨a, S2, e2, d2, ha⟩ := pair_dr P (n := n) hz m1 m2 d1
  obtain ⟨b, S3, e3, d3, hb⟩ := pair_dr P (n := n) hz m1 m2 d2
  obtain ⟨u, S4, e4, d4, u1, u2⟩ := dr P (n := n + 1) (m := 4) (by omega) (by omega) d3
  have h3 : (3 : Nat) ≤ sizeLine := Nat.le_trans (by omega) szl
  have key : ∃ p S5, (if u = 0 then R.ok D.non S4 else rA gc rest (n + 2) c [.obj 1, .tup (zs.map .int)] S4) = .ok p S5 ∧ Dr [.lst ps] S5 ∧ (p = .non ∨ isChg zs p) := by
    by_cases hu : u = 0
    · exact ⟨.non, S4, by simp [hu], d4, .inl rfl⟩
    · obtain ⟨p, S5, e5, d5, hp⟩ := changes_dr P (n := n) hz d4
      exact ⟨p, S5, by simp [hu, e5], d5, .inr hp⟩
  obtain ⟨p, S5, e5, ⟨xs, c, s, rfl⟩, hpp⟩ := key
  have g2 : (St xs c s [.lst ps])[2]? = some (.lst ps) := rfl
  have hsz : ps.length < sizeLine := Nat.lt_of_lt_of_le (by omega) szl
  refine ⟨_, St xs c s [.lst (ps ++ [.tup [a, b, p]])], .tup [a, b, p], ?_, ⟨xs, c, s, rfl⟩, ⟨a, b, p, rfl, ha, hb, hpp⟩, some (.int m), some a, some b, some p, rfl⟩
  have e6 : appD (.obj 2) (.tup [a, b, p]) (St xs c s [.lst ps]) = .ok .non (St xs c s [.lst (ps ++ [.tup [a, b, p]])]) := (app_obj g2 hsz).trans rfl
  unfold bPart
  simp [e1, newL_f, h3, ix_lv, em, e2, e3, e4, e5, lst_obj g2, e6]
def dSt1 : Sm := (.set 1 (.b1 .tuple (.lc false (.nm 2) (.rng .none (.bin .add (.c (.int 1)) (.call 7 0 (.cons (.v 0) (.cons (.c (.int 3)) .nil))))) .none (.bin .add (.c (.int 2)) (.call 7 0 (.cons (.v 0) (.cons (.c (.int 3)) .nil)))) [2])))
def dSt3 (c q : Nat) : Sm := (.for_ (.nm 2) (.rng .none (.bin .add (.c (.int 1)) (.call 7 0 (.cons (.v 0) (.cons (.c (.int 4)) .nil))))) (.cons (.set 4 (.sub (.lst false (.cons (.c (.int 8)) (.cons (.c (.int 2)) (.cons (.c (.int 3)) .nil)))) (.call 7 0 (.cons (.v 0) (.cons (.c (.int 3)) .nil))))) (.cons (.set 5 (.call q 0 (.cons (.v 0) (.cons (.v 1) (.cons (.v 4) .nil))))) (.cons (.set 6 (.call q 0 (.cons (.v 0) (.cons (.v 1) (.cons (.v 4) .nil))))) (.cons (.set 7 (.ife (.cmp .eq (.call 7 0 (.cons (.v 0) (.cons (.c (.int 4)) .nil))) (.c (.int 0))) (.c .non) (.call c 0 (.cons (.v 0) (.cons (.v 1) .nil))))) (.cons (.ex (.app (.v 3) (.tup (.cons (.v 5) (.cons (.v 6) (.cons (.v 7) .nil)))))) .nil))))))
def dSt4 (c q : Nat) : Sm := (.set 8 (.b1 .tuple (.lc false (.nm 2) (.rng .none (.call 7 0 (.cons (.v 0) (.cons (.c (.int 3)) .nil)))) .none (.call c 0 (.cons (.v 0) (.cons (.v 1) .nil))) [2])))
def dSt5 : Sm := (.set 9 (.b1 .tuple (.lc false (.nm 2) (.rng .none (.b1 .len (.v 3))) (.some (.cmp .eq (.call 7 0 (.cons (.v 0) (.cons (.c (.int 2)) .nil))) (.c (.int 0)))) (.v 2) [2])))
def dSt6 : Sm := (.set 10 (.b1 .tuple (.lc false (.nm 2) (.rng .none (.b1 .len (.v 3))) (.some (.cmp .eq (.call 7 0 (.cons (.v 0) (.cons (.c (.int 4)) .nil))) (.c (.int 0)))) (.v 2) [2])))
def dSt7 : Sm := (.ret (.dct false [.inr "sizes", .inr "parts", .inr "ticks", .inr "live", .inr "skips"] (.cons (.v 1) (.cons (.b1 .tuple (.v 3)) (.cons (.v 8) (.cons (.v 9) (.cons (.v 10) .nil)))))))
theorem keysP_nd : keysP.Nodup := by decide
theorem keysP_l : keysP.length ≤ 15 := by decide
theorem st7_ok (P : Pl gc rest c q w) {zs lv sk : List Int} {ps ts : List D} {x2 x4 x5 x6 x7 : Option D} {S8 : Sx} (tup2 : b1D .tuple (.obj 2) S8 = .ok (.tup ps) S8) : es gc (rA gc rest (n + 2)) dSt7 [some (.obj 1), some (.tup (zs.map .int)), x2, some (.obj 2), x4, x5, x6, x7, some (.tup ts), some (.tup (lv.map .int)), some (.tup (sk.map .int))] S8 = .ok (.rt (.dv keysP [.tup (zs.map .int), .tup ps, .tup ts, .tup (lv.map .int), .tup (sk.map .int)])) S8 := by
  have kv := dct_ok (gc := gc) (G := rA gc rest (n + 2)) (ks := keysP) (es := (.cons (.v 1) (.cons (.b1 .tuple (.v 3)) (.cons (.v 8) (.cons (.v 9) (.cons (.v 10) .nil)))))) (s := [some (.obj 1), some (.tup (zs.map .int)), x2, some (.obj 2), x4, x5, x6, x7, some (.tup ts), some (.tup (lv.map .int)), some (.tup (sk.map .int))]) (S := S8) (S' := S8) (xs := [.tup (zs.map .int), .tup ps, .tup ts, .tup (lv.map .int), .tup (sk.map .int)]) (by simp [tup2]) ⟨rfl, keysP_l, keysP_nd⟩
  show (((ev gc (rA gc rest (n + 2)) (.dct false keysP (.cons (.v 1) (.cons (.b1 .tuple (.v 3)) (.cons (.v 8) (.cons (.v 9) (.cons (.v 10) .nil))))))).val _ _).bind fun d S => R.ok (Fl.rt d) S) = _
  rw [kv]
  rfl
theorem pick_ok (P : Pl gc rest c q w) {zs : List Int} {ps : List D} {x4 x5 x6 x7 : Option D} (hpl : ps.length ≤ 4) : ∀ (m : Int), 0 < m → m < 1073741824 → ∀ (y8 y9 : Option D) (S : Sx), Dr [.lst ps] S → ∃ (q : List Int) (S' : Sx), lcL (.nm 2) (evc gc (rA gc rest (n + 2)) (.some (.cmp .eq (.call 7 0 (.cons (.v 0) (.cons (.c (.int m)) .nil))) (.c (.int 0))))) (ev gc (rA gc rest (n + 2)) (.v 2)).val (fun _ => true) [some (.obj 1), some (.tup (zs.map .int)), none, some (.obj 2), x4, x5, x6, x7, y8, y9, none] (rngL 0 ps.length) [] S = .ok (q.map .int) S' ∧ Dr [.lst ps] S' ∧ Asc ps.length (-1) q ∧ q.length ≤ 1000000 := by
  intro m hm hm2 y8 y9 S hS
  obtain ⟨l, S', e, dS', sub⟩ := lc_pick (tg := .nm 2) (elt := (ev gc (rA gc rest (n + 2)) (.v 2)).val) (cond := evc gc (rA gc rest (n + 2)) (.some (.cmp .eq (.call 7 0 (.cons (.v 0) (.cons (.c (.int m)) .nil))) (.c (.int 0))))) (sw := [some (.obj 1), some (.tup (zs.map .int)), none, some (.obj 2), x4, x5, x6, x7, y8, y9, none]) (r := [.lst ps]) (ds := rngL 0 ps.length) (acc := []) hS (by rw [len_rng]; simp; omega) (fun d hd => ⟨_, rfl, fun S => by simp, fun S hS => by
    obtain ⟨v, S1, e1, d1, _⟩ := dr P (n := n + 1) hm hm2 hS
    exact ⟨decide (v = 0), S1, by simp [e1], d1⟩⟩)
  have hln := sub.length_le
  rw [rng_eq (by omega)] at sub
  obtain ⟨q, rfl, hq⟩ := asc_pick (n := ps.length) (a := 0) (by simp) sub
  exact ⟨q, S', e, dS', hq, by rw [len_rng] at hln; simp at hln; omega⟩
theorem ps_len {k : Int} {ps : List D} (h1 : 0 ≤ k) (h2 : k < 4) (h : (ps.length : Int) = 1 + k) : 1 ≤ ps.length ∧ ps.length ≤ 4 := by omega
def v0 : Vs := [some (.obj 1), none, none, none, none, none, none, none, none, none, none]
def v1 (zs : List Int) : Vs := [some (.obj 1), some (.tup (zs.map .int)), none, none, none, none, none, none, none, none, none]
def v3 (zs : List Int) (x2 x4 x5 x6 x7 y8 y9 y10 : Option D) : Vs := [some (.obj 1), some (.tup (zs.map .int)), x2, some (.obj 2), x4, x5, x6, x7, y8, y9, y10]
theorem s1_ok (P : Pl gc rest c q w) (h : Dr [] S) : ∃ zs S', es gc (rA gc rest (n + 2)) dSt1 v0 S = .ok (.nx (v1 zs)) S' ∧ Dr [] S' ∧ Sizes zs := by
  obtain ⟨k, S1, e1, d1, k1, k2⟩ := dr P (n := n + 1) (m := 3) (by omega) (by omega) h
  obtain ⟨l, S2, e2, d2, l2, p2⟩ := lc_draw (tg := .nm 2) (elt := (ev gc (rA gc rest (n + 2)) (.bin .add (.c (.int 2)) (.call 7 0 (.cons (.v 0) (.cons (.c (.int 3)) .nil))))).val) (cond := evc gc (rA gc rest (n + 2)) .none) (sw := v0) (r := [])
    (P := fun d => ∃ i : Int, d = .int i ∧ (2 ≤ i ∧ i ≤ 4)) (fun _ _ => rfl) (ds := rngL 0 (1 + k)) (acc := []) d1 (by rw [len_rng]; simp; omega) (fun d hd => ⟨_, rfl, fun S hS => by
      obtain ⟨v, S1, e1, d1, v1, v2⟩ := dr P (n := n + 1) (m := 3) (by omega) (by omega) hS
      exact ⟨.int (2 + v), S1, by simp [v0, e1], d1, 2 + v, rfl, by omega, by omega⟩⟩)
  obtain ⟨zs, rfl, hzs⟩ := ints_of p2
  have zl : zs.length = (1 + k).toNat := by rw [List.length_map, len_rng] at l2; simpa using l2
  have hsz : (zs.map D.int).length ≤ sizeLine := Nat.le_trans (by simp; omega) szl
  have r1 := @rng_ok (1 + k) S1 (by omega) (by omega)
  refine ⟨zs, S2, ?_, d2, by omega, by omega, hzs⟩
  unfold v0 at e2
  unfold dSt1 v0 v1
  simp [e1, r1]
  rw [e2]
  simp [newL_f hsz]
theorem loop_ok (P : Pl gc rest c q w) {zs : List Int} (hz : Sizes zs) (h : Dr [.lst []] S) {k : Int} (k1 : 0 ≤ k) (k2 : k < 4) : ∃ ps x2 x4 x5 x6 x7 S', forL (.nm 2) (fun _ => true) (ess gc (rA gc rest (n + 2)) (bPart c q)) (rngL 0 (1 + k)) (v3 zs none none none none none none none none) S = .ok (.nx (v3 zs x2 x4 x5 x6 x7 none none none)) S' ∧ Dr [.lst ps] S' ∧ (∀ d ∈ ps, isPart zs d) ∧ 1 ≤ ps.length ∧ ps.length ≤ 4 := by
  obtain ⟨s4, S4, e4, ps, x2, x4, x5, x6, x7, rfl, d4, hps, lps⟩ := forL_dr (tg := .nm 2) (still := fun _ => true) (b := ess gc (rA gc rest (n + 2)) (bPart c q))
    (fun ds s S => ∃ (ps : List D) (x2 x4 x5 x6 x7 : Option D), s = v3 zs x2 x4 x5 x6 x7 none none none ∧ Dr [.lst ps] S ∧ (∀ d ∈ ps, isPart zs d) ∧ (ps.length : Int) + ds.length = 1 + k) (fun _ _ _ _ => rfl) (ds := rngL 0 (1 + k)) (s := v3 zs none none none none none none none none) (S := S)
    ⟨[], none, none, none, none, none, rfl, h, by simp, by rw [len_rng]; simp; omega⟩ (by
    rintro d ds s S ⟨ps, x2, x4, x5, x6, x7, rfl, dS, hps, hl⟩
    simp only [List.length_cons] at hl
    obtain ⟨s2, S2, e, q1, q2, q3, z4, z5, z6, z7, rfl⟩ := part_dr P (n := n) hz hps (by omega) dS (x2 := some d) (x4 := x4) (x5 := x5) (x6 := x6) (x7 := x7) (y8 := none) (y9 := none) (y10 := none)
    refine ⟨_, _, S2, rfl, q1, ps ++ [e], some d, z4, z5, z6, z7, rfl, q2, fun y hy => ?_, ?_⟩
    · rcases List.mem_append.mp hy with hy | hy
      · exact hps y hy
      · rw [List.mem_singleton.mp hy]; exact q3
    · rw [List.length_append]; simp only [List.length_cons, List.length_nil]; omega)
  simp at lps
  exact ⟨ps, x2, x4, x5, x6, x7, S4, e4, d4, hps, by omega, by omega⟩
theorem s3_ok (P : Pl gc rest c q w) {zs : List Int} (hz : Sizes zs) (h : Dr [.lst []] S) : ∃ ps x2 x4 x5 x6 x7 S', es gc (rA gc rest (n + 2)) (dSt3 c q) (v3 zs none none none none none none none none) S = .ok (.nx (v3 zs x2 x4 x5 x6 x7 none none none)) S' ∧ Dr [.lst ps] S' ∧ (∀ d ∈ ps, isPart zs d) ∧ 1 ≤ ps.length ∧ ps.length ≤ 4 := by
  obtain ⟨k, S3, e3, d3, k1, k2⟩ := dr P (n := n + 1) (m := 4) (by omega) (by omega) h
  obtain ⟨ps, x2, x4, x5, x6, x7, S', e, qq⟩ := loop_ok P (n := n) hz d3 k1 k2
  refine ⟨ps, x2, x4, x5, x6, x7, S', ?_, qq⟩
  have r2 := @rng_ok (1 + k) S3 (by omega) (by omega)
  show ((evi gc (rA gc rest (n + 2)) (.rng .none (.bin .add (.c (.int 1)) (.call 7 0 (.cons (.v 0) (.cons (.c (.int 4)) .nil)))))) (v3 zs none none none none none none none none) S).bind (fun xs S => forL (.nm 2) xs.2 (ess gc (rA gc rest (n + 2)) (bPart c q)) xs.1 (v3 zs none none none none none none none none) S) = _
  have e5 : (evi gc (rA gc rest (n + 2)) (.rng .none (.bin .add (.c (.int 1)) (.call 7 0 (.cons (.v 0) (.cons (.c (.int 4)) .nil)))))) (v3 zs none none none none none none none none) S = .ok (rngL 0 (1 + k), fun _ => true) S3 := by
    unfold v3
    simp [e3, r2]
  rw [e5]
  exact e
theorem s4_ok (P : Pl gc rest c q w) {zs : List Int} (hz : Sizes zs) {ps : List D} {x2 x4 x5 x6 x7 : Option D} (h : Dr [.lst ps] S) : ∃ ts S', es gc (rA gc rest (n + 2)) (dSt4 c q) (v3 zs x2 x4 x5 x6 x7 none none none) S = .ok (.nx (v3 zs x2 x4 x5 x6 x7 (some (.tup ts)) none none)) S' ∧ Dr [.lst ps] S' ∧ ts.length ≤ 2 ∧ ∀ d ∈ ts, isChg zs d := by
  obtain ⟨k3, S5, e5, d5, k31, k32⟩ := dr P (n := n + 1) (m := 3) (by omega) (by omega) h
  obtain ⟨ts, S6, e6, d6, l6, p6⟩ := lc_draw (tg := .nm 2) (elt := (ev gc (rA gc rest (n + 2)) (.call c 0 (.cons (.v 0) (.cons (.v 1) .nil)))).val) (cond := evc gc (rA gc rest (n + 2)) .none) (sw := [some (.obj 1), some (.tup (zs.map .int)), none, some (.obj 2), x4, x5, x6, x7, none, none, none]) (r := [.lst ps])
    (P := isChg zs) (fun _ _ => rfl) (ds := rngL 0 k3) (acc := []) d5 (by rw [len_rng]; simp; omega) (fun d hd => ⟨_, rfl, fun S hS => by
      obtain ⟨v, S1, e1, d1, v1⟩ := changes_dr P (n := n) hz hS
      exact ⟨v, S1, by simp [e1], d1, v1⟩⟩)
  have tl : ts.length ≤ 2 := by rw [len_rng] at l6; omega
  have htl : ts.length ≤ sizeLine := Nat.le_trans (by omega) szl
  have r3 := @rng_ok k3 S5 (by omega) (by omega)
  refine ⟨ts, S6, ?_, d6, tl, p6⟩
  unfold dSt4 v3
  simp [e5, r3]
  rw [e6]
  simp [newL_f htl]
theorem len2 {ps : List D} (h : Dr [.lst ps] S) : b1D .len (.obj 2) S = .ok (.int ps.length) S := by
  obtain ⟨xs, c, s, rfl⟩ := h
  exact b1_leno rfl
theorem tup2 {ps : List D} (h : Dr [.lst ps] S) : b1D .tuple (.obj 2) S = .ok (.tup ps) S := by
  obtain ⟨xs, c, s, rfl⟩ := h
  exact b1_tupo rfl
theorem pick_set {gc : Nat → D} {G : Gm} {i : Nat} {tg : Tg} {it : It} {cond : Eo} {elt : E} {vs : List Nat} {s sw s2 : Vs} {S S' : Sx} {xs zs : List D} {st : Sx → Bool} (h1 : (evi gc G it) s S = .ok (xs, st) S) (h2 : lcL tg (evc gc G cond) (ev gc G elt).val st sw xs [] S = .ok zs S') (h3 : zs.length ≤ sizeLine) (hw : wipeV s vs = sw) (hs : s.set i (some (.tup zs)) = s2) : es gc G (.set i (.b1 .tuple (.lc false tg it cond elt vs))) s S = .ok (.nx s2) S' := by
  rw [es_set, ev_b1, ev_lc, h1]
  simp only [R.bind_ok]
  rw [hw, h2]
  simp only [R.nox_ok, R.bind_ok, newL_f h3, b1_tup]
  rw [hs]
theorem s5_ok (P : Pl gc rest c q w) {zs : List Int} {ps ts : List D} {x2 x4 x5 x6 x7 : Option D} (h : Dr [.lst ps] S) (hl : ps.length ≤ 4) : ∃ lv S', es gc (rA gc rest (n + 2)) dSt5 (v3 zs x2 x4 x5 x6 x7 (some (.tup ts)) none none) S = .ok (.nx (v3 zs x2 x4 x5 x6 x7 (some (.tup ts)) (some (.tup (lv.map .int))) none)) S' ∧ Dr [.lst ps] S' ∧ Asc ps.length (-1) lv := by
  obtain ⟨lv, S7, e7, d7, h7, l7⟩ := pick_ok P (n := n) (zs := zs) (ps := ps) (x4 := x4) (x5 := x5) (x6 := x6) (x7 := x7) hl 2 (by omega) (by omega) (some (.tup ts)) none S h
  have hs7 : (lv.map D.int).length ≤ sizeLine := Nat.le_trans (by rw [List.length_map]; exact l7) szl
  have r4 := @rng_ok ps.length S (by omega) (by omega)
  refine ⟨lv, S7, ?_, d7, h7⟩
  have e5 : (evi gc (rA gc rest (n + 2)) (.rng .none (.b1 .len (.v 3)))) (v3 zs x2 x4 x5 x6 x7 (some (.tup ts)) none none) S = .ok (rngL 0 ps.length, fun _ => true) S := by
    rw [evi_rng, evo_none, R.bind_ok, ev_b1, ev_v]
    show (R.bind (lift (some (D.obj 2)) S) fun x S => b1D .len x S).bind _ = _
    rw [lift_some, R.bind_ok, len2 h, R.bind_ok, r4]
  refine pick_set e5 e7 hs7 ?_ ?_
  · rfl
  · rfl
theorem s6_ok (P : Pl gc rest c q w) {zs lv : List Int} {ps ts : List D} {x2 x4 x5 x6 x7 : Option D} (h : Dr [.lst ps] S) (hl : ps.length ≤ 4) : ∃ sk S', es gc (rA gc rest (n + 2)) dSt6 (v3 zs x2 x4 x5 x6 x7 (some (.tup ts)) (some (.tup (lv.map .int))) none) S = .ok (.nx (v3 zs x2 x4 x5 x6 x7 (some (.tup ts)) (some (.tup (lv.map .int))) (some (.tup (sk.map .int))))) S' ∧ Dr [.lst ps] S' ∧ Asc ps.length (-1) sk := by
  obtain ⟨sk, S8, e8, d8, h8, l8⟩ := pick_ok P (n := n) (zs := zs) (ps := ps) (x4 := x4) (x5 := x5) (x6 := x6) (x7 := x7) hl 4 (by omega) (by omega) (some (.tup ts)) (some (.tup (lv.map .int))) S h
  have hs8 : (sk.map D.int).length ≤ sizeLine := Nat.le_trans (by rw [List.length_map]; exact l8) szl
  have r4 := @rng_ok ps.length S (by omega) (by omega)
  refine ⟨sk, S8, ?_, d8, h8⟩
  have e5 : (evi gc (rA gc rest (n + 2)) (.rng .none (.b1 .len (.v 3)))) (v3 zs x2 x4 x5 x6 x7 (some (.tup ts)) (some (.tup (lv.map .int))) none) S = .ok (rngL 0 ps.length, fun _ => true) S := by
    rw [evi_rng, evo_none, R.bind_ok, ev_b1, ev_v]
    show (R.bind (lift (some (D.obj 2)) S) fun x S => b1D .len x S).bind _ = _
    rw [lift_some, R.bind_ok, len2 h, R.bind_ok, r4]
  refine pick_set e5 e8 hs8 ?_ ?_
  · rfl
  · rfl
theorem s2_ok (P : Pl gc rest c q w) {zs : List Int} (h : Dr [] S) : ∃ S', es gc (rA gc rest (n + 2)) (.set 3 (.lst true .nil)) (v1 zs) S = .ok (.nx (v3 zs none none none none none none none none)) S' ∧ Dr [.lst []] S' := by
  obtain ⟨xs, c, s, rfl⟩ := h
  refine ⟨St xs c s [.lst []], ?_, xs, c, s, rfl⟩
  have nl : newL true [] (St xs c s []) = .ok (.obj 2) (St xs c s [.lst []]) := (newL_t (by simp)).trans rfl
  unfold v1 v3
  simp [nl]
def dBody (c q : Nat) : Sms := .cons dSt1 (.cons (.set 3 (.lst true .nil)) (.cons (dSt3 c q) (.cons (dSt4 c q) (.cons dSt5 (.cons dSt6 (.cons dSt7 .nil))))))
theorem data_eq : d_law_data c q = ⟨1, 11, dBody c q⟩ := rfl
theorem data_at (P : Pl gc rest c q w) : rA gc rest (n + 3) w = runB gc (rA gc rest (n + 2)) ⟨1, 11, (dBody c q)⟩ := by
  rw [← data_eq]
  exact run_at P.hw
theorem data_st : startV 11 [D.obj 1] = v0 := rfl
theorem data_ok (P : Pl gc rest c q w) (h : Dr [] S) : ∃ p S', PD.ok p ∧ rA gc rest (n + 3) w [.obj 1] S = .ok (.dv keysP p.vals) S' ∧ Dr [.lst p.ps] S' := by
  obtain ⟨zs, S1, e1, d1, hz⟩ := s1_ok P (n := n) h
  obtain ⟨S2, e2, d2⟩ := s2_ok P (n := n) (zs := zs) d1
  obtain ⟨ps, x2, x4, x5, x6, x7, S3, e3, d3, hp, l1, l2⟩ := s3_ok P (n := n) hz d2
  obtain ⟨ts, S4, e4, d4, h4⟩ := s4_ok P (n := n) hz (x2 := x2) (x4 := x4) (x5 := x5) (x6 := x6) (x7 := x7) d3
  obtain ⟨lv, S5, e5, d5, h5⟩ := s5_ok P (n := n) (zs := zs) (ts := ts) (x2 := x2) (x4 := x4) (x5 := x5) (x6 := x6) (x7 := x7) d4 l2
  obtain ⟨sk, S6, e6, d6, h6⟩ := s6_ok P (n := n) (zs := zs) (ts := ts) (lv := lv) (x2 := x2) (x4 := x4) (x5 := x5) (x6 := x6) (x7 := x7) d5 l2
  have e7 := st7_ok P (n := n) (zs := zs) (lv := lv) (sk := sk) (ps := ps) (ts := ts) (x2 := x2) (x4 := x4) (x5 := x5) (x6 := x6) (x7 := x7) (tup2 d6)
  refine ⟨⟨zs, ps, ts, lv, sk⟩, S6, ⟨hz, ⟨l1, l2, hp⟩, h4, h5, h6⟩, ?_, d6⟩
  rw [data_at P]
  refine run_rt rfl ?_
  show ess gc (rA gc rest (n + 2)) (dBody c q) (startV 11 [D.obj 1]) S = _
  rw [data_st]
  exact ess7 e1 e2 e3 e4 e5 e6 e7
end
end TK
end
section
set_option autoImplicit false
set_option linter.all false
set_option maxRecDepth 100000
/-! ### wishes of results; loops; the store's end -/
namespace TK
open PySem
def R.sat {a : Type} (r : R a) (Q : a → Sx → Prop) : Prop := ∃ x S, r = .ok x S ∧ Q x S
@[simp] theorem sat_ok {a : Type} {x : a} {S : Sx} {Q : a → Sx → Prop} : (R.ok x S).sat Q ↔ Q x S := by
  constructor
  · rintro ⟨_, _, e, h⟩; cases e; exact h
  · exact fun h => ⟨x, S, rfl, h⟩
@[simp] theorem sat_exc {a : Type} {c : Nat} {v : D} {S : Sx} {Q : a → Sx → Prop} : (R.exc c v S : R a).sat Q ↔ False := by
  constructor
  · rintro ⟨_, _, e, h⟩; cases e
  · exact False.elim
@[simp] theorem sat_bad {a : Type} {Q : a → Sx → Prop} : (R.bad : R a).sat Q ↔ False := by
  constructor
  · rintro ⟨_, _, e, h⟩; cases e
  · exact False.elim
@[simp] theorem sat_bind {a b : Type} {r : R a} {f : a → Sx → R b} {Q : b → Sx → Prop} : (r.bind f).sat Q ↔ r.sat fun x S => (f x S).sat Q := by
  cases r <;> simp
@[simp] theorem sat_nox {a : Type} {r : R a} {Q : a → Sx → Prop} : r.nox.sat Q ↔ r.sat Q := by
  cases r <;> simp
theorem R.sat.imp {a : Type} {r : R a} {P Q : a → Sx → Prop} (h : r.sat P) (i : ∀ x S, P x S → Q x S) : r.sat Q := by
  obtain ⟨x, S, e, p⟩ := h
  exact ⟨x, S, e, i x S p⟩
theorem sat_of_eq {a : Type} {r : R a} {x : a} {S : Sx} {Q : a → Sx → Prop} (e : r = .ok x S) (h : Q x S) : r.sat Q := ⟨x, S, e, h⟩
theorem eq_of_sat {a : Type} {r : R a} {x : a} {S : Sx} (h : r.sat fun y S' => y = x ∧ S' = S) : r = .ok x S := by
  obtain ⟨_, _, e, rfl, rfl⟩ := h
  exact e
theorem sat_lift {a : Type} {o : Option a} {S : Sx} {Q : a → Sx → Prop} {x : a} (e : o = some x) (h : Q x S) : (lift o S).sat Q := by
  rw [e]; exact sat_ok.mpr h
/-! sizes -/
theorem szl_lt {n : Nat} (h : n < 1000000) : (n < sizeLine) = True := by
  have := szl
  simp only [eq_iff_iff, iff_true]
  omega
theorem szl_le {n : Nat} (h : n ≤ 1000000) : (n ≤ sizeLine) = True := by
  have := szl
  simp only [eq_iff_iff, iff_true]
  omega
/-! the store's end -/
@[simp] theorem get_end {α : Type} {S T : List α} {k : Nat} : (S ++ T)[S.length + k]? = T[k]? := by
  rw [List.getElem?_append_right (by omega)]
  congr 1
  omega
@[simp] theorem get_end0 {α : Type} {S T : List α} : (S ++ T)[S.length]? = T[0]? := by
  rw [List.getElem?_append_right (by omega)]
  congr 1
  omega
@[simp] theorem set_end {α : Type} {S T : List α} {k : Nat} {x : α} : (S ++ T).set (S.length + k) x = S ++ T.set k x := by
  rw [List.set_append_right _ _ (by omega)]
  congr 2
  omega
@[simp] theorem set_end0 {α : Type} {S T : List α} {x : α} : (S ++ T).set S.length x = S ++ T.set 0 x := by
  rw [List.set_append_right _ _ (by omega)]
  congr 2
  omega
/-! walks -/
theorem lcL_map {α : Type} (xs : List α) (enc : α → D) (p : α → Bool) (f : α → D) {tg : Tg} {cond : Vs → Sx → R Bool} {elt : Vs → Sx → R D} {still : Sx → Bool} {sw : Vs} {S : Sx} {acc : List D} (hst : still S = true) (hl : acc.length + xs.length ≤ 1000000)
    (h : ∀ x ∈ xs, ∃ s1, asg tg (enc x) sw = some s1 ∧ cond s1 S = .ok (p x) S ∧ (p x = true → elt s1 S = .ok (f x) S)) : lcL tg cond elt still sw (xs.map enc) acc S = .ok (acc ++ (xs.filter p).map f) S := by
  induction xs generalizing acc with
  | nil => simp [lcL, hst]
  | cons x xs ih =>
    obtain ⟨s1, e1, e2, e3⟩ := h x List.mem_cons_self
    simp only [List.length_cons] at hl
    have hz : acc.length < sizeLine := Nat.lt_of_lt_of_le (by omega) szl
    cases hp : p x with
    | true =>
      have := ih (acc := acc ++ [f x]) (by simp; omega) fun y hy => h y (List.mem_cons_of_mem _ hy)
      simp [lcL, hst, e1, e2, hp, e3 hp, hz, this]
    | false =>
      have := ih (acc := acc) (by omega) fun y hy => h y (List.mem_cons_of_mem _ hy)
      simp [lcL, hst, e1, e2, hp, this]
/-- with no tests -/
theorem lcL_mapA {α : Type} (xs : List α) (enc f : α → D) {tg : Tg} {cond : Vs → Sx → R Bool} {elt : Vs → Sx → R D} {still : Sx → Bool} {sw : Vs} {S : Sx} {acc : List D} (hst : still S = true) (hl : acc.length + xs.length ≤ 1000000) (hc : ∀ s, cond s S = .ok true S)
    (h : ∀ x ∈ xs, ∃ s1, asg tg (enc x) sw = some s1 ∧ elt s1 S = .ok (f x) S) : lcL tg cond elt still sw (xs.map enc) acc S = .ok (acc ++ xs.map f) S := by
  have := lcL_map xs enc (fun _ => true) f (tg := tg) (cond := cond) (elt := elt) (sw := sw) hst hl fun x hx => by
    obtain ⟨s1, e1, e2⟩ := h x hx
    exact ⟨s1, e1, hc s1, fun _ => e2⟩
  rw [this, List.filter_eq_self.mpr (by simp)]
/-- as they are written -/
theorem lc_map {gc : Nat → D} {G : Gm} {α : Type} (xs : List α) (enc f : α → D) {tg : Tg} {elt : E} {still : Sx → Bool} {sw : Vs} {S : Sx} (hst : still S = true) (hl : xs.length ≤ 1000000)
    (h : ∀ x ∈ xs, ∃ s1, asg tg (enc x) sw = some s1 ∧ (ev gc G elt).val s1 S = .ok (f x) S) : lcL tg (evc gc G .none) (ev gc G elt).val still sw (xs.map enc) [] S = .ok (xs.map f) S :=
  lcL_mapA xs enc f hst (by simpa using hl) (fun _ => rfl) h
theorem lc_filter {gc : Nat → D} {G : Gm} {α : Type} (xs : List α) (enc : α → D) (p : α → Bool) (f : α → D) {tg : Tg} {c elt : E} {still : Sx → Bool} {sw : Vs} {S : Sx} (hst : still S = true) (hl : xs.length ≤ 1000000)
    (h : ∀ x ∈ xs, ∃ s1, asg tg (enc x) sw = some s1 ∧ (ev gc G c).tst s1 S = .ok (p x) S ∧ (p x = true → (ev gc G elt).val s1 S = .ok (f x) S)) : lcL tg (evc gc G (.some c)) (ev gc G elt).val still sw (xs.map enc) [] S = .ok ((xs.filter p).map f) S :=
  lcL_map xs enc p f hst (by simpa using hl) h
theorem forL_sat {α : Type} {enc : α → D} {tg : Tg} {still : Sx → Bool} {b : Vs → Sx → R Fl} (I : List α → Vs → Sx → Prop) {Q : Fl → Sx → Prop} (hst : ∀ xs s S, I xs s S → still S = true)
    (hs : ∀ x xs s S, I (x :: xs) s S → ∃ s1, asg tg (enc x) s = some s1 ∧ (b s1 S).sat fun f S' => match f with
      | .nx s' => I xs s' S'
      | .ct s' => I xs s' S'
      | .bk s' => Q (.nx s') S'
      | .rt d => Q (.rt d) S')
    (hd : ∀ s S, I [] s S → Q (.nx s) S) {xs : List α} {s : Vs} {S : Sx} (h : I xs s S) : (forL tg still b (xs.map enc) s S).sat Q := by
  induction xs generalizing s S with
  | nil => simp [forL, hst _ _ _ h, hd _ _ h]
  | cons x xs ih =>
    obtain ⟨s1, e1, f, S', e2, q⟩ := hs x xs s S h
    simp only [List.map_cons, forL, hst _ _ _ h, e1, e2, R.bind_ok, if_true]
    cases f with
    | nx s' => exact ih q
    | ct s' => exact ih q
    | bk s' => exact sat_ok.mpr q
    | rt d => exact sat_ok.mpr q
theorem whlL_sat {t : Vs → Sx → R Bool} {b : Vs → Sx → R Fl} (I : Nat → Vs → Sx → Prop) {Q : Fl → Sx → Prop}
    (hs : ∀ n s S, I n s S → (t s S).sat fun k S1 => if k = true then (b s S1).sat (fun f S' => match f with
      | .nx s' => ∃ m, m < n ∧ I m s' S'
      | .ct s' => ∃ m, m < n ∧ I m s' S'
      | .bk s' => Q (.nx s') S'
      | .rt d => Q (.rt d) S') else Q (.nx s) S1) : ∀ (N n : Nat) (s : Vs) (S : Sx), n < N → I n s S → (whlL t b N s S).sat Q
  | 0, n, s, S, hn, h => by omega
  | N + 1, n, s, S, hn, h => by
    obtain ⟨k, S1, e1, q⟩ := hs n s S h
    simp only [whlL, e1, R.bind_ok]
    cases k with
    | false => simpa using q
    | true =>
      simp only [if_true] at q ⊢
      obtain ⟨f, S', e2, q⟩ := q
      simp only [e2, R.bind_ok]
      cases f with
      | nx s' => obtain ⟨m, hm, hi⟩ := q; exact whlL_sat I hs N m s' S' (by omega) hi
      | ct s' => obtain ⟨m, hm, hi⟩ := q; exact whlL_sat I hs N m s' S' (by omega) hi
      | bk s' => exact sat_ok.mpr q
      | rt d => exact sat_ok.mpr q
/-! sameness -/
theorem eq_dat {a b : D} {S : Sx} (h1 : Dat 16 a) (h2 : Dat 16 b) : cmpD .eq a b S = some (decide (a = b)) := eqD_dat (by omega) h1 h2
theorem ne_dat {a b : D} {S : Sx} (h1 : Dat 16 a) (h2 : Dat 16 b) : cmpD .ne a b S = some (!decide (a = b)) := by
  show (eqD a b S).map (!·) = _
  rw [eqD_dat (n := 16) (by omega) h1 h2]
  rfl
@[simp] theorem datI {n : Nat} {i : Int} : Dat n (.int i) := by cases n <;> trivial
@[simp] theorem datN {n : Nat} : Dat n .non := by cases n <;> trivial
@[simp] theorem datT {n : Nat} {ds : List D} : Dat (n + 1) (.tup ds) ↔ ∀ d ∈ ds, Dat n d := Iff.rfl
theorem datS {n : Nat} {x : Str} : Dat n (.str x) ↔ PyData.strOk x = true := by cases n <;> exact Iff.rfl
theorem inL_dat {a : D} {xs : List D} {S : Sx} (h1 : Dat 16 a) (h2 : ∀ d ∈ xs, Dat 16 d) : inD.inL a xs S = some (decide (a ∈ xs)) := by
  obtain ⟨x, a1, a2, a3⟩ := h1.py
  obtain ⟨ys, b1, b2, b3⟩ := dat_list (n := 16) (Dat.py 16) xs h2
  have s1 : SeqAt.shaped x = true := by
    unfold SeqAt.shaped
    simp [a2]
    omega
  have s2 : SeqAt.shaped (.list ys) = true := by
    unfold SeqAt.shaped
    simp [PyData.canLay0, b2, PyData.depth]
    omega
  simp only [inD.inL, pyOf_dat h1, a1, b1, s1, s2]
  simp only [Bool.and_self, if_true, Option.some.injEq]
  clear b2 b3 s2
  induction xs generalizing ys with
  | nil => cases b1; simp
  | cons d ds ih =>
    simp only [toPys] at b1
    split at b1
    · rename_i y ys' c1 c2
      cases b1
      have q := Dat.eqv 16 d a y x (h2 d List.mem_cons_self) h1 c1 a1
      simp only [List.any_cons, q]
      rw [ih (fun e he => h2 e (List.mem_cons_of_mem _ he)) ys' c2]
      by_cases hh : d = a
      · simp [hh]
      · have : ¬ a = d := fun e => hh e.symm
        simp [hh, this]
    · cases b1
theorem in_tup {a : D} {xs : List D} {S : Sx} (h1 : Dat 16 a) (h2 : ∀ d ∈ xs, Dat 16 d) : cmpD .in_ a (.tup xs) S = some (decide (a ∈ xs)) := inL_dat h1 h2
theorem in_lv {a : D} {xs : List D} {S : Sx} (h1 : Dat 16 a) (h2 : ∀ d ∈ xs, Dat 16 d) : cmpD .in_ a (.lv xs) S = some (decide (a ∈ xs)) := inL_dat h1 h2
theorem nin_tup {a : D} {xs : List D} {S : Sx} (h1 : Dat 16 a) (h2 : ∀ d ∈ xs, Dat 16 d) : cmpD .nin a (.tup xs) S = some (!decide (a ∈ xs)) := by
  show (inD.inL a xs S).map (!·) = _
  rw [inL_dat h1 h2]
  rfl
theorem nin_lv {a : D} {xs : List D} {S : Sx} (h1 : Dat 16 a) (h2 : ∀ d ∈ xs, Dat 16 d) : cmpD .nin a (.lv xs) S = some (!decide (a ∈ xs)) := by
  show (inD.inL a xs S).map (!·) = _
  rw [inL_dat h1 h2]
  rfl
theorem in_obj {a : D} {n : Nat} {xs : List D} {S : Sx} (h : S[n]? = some (.lst xs)) (h1 : Dat 16 a) (h2 : ∀ d ∈ xs, Dat 16 d) : cmpD .in_ a (.obj n) S = some (decide (a ∈ xs)) := by
  show inD a (.obj n) S = _
  simp only [inD, h]
  exact inL_dat h1 h2
theorem nin_obj {a : D} {n : Nat} {xs : List D} {S : Sx} (h : S[n]? = some (.lst xs)) (h1 : Dat 16 a) (h2 : ∀ d ∈ xs, Dat 16 d) : cmpD .nin a (.obj n) S = some (!decide (a ∈ xs)) := by
  show (inD a (.obj n) S).map (!·) = _
  simp only [inD, h, inL_dat h1 h2]
  rfl
/-! calls that leave a value -/
theorem wrp2_lst {S : Sx} {xs : List D} {T : Sx} {k : Nat} (h : T[k]? = some (.lst xs)) (hp : D.pures xs = true) : wrp 2 S (.ok (.obj (S.length + k)) (S ++ T)) = .ok (.lv xs) S := by
  simp [wrp, h, hp]
theorem wrp2_pure {S T : Sx} {d : D} (hp : d.pure = true) (hd : ∀ k, d ≠ .obj k) : wrp 2 S (.ok d (S ++ T)) = .ok d S := by
  cases d <;> first | (exact absurd rfl (hd _)) | simp [wrp, hp]
end TK
end
section
set_option autoImplicit false
set_option linter.all false
set_option maxRecDepth 100000
/-! ### evaluation at objects of the store's end, with sizes -/
namespace TK
open PySem
section
variable {S : Sx} {n : Nat} {xs : List D} {d : D}
@[simp] theorem newL_tt (h : xs.length ≤ 1000000) : newL true xs S = .ok (.obj S.length) (S ++ [.lst xs]) := newL_t (Nat.le_trans h szl)
@[simp] theorem newL_ff (h : xs.length ≤ 1000000) : newL false xs S = .ok (.lv xs) S := newL_f (Nat.le_trans h szl)
@[simp] theorem lstOf_o : lstOf (.obj n) S = (match S[n]? with | some (.lst xs) => some xs | _ => none) := rfl
@[simp] theorem lstOf_l : lstOf (.lv xs) S = some xs := rfl
@[simp] theorem lstOf_t : lstOf (.tup xs) S = none := rfl
@[simp] theorem seqOf_o : seqOf (.obj n) S = (match S[n]? with | some (.lst xs) => some xs | _ => none) := rfl
@[simp] theorem seqOf_l : seqOf (.lv xs) S = some xs := rfl
@[simp] theorem seqOf_t : seqOf (.tup xs) S = some xs := rfl
@[simp] theorem ix_o {i : Int} : ixD (.obj n) (.int i) S = (seqOf (.obj n) S).bind fun xs => L2.atI xs i := rfl
@[simp] theorem ix_t {i : Int} : ixD (.tup xs) (.int i) S = L2.atI xs i := rfl
@[simp] theorem ix_l {i : Int} : ixD (.lv xs) (.int i) S = L2.atI xs i := rfl
@[simp] theorem len_o : b1D .len (.obj n) S = (match seqOf (.obj n) S with | some xs => .ok (.int xs.length) S | none => .bad) := rfl
@[simp] theorem tup_o : b1D .tuple (.obj n) S = (match seqOf (.obj n) S with | some xs => .ok (.tup xs) S | none => .bad) := rfl
@[simp] theorem list_o {tr : Bool} : b1D (.list tr) (.obj n) S = (match seqOf (.obj n) S with | some xs => newL tr xs S | none => .bad) := rfl
@[simp] theorem list_t {tr : Bool} : b1D (.list tr) (.tup xs) S = newL tr xs S := rfl
@[simp] theorem list_l {tr : Bool} : b1D (.list tr) (.lv xs) S = newL tr xs S := rfl
@[simp] theorem tru_t : truD (.tup xs) S = some (!xs.isEmpty) := rfl
@[simp] theorem tru_l : truD (.lv xs) S = some (!xs.isEmpty) := rfl
@[simp] theorem tru_n : truD .non S = some false := rfl
theorem app_o (h : S[n]? = some (.lst xs)) (hl : xs.length < 1000000) : appD (.obj n) d S = .ok .non (S.set n (.lst (xs ++ [d]))) := app_obj h (Nat.lt_of_lt_of_le hl szl)
@[simp] theorem app_e {T : Sx} (hl : xs.length < 1000000) : appD (.obj S.length) d (S ++ .lst xs :: T) = .ok .non (S ++ .lst (xs ++ [d]) :: T) := by
  rw [app_o (xs := xs) (by simp) hl]; simp
@[simp] theorem app_e1 {T : Sx} {o : MO} (hl : xs.length < 1000000) : appD (.obj (S.length + 1)) d (S ++ o :: .lst xs :: T) = .ok .non (S ++ o :: .lst (xs ++ [d]) :: T) := by
  rw [app_o (xs := xs) (by simp) hl]; simp
@[simp] theorem set_e {T : Sx} {k : Nat} (hk : k < xs.length) : setD (.obj S.length) (.int (k : Int)) d (S ++ .lst xs :: T) = some (S ++ .lst (xs.set k d) :: T) := by
  rw [set_obj (xs := xs) (by simp) hk]; simp
@[simp] theorem set_e1 {T : Sx} {k : Nat} {o : MO} (hk : k < xs.length) : setD (.obj (S.length + 1)) (.int (k : Int)) d (S ++ o :: .lst xs :: T) = some (S ++ o :: .lst (xs.set k d) :: T) := by
  rw [set_obj (xs := xs) (by simp) hk]; simp
theorem szl_t {n : Nat} (h : n ≤ 1000000) : n ≤ sizeLine := Nat.le_trans h szl
@[simp] theorem if_szl {α : Type} {n : Nat} {a b : α} (h : n ≤ 1000000) : (if n ≤ sizeLine then a else b) = a := if_pos (szl_t h)
@[simp] theorem if_szlt {α : Type} {n : Nat} {a b : α} (h : n < 1000000) : (if n < sizeLine then a else b) = a := if_pos (Nat.lt_of_lt_of_le h szl)
end
@[simp] theorem ne_int {i j : Int} {S : Sx} : cmpD .ne (.int i) (.int j) S = some (!decide (i = j)) := by
  rw [ne_dat datI datI]; simp
@[simp] theorem natc {a b : Nat} : ((a : Int) = (b : Int)) ↔ a = b := by omega
/-! ### words -/
@[simp] theorem so_point : PyData.strOk "point" = true := by decide +kernel
@[simp] theorem so_next : PyData.strOk "next" = true := by decide +kernel
@[simp] theorem so_press : PyData.strOk "press" = true := by decide +kernel
@[simp] theorem so_tick : PyData.strOk "tick" = true := by decide +kernel
@[simp] theorem so_speak : PyData.strOk "speak" = true := by decide +kernel
@[simp] theorem so_live : PyData.strOk "live" = true := by decide +kernel
@[simp] theorem so_mute : PyData.strOk "mute" = true := by decide +kernel
@[simp] theorem so_reach : PyData.strOk "reach" = true := by decide +kernel
@[simp] theorem so_word : PyData.strOk "word" = true := by decide +kernel
@[simp] theorem so_look : PyData.strOk "look" = true := by decide +kernel
@[simp] theorem so_sizes : PyData.strOk "sizes" = true := by decide +kernel
@[simp] theorem so_parts : PyData.strOk "parts" = true := by decide +kernel
@[simp] theorem so_ticks : PyData.strOk "ticks" = true := by decide +kernel
@[simp] theorem so_skips : PyData.strOk "skips" = true := by decide +kernel
@[simp] theorem so_glance : PyData.strOk "glance" = true := by decide +kernel
@[simp] theorem so_watch : PyData.strOk "watch" = true := by decide +kernel
@[simp] theorem so_ask : PyData.strOk "ask" = true := by decide +kernel
@[simp] theorem so_read : PyData.strOk "read" = true := by decide +kernel
@[simp] theorem so_listen : PyData.strOk "listen" = true := by decide +kernel
@[simp] theorem so_tells : PyData.strOk "tells" = true := by decide +kernel
@[simp] theorem so_many : PyData.strOk "many" = true := by decide +kernel
@[simp] theorem so_never : PyData.strOk "never" = true := by decide +kernel
@[simp] theorem so_run : PyData.strOk "run" = true := by decide +kernel
@[simp] theorem so_does_not : PyData.strOk "does not" = true := by decide +kernel
@[simp] theorem so_made : PyData.strOk "made" = true := by decide +kernel
@[simp] theorem so_refused : PyData.strOk "refused" = true := by decide +kernel
@[simp] theorem so_strange : PyData.strOk "strange" = true := by decide +kernel
@[simp] theorem so_answered : PyData.strOk "answered" = true := by decide +kernel
@[simp] theorem so_not_allowed : PyData.strOk "not allowed" = true := by decide +kernel
@[simp] theorem so_stale : PyData.strOk "stale" = true := by decide +kernel
@[simp] theorem so_unsaid : PyData.strOk "unsaid" = true := by decide +kernel
@[simp] theorem so_part : PyData.strOk "part" = true := by decide +kernel
@[simp] theorem so_bad : PyData.strOk "bad" = true := by decide +kernel
@[simp] theorem so_program : PyData.strOk "program" = true := by decide +kernel
@[simp] theorem so_empty : PyData.strOk "" = true := by decide +kernel
@[simp] theorem ofString_inj {a b : String} : (Str.ofString a = Str.ofString b) ↔ a = b := by
  constructor
  · intro h
    rw [Str.ofString_eq_toList, Str.ofString_eq_toList] at h
    have h2 : a.toList.map Char.toNat = b.toList.map Char.toNat := by simpa using h
    have hj : ∀ (l m : List Char), l.map Char.toNat = m.map Char.toNat → l = m := by
      intro l
      induction l with
      | nil => intro m h; cases m <;> simp_all
      | cons x l ih =>
        intro m h
        cases m with
        | nil => simp at h
        | cons y m =>
          simp only [List.map_cons, List.cons.injEq] at h
          rw [ih m h.2, Char.toNat_inj.mp h.1]
    exact String.toList_inj.mp (hj _ _ h2)
  · rintro rfl; rfl
@[simp] theorem dat_str {n : Nat} {x : Str} : Dat n (.str x) ↔ PyData.strOk x = true := datS
@[simp] theorem eq_str {x y : Str} {S : Sx} (hx : PyData.strOk x = true) (hy : PyData.strOk y = true) : cmpD .eq (.str x) (.str y) S = some (decide (x = y)) := by
  rw [eq_dat (datS.mpr hx) (datS.mpr hy)]; simp
@[simp] theorem ne_str {x y : Str} {S : Sx} (hx : PyData.strOk x = true) (hy : PyData.strOk y = true) : cmpD .ne (.str x) (.str y) S = some (!decide (x = y)) := by
  rw [ne_dat (datS.mpr hx) (datS.mpr hy)]; simp
/-! walks with plain data -/
theorem lc_mapG {gc : Nat → D} {G : Gm} {α β : Type} (xs : List α) (enc : α → D) (g : α → β) (e2 : β → D) {tg : Tg} {elt : E} {still : Sx → Bool} {sw : Vs} {S : Sx} (hst : still S = true) (hl : xs.length ≤ 1000000)
    (h : ∀ x ∈ xs, ∃ s1, asg tg (enc x) sw = some s1 ∧ (ev gc G elt).val s1 S = .ok (e2 (g x)) S) : lcL tg (evc gc G .none) (ev gc G elt).val still sw (xs.map enc) [] S = .ok ((xs.map g).map e2) S := by
  rw [lc_map xs enc (fun x => e2 (g x)) hst hl h, List.map_map]
  rfl
theorem lc_filterG {gc : Nat → D} {G : Gm} {α β : Type} (xs : List α) (enc : α → D) (p : α → Bool) (g : α → β) (e2 : β → D) {tg : Tg} {c elt : E} {still : Sx → Bool} {sw : Vs} {S : Sx} (hst : still S = true) (hl : xs.length ≤ 1000000)
    (h : ∀ x ∈ xs, ∃ s1, asg tg (enc x) sw = some s1 ∧ (ev gc G c).tst s1 S = .ok (p x) S ∧ (p x = true → (ev gc G elt).val s1 S = .ok (e2 (g x)) S)) : lcL tg (evc gc G (.some c)) (ev gc G elt).val still sw (xs.map enc) [] S = .ok (((xs.filter p).map g).map e2) S := by
  rw [lc_filter xs enc p (fun x => e2 (g x)) hst hl h, List.map_map]
  rfl
/-! defs -/
theorem runB_sat {gc : Nat → D} {G : Gm} {f : Fn} {xs : List D} {S : Sx} {Q : D → Sx → Prop} (h0 : xs.length = f.np) (h : (ess gc G f.body (startV f.nv xs) S).sat fun fl S' => match fl with
    | .nx _ => Q .non S'
    | .rt d => Q d S'
    | _ => False) : (runB gc G f xs S).sat Q := by
  obtain ⟨fl, S', e, q⟩ := h
  unfold runB
  rw [if_pos h0, e]
  cases fl with
  | nx s => exact sat_ok.mpr q
  | rt d => exact sat_ok.mpr q
  | bk s => exact q.elim
  | ct s => exact q.elim
theorem sat_cons {gc : Nat → D} {G : Gm} {a : Sm} {r : Sms} {s : Vs} {S : Sx} {Q : Fl → Sx → Prop} (h : (es gc G a s S).sat fun f S' => match f with
    | .nx s' => (ess gc G r s' S').sat Q
    | f => Q f S') : (ess gc G (.cons a r) s S).sat Q := by
  obtain ⟨f, S', e, q⟩ := h
  rw [ess_cons, e]
  cases f with
  | nx s' => exact q
  | rt d => exact sat_ok.mpr q
  | bk s => exact sat_ok.mpr q
  | ct s => exact sat_ok.mpr q
theorem sat_for {gc : Nat → D} {G : Gm} {tg : Tg} {it : It} {b : Sms} {s : Vs} {S S1 : Sx} {xs : List D} {st : Sx → Bool} {Q : Fl → Sx → Prop} (h1 : (evi gc G it) s S = .ok (xs, st) S1) (h2 : (forL tg st (ess gc G b) xs s S1).sat Q) : (es gc G (.for_ tg it b) s S).sat Q := by
  rw [es_for, h1]
  exact h2
theorem at_sat {gc : Nat → D} {fs : List Fn} {n k : Nat} {f : Fn} {xs : List D} {S : Sx} {Q : D → Sx → Prop} (h : fs[k]? = some f) (h0 : xs.length = f.np) (hq : (ess gc (runF gc fs n) f.body (startV f.nv xs) S).sat fun fl S' => match fl with
    | .nx _ => Q .non S'
    | .rt d => Q d S'
    | _ => False) : (runF gc fs (n + 1) k xs S).sat Q := by
  show R.sat (match fs[k]? with | some f => runB gc (runF gc fs n) f xs S | none => .bad) Q
  rw [h]
  exact runB_sat h0 hq
/-! calls that leave a value -/
theorem wrp2_sat {S : Sx} {r : R D} {d : D} (h : r.sat fun x S' => x = d ∧ ∃ T, S' = S ++ T) (hp : d.pure = true) (hd : ∀ k, d ≠ .obj k) : wrp 2 S r = .ok d S := by
  obtain ⟨_, _, rfl, rfl, T, rfl⟩ := h
  exact wrp2_pure hp hd
theorem wrp2_obj {S : Sx} {r : R D} {xs : List D} (h : r.sat fun x S' => ∃ k T, x = .obj (S.length + k) ∧ S' = S ++ T ∧ T[k]? = some (.lst xs)) (hp : D.pures xs = true) : wrp 2 S r = .ok (.lv xs) S := by
  obtain ⟨_, _, rfl, k, T, rfl, rfl, hk⟩ := h
  exact wrp2_lst hk hp
theorem wrp2_obj0 {S : Sx} {r : R D} {xs : List D} (h : r.sat fun x S' => x = .obj S.length ∧ ∃ T, S' = S ++ .lst xs :: T) (hp : D.pures xs = true) : wrp 2 S r = .ok (.lv xs) S := by
  obtain ⟨_, _, rfl, rfl, T, rfl⟩ := h
  exact wrp2_lst (k := 0) rfl hp
end TK
end
section
set_option autoImplicit false
set_option linter.all false
set_option maxRecDepth 100000
/-! ### programs, states and acts as plain data -/
namespace TK
open PySem
@[reducible] def nD (n : Nat) : D := .int (n : Int)
abbrev Chg := List (Nat × Nat)
abbrev Tab := Nat × List Nat
structure Part where
  look : Tab
  word : Tab
  press : Option Chg
  deriving DecidableEq
structure TP where
  zs : List Nat
  ps : List Part
  ts : List Chg
  lv : List Nat
  sk : List Nat
  deriving DecidableEq
def tabD (t : Tab) : D := .tup [nD t.1, .tup (t.2.map nD)]
def pairD (c : Nat × Nat) : D := .tup [nD c.1, nD c.2]
def chgD (c : Chg) : D := .tup (c.map pairD)
def prsD : Option Chg → D
  | none => .non
  | some c => chgD c
def partD (p : Part) : D := .tup [tabD p.look, tabD p.word, prsD p.press]
def TP.pd (t : TP) : PD := ⟨t.zs.map Int.ofNat, t.ps.map partD, t.ts.map chgD, t.lv.map Int.ofNat, t.sk.map Int.ofNat⟩
def TP.d (t : TP) : D := .iv 0 fldN t.pd.vals
def okTab (zs : List Nat) (t : Tab) : Prop := zs[t.1]? = some t.2.length ∧ ∀ x ∈ t.2, x ≤ 7
def okChg (zs : List Nat) (c : Chg) : Prop := 1 ≤ c.length ∧ c.length ≤ 3 ∧ ∀ p ∈ c, p.1 < zs.length ∧ 1 ≤ p.2 ∧ p.2 ≤ 3
def okPart (zs : List Nat) (p : Part) : Prop := okTab zs p.look ∧ okTab zs p.word ∧ ∀ c, p.press = some c → okChg zs c
structure TP.ok (t : TP) : Prop where
  zs : 1 ≤ t.zs.length ∧ t.zs.length ≤ 3 ∧ ∀ z ∈ t.zs, 2 ≤ z ∧ z ≤ 4
  ps : 1 ≤ t.ps.length ∧ t.ps.length ≤ 4 ∧ ∀ p ∈ t.ps, okPart t.zs p
  ts : t.ts.length ≤ 2 ∧ ∀ c ∈ t.ts, okChg t.zs c
  lv : t.lv.Pairwise (· < ·) ∧ ∀ k ∈ t.lv, k < t.ps.length
  sk : t.sk.Pairwise (· < ·) ∧ ∀ k ∈ t.sk, k < t.ps.length
theorem list_of {α : Type} {f : α → D} {P : α → Prop} : ∀ {l : List D}, (∀ d ∈ l, ∃ a, d = f a ∧ P a) → ∃ q : List α, l = q.map f ∧ ∀ a ∈ q, P a
  | [], _ => ⟨[], rfl, by simp⟩
  | d :: l, h => by
    obtain ⟨q, rfl, hq⟩ := list_of fun z hz => h z (List.mem_cons_of_mem _ hz)
    obtain ⟨a, rfl, ha⟩ := h d List.mem_cons_self
    exact ⟨a :: q, rfl, fun z hz => by
      rcases List.mem_cons.mp hz with rfl | hz
      · exact ha
      · exact hq z hz⟩
theorem nats_of {l : List Int} (h : ∀ x ∈ l, 0 ≤ x) : ∃ q : List Nat, l = q.map Int.ofNat := by
  induction l with
  | nil => exact ⟨[], rfl⟩
  | cons x l ih =>
    obtain ⟨q, rfl⟩ := ih fun y hy => h y (List.mem_cons_of_mem _ hy)
    obtain ⟨n, rfl⟩ := Int.eq_ofNat_of_zero_le (h x List.mem_cons_self)
    exact ⟨n :: q, rfl⟩
theorem map_nD (q : List Nat) : (q.map Int.ofNat).map D.int = q.map nD := by simp [nD, Function.comp_def]
theorem tab_of {zs : List Nat} {d : D} (h : isTab (zs.map Int.ofNat) d) : ∃ t : Tab, d = tabD t ∧ okTab zs t := by
  obtain ⟨v, l, rfl, h1, h2⟩ := h
  obtain ⟨q, rfl⟩ := nats_of fun x hx => (h2 x hx).1
  refine ⟨(v, q), by simp [tabD, map_nD], ?_, fun x hx => ?_⟩
  · rw [List.getElem?_map] at h1
    cases e : zs[v]? with
    | none => simp [e] at h1
    | some z =>
      simp [e] at h1
      simp only [Option.some.injEq]
      omega
  · have := (h2 (x : Int) (List.mem_map.mpr ⟨x, hx, rfl⟩)).2
    omega
theorem chg_of {zs : List Nat} {d : D} (h : isChg (zs.map Int.ofNat) d) : ∃ c : Chg, d = chgD c ∧ okChg zs c := by
  obtain ⟨l, rfl, h1, h2, h3⟩ := h
  refine ⟨l.map fun p => (p.1, p.2.toNat), ?_, by simpa using h1, by simpa using h2, fun p hp => ?_⟩
  · unfold chgD
    congr 1
    rw [List.map_map]
    apply List.map_congr_left
    intro p hp
    have := h3 p hp
    have e : ((p.2.toNat : Nat) : Int) = p.2 := by omega
    simp [pairD, nD, e]
  · obtain ⟨p', hp', rfl⟩ := List.mem_map.mp hp
    have := h3 p' hp'
    simp at this ⊢
    omega
theorem part_of {zs : List Nat} {d : D} (h : isPart (zs.map Int.ofNat) d) : ∃ p : Part, d = partD p ∧ okPart zs p := by
  obtain ⟨a, b, p, rfl, h1, h2, h3⟩ := h
  obtain ⟨ta, rfl, oa⟩ := tab_of h1
  obtain ⟨tb, rfl, ob⟩ := tab_of h2
  rcases h3 with rfl | h3
  · exact ⟨⟨ta, tb, none⟩, rfl, oa, ob, fun c e => by cases e⟩
  · obtain ⟨c, rfl, oc⟩ := chg_of h3
    exact ⟨⟨ta, tb, some c⟩, rfl, oa, ob, fun c' e => by cases e; exact oc⟩
theorem asc_of {n : Nat} : ∀ {l : List Int} {a : Int}, -1 ≤ a → Asc n a l → ∃ q : List Nat, l = q.map Int.ofNat ∧ q.Pairwise (· < ·) ∧ ∀ k ∈ q, a < (k : Int) ∧ k < n
  | [], a, _, _ => ⟨[], rfl, .nil, by simp⟩
  | x :: l, a, ha, h => by
    obtain ⟨h1, h2, h3⟩ := h
    obtain ⟨q, rfl, q1, q2⟩ := asc_of (a := x) (by omega) h3
    obtain ⟨k, rfl⟩ := Int.eq_ofNat_of_zero_le (show 0 ≤ x by omega)
    refine ⟨k :: q, rfl, List.pairwise_cons.mpr ⟨fun y hy => ?_, q1⟩, fun y hy => ?_⟩
    · have := (q2 y hy).1
      omega
    · rcases List.mem_cons.mp hy with rfl | hy
      · omega
      · have := q2 y hy
        omega
theorem PD.ok.typed {p : PD} (h : p.ok) : ∃ t : TP, t.pd = p ∧ t.ok := by
  obtain ⟨zs, ps, ts, lv, sk⟩ := p
  obtain ⟨⟨z1, z2, z3⟩, ⟨p1, p2, p3⟩, ⟨t1, t2⟩, hl, hs⟩ := h
  obtain ⟨zs, rfl⟩ := nats_of fun x hx => by have := (z3 x hx).1; omega
  obtain ⟨ps, rfl, ops⟩ := list_of fun d hd => part_of (p3 d hd)
  obtain ⟨ts, rfl, ots⟩ := list_of fun d hd => chg_of (t2 d hd)
  obtain ⟨lv, e1, l1, l2⟩ := asc_of (by omega) hl
  obtain ⟨sk, e2, s1, s2⟩ := asc_of (by omega) hs
  simp only [List.length_map] at *
  refine ⟨⟨zs, ps, ts, lv, sk⟩, ?_, ⟨by simpa using z1, by simpa using z2, fun z hz => ?_⟩, ⟨p1, p2, ops⟩, ⟨t1, ots⟩, ⟨l1, fun k hk => (l2 k hk).2⟩, ⟨s1, fun k hk => (s2 k hk).2⟩⟩
  · simp [TP.pd, e1, e2]
  · have := z3 (z : Int) (List.mem_map.mpr ⟨z, hz, rfl⟩)
    omega
theorem TP.ok.pd {t : TP} (h : t.ok) : t.pd.ok := by
  have tabI : ∀ a : Tab, okTab t.zs a → isTab (t.zs.map Int.ofNat) (tabD a) := fun a ha => ⟨a.1, a.2.map Int.ofNat, by simp [tabD, map_nD], by rw [List.getElem?_map, ha.1]; simp, fun x hx => by
    obtain ⟨k, hk, rfl⟩ := List.mem_map.mp hx
    have := ha.2 k hk
    simp
    omega⟩
  have chgI : ∀ c : Chg, okChg t.zs c → isChg (t.zs.map Int.ofNat) (chgD c) := fun c hc => ⟨c.map fun p => (p.1, (p.2 : Int)), by simp [chgD, pairD, Function.comp_def], by simpa using hc.1, by simpa using hc.2.1, fun p hp => by
    obtain ⟨k, hk, rfl⟩ := List.mem_map.mp hp
    have := hc.2.2 k hk
    simp
    omega⟩
  have ascI : ∀ (n : Nat) (l : List Nat) (a : Int), l.Pairwise (· < ·) → (∀ k ∈ l, a < (k : Int) ∧ k < n) → Asc n a (l.map Int.ofNat) := by
    intro n l
    induction l with
    | nil => intro a _ _; trivial
    | cons x l ih =>
      intro a h1 h2
      obtain ⟨h3, h4⟩ := List.pairwise_cons.mp h1
      have := h2 x List.mem_cons_self
      exact ⟨this.1, by have := this.2; simp; omega, ih _ h4 fun k hk => ⟨by have := h3 k hk; simp; omega, (h2 k (List.mem_cons_of_mem _ hk)).2⟩⟩
  refine ⟨⟨by simpa [TP.pd] using h.zs.1, by simpa [TP.pd] using h.zs.2.1, fun z hz => ?_⟩, ⟨by simpa [TP.pd] using h.ps.1, by simpa [TP.pd] using h.ps.2.1, fun d hd => ?_⟩, ⟨by simpa [TP.pd] using h.ts.1, fun d hd => ?_⟩, ?_, ?_⟩
  · obtain ⟨k, hk, rfl⟩ := List.mem_map.mp hz
    have := h.zs.2.2 k hk
    simp
    omega
  · obtain ⟨p, hp, rfl⟩ := List.mem_map.mp hd
    obtain ⟨o1, o2, o3⟩ := h.ps.2.2 p hp
    refine ⟨_, _, _, rfl, tabI _ o1, tabI _ o2, ?_⟩
    cases e : p.press with
    | none => exact .inl rfl
    | some c => exact .inr (chgI c (o3 c e))
  · obtain ⟨c, hc, rfl⟩ := List.mem_map.mp hd
    exact chgI c (h.ts.2 c hc)
  · have := ascI t.ps.length t.lv (-1) h.lv.1 fun k hk => ⟨by omega, h.lv.2 k hk⟩
    simpa [TP.pd] using this
  · have := ascI t.ps.length t.sk (-1) h.sk.1 fun k hk => ⟨by omega, h.sk.2 k hk⟩
    simpa [TP.pd] using this
/-! states -/
structure Wd where
  vals : List Nat
  foc : Nat
  q : List (Nat × Nat)
  deriving DecidableEq
def Wd.d (w : Wd) : D := .tup [.tup (w.vals.map nD), nD w.foc, .tup (w.q.map pairD)]
inductive Act where
  | point (k : Nat)
  | next
  | press
  | tick (k : Nat)
  | speak
  deriving DecidableEq
def Act.d : Act → D
  | .point k => .tup [.str "point", nD k]
  | .next => .tup [.str "next"]
  | .press => .tup [.str "press"]
  | .tick k => .tup [.str "tick", nD k]
  | .speak => .tup [.str "speak"]
def okVals (t : TP) (vs : List Nat) : Prop := vs.length = t.zs.length ∧ ∀ (i : Nat) (v z : Nat), vs[i]? = some v → t.zs[i]? = some z → v < z
structure Wd.ok (t : TP) (w : Wd) : Prop where
  vals : okVals t w.vals
  foc : w.foc < t.ps.length
  qn : (w.q.map (·.1)).Nodup
  qp : ∀ m ∈ w.q, m.1 < t.ps.length
/-! what the program's defs compute -/
section
variable (t : TP)
def tabAt (tb : Tab) (vs : List Nat) : Nat := tb.2.getD (vs.getD tb.1 0) 0
def wordsN (vs : List Nat) : List Nat := t.ps.map fun p => tabAt p.word vs
def looksN (vs : List Nat) : List Nat := t.ps.map fun p => tabAt p.look vs
def putN' (qu : List (Nat × Nat)) (m : Nat × Nat) : List (Nat × Nat) :=
  let f := qu.map fun o => if o.1 = m.1 then m else o
  if m ∈ f then f else f ++ [m]
def chgN (vs : List Nat) (c : Chg) : List Nat := c.foldl (fun vs p => vs.set p.1 ((vs.getD p.1 0 + p.2) % t.zs.getD p.1 0)) vs
def nextN (f : Nat) : Nat := (((List.range' 1 t.ps.length).map fun s => (f + s) % t.ps.length).find? (· ∉ t.sk)).getD f
def isPress (k : Nat) : Bool := match t.ps[k]? with
  | some p => p.press.isSome
  | none => false
def actsN (w : Wd) : List Act :=
  ((List.range t.ps.length).filter (isPress t)).map .point ++ [.next] ++ (if isPress t w.foc then [.press] else []) ++ (List.range t.ts.length).map .tick ++ (if w.q = [] then [] else [.speak])
def pressAt (k : Nat) : Chg := match t.ps[k]? with
  | some p => p.press.getD []
  | none => []
def chgOf (f : Nat) : Act → Chg
  | .point k => pressAt t k
  | .press => pressAt t f
  | .tick k => t.ts.getD k []
  | _ => []
def sayN (vs later : List Nat) (qu : List (Nat × Nat)) : List (Nat × Nat) := t.lv.foldl (fun qu k => if (wordsN t later).getD k 0 ≠ (wordsN t vs).getD k 0 then putN' qu (k, (wordsN t later).getD k 0) else qu) qu
def afterN (w : Wd) : Act → Wd × Option (Nat × Nat)
  | .speak => (⟨w.vals, w.foc, w.q.tail⟩, w.q.head?)
  | .next => (⟨w.vals, nextN t w.foc, putN' w.q (nextN t w.foc, (wordsN t w.vals).getD (nextN t w.foc) 0)⟩, none)
  | a => (⟨chgN t w.vals (chgOf t w.foc a), w.foc, sayN t w.vals (chgN t w.vals (chgOf t w.foc a)) w.q⟩, none)
def startN : Wd := ⟨t.zs.map fun _ => 0, 0, []⟩
end
def msgD : Option (Nat × Nat) → D
  | none => .tup []
  | some m => pairD m
end TK
end
section
set_option autoImplicit false
set_option linter.all false
set_option maxRecDepth 100000
/-! ### all defs of all laws, each at its place -/
namespace TK
open PySem
/-- _law_changes -/
def f_law_changes : Fn := ⟨2, 3, (.cons (.ret (.b1 .tuple (.lc false (.nm 2) (.rng .none (.bin .add (.c (.int 1)) (.call 7 0 (.cons (.v 0) (.cons (.c (.int 3)) .nil))))) .none (.tup (.cons (.call 7 0 (.cons (.v 0) (.cons (.b1 .len (.v 1)) .nil))) (.cons (.bin .add (.c (.int 1)) (.call 7 0 (.cons (.v 0) (.cons (.c (.int 3)) .nil)))) .nil))) [2]))) .nil)⟩
/-- _law_pair -/
def f_law_pair : Fn := ⟨3, 5, (.cons (.set 3 (.call 7 0 (.cons (.v 0) (.cons (.b1 .len (.v 1)) .nil)))) (.cons (.ret (.tup (.cons (.v 3) (.cons (.b1 .tuple (.lc false (.nm 4) (.rng .none (.sub (.v 1) (.v 3))) .none (.call 7 0 (.cons (.v 0) (.cons (.v 2) .nil))) [4])) .nil)))) .nil))⟩
/-- _law_data -/
def f_law_data : Fn := ⟨1, 11, (.cons (.set 1 (.b1 .tuple (.lc false (.nm 2) (.rng .none (.bin .add (.c (.int 1)) (.call 7 0 (.cons (.v 0) (.cons (.c (.int 3)) .nil))))) .none (.bin .add (.c (.int 2)) (.call 7 0 (.cons (.v 0) (.cons (.c (.int 3)) .nil)))) [2]))) (.cons (.set 3 (.lst true .nil)) (.cons (.for_ (.nm 2) (.rng .none (.bin .add (.c (.int 1)) (.call 7 0 (.cons (.v 0) (.cons (.c (.int 4)) .nil))))) (.cons (.set 4 (.sub (.lst false (.cons (.c (.int 8)) (.cons (.c (.int 2)) (.cons (.c (.int 3)) .nil)))) (.call 7 0 (.cons (.v 0) (.cons (.c (.int 3)) .nil))))) (.cons (.set 5 (.call 18 0 (.cons (.v 0) (.cons (.v 1) (.cons (.v 4) .nil))))) (.cons (.set 6 (.call 18 0 (.cons (.v 0) (.cons (.v 1) (.cons (.v 4) .nil))))) (.cons (.set 7 (.ife (.cmp .eq (.call 7 0 (.cons (.v 0) (.cons (.c (.int 4)) .nil))) (.c (.int 0))) (.c .non) (.call 17 0 (.cons (.v 0) (.cons (.v 1) .nil))))) (.cons (.ex (.app (.v 3) (.tup (.cons (.v 5) (.cons (.v 6) (.cons (.v 7) .nil)))))) .nil)))))) (.cons (.set 8 (.b1 .tuple (.lc false (.nm 2) (.rng .none (.call 7 0 (.cons (.v 0) (.cons (.c (.int 3)) .nil)))) .none (.call 17 0 (.cons (.v 0) (.cons (.v 1) .nil))) [2]))) (.cons (.set 9 (.b1 .tuple (.lc false (.nm 2) (.rng .none (.b1 .len (.v 3))) (.some (.cmp .eq (.call 7 0 (.cons (.v 0) (.cons (.c (.int 2)) .nil))) (.c (.int 0)))) (.v 2) [2]))) (.cons (.set 10 (.b1 .tuple (.lc false (.nm 2) (.rng .none (.b1 .len (.v 3))) (.some (.cmp .eq (.call 7 0 (.cons (.v 0) (.cons (.c (.int 4)) .nil))) (.c (.int 0)))) (.v 2) [2]))) (.cons (.ret (.dct false [.inr "sizes", .inr "parts", .inr "ticks", .inr "live", .inr "skips"] (.cons (.v 1) (.cons (.b1 .tuple (.v 3)) (.cons (.v 8) (.cons (.v 9) (.cons (.v 10) .nil))))))) .nil)))))))⟩
/-- _law_added -/
def f_law_added : Fn := ⟨2, 5, (.cons (.set 2 (.b1 (.list true) (.v 0))) (.cons (.for_ (.tp [(.nm 3), (.nm 4)]) (.e (.v 1)) (.cons (.seti (.v 2) (.v 3) (.bin .add (.sub (.v 2) (.v 3)) (.v 4))) .nil)) (.cons (.ret (.v 2)) .nil)))⟩
/-- _law_focus -/
def f_law_focus : Fn := ⟨2, 5, (.cons (.set 2 (.lc false (.nm 3) (.rng .none (.b1 .len (.dget (.v 0) (.c (.str "parts"))))) (.some (.cmp .nin (.v 3) (.dget (.v 0) (.c (.str "skips"))))) (.v 3) [3])) (.cons (.ite (.or (.cons (.cmp .eq (.v 1) (.c (.int 0))) (.cons (.cmp .eq (.b1 .len (.v 2)) (.c (.int 0))) .nil))) (.cons (.ret (.c (.int 0))) .nil) .nil) (.cons (.set 4 (.c (.int 0))) (.cons (.ite (.and (.cons (.cmp .eq (.sub (.v 2) (.c (.int 0))) (.c (.int 0))) (.cons (.cmp .gt (.b1 .len (.v 2)) (.c (.int 1))) .nil))) (.cons (.set 4 (.c (.int 1))) .nil) .nil) (.cons (.ret (.sub (.v 2) (.bin .mod (.b1 .int (.bin .sub (.bin .add (.v 4) (.v 1)) (.c (.int 1)))) (.b1 .len (.v 2))))) .nil)))))⟩
/-- law -/
def f_law_k07 : Fn := ⟨1, 13, (.cons (.set 1 (.lst true (.cons (.b1 (.list true) (.v 0)) (.cons (.c (.int 0)) (.cons (.c (.int 1)) .nil))))) (.cons (.set 2 (.call 19 0 (.cons (.v 1) .nil))) (.cons (.set 3 (.call 8 0 (.cons (.v 2) .nil))) (.cons (.set 4 (.call 9 0 (.cons (.v 3) .nil))) (.cons (.set 5 (.lc false (.nm 6) (.e (.dget (.v 2) (.c (.str "sizes")))) .none (.c (.int 0)) [6])) (.cons (.set 7 (.c (.int 0))) (.cons (.for_ (.nm 8) (.rng .none (.c (.int 40))) (.cons (.set 9 (.call 14 2 (.cons (.v 3) (.cons (.v 4) .nil)))) (.cons (.set 10 (.sub (.v 9) (.call 7 0 (.cons (.v 1) (.cons (.b1 .len (.v 9)) .nil))))) (.cons (.ite (.cmp .eq (.sub (.v 10) (.c (.int 0))) (.c (.str "point"))) (.cons (.set 5 (.call 20 2 (.cons (.v 5) (.cons (.sub (.sub (.dget (.v 2) (.c (.str "parts"))) (.sub (.v 10) (.c (.int 1)))) (.c (.int 2))) .nil)))) .nil) .nil) (.cons (.ite (.cmp .eq (.sub (.v 10) (.c (.int 0))) (.c (.str "press"))) (.cons (.set 5 (.call 20 2 (.cons (.v 5) (.cons (.sub (.sub (.dget (.v 2) (.c (.str "parts"))) (.sub (.v 4) (.c (.int 1)))) (.c (.int 2))) .nil)))) .nil) .nil) (.cons (.ite (.cmp .eq (.sub (.v 10) (.c (.int 0))) (.c (.str "tick"))) (.cons (.set 5 (.call 20 2 (.cons (.v 5) (.cons (.sub (.dget (.v 2) (.c (.str "ticks"))) (.sub (.v 10) (.c (.int 1)))) .nil)))) .nil) .nil) (.cons (.ite (.cmp .eq (.sub (.v 10) (.c (.int 0))) (.c (.str "next"))) (.cons (.set 7 (.bin .add (.v 7) (.c (.int 1)))) .nil) .nil) (.cons (.set 4 (.sub (.call 16 0 (.cons (.v 3) (.cons (.v 4) (.cons (.v 10) .nil)))) (.c (.int 0)))) (.cons (.set 11 (.b1 .tuple (.lc false (.nm 12) (.rng .none (.b1 .len (.v 5))) .none (.bin .mod (.b1 .int (.sub (.v 5) (.v 12))) (.sub (.dget (.v 2) (.c (.str "sizes"))) (.v 12))) [12]))) (.cons (.ite (.or (.cons (.cmp .ne (.sub (.v 4) (.c (.int 0))) (.v 11)) (.cons (.cmp .ne (.sub (.v 4) (.c (.int 1))) (.call 21 0 (.cons (.v 2) (.cons (.v 7) .nil)))) .nil))) (.cons (.ret (.c (.bl false))) .nil) .nil) .nil)))))))))) (.cons (.ret (.c (.bl true))) .nil))))))))⟩
/-- line_of -/
def f_line_of : Fn := ⟨2, 3, (.cons (.ret (.bin .add (.join (.c (.str " ")) (.bin .add (.lst false (.cons (.v 0) .nil)) (.lc false (.nm 2) (.e (.v 1)) .none (.b1 .str (.v 2)) [2]))) (.c (.str "\n")))) .nil)⟩
/-- flat -/
def f_flat : Fn := ⟨1, 3, (.cons (.ret (.lc2 false (.nm 1) (.nm 2) (.e (.v 0)) (.v 1) (.v 2) [1, 2] [2])) .nil)⟩
/-- write_program -/
def f_write_program : Fn := ⟨1, 6, (.cons (.set 1 (.lst true (.cons (.call 23 0 (.cons (.c (.str "sizes")) (.cons (.fld 0 (.v 0) "sizes") .nil))) .nil))) (.cons (.for_ (.tp [(.nm 2), (.nm 3), (.nm 4)]) (.e (.fld 0 (.v 0) "parts")) (.cons (.ex (.app (.v 1) (.c (.str "part\n")))) (.cons (.ex (.app (.v 1) (.call 23 0 (.cons (.c (.str "look")) (.cons (.bin .add (.tup (.cons (.sub (.v 2) (.c (.int 0))) .nil)) (.sub (.v 2) (.c (.int 1)))) .nil))))) (.cons (.ex (.app (.v 1) (.call 23 0 (.cons (.c (.str "word")) (.cons (.bin .add (.tup (.cons (.sub (.v 3) (.c (.int 0))) .nil)) (.sub (.v 3) (.c (.int 1)))) .nil))))) (.cons (.ite (.cmp .isn (.v 4) (.c .non)) (.cons (.ex (.app (.v 1) (.call 23 0 (.cons (.c (.str "press")) (.cons (.call 24 0 (.cons (.v 4) .nil)) .nil))))) .nil) .nil) .nil))))) (.cons (.ex (.ext (.v 1) (.lc false (.nm 5) (.e (.fld 0 (.v 0) "ticks")) .none (.call 23 0 (.cons (.c (.str "tick")) (.cons (.call 24 0 (.cons (.v 5) .nil)) .nil))) [5]))) (.cons (.ite (.fld 0 (.v 0) "live") (.cons (.ex (.app (.v 1) (.call 23 0 (.cons (.c (.str "live")) (.cons (.fld 0 (.v 0) "live") .nil))))) .nil) .nil) (.cons (.ite (.fld 0 (.v 0) "skips") (.cons (.ex (.app (.v 1) (.call 23 0 (.cons (.c (.str "skips")) (.cons (.fld 0 (.v 0) "skips") .nil))))) .nil) .nil) (.cons (.ret (.join (.c (.str "")) (.v 1))) .nil))))))⟩
/-- _law_line -/
def f_law_line : Fn := ⟨2, 4, (.cons (.set 2 (.v 0)) (.cons (.for_ (.nm 3) (.e (.v 1)) (.cons (.set 2 (.bin .add (.bin .add (.v 2) (.c (.str " "))) (.sub (.c (.str "01234567")) (.v 3)))) .nil)) (.cons (.ret (.v 2)) .nil)))⟩
/-- _law_flat -/
def f_law_flat : Fn := ⟨1, 4, (.cons (.set 1 (.lst false .nil)) (.cons (.for_ (.tp [(.nm 2), (.nm 3)]) (.e (.v 0)) (.cons (.set 1 (.bin .add (.v 1) (.lst false (.cons (.v 2) (.cons (.v 3) .nil))))) .nil)) (.cons (.ret (.v 1)) .nil)))⟩
/-- _law_lines -/
def f_law_lines : Fn := ⟨1, 6, (.cons (.set 1 (.lst true (.cons (.call 26 0 (.cons (.c (.str "sizes")) (.cons (.dget (.v 0) (.c (.str "sizes"))) .nil))) .nil))) (.cons (.for_ (.tp [(.nm 2), (.nm 3), (.nm 4)]) (.e (.dget (.v 0) (.c (.str "parts")))) (.cons (.ex (.app (.v 1) (.c (.str "part")))) (.cons (.ex (.app (.v 1) (.call 26 0 (.cons (.c (.str "look")) (.cons (.bin .add (.lst false (.cons (.sub (.v 2) (.c (.int 0))) .nil)) (.b1 (.list false) (.sub (.v 2) (.c (.int 1))))) .nil))))) (.cons (.ex (.app (.v 1) (.call 26 0 (.cons (.c (.str "word")) (.cons (.bin .add (.lst false (.cons (.sub (.v 3) (.c (.int 0))) .nil)) (.b1 (.list false) (.sub (.v 3) (.c (.int 1))))) .nil))))) (.cons (.ite (.cmp .isn (.v 4) (.c .non)) (.cons (.ex (.app (.v 1) (.call 26 0 (.cons (.c (.str "press")) (.cons (.call 27 0 (.cons (.v 4) .nil)) .nil))))) .nil) .nil) .nil))))) (.cons (.for_ (.nm 5) (.e (.dget (.v 0) (.c (.str "ticks")))) (.cons (.ex (.app (.v 1) (.call 26 0 (.cons (.c (.str "tick")) (.cons (.call 27 0 (.cons (.v 5) .nil)) .nil))))) .nil)) (.cons (.for_ (.nm 3) (.e (.tup (.cons (.c (.str "live")) (.cons (.c (.str "skips")) .nil)))) (.cons (.ite (.cmp .ne (.dget (.v 0) (.v 3)) (.tup .nil)) (.cons (.ex (.app (.v 1) (.call 26 0 (.cons (.v 3) (.cons (.dget (.v 0) (.v 3)) .nil))))) .nil) .nil) .nil)) (.cons (.ret (.v 1)) .nil)))))⟩
/-- _law_text -/
def f_law_text : Fn := ⟨1, 2, (.cons (.ret (.join (.c (.str "")) (.lc false (.nm 1) (.e (.v 0)) .none (.bin .add (.v 1) (.c (.str "\n"))) [1]))) .nil)⟩
/-- law -/
def f_law_k13 : Fn := ⟨1, 4, (.cons (.set 1 (.lst true (.cons (.b1 (.list true) (.v 0)) (.cons (.c (.int 0)) (.cons (.c (.int 1)) .nil))))) (.cons (.set 2 (.call 19 0 (.cons (.v 1) .nil))) (.cons (.set 3 (.call 25 2 (.cons (.call 8 0 (.cons (.v 2) .nil)) .nil))) (.cons (.ret (.and (.cons (.isi "str" (.v 3)) (.cons (.cmp .eq (.v 3) (.call 29 0 (.cons (.call 28 2 (.cons (.v 2) .nil)) .nil))) .nil)))) .nil))))⟩
/-- reading -/
def f_reading : Fn := ⟨2, 2, (.cons (.ret (.bin .add (.call 10 0 (.cons (.v 0) (.cons (.sub (.v 1) (.c (.int 0))) .nil))) (.tup (.cons (.sub (.v 1) (.c (.int 1))) .nil)))) .nil)⟩
/-- _law_in_order -/
def f_law_in_order : Fn := ⟨2, 7, (.cons (.set 2 (.lc false (.nm 3) (.e (.v 0)) .none (.sub (.v 3) (.c (.int 0))) [3])) (.cons (.set 4 (.lc false (.nm 3) (.e (.v 1)) .none (.sub (.v 3) (.c (.int 0))) [3])) (.cons (.set 5 (.lc false (.nm 6) (.e (.v 2)) (.some (.cmp .in_ (.v 6) (.v 4))) (.v 6) [6])) (.cons (.ret (.cmp .eq (.slc (.v 4) .none (.some (.b1 .len (.v 5)))) (.v 5))) .nil))))⟩
/-- _law_told -/
def f_law_told : Fn := ⟨3, 5, (.cons (.unp (.tp [(.nm 3), (.nm 4)]) (.call 16 0 (.cons (.v 0) (.cons (.v 1) (.cons (.v 2) .nil))))) (.cons (.ite (.cmp .eq (.sub (.v 2) (.c (.int 0))) (.c (.str "speak"))) (.cons (.ite (.or (.cons (.cmp .ne (.v 4) (.sub (.sub (.v 1) (.c (.int 2))) (.c (.int 0)))) (.cons (.cmp .ne (.v 3) (.tup (.cons (.sub (.v 1) (.c (.int 0))) (.cons (.sub (.v 1) (.c (.int 1))) (.cons (.slc (.sub (.v 1) (.c (.int 2))) (.some (.c (.int 1))) .none) .nil))))) .nil))) (.cons (.ret (.c .non)) .nil) .nil) .nil) (.cons (.ite (.or (.cons (.cmp .ne (.v 4) (.tup .nil)) (.cons (.cmp .lt (.b1 .len (.sub (.v 3) (.c (.int 2)))) (.b1 .len (.sub (.v 1) (.c (.int 2))))) (.cons (.not (.call 32 0 (.cons (.sub (.v 1) (.c (.int 2))) (.cons (.sub (.v 3) (.c (.int 2))) .nil)))) .nil)))) (.cons (.ret (.c .non)) .nil) .nil) .nil)) (.cons (.ret (.tup (.cons (.v 3) (.cons (.v 4) .nil)))) .nil)))⟩
/-- law -/
def f_law_k09 : Fn := ⟨1, 13, (.cons (.set 1 (.lst true (.cons (.b1 (.list true) (.v 0)) (.cons (.c (.int 0)) (.cons (.c (.int 1)) .nil))))) (.cons (.set 2 (.call 19 0 (.cons (.v 1) .nil))) (.cons (.set 3 (.call 8 0 (.cons (.v 2) .nil))) (.cons (.set 4 (.call 9 0 (.cons (.v 3) .nil))) (.cons (.set 5 (.dct true [] .nil)) (.cons (.set 6 (.call 31 0 (.cons (.v 3) (.cons (.v 4) .nil)))) (.cons (.for_ (.nm 7) (.rng .none (.b1 .len (.dget (.v 2) (.c (.str "parts"))))) (.cons (.dput (.v 5) (.v 7) (.sub (.v 6) (.v 7))) .nil)) (.cons (.for_ (.nm 8) (.rng .none (.call 7 0 (.cons (.v 1) (.cons (.c (.int 51)) .nil)))) (.cons (.set 9 (.call 14 2 (.cons (.v 3) (.cons (.v 4) .nil)))) (.cons (.set 10 (.call 33 0 (.cons (.v 3) (.cons (.v 4) (.cons (.sub (.v 9) (.call 7 0 (.cons (.v 1) (.cons (.b1 .len (.v 9)) .nil)))) .nil))))) (.cons (.ite (.cmp .is_ (.v 10) (.c .non)) (.cons (.ret (.c (.bl false))) .nil) .nil) (.cons (.set 4 (.sub (.v 10) (.c (.int 0)))) (.cons (.ite (.cmp .ne (.sub (.v 10) (.c (.int 1))) (.tup .nil)) (.cons (.dput (.v 5) (.sub (.sub (.v 10) (.c (.int 1))) (.c (.int 0))) (.sub (.sub (.v 10) (.c (.int 1))) (.c (.int 1)))) .nil) .nil) .nil)))))) (.cons (.for_ (.nm 11) (.e (.sub (.v 4) (.c (.int 2)))) (.cons (.set 10 (.call 33 0 (.cons (.v 3) (.cons (.v 4) (.cons (.tup (.cons (.c (.str "speak")) .nil)) .nil))))) (.cons (.ite (.or (.cons (.cmp .is_ (.v 10) (.c .non)) (.cons (.cmp .ne (.sub (.v 10) (.c (.int 1))) (.v 11)) .nil))) (.cons (.ret (.c (.bl false))) .nil) .nil) (.cons (.set 4 (.sub (.v 10) (.c (.int 0)))) (.cons (.dput (.v 5) (.sub (.v 11) (.c (.int 0))) (.sub (.v 11) (.c (.int 1)))) .nil))))) (.cons (.ite (.or (.cons (.cmp .ne (.sub (.v 4) (.c (.int 2))) (.tup .nil)) (.cons (.cmp .in_ (.tup (.cons (.c (.str "speak")) .nil)) (.call 14 2 (.cons (.v 3) (.cons (.v 4) .nil)))) .nil))) (.cons (.ret (.c (.bl false))) .nil) .nil) (.cons (.set 12 (.call 31 0 (.cons (.v 3) (.cons (.v 4) .nil)))) (.cons (.for_ (.nm 7) (.e (.dget (.v 2) (.c (.str "live")))) (.cons (.ite (.cmp .ne (.sub (.v 12) (.v 7)) (.dget (.v 5) (.v 7))) (.cons (.ret (.c (.bl false))) .nil) .nil) .nil)) (.cons (.ret (.c (.bl true))) .nil)))))))))))))⟩
/-- _law_queue -/
def f_law_queue : Fn := ⟨5, 8, (.cons (.set 5 (.dct true [] .nil)) (.cons (.for_ (.tp [(.nm 6), (.nm 7)]) (.e (.sub (.v 0) (.c (.int 2)))) (.cons (.ite (.cmp .in_ (.v 6) (.v 5)) (.cons (.ret (.c (.bl false))) .nil) .nil) (.cons (.dput (.v 5) (.v 6) (.v 7)) .nil))) (.cons (.for_ (.nm 6) (.rng .none (.bin .sub (.b1 .len (.v 2)) (.c (.int 1)))) (.cons (.ite (.and (.cons (.cmp .in_ (.v 6) (.v 1)) (.cons (.cmp .ne (.dgetd (.v 5) (.v 6) (.dgetd (.v 3) (.v 6) (.sub (.v 2) (.v 6)))) (.sub (.v 2) (.v 6))) .nil))) (.cons (.ret (.c (.bl false))) .nil) .nil) (.cons (.ite (.and (.cons (.cmp .nin (.v 6) (.v 1)) (.cons (.cmp .in_ (.v 6) (.v 5)) (.cons (.cmp .ne (.dget (.v 5) (.v 6)) (.dgetd (.v 4) (.v 6) (.neg (.c (.int 1))))) .nil)))) (.cons (.ret (.c (.bl false))) .nil) .nil) .nil))) (.cons (.ret (.c (.bl true))) .nil))))⟩
/-- law -/
def f_law_k08 : Fn := ⟨1, 14, (.cons (.set 1 (.lst true (.cons (.b1 (.list true) (.v 0)) (.cons (.c (.int 0)) (.cons (.c (.int 1)) .nil))))) (.cons (.set 2 (.call 19 0 (.cons (.v 1) .nil))) (.cons (.set 3 (.call 8 0 (.cons (.v 2) .nil))) (.cons (.set 4 (.call 9 0 (.cons (.v 3) .nil))) (.cons (.set 5 (.dct true [] .nil)) (.cons (.set 6 (.dct true [] .nil)) (.cons (.set 7 (.call 31 0 (.cons (.v 3) (.cons (.v 4) .nil)))) (.cons (.for_ (.nm 8) (.rng .none (.b1 .len (.dget (.v 2) (.c (.str "parts"))))) (.cons (.dput (.v 5) (.v 8) (.sub (.v 7) (.v 8))) .nil)) (.cons (.for_ (.nm 9) (.rng .none (.c (.int 50))) (.cons (.set 10 (.call 14 2 (.cons (.v 3) (.cons (.v 4) .nil)))) (.cons (.set 11 (.sub (.v 10) (.call 7 0 (.cons (.v 1) (.cons (.b1 .len (.v 10)) .nil))))) (.cons (.unp (.tp [(.nm 4), (.nm 12)]) (.call 16 0 (.cons (.v 3) (.cons (.v 4) (.cons (.v 11) .nil))))) (.cons (.ite (.cmp .ne (.v 12) (.tup .nil)) (.cons (.dput (.v 5) (.sub (.v 12) (.c (.int 0))) (.sub (.v 12) (.c (.int 1)))) .nil) .nil) (.cons (.set 13 (.call 31 0 (.cons (.v 3) (.cons (.v 4) .nil)))) (.cons (.ite (.cmp .eq (.sub (.v 11) (.c (.int 0))) (.c (.str "next"))) (.cons (.dput (.v 6) (.sub (.v 4) (.c (.int 1))) (.sub (.v 13) (.sub (.v 4) (.c (.int 1))))) .nil) .nil) (.cons (.ite (.not (.call 35 2 (.cons (.v 4) (.cons (.dget (.v 2) (.c (.str "live"))) (.cons (.v 13) (.cons (.v 5) (.cons (.v 6) .nil))))))) (.cons (.ret (.c (.bl false))) .nil) .nil) .nil)))))))) (.cons (.ret (.c (.bl true))) .nil))))))))))⟩
/-- _law_told -/
def f_law_told_37 : Fn := ⟨1, 2, (.cons (.try_ 0 0 (.cons (.ex (.newK 0 6 2 ["sizes", "parts", "ticks", "live", "skips"] [] (.cons (.dget (.v 0) (.c (.str "sizes"))) (.cons (.dget (.v 0) (.c (.str "parts"))) (.cons (.dget (.v 0) (.c (.str "ticks"))) (.cons (.dget (.v 0) (.c (.str "live"))) (.cons (.dget (.v 0) (.c (.str "skips"))) .nil))))))) .nil) .nil) (.cons (.ret (.tup (.cons (.c (.str "made")) .nil))) .nil))⟩
/-- law -/
def f_law_k10 : Fn := ⟨1, 5, (.cons (.set 1 (.lst true (.cons (.b1 (.list true) (.v 0)) (.cons (.c (.int 0)) (.cons (.c (.int 1)) .nil))))) (.cons (.set 2 (.call 19 0 (.cons (.v 1) .nil))) (.cons (.ite (.cmp .ne (.call 37 0 (.cons (.v 2) .nil)) (.tup (.cons (.c (.str "made")) .nil))) (.cons (.ret (.c (.bl false))) .nil) .nil) (.cons (.set 3 (.call 8 0 (.cons (.v 2) .nil))) (.cons (.ite (.cmp .ne (.tup (.cons (.fld 0 (.v 3) "sizes") (.cons (.fld 0 (.v 3) "parts") (.cons (.fld 0 (.v 3) "ticks") .nil)))) (.tup (.cons (.dget (.v 2) (.c (.str "sizes"))) (.cons (.dget (.v 2) (.c (.str "parts"))) (.cons (.dget (.v 2) (.c (.str "ticks"))) .nil))))) (.cons (.ret (.c (.bl false))) .nil) .nil) (.cons (.ite (.cmp .ne (.tup (.cons (.fld 0 (.v 3) "live") (.cons (.fld 0 (.v 3) "skips") .nil))) (.tup (.cons (.dget (.v 2) (.c (.str "live"))) (.cons (.dget (.v 2) (.c (.str "skips"))) .nil)))) (.cons (.ret (.c (.bl false))) .nil) .nil) (.cons (.set 4 (.newK 0 6 2 ["sizes", "parts"] [.tup [], .tup [], .tup []] (.cons (.dget (.v 2) (.c (.str "sizes"))) (.cons (.dget (.v 2) (.c (.str "parts"))) .nil)))) (.cons (.ret (.cmp .eq (.tup (.cons (.fld 0 (.v 4) "sizes") (.cons (.fld 0 (.v 4) "parts") (.cons (.fld 0 (.v 4) "ticks") (.cons (.fld 0 (.v 4) "live") (.cons (.fld 0 (.v 4) "skips") .nil)))))) (.tup (.cons (.dget (.v 2) (.c (.str "sizes"))) (.cons (.dget (.v 2) (.c (.str "parts"))) (.cons (.tup .nil) (.cons (.tup .nil) (.cons (.tup .nil) .nil)))))))) .nil))))))))⟩
/-- reached -/
def f_reached : Fn := ⟨2, 7, (.cons (.set 2 (.lst true (.cons (.call 9 0 (.cons (.v 0) .nil)) .nil))) (.cons (.set 3 (.sn1 (.sub (.v 2) (.c (.int 0))))) (.cons (.set 4 (.c (.int 0))) (.cons (.whl 1000000 (.cmp .lt (.v 4) (.b1 .len (.v 2))) (.cons (.for_ (.nm 5) (.e (.call 14 2 (.cons (.v 0) (.cons (.sub (.v 2) (.v 4)) .nil)))) (.cons (.set 6 (.sub (.call 16 0 (.cons (.v 0) (.cons (.sub (.v 2) (.v 4)) (.cons (.v 5) .nil)))) (.c (.int 0)))) (.cons (.ite (.cmp .nin (.v 6) (.v 3)) (.cons (.ite (.cmp .eq (.b1 .len (.v 2)) (.v 1)) (.cons (.ret (.c .non)) .nil) .nil) (.cons (.ex (.sadd (.v 3) (.v 6))) (.cons (.ex (.app (.v 2) (.v 6))) .nil))) .nil) .nil))) (.cons (.aug 4 (.c (.int 1))) .nil))) (.cons (.ret (.v 2)) .nil)))))⟩
/-- _law_word -/
def f_law_word : Fn := ⟨3, 5, (.cons (.unp (.tp [(.nm 3), (.nm 4)]) (.sub (.sub (.dget (.v 0) (.c (.str "parts"))) (.v 2)) (.c (.int 1)))) (.cons (.ret (.sub (.v 4) (.sub (.v 1) (.v 3)))) .nil))⟩
/-- _law_put -/
def f_law_put : Fn := ⟨2, 4, (.cons (.set 2 (.b1 (.list true) (.v 0))) (.cons (.for_ (.nm 3) (.rng .none (.b1 .len (.v 2))) (.cons (.ite (.cmp .eq (.sub (.sub (.v 2) (.v 3)) (.c (.int 0))) (.sub (.v 1) (.c (.int 0)))) (.cons (.seti (.v 2) (.v 3) (.v 1)) (.cons (.ret (.b1 .tuple (.v 2))) .nil)) .nil) .nil)) (.cons (.ret (.b1 .tuple (.bin .add (.v 2) (.lst false (.cons (.v 1) .nil))))) .nil)))⟩
/-- _law_added -/
def f_law_added_42 : Fn := ⟨3, 6, (.cons (.set 3 (.b1 (.list true) (.v 1))) (.cons (.for_ (.tp [(.nm 4), (.nm 5)]) (.e (.v 2)) (.cons (.seti (.v 3) (.v 4) (.bin .mod (.b1 .int (.bin .add (.sub (.v 3) (.v 4)) (.v 5))) (.sub (.dget (.v 0) (.c (.str "sizes"))) (.v 4)))) .nil)) (.cons (.ret (.b1 .tuple (.v 3))) .nil)))⟩
/-- _law_turn -/
def f_law_turn : Fn := ⟨2, 5, (.cons (.set 2 (.lc false (.nm 3) (.rng .none (.b1 .len (.dget (.v 0) (.c (.str "parts"))))) (.some (.cmp .nin (.v 3) (.dget (.v 0) (.c (.str "skips"))))) (.v 3) [3])) (.cons (.set 4 (.lc false (.nm 3) (.e (.v 2)) (.some (.cmp .gt (.v 3) (.v 1))) (.v 3) [3])) (.cons (.ret (.sub (.bin .add (.bin .add (.v 4) (.v 2)) (.lst false (.cons (.v 1) .nil))) (.c (.int 0)))) .nil)))⟩
/-- _law_after -/
def f_law_after : Fn := ⟨3, 9, (.cons (.unp (.tp [(.nm 3), (.nm 4), (.nm 5)]) (.v 1)) (.cons (.ite (.cmp .eq (.sub (.v 2) (.c (.int 0))) (.c (.str "speak"))) (.cons (.ret (.tup (.cons (.tup (.cons (.v 3) (.cons (.v 4) (.cons (.slc (.v 5) (.some (.c (.int 1))) .none) .nil)))) (.cons (.sub (.v 5) (.c (.int 0))) .nil)))) .nil) .nil) (.cons (.ite (.cmp .eq (.sub (.v 2) (.c (.int 0))) (.c (.str "next"))) (.cons (.set 4 (.call 43 0 (.cons (.v 0) (.cons (.v 4) .nil)))) (.cons (.ret (.tup (.cons (.tup (.cons (.v 3) (.cons (.v 4) (.cons (.call 41 2 (.cons (.v 5) (.cons (.tup (.cons (.v 4) (.cons (.call 40 0 (.cons (.v 0) (.cons (.v 3) (.cons (.v 4) .nil)))) .nil))) .nil))) .nil)))) (.cons (.tup .nil) .nil)))) .nil)) .nil) (.cons (.ite (.cmp .eq (.sub (.v 2) (.c (.int 0))) (.c (.str "tick"))) (.cons (.set 6 (.sub (.dget (.v 0) (.c (.str "ticks"))) (.sub (.v 2) (.c (.int 1))))) .nil) (.cons (.set 6 (.sub (.sub (.dget (.v 0) (.c (.str "parts"))) (.ife (.cmp .eq (.sub (.v 2) (.c (.int 0))) (.c (.str "point"))) (.sub (.v 2) (.c (.int 1))) (.v 4))) (.c (.int 2)))) .nil)) (.cons (.set 7 (.call 42 2 (.cons (.v 0) (.cons (.v 3) (.cons (.v 6) .nil))))) (.cons (.for_ (.nm 8) (.e (.dget (.v 0) (.c (.str "live")))) (.cons (.ite (.cmp .ne (.call 40 0 (.cons (.v 0) (.cons (.v 7) (.cons (.v 8) .nil)))) (.call 40 0 (.cons (.v 0) (.cons (.v 3) (.cons (.v 8) .nil))))) (.cons (.set 5 (.call 41 2 (.cons (.v 5) (.cons (.tup (.cons (.v 8) (.cons (.call 40 0 (.cons (.v 0) (.cons (.v 7) (.cons (.v 8) .nil)))) .nil))) .nil)))) .nil) .nil) .nil)) (.cons (.ret (.tup (.cons (.tup (.cons (.v 7) (.cons (.v 4) (.cons (.v 5) .nil)))) (.cons (.tup .nil) .nil)))) .nil)))))))⟩
/-- _law_acts -/
def f_law_acts : Fn := ⟨2, 4, (.cons (.set 2 (.lc true (.nm 3) (.rng .none (.b1 .len (.dget (.v 0) (.c (.str "parts"))))) (.some (.cmp .isn (.sub (.sub (.dget (.v 0) (.c (.str "parts"))) (.v 3)) (.c (.int 2))) (.c .non))) (.tup (.cons (.c (.str "point")) (.cons (.v 3) .nil))) [3])) (.cons (.ex (.app (.v 2) (.tup (.cons (.c (.str "next")) .nil)))) (.cons (.ite (.cmp .isn (.sub (.sub (.dget (.v 0) (.c (.str "parts"))) (.sub (.v 1) (.c (.int 1)))) (.c (.int 2))) (.c .non)) (.cons (.ex (.app (.v 2) (.tup (.cons (.c (.str "press")) .nil)))) .nil) .nil) (.cons (.for_ (.nm 3) (.rng .none (.b1 .len (.dget (.v 0) (.c (.str "ticks"))))) (.cons (.ex (.app (.v 2) (.tup (.cons (.c (.str "tick")) (.cons (.v 3) .nil))))) .nil)) (.cons (.ite (.cmp .gt (.b1 .len (.sub (.v 1) (.c (.int 2)))) (.c (.int 0))) (.cons (.ex (.app (.v 2) (.tup (.cons (.c (.str "speak")) .nil)))) .nil) .nil) (.cons (.ret (.v 2)) .nil))))))⟩
/-- _law_found -/
def f_law_found : Fn := ⟨2, 8, (.cons (.set 2 (.lst true (.cons (.tup (.cons (.b1 .tuple (.lc false (.nm 3) (.e (.dget (.v 0) (.c (.str "sizes")))) .none (.c (.int 0)) [3])) (.cons (.c (.int 0)) (.cons (.tup .nil) .nil)))) .nil))) (.cons (.set 4 (.dn1 (.sub (.v 2) (.c (.int 0))) (.c (.bl true)))) (.cons (.for_ (.nm 5) (.rng .none (.v 1)) (.cons (.ite (.or (.cons (.cmp .ge (.v 5) (.b1 .len (.v 2))) (.cons (.cmp .gt (.b1 .len (.v 2)) (.v 1)) .nil))) (.cons .brk .nil) .nil) (.cons (.for_ (.nm 6) (.e (.call 45 2 (.cons (.v 0) (.cons (.sub (.v 2) (.v 5)) .nil)))) (.cons (.set 7 (.sub (.call 44 0 (.cons (.v 0) (.cons (.sub (.v 2) (.v 5)) (.cons (.v 6) .nil)))) (.c (.int 0)))) (.cons (.ite (.cmp .nin (.v 7) (.v 4)) (.cons (.dput (.v 4) (.v 7) (.c (.bl true))) (.cons (.ex (.app (.v 2) (.v 7))) .nil)) .nil) .nil))) .nil))) (.cons (.ret (.v 2)) .nil))))⟩
/-- law -/
def f_law_k06 : Fn := ⟨1, 8, (.cons (.set 1 (.lst true (.cons (.b1 (.list true) (.v 0)) (.cons (.c (.int 0)) (.cons (.c (.int 1)) .nil))))) (.cons (.set 2 (.call 19 0 (.cons (.v 1) .nil))) (.cons (.set 3 (.call 8 0 (.cons (.v 2) .nil))) (.cons (.set 4 (.bin .add (.c (.int 1)) (.call 7 0 (.cons (.v 1) (.cons (.c (.int 60)) .nil))))) (.cons (.set 5 (.call 46 2 (.cons (.v 2) (.cons (.c (.int 60)) .nil)))) (.cons (.set 6 (.call 7 0 (.cons (.v 1) (.cons (.c (.int 3)) .nil)))) (.cons (.ite (.and (.cons (.cmp .gt (.v 6) (.c (.int 0))) (.cons (.cmp .le (.b1 .len (.v 5)) (.c (.int 60))) .nil))) (.cons (.set 4 (.mm true (.c (.int 1)) (.bin .sub (.bin .add (.b1 .len (.v 5)) (.c (.int 1))) (.v 6)))) .nil) .nil) (.cons (.set 7 (.call 39 3 (.cons (.v 3) (.cons (.v 4) .nil)))) (.cons (.ite (.cmp .gt (.b1 .len (.v 5)) (.v 4)) (.cons (.ret (.cmp .is_ (.v 7) (.c .non))) .nil) .nil) (.cons (.ite (.or (.cons (.not (.isi "list" (.v 7))) (.cons (.cmp .ne (.v 7) (.v 5)) (.cons (.cmp .ne (.call 9 0 (.cons (.v 3) .nil)) (.sub (.v 5) (.c (.int 0)))) .nil)))) (.cons (.ret (.c (.bl false))) .nil) .nil) (.cons (.ex (.app (.v 7) (.sub (.v 5) (.c (.int 0))))) (.cons (.ret (.cmp .eq (.call 39 2 (.cons (.v 3) (.cons (.v 4) .nil))) (.v 5))) .nil))))))))))))⟩
/-- with_part -/
def f_with_part : Fn := ⟨3, 3, (.cons (.ret (.bin .add (.bin .add (.slc (.v 0) .none (.some (.v 1))) (.tup (.cons (.v 2) .nil))) (.slc (.v 0) (.some (.bin .add (.v 1) (.c (.int 1)))) .none))) .nil)⟩
/-- changed_program -/
def f_changed_program : Fn := ⟨2, 11, (.cons (.set 2 (.sub (.v 1) (.c (.int 0)))) (.cons (.set 3 (.fld 0 (.v 0) "parts")) (.cons (.set 4 (.fld 0 (.v 0) "live")) (.cons (.set 5 (.fld 0 (.v 0) "skips")) (.cons (.ite (.cmp .eq (.v 2) (.c (.str "live"))) (.cons (.set 4 (.b1 .tuple (.srts (.bin .add (.v 4) (.tup (.cons (.sub (.v 1) (.c (.int 1))) .nil)))))) .nil) (.cons (.ite (.cmp .eq (.v 2) (.c (.str "mute"))) (.cons (.set 4 (.b1 .tuple (.lc false (.nm 6) (.e (.v 4)) (.some (.cmp .ne (.v 6) (.sub (.v 1) (.c (.int 1))))) (.v 6) [6]))) .nil) (.cons (.ite (.cmp .eq (.v 2) (.c (.str "reach"))) (.cons (.set 5 (.b1 .tuple (.lc false (.nm 6) (.e (.v 5)) (.some (.cmp .ne (.v 6) (.sub (.v 1) (.c (.int 1))))) (.v 6) [6]))) .nil) (.cons (.ite (.cmp .eq (.v 2) (.c (.str "word"))) (.cons (.unp (.tp [(.nm 7), (.nm 8), (.nm 9)]) (.sub (.v 3) (.sub (.v 1) (.c (.int 1))))) (.cons (.set 3 (.call 48 0 (.cons (.v 3) (.cons (.sub (.v 1) (.c (.int 1))) (.cons (.tup (.cons (.v 7) (.cons (.sub (.v 1) (.c (.int 2))) (.cons (.v 9) .nil)))) .nil))))) .nil)) (.cons (.unp (.tp [(.nm 8), (.nm 10), (.nm 9)]) (.sub (.v 3) (.sub (.v 1) (.c (.int 1))))) (.cons (.set 3 (.call 48 0 (.cons (.v 3) (.cons (.sub (.v 1) (.c (.int 1))) (.cons (.tup (.cons (.sub (.v 1) (.c (.int 2))) (.cons (.v 10) (.cons (.v 9) .nil)))) .nil))))) .nil))) .nil)) .nil)) .nil)) (.cons (.ret (.newK 0 6 2 ["sizes", "parts", "ticks", "live", "skips"] [] (.cons (.fld 0 (.v 0) "sizes") (.cons (.v 3) (.cons (.fld 0 (.v 0) "ticks") (.cons (.v 4) (.cons (.v 5) .nil))))))) .nil))))))⟩
/-- repaired -/
def f_repaired : Fn := ⟨3, 4, (.cons (.for_ (.nm 3) (.e (.v 2)) (.cons (.set 0 (.call 49 0 (.cons (.v 0) (.cons (.sub (.sub (.v 1) (.v 3)) (.c (.int 1))) .nil)))) .nil)) (.cons (.ret (.v 0)) .nil))⟩
/-- _law_table -/
def f_law_table : Fn := ⟨2, 5, (.cons (.set 2 (.call 7 0 (.cons (.v 0) (.cons (.b1 .len (.v 1)) .nil)))) (.cons (.set 3 (.sub (.lst false (.cons (.c (.int 2)) (.cons (.c (.int 2)) (.cons (.c (.int 3)) (.cons (.c (.int 8)) .nil))))) (.call 7 0 (.cons (.v 0) (.cons (.c (.int 4)) .nil))))) (.cons (.ret (.tup (.cons (.v 2) (.cons (.b1 .tuple (.lc false (.nm 4) (.rng .none (.sub (.v 1) (.v 2))) .none (.call 7 0 (.cons (.v 0) (.cons (.v 3) .nil))) [4])) .nil)))) .nil)))⟩
/-- _law_changes -/
def f_law_changes_52 : Fn := ⟨2, 4, (.cons (.set 2 (.lst true .nil)) (.cons (.for_ (.nm 3) (.rng .none (.sub (.lst false (.cons (.c (.int 1)) (.cons (.c (.int 1)) (.cons (.c (.int 1)) (.cons (.c (.int 1)) (.cons (.c (.int 2)) (.cons (.c (.int 3)) .nil))))))) (.call 7 0 (.cons (.v 0) (.cons (.c (.int 6)) .nil))))) (.cons (.ex (.app (.v 2) (.tup (.cons (.call 7 0 (.cons (.v 0) (.cons (.b1 .len (.v 1)) .nil))) (.cons (.bin .add (.c (.int 1)) (.call 7 0 (.cons (.v 0) (.cons (.c (.int 3)) .nil)))) .nil))))) .nil)) (.cons (.ret (.b1 .tuple (.v 2))) .nil)))⟩
/-- _law_part -/
def f_law_part : Fn := ⟨2, 5, (.cons (.set 2 (.call 51 0 (.cons (.v 0) (.cons (.v 1) .nil)))) (.cons (.set 3 (.call 51 0 (.cons (.v 0) (.cons (.v 1) .nil)))) (.cons (.ite (.cmp .eq (.call 7 0 (.cons (.v 0) (.cons (.c (.int 3)) .nil))) (.c (.int 0))) (.cons (.set 3 (.v 2)) .nil) .nil) (.cons (.set 4 (.c .non)) (.cons (.ite (.cmp .gt (.call 7 0 (.cons (.v 0) (.cons (.c (.int 3)) .nil))) (.c (.int 0))) (.cons (.set 4 (.call 52 0 (.cons (.v 0) (.cons (.v 1) .nil)))) .nil) .nil) (.cons (.ret (.tup (.cons (.v 2) (.cons (.v 3) (.cons (.v 4) .nil))))) .nil))))))⟩
/-- _law_data -/
def f_law_data_54 : Fn := ⟨1, 7, (.cons (.set 1 (.sub (.lst false (.cons (.tup (.cons (.c (.int 2)) .nil)) (.cons (.tup (.cons (.c (.int 2)) .nil)) (.cons (.tup (.cons (.c (.int 3)) .nil)) (.cons (.tup (.cons (.c (.int 4)) .nil)) (.cons (.tup (.cons (.c (.int 2)) (.cons (.c (.int 2)) .nil))) (.cons (.tup (.cons (.c (.int 2)) (.cons (.c (.int 3)) .nil))) (.cons (.tup (.cons (.c (.int 2)) (.cons (.c (.int 2)) (.cons (.c (.int 2)) .nil)))) .nil)))))))) (.call 7 0 (.cons (.v 0) (.cons (.c (.int 7)) .nil))))) (.cons (.set 2 (.b1 .tuple (.lc false (.nm 3) (.rng .none (.sub (.lst false (.cons (.c (.int 1)) (.cons (.c (.int 1)) (.cons (.c (.int 1)) (.cons (.c (.int 2)) (.cons (.c (.int 2)) (.cons (.c (.int 2)) (.cons (.c (.int 3)) (.cons (.c (.int 4)) .nil))))))))) (.call 7 0 (.cons (.v 0) (.cons (.c (.int 8)) .nil))))) .none (.call 53 0 (.cons (.v 0) (.cons (.v 1) .nil))) [3]))) (.cons (.set 4 (.b1 .tuple (.lc false (.nm 3) (.rng .none (.sub (.lst false (.cons (.c (.int 0)) (.cons (.c (.int 0)) (.cons (.c (.int 0)) (.cons (.c (.int 1)) (.cons (.c (.int 1)) (.cons (.c (.int 2)) .nil))))))) (.call 7 0 (.cons (.v 0) (.cons (.c (.int 6)) .nil))))) .none (.call 52 0 (.cons (.v 0) (.cons (.v 1) .nil))) [3]))) (.cons (.set 5 (.b1 .tuple (.lc false (.nm 3) (.rng .none (.b1 .len (.v 2))) (.some (.cmp .gt (.call 7 0 (.cons (.v 0) (.cons (.c (.int 3)) .nil))) (.c (.int 0)))) (.v 3) [3]))) (.cons (.set 6 (.b1 .tuple (.lc false (.nm 3) (.rng .none (.b1 .len (.v 2))) (.some (.cmp .eq (.call 7 0 (.cons (.v 0) (.cons (.c (.int 5)) .nil))) (.c (.int 0)))) (.v 3) [3]))) (.cons (.ret (.dct false [.inr "sizes", .inr "parts", .inr "ticks", .inr "live", .inr "skips"] (.cons (.v 1) (.cons (.v 2) (.cons (.v 4) (.cons (.v 5) (.cons (.v 6) .nil))))))) .nil))))))⟩
/-- _law_start -/
def f_law_start : Fn := ⟨1, 1, (.cons (.ret (.lst true (.cons (.b1 (.list true) (.v 0)) (.cons (.c (.int 0)) (.cons (.c (.int 1)) .nil))))) .nil)⟩
/-- _law_offer -/
def f_law_offer : Fn := ⟨2, 5, (.cons (.set 2 (.call 7 0 (.cons (.v 0) (.cons (.b1 .len (.dget (.v 1) (.c (.str "parts")))) .nil)))) (.cons (.set 3 (.sub (.lst false (.cons (.c (.str "live")) (.cons (.c (.str "mute")) (.cons (.c (.str "reach")) (.cons (.c (.str "word")) (.cons (.c (.str "look")) .nil)))))) (.call 7 0 (.cons (.v 0) (.cons (.c (.int 5)) .nil))))) (.cons (.set 4 (.tup (.cons (.v 3) (.cons (.v 2) .nil)))) (.cons (.ite (.cmp .in_ (.v 3) (.tup (.cons (.c (.str "word")) (.cons (.c (.str "look")) .nil)))) (.cons (.set 4 (.tup (.cons (.v 3) (.cons (.v 2) (.cons (.call 51 0 (.cons (.v 0) (.cons (.dget (.v 1) (.c (.str "sizes"))) .nil))) .nil))))) (.cons (.ite (.cmp .eq (.call 7 0 (.cons (.v 0) (.cons (.c (.int 2)) .nil))) (.c (.int 0))) (.cons (.set 4 (.tup (.cons (.v 3) (.cons (.v 2) (.cons (.sub (.sub (.dget (.v 1) (.c (.str "parts"))) (.v 2)) (.bin .sub (.c (.int 1)) (.b1 .int (.cmp .eq (.v 3) (.c (.str "word")))))) .nil))))) .nil) .nil) .nil)) .nil) (.cons (.ret (.tup (.cons (.call 7 0 (.cons (.v 0) (.cons (.c (.int 4)) .nil))) (.cons (.v 4) .nil)))) .nil)))))⟩
/-- _law_changed -/
def f_law_changed : Fn := ⟨2, 10, (.cons (.set 2 (.dcp (.v 0))) (.cons (.set 3 (.sub (.v 1) (.c (.int 0)))) (.cons (.set 4 (.sub (.v 1) (.c (.int 1)))) (.cons (.ite (.cmp .eq (.v 3) (.c (.str "live"))) (.cons (.dput (.v 2) (.c (.str "live")) (.b1 .tuple (.srt false (.bin .add (.lc false (.nm 5) (.e (.dget (.v 0) (.c (.str "live")))) (.some (.cmp .ne (.v 5) (.v 4))) (.v 5) [5]) (.lst false (.cons (.v 4) .nil)))))) .nil) (.cons (.ite (.cmp .eq (.v 3) (.c (.str "mute"))) (.cons (.dput (.v 2) (.c (.str "live")) (.b1 .tuple (.lc false (.nm 5) (.e (.dget (.v 0) (.c (.str "live")))) (.some (.cmp .ne (.v 5) (.v 4))) (.v 5) [5]))) .nil) (.cons (.ite (.cmp .eq (.v 3) (.c (.str "reach"))) (.cons (.dput (.v 2) (.c (.str "skips")) (.b1 .tuple (.lc false (.nm 5) (.e (.dget (.v 0) (.c (.str "skips")))) (.some (.cmp .ne (.v 5) (.v 4))) (.v 5) [5]))) .nil) (.cons (.set 6 (.b1 (.list true) (.dget (.v 0) (.c (.str "parts"))))) (.cons (.unp (.tp [(.nm 7), (.nm 8), (.nm 9)]) (.sub (.v 6) (.v 4))) (.cons (.seti (.v 6) (.v 4) (.ife (.cmp .eq (.v 3) (.c (.str "word"))) (.tup (.cons (.v 7) (.cons (.sub (.v 1) (.c (.int 2))) (.cons (.v 9) .nil)))) (.tup (.cons (.sub (.v 1) (.c (.int 2))) (.cons (.v 8) (.cons (.v 9) .nil)))))) (.cons (.dput (.v 2) (.c (.str "parts")) (.b1 .tuple (.v 6))) .nil))))) .nil)) .nil)) (.cons (.ret (.v 2)) .nil)))))⟩
/-- _law_behind_row -/
def f_law_behind_row : Fn := ⟨3, 4, (.cons (.for_ (.nm 3) (.e (.v 2)) (.cons (.set 0 (.call 57 2 (.cons (.v 0) (.cons (.sub (.sub (.v 1) (.v 3)) (.c (.int 1))) .nil)))) .nil)) (.cons (.ret (.v 0)) .nil))⟩
/-- _law_is -/
def f_law_is : Fn := ⟨2, 2, (.cons (.ite (.or (.cons (.cmp .ne (.fld 0 (.v 0) "sizes") (.dget (.v 1) (.c (.str "sizes")))) (.cons (.cmp .ne (.fld 0 (.v 0) "parts") (.dget (.v 1) (.c (.str "parts")))) (.cons (.cmp .ne (.fld 0 (.v 0) "ticks") (.dget (.v 1) (.c (.str "ticks")))) .nil)))) (.cons (.ret (.c (.bl false))) .nil) .nil) (.cons (.ret (.and (.cons (.cmp .eq (.fld 0 (.v 0) "live") (.dget (.v 1) (.c (.str "live")))) (.cons (.cmp .eq (.fld 0 (.v 0) "skips") (.dget (.v 1) (.c (.str "skips")))) .nil)))) .nil))⟩
/-- law -/
def f_law_k33 : Fn := ⟨1, 9, (.cons (.set 1 (.call 55 0 (.cons (.v 0) .nil))) (.cons (.set 2 (.call 54 0 (.cons (.v 1) .nil))) (.cons (.set 3 (.call 8 0 (.cons (.v 2) .nil))) (.cons (.set 4 (.lc false (.nm 5) (.rng .none (.call 7 0 (.cons (.v 1) (.cons (.c (.int 5)) .nil)))) .none (.call 56 0 (.cons (.v 1) (.cons (.v 2) .nil))) [5])) (.cons (.set 6 (.b1 .tuple (.lc false (.nm 5) (.rng .none (.b1 .len (.v 4))) (.some (.cmp .eq (.call 7 0 (.cons (.v 1) (.cons (.c (.int 2)) .nil))) (.c (.int 0)))) (.v 5) [5]))) (.cons (.set 7 (.b1 (.list false) (.v 4))) (.cons (.set 8 (.call 50 0 (.cons (.v 3) (.cons (.v 7) (.cons (.v 6) .nil))))) (.cons (.ret (.and (.cons (.call 59 0 (.cons (.v 8) (.cons (.call 58 0 (.cons (.v 2) (.cons (.v 4) (.cons (.v 6) .nil)))) .nil))) (.cons (.call 59 0 (.cons (.v 3) (.cons (.v 2) .nil))) (.cons (.cmp .eq (.v 7) (.v 4)) .nil))))) .nil))))))))⟩
/-- _law_swapped -/
def f_law_swapped : Fn := ⟨3, 3, (.cons (.ret (.bin .add (.bin .add (.slc (.v 0) .none (.some (.v 1))) (.tup (.cons (.v 2) .nil))) (.slc (.v 0) (.some (.bin .add (.v 1) (.c (.int 1)))) .none))) .nil)⟩
/-- _law_beyond -/
def f_law_beyond : Fn := ⟨3, 3, (.cons (.ret (.sub (.lst false (.cons (.bin .sub (.v 1) (.c (.int 1))) (.cons (.bin .add (.v 2) (.c (.int 1))) (.cons (.bin .add (.v 2) (.bin .pow (.c (.int 10)) (.c (.int 9)))) (.cons (.c (.bl true)) .nil))))) (.call 7 0 (.cons (.v 0) (.cons (.c (.int 4)) .nil))))) .nil)⟩
/-- _law_bad_sizes -/
def f_law_bad_sizes : Fn := ⟨2, 3, (.cons (.set 2 (.call 7 0 (.cons (.v 0) (.cons (.c (.int 3)) .nil)))) (.cons (.ite (.cmp .eq (.v 2) (.c (.int 0))) (.cons (.ret (.tup .nil)) .nil) .nil) (.cons (.ite (.cmp .eq (.v 2) (.c (.int 1))) (.cons (.ret (.slc (.bin .mul (.v 1) (.c (.int 4))) .none (.some (.c (.int 4))))) .nil) .nil) (.cons (.ret (.call 61 0 (.cons (.v 1) (.cons (.call 7 0 (.cons (.v 0) (.cons (.b1 .len (.v 1)) .nil))) (.cons (.call 62 0 (.cons (.v 0) (.cons (.c (.int 2)) (.cons (.c (.int 4)) .nil)))) .nil))))) .nil))))⟩
/-- _law_bad_changes -/
def f_law_bad_changes : Fn := ⟨3, 7, (.cons (.set 3 (.call 7 0 (.cons (.v 0) (.cons (.c (.int 4)) .nil)))) (.cons (.set 4 (.call 7 0 (.cons (.v 0) (.cons (.b1 .len (.v 2)) .nil)))) (.cons (.unp (.tp [(.nm 5), (.nm 6)]) (.sub (.v 2) (.v 4))) (.cons (.ite (.cmp .eq (.v 3) (.c (.int 0))) (.cons (.ret (.tup .nil)) .nil) .nil) (.cons (.ite (.cmp .eq (.v 3) (.c (.int 1))) (.cons (.ret (.slc (.bin .mul (.v 2) (.c (.int 4))) .none (.some (.c (.int 4))))) .nil) .nil) (.cons (.ite (.cmp .eq (.v 3) (.c (.int 2))) (.cons (.ret (.call 61 0 (.cons (.v 2) (.cons (.v 4) (.cons (.tup (.cons (.call 62 0 (.cons (.v 0) (.cons (.c (.int 0)) (.cons (.bin .sub (.b1 .len (.v 1)) (.c (.int 1))) .nil)))) (.cons (.v 6) .nil))) .nil))))) .nil) .nil) (.cons (.ret (.call 61 0 (.cons (.v 2) (.cons (.v 4) (.cons (.tup (.cons (.v 5) (.cons (.call 62 0 (.cons (.v 0) (.cons (.c (.int 1)) (.cons (.c (.int 3)) .nil)))) .nil))) .nil))))) .nil)))))))⟩
/-- _law_bad_pair -/
def f_law_bad_pair : Fn := ⟨3, 6, (.cons (.unp (.tp [(.nm 3), (.nm 4)]) (.v 2)) (.cons (.set 5 (.call 7 0 (.cons (.v 0) (.cons (.c (.int 4)) .nil)))) (.cons (.ite (.cmp .eq (.v 5) (.c (.int 0))) (.cons (.ret (.tup (.cons (.call 62 0 (.cons (.v 0) (.cons (.c (.int 0)) (.cons (.bin .sub (.b1 .len (.v 1)) (.c (.int 1))) .nil)))) (.cons (.v 4) .nil)))) .nil) .nil) (.cons (.ite (.cmp .eq (.v 5) (.c (.int 1))) (.cons (.ret (.tup (.cons (.v 3) (.cons (.slc (.v 4) (.some (.c (.int 1))) .none) .nil)))) .nil) .nil) (.cons (.ite (.cmp .eq (.v 5) (.c (.int 2))) (.cons (.ret (.tup (.cons (.v 3) (.cons (.bin .add (.v 4) (.tup (.cons (.c (.int 0)) .nil))) .nil)))) .nil) .nil) (.cons (.ret (.tup (.cons (.v 3) (.cons (.call 61 0 (.cons (.v 4) (.cons (.call 7 0 (.cons (.v 0) (.cons (.b1 .len (.v 4)) .nil))) (.cons (.call 62 0 (.cons (.v 0) (.cons (.c (.int 0)) (.cons (.c (.int 7)) .nil)))) .nil)))) .nil)))) .nil))))))⟩
/-- _law_bad_parts -/
def f_law_bad_parts : Fn := ⟨3, 8, (.cons (.set 3 (.call 7 0 (.cons (.v 0) (.cons (.c (.int 5)) .nil)))) (.cons (.set 4 (.call 7 0 (.cons (.v 0) (.cons (.b1 .len (.v 2)) .nil)))) (.cons (.unp (.tp [(.nm 5), (.nm 6), (.nm 7)]) (.sub (.v 2) (.v 4))) (.cons (.ite (.cmp .eq (.v 3) (.c (.int 0))) (.cons (.ret (.tup .nil)) .nil) .nil) (.cons (.ite (.cmp .eq (.v 3) (.c (.int 1))) (.cons (.ret (.slc (.bin .mul (.v 2) (.c (.int 5))) .none (.some (.c (.int 5))))) .nil) .nil) (.cons (.ite (.cmp .eq (.v 3) (.c (.int 2))) (.cons (.ret (.call 61 0 (.cons (.v 2) (.cons (.v 4) (.cons (.tup (.cons (.call 65 0 (.cons (.v 0) (.cons (.v 1) (.cons (.v 5) .nil)))) (.cons (.v 6) (.cons (.v 7) .nil)))) .nil))))) .nil) .nil) (.cons (.ite (.cmp .eq (.v 3) (.c (.int 3))) (.cons (.ret (.call 61 0 (.cons (.v 2) (.cons (.v 4) (.cons (.tup (.cons (.v 5) (.cons (.call 65 0 (.cons (.v 0) (.cons (.v 1) (.cons (.v 6) .nil)))) (.cons (.v 7) .nil)))) .nil))))) .nil) .nil) (.cons (.ret (.call 61 0 (.cons (.v 2) (.cons (.v 4) (.cons (.tup (.cons (.v 5) (.cons (.v 6) (.cons (.call 64 0 (.cons (.v 0) (.cons (.v 1) (.cons (.or (.cons (.v 7) (.cons (.tup (.cons (.tup (.cons (.c (.int 0)) (.cons (.c (.int 1)) .nil))) .nil)) .nil))) .nil)))) .nil)))) .nil))))) .nil))))))))⟩
/-- _law_bad_ticks -/
def f_law_bad_ticks : Fn := ⟨3, 4, (.cons (.ite (.or (.cons (.cmp .eq (.b1 .len (.v 2)) (.c (.int 0))) (.cons (.cmp .eq (.call 7 0 (.cons (.v 0) (.cons (.c (.int 3)) .nil))) (.c (.int 0))) .nil))) (.cons (.ret (.slc (.bin .mul (.bin .add (.v 2) (.tup (.cons (.tup (.cons (.tup (.cons (.c (.int 0)) (.cons (.c (.int 1)) .nil))) .nil)) .nil))) (.c (.int 3))) .none (.some (.c (.int 3))))) .nil) .nil) (.cons (.set 3 (.call 7 0 (.cons (.v 0) (.cons (.b1 .len (.v 2)) .nil)))) (.cons (.ret (.call 61 0 (.cons (.v 2) (.cons (.v 3) (.cons (.call 64 0 (.cons (.v 0) (.cons (.v 1) (.cons (.sub (.v 2) (.v 3)) .nil)))) .nil))))) .nil)))⟩
/-- _law_bad_live -/
def f_law_bad_live : Fn := ⟨3, 4, (.cons (.set 3 (.call 7 0 (.cons (.v 0) (.cons (.c (.int 3)) .nil)))) (.cons (.ite (.or (.cons (.cmp .eq (.v 3) (.c (.int 0))) (.cons (.cmp .eq (.b1 .len (.v 2)) (.c (.int 0))) .nil))) (.cons (.ret (.bin .add (.v 2) (.tup (.cons (.sub (.lst false (.cons (.v 1) (.cons (.neg (.c (.int 1))) (.cons (.bin .add (.v 1) (.bin .pow (.c (.int 10)) (.c (.int 9)))) (.cons (.c (.bl false)) .nil))))) (.call 7 0 (.cons (.v 0) (.cons (.c (.int 4)) .nil)))) .nil)))) .nil) .nil) (.cons (.ite (.cmp .eq (.v 3) (.c (.int 1))) (.cons (.ret (.bin .add (.v 2) (.tup (.cons (.sub (.v 2) (.neg (.c (.int 1)))) .nil)))) .nil) .nil) (.cons (.ret (.bin .add (.tup (.cons (.bin .sub (.v 1) (.c (.int 1))) .nil)) (.v 2))) .nil))))⟩
/-- _law_spoil -/
def f_law_spoil : Fn := ⟨3, 3, (.cons (.ite (.cmp .eq (.v 2) (.c (.str "sizes"))) (.cons (.dput (.v 1) (.c (.str "sizes")) (.call 63 0 (.cons (.v 0) (.cons (.dget (.v 1) (.c (.str "sizes"))) .nil)))) .nil) (.cons (.ite (.cmp .eq (.v 2) (.c (.str "parts"))) (.cons (.dput (.v 1) (.c (.str "parts")) (.call 66 0 (.cons (.v 0) (.cons (.dget (.v 1) (.c (.str "sizes"))) (.cons (.dget (.v 1) (.c (.str "parts"))) .nil))))) .nil) (.cons (.ite (.cmp .eq (.v 2) (.c (.str "ticks"))) (.cons (.dput (.v 1) (.c (.str "ticks")) (.call 67 0 (.cons (.v 0) (.cons (.dget (.v 1) (.c (.str "sizes"))) (.cons (.dget (.v 1) (.c (.str "ticks"))) .nil))))) .nil) (.cons (.dput (.v 1) (.v 2) (.call 68 0 (.cons (.v 0) (.cons (.b1 .len (.dget (.v 1) (.c (.str "parts")))) (.cons (.dget (.v 1) (.v 2)) .nil))))) .nil)) .nil)) .nil)) .nil)⟩
/-- law -/
def f_law_k11 : Fn := ⟨1, 6, (.cons (.set 1 (.lst true (.cons (.b1 (.list true) (.v 0)) (.cons (.c (.int 0)) (.cons (.c (.int 1)) .nil))))) (.cons (.set 2 (.call 19 0 (.cons (.v 1) .nil))) (.cons (.ite (.cmp .ne (.call 37 0 (.cons (.v 2) .nil)) (.tup (.cons (.c (.str "made")) .nil))) (.cons (.ret (.c (.bl false))) .nil) .nil) (.cons (.for_ (.nm 3) (.rng .none (.c (.int 4))) (.cons (.set 4 (.sub (.lst false (.cons (.c (.str "sizes")) (.cons (.c (.str "parts")) (.cons (.c (.str "parts")) (.cons (.c (.str "ticks")) (.cons (.c (.str "live")) (.cons (.c (.str "skips")) .nil))))))) (.call 7 0 (.cons (.v 1) (.cons (.c (.int 6)) .nil))))) (.cons (.set 5 (.dcp (.v 2))) (.cons (.ex (.call 69 0 (.cons (.v 1) (.cons (.v 5) (.cons (.v 4) .nil))))) (.cons (.ite (.cmp .ne (.call 37 0 (.cons (.v 5) .nil)) (.tup (.cons (.c (.str "refused")) (.cons (.v 4) .nil)))) (.cons (.ret (.c (.bl false))) .nil) .nil) .nil))))) (.cons (.ret (.c (.bl true))) .nil)))))⟩
/-- Lines.__init__ -/
def m_Lines_init : Fn := ⟨2, 3, (.cons (.set 2 (.splt false (.v 1) (.c (.str "\n")))) (.cons (.setf 1 (.v 0) "lines" (.slc (.v 2) .none (.some (.neg (.c (.int 1)))))) (.cons (.setf 1 (.v 0) "rest" (.sub (.v 2) (.neg (.c (.int 1))))) (.cons (.setf 1 (.v 0) "at" (.c (.int 0))) .nil))))⟩
/-- Lines.refuse -/
def m_Lines_refuse : Fn := ⟨1, 1, (.cons .never .nil)⟩
/-- Lines.sees -/
def m_Lines_sees : Fn := ⟨2, 2, (.cons (.ret (.and (.cons (.cmp .lt (.fld 1 (.v 0) "at") (.b1 .len (.fld 1 (.v 0) "lines"))) (.cons (.cmp .eq (.sub (.splt false (.sub (.fld 1 (.v 0) "lines") (.fld 1 (.v 0) "at")) (.c (.str " "))) (.c (.int 0))) (.v 1)) .nil)))) .nil)⟩
/-- Lines.numbers -/
def m_Lines_numbers : Fn := ⟨2, 4, (.cons (.ite (.not (.mt 1 73 0 (.v 0) "sees" (.cons (.v 1) .nil))) (.cons (.ex (.mt 1 72 0 (.v 0) "refuse" .nil)) .nil) .nil) (.cons (.set 2 (.lst true .nil)) (.cons (.for_ (.nm 3) (.e (.slc (.splt false (.sub (.fld 1 (.v 0) "lines") (.fld 1 (.v 0) "at")) (.c (.str " "))) (.some (.c (.int 1))) .none)) (.cons (.ite (.cmp .nin (.v 3) (.g 3)) (.cons (.ex (.mt 1 72 0 (.v 0) "refuse" .nil)) .nil) .nil) (.cons (.ex (.app (.v 2) (.b1 .int (.v 3)))) .nil))) (.cons (.ret (.v 2)) .nil))))⟩
/-- Lines.sizes -/
def m_Lines_sizes : Fn := ⟨1, 2, (.cons (.set 1 (.mt 1 74 2 (.v 0) "numbers" (.cons (.c (.str "sizes")) .nil))) (.cons (.ite (.or (.cons (.not (.chain .le .le (.c (.int 1)) (.b1 .len (.v 1)) (.c (.int 3)))) (.cons (.not (.call 1 0 (.cons (.v 1) (.cons (.c (.int 2)) (.cons (.c (.int 4)) .nil))))) .nil))) (.cons (.ex (.mt 1 72 0 (.v 0) "refuse" .nil)) .nil) .nil) (.cons (.augf 1 (.v 0) "at" (.c (.int 1))) (.cons (.ret (.b1 .tuple (.v 1))) .nil))))⟩
/-- Lines.table -/
def m_Lines_table : Fn := ⟨3, 4, (.cons (.set 3 (.mt 1 74 2 (.v 0) "numbers" (.cons (.v 1) .nil))) (.cons (.ite (.or (.cons (.not (.v 3)) (.cons (.cmp .ge (.sub (.v 3) (.c (.int 0))) (.b1 .len (.v 2))) (.cons (.cmp .ne (.b1 .len (.v 3)) (.bin .add (.c (.int 1)) (.sub (.v 2) (.sub (.v 3) (.c (.int 0)))))) .nil)))) (.cons (.ex (.mt 1 72 0 (.v 0) "refuse" .nil)) .nil) .nil) (.cons (.ite (.not (.call 1 0 (.cons (.v 3) (.cons (.c (.int 0)) (.cons (.g 0) .nil))))) (.cons (.ex (.mt 1 72 0 (.v 0) "refuse" .nil)) .nil) .nil) (.cons (.augf 1 (.v 0) "at" (.c (.int 1))) (.cons (.ret (.tup (.cons (.sub (.v 3) (.c (.int 0))) (.cons (.b1 .tuple (.slc (.v 3) (.some (.c (.int 1))) .none)) .nil)))) .nil)))))⟩
/-- Lines.changes -/
def m_Lines_changes : Fn := ⟨3, 7, (.cons (.set 3 (.mt 1 74 2 (.v 0) "numbers" (.cons (.v 1) .nil))) (.cons (.ite (.cmp .nin (.b1 .len (.v 3)) (.tup (.cons (.c (.int 2)) (.cons (.c (.int 4)) (.cons (.c (.int 6)) .nil))))) (.cons (.ex (.mt 1 72 0 (.v 0) "refuse" .nil)) .nil) .nil) (.cons (.set 4 (.lzip false (.stp2 false false (.v 3)) (.stp2 false true (.v 3)))) (.cons (.for_ (.tp [(.nm 5), (.nm 6)]) (.e (.v 4)) (.cons (.ite (.or (.cons (.cmp .ge (.v 5) (.b1 .len (.v 2))) (.cons (.not (.chain .le .le (.c (.int 1)) (.v 6) (.c (.int 3)))) .nil))) (.cons (.ex (.mt 1 72 0 (.v 0) "refuse" .nil)) .nil) .nil) .nil)) (.cons (.augf 1 (.v 0) "at" (.c (.int 1))) (.cons (.ret (.b1 .tuple (.v 4))) .nil))))))⟩
/-- Lines.part -/
def m_Lines_part : Fn := ⟨2, 5, (.cons (.ite (.mt 1 74 2 (.v 0) "numbers" (.cons (.c (.str "part")) .nil)) (.cons (.ex (.mt 1 72 0 (.v 0) "refuse" .nil)) .nil) .nil) (.cons (.augf 1 (.v 0) "at" (.c (.int 1))) (.cons (.set 2 (.mt 1 76 0 (.v 0) "table" (.cons (.c (.str "look")) (.cons (.v 1) .nil)))) (.cons (.set 3 (.mt 1 76 0 (.v 0) "table" (.cons (.c (.str "word")) (.cons (.v 1) .nil)))) (.cons (.set 4 (.c .non)) (.cons (.ite (.mt 1 73 0 (.v 0) "sees" (.cons (.c (.str "press")) .nil)) (.cons (.set 4 (.mt 1 77 0 (.v 0) "changes" (.cons (.c (.str "press")) (.cons (.v 1) .nil)))) .nil) .nil) (.cons (.ret (.tup (.cons (.v 2) (.cons (.v 3) (.cons (.v 4) .nil))))) .nil)))))))⟩
/-- Lines.indexes -/
def m_Lines_indexes : Fn := ⟨3, 4, (.cons (.ite (.not (.mt 1 73 0 (.v 0) "sees" (.cons (.v 1) .nil))) (.cons (.ret (.tup .nil)) .nil) .nil) (.cons (.set 3 (.mt 1 74 2 (.v 0) "numbers" (.cons (.v 1) .nil))) (.cons (.ite (.or (.cons (.not (.v 3)) (.cons (.not (.call 5 0 (.cons (.v 3) (.cons (.v 2) .nil)))) .nil))) (.cons (.ex (.mt 1 72 0 (.v 0) "refuse" .nil)) .nil) .nil) (.cons (.augf 1 (.v 0) "at" (.c (.int 1))) (.cons (.ret (.b1 .tuple (.v 3))) .nil)))))⟩
/-- Lines.finish -/
def m_Lines_finish : Fn := ⟨1, 1, (.cons (.ite (.or (.cons (.cmp .lt (.fld 1 (.v 0) "at") (.b1 .len (.fld 1 (.v 0) "lines"))) (.cons (.cmp .ne (.fld 1 (.v 0) "rest") (.c (.str ""))) .nil))) (.cons (.ex (.mt 1 72 0 (.v 0) "refuse" .nil)) .nil) .nil) .nil)⟩
/-- parse_program -/
def f_parse_program : Fn := ⟨1, 7, (.cons (.set 1 (.new 1 71 0 (.cons (.v 0) .nil))) (.cons (.set 2 (.mt 1 75 0 (.v 1) "sizes" .nil)) (.cons (.set 3 (.lst true (.cons (.mt 1 78 0 (.v 1) "part" (.cons (.v 2) .nil)) .nil))) (.cons (.whl 1000000 (.mt 1 73 0 (.v 1) "sees" (.cons (.c (.str "part")) .nil)) (.cons (.ite (.cmp .eq (.b1 .len (.v 3)) (.g 1)) (.cons (.ex (.mt 1 72 0 (.v 1) "refuse" .nil)) .nil) .nil) (.cons (.ex (.app (.v 3) (.mt 1 78 0 (.v 1) "part" (.cons (.v 2) .nil)))) .nil))) (.cons (.set 4 (.lst true .nil)) (.cons (.whl 1000000 (.mt 1 73 0 (.v 1) "sees" (.cons (.c (.str "tick")) .nil)) (.cons (.ite (.cmp .eq (.b1 .len (.v 4)) (.g 2)) (.cons (.ex (.mt 1 72 0 (.v 1) "refuse" .nil)) .nil) .nil) (.cons (.ex (.app (.v 4) (.mt 1 77 0 (.v 1) "changes" (.cons (.c (.str "tick")) (.cons (.v 2) .nil))))) .nil))) (.cons (.set 5 (.mt 1 79 0 (.v 1) "indexes" (.cons (.c (.str "live")) (.cons (.b1 .len (.v 3)) .nil)))) (.cons (.set 6 (.mt 1 79 0 (.v 1) "indexes" (.cons (.c (.str "skips")) (.cons (.b1 .len (.v 3)) .nil)))) (.cons (.ex (.mt 1 80 0 (.v 1) "finish" .nil)) (.cons (.ret (.newK 0 6 2 ["sizes", "parts", "ticks", "live", "skips"] [] (.cons (.v 2) (.cons (.b1 .tuple (.v 3)) (.cons (.b1 .tuple (.v 4)) (.cons (.v 5) (.cons (.v 6) .nil))))))) .nil))))))))))⟩
/-- _law_all -/
def f_law_all : Fn := ⟨1, 1, (.cons (.ret (.tup (.cons (.fld 0 (.v 0) "sizes") (.cons (.fld 0 (.v 0) "parts") (.cons (.fld 0 (.v 0) "ticks") (.cons (.fld 0 (.v 0) "live") (.cons (.fld 0 (.v 0) "skips") .nil))))))) .nil)⟩
/-- _law_other (not yet) -/
def f_law_other : Fn := ⟨2, 7, .nil⟩
/-- law (not yet) -/
def f_law_k14 : Fn := ⟨1, 7, .nil⟩
/-- looks -/
def f_looks : Fn := ⟨2, 5, (.cons (.ret (.b1 .tuple (.lc false (.tp [(.tp [(.nm 2), (.nm 3)]), (.nm 4), (.nm 4)]) (.e (.fld 0 (.v 0) "parts")) .none (.sub (.v 3) (.sub (.v 1) (.v 2))) [2, 3, 4]))) .nil)⟩
/-- sight -/
def f_sight : Fn := ⟨2, 2, (.cons (.ret (.bin .add (.call 85 0 (.cons (.v 0) (.cons (.sub (.v 1) (.c (.int 0))) .nil))) (.tup (.cons (.sub (.v 1) (.c (.int 1))) .nil)))) .nil)⟩
/-- law -/
def f_law_k17 : Fn := ⟨1, 9, (.cons (.set 1 (.lst true (.cons (.b1 (.list true) (.v 0)) (.cons (.c (.int 0)) (.cons (.c (.int 1)) .nil))))) (.cons (.set 2 (.call 8 0 (.cons (.call 19 0 (.cons (.v 1) .nil)) .nil))) (.cons (.set 3 (.call 81 2 (.cons (.call 25 2 (.cons (.v 2) .nil)) .nil))) (.cons (.set 4 (.call 9 0 (.cons (.v 2) .nil))) (.cons (.ite (.cmp .ne (.call 9 0 (.cons (.v 3) .nil)) (.v 4)) (.cons (.ret (.c (.bl false))) .nil) .nil) (.cons (.for_ (.nm 5) (.rng .none (.c (.int 40))) (.cons (.set 6 (.call 14 2 (.cons (.v 2) (.cons (.v 4) .nil)))) (.cons (.ite (.or (.cons (.cmp .ne (.call 14 2 (.cons (.v 3) (.cons (.v 4) .nil))) (.v 6)) (.cons (.cmp .ne (.call 86 0 (.cons (.v 3) (.cons (.v 4) .nil))) (.call 86 0 (.cons (.v 2) (.cons (.v 4) .nil)))) .nil))) (.cons (.ret (.c (.bl false))) .nil) .nil) (.cons (.ite (.cmp .ne (.call 31 0 (.cons (.v 3) (.cons (.v 4) .nil))) (.call 31 0 (.cons (.v 2) (.cons (.v 4) .nil)))) (.cons (.ret (.c (.bl false))) .nil) .nil) (.cons (.set 7 (.sub (.v 6) (.call 7 0 (.cons (.v 1) (.cons (.b1 .len (.v 6)) .nil))))) (.cons (.set 8 (.call 16 0 (.cons (.v 2) (.cons (.v 4) (.cons (.v 7) .nil))))) (.cons (.ite (.cmp .ne (.call 16 0 (.cons (.v 3) (.cons (.v 4) (.cons (.v 7) .nil)))) (.v 8)) (.cons (.ret (.c (.bl false))) .nil) .nil) (.cons (.set 4 (.sub (.v 8) (.c (.int 0)))) .nil)))))))) (.cons (.ret (.c (.bl true))) .nil)))))))⟩
/-- _law_numbers -/
def f_law_numbers : Fn := ⟨3, 6, (.cons (.ite (.cmp .ge (.v 1) (.b1 .len (.v 0))) (.cons (.ret (.c .non)) .nil) .nil) (.cons (.ite (.cmp .eq (.sub (.v 0) (.v 1)) (.v 2)) (.cons (.ret (.lst false .nil)) .nil) .nil) (.cons (.set 3 (.slc (.sub (.v 0) (.v 1)) (.some (.b1 .len (.v 2))) .none)) (.cons (.ite (.or (.cons (.cmp .ne (.slc (.sub (.v 0) (.v 1)) .none (.some (.b1 .len (.v 2)))) (.v 2)) (.cons (.cmp .eq (.bin .mod (.b1 .int (.b1 .len (.v 3))) (.c (.int 2))) (.c (.int 1))) .nil))) (.cons (.ret (.c .non)) .nil) .nil) (.cons (.set 4 (.lst true .nil)) (.cons (.for_ (.nm 5) (.rng .none (.bin .fdiv (.b1 .len (.v 3)) (.c (.int 2)))) (.cons (.ite (.or (.cons (.cmp .ne (.sub (.v 3) (.bin .mul (.c (.int 2)) (.v 5))) (.c (.str " "))) (.cons (.cmp .nin (.sub (.v 3) (.bin .add (.bin .mul (.c (.int 2)) (.v 5)) (.c (.int 1)))) (.c (.str "0123456789"))) .nil))) (.cons (.ret (.c .non)) .nil) .nil) (.cons (.ex (.app (.v 4) (.b1 .int (.sub (.v 3) (.bin .add (.bin .mul (.c (.int 2)) (.v 5)) (.c (.int 1))))))) .nil))) (.cons (.ret (.v 4)) .nil)))))))⟩
/-- _law_changes_in -/
def f_law_changes_in : Fn := ⟨4, 7, (.cons (.set 4 (.call 88 2 (.cons (.v 0) (.cons (.v 1) (.cons (.v 2) .nil))))) (.cons (.ite (.or (.cons (.cmp .is_ (.v 4) (.c .non)) (.cons (.cmp .nin (.b1 .len (.v 4)) (.tup (.cons (.c (.int 2)) (.cons (.c (.int 4)) (.cons (.c (.int 6)) .nil))))) .nil))) (.cons (.ret (.c .non)) .nil) .nil) (.cons (.set 5 (.lst true .nil)) (.cons (.for_ (.nm 6) (.rng .none (.bin .fdiv (.b1 .len (.v 4)) (.c (.int 2)))) (.cons (.ite (.or (.cons (.cmp .ge (.sub (.v 4) (.bin .mul (.c (.int 2)) (.v 6))) (.b1 .len (.v 3))) (.cons (.not (.chain .le .le (.c (.int 1)) (.sub (.v 4) (.bin .add (.bin .mul (.c (.int 2)) (.v 6)) (.c (.int 1)))) (.c (.int 3)))) .nil))) (.cons (.ret (.c .non)) .nil) .nil) (.cons (.ex (.app (.v 5) (.tup (.cons (.sub (.v 4) (.bin .mul (.c (.int 2)) (.v 6))) (.cons (.sub (.v 4) (.bin .add (.bin .mul (.c (.int 2)) (.v 6)) (.c (.int 1)))) .nil))))) .nil))) (.cons (.ret (.b1 .tuple (.v 5))) .nil)))))⟩
/-- _law_table_in (not yet) -/
def f_law_table_in : Fn := ⟨4, 5, .nil⟩
/-- _law_part_in -/
def f_law_part_in : Fn := ⟨3, 6, (.cons (.ite (.cmp .ne (.slc (.v 0) (.some (.v 1)) (.some (.bin .add (.v 1) (.c (.int 1))))) (.lst false (.cons (.c (.str "part")) .nil))) (.cons (.ret (.tup (.cons (.v 1) (.cons (.c .non) .nil)))) .nil) .nil) (.cons (.set 3 (.call 90 0 (.cons (.v 0) (.cons (.bin .add (.v 1) (.c (.int 1))) (.cons (.c (.str "look")) (.cons (.v 2) .nil)))))) (.cons (.ite (.cmp .is_ (.v 3) (.c .non)) (.cons (.ret (.tup (.cons (.bin .add (.v 1) (.c (.int 1))) (.cons (.c .non) .nil)))) .nil) .nil) (.cons (.set 4 (.call 90 0 (.cons (.v 0) (.cons (.bin .add (.v 1) (.c (.int 2))) (.cons (.c (.str "word")) (.cons (.v 2) .nil)))))) (.cons (.ite (.cmp .is_ (.v 4) (.c .non)) (.cons (.ret (.tup (.cons (.bin .add (.v 1) (.c (.int 2))) (.cons (.c .non) .nil)))) .nil) .nil) (.cons (.ite (.or (.cons (.cmp .ge (.bin .add (.v 1) (.c (.int 3))) (.b1 .len (.v 0))) (.cons (.cmp .ne (.slc (.sub (.v 0) (.bin .add (.v 1) (.c (.int 3)))) .none (.some (.c (.int 5)))) (.c (.str "press"))) .nil))) (.cons (.ret (.tup (.cons (.bin .add (.v 1) (.c (.int 3))) (.cons (.tup (.cons (.v 3) (.cons (.v 4) (.cons (.c .non) .nil)))) .nil)))) .nil) .nil) (.cons (.set 5 (.call 89 2 (.cons (.v 0) (.cons (.bin .add (.v 1) (.c (.int 3))) (.cons (.c (.str "press")) (.cons (.v 2) .nil)))))) (.cons (.ite (.cmp .is_ (.v 5) (.c .non)) (.cons (.ret (.tup (.cons (.bin .add (.v 1) (.c (.int 3))) (.cons (.c .non) .nil)))) .nil) .nil) (.cons (.ret (.tup (.cons (.bin .add (.v 1) (.c (.int 4))) (.cons (.tup (.cons (.v 3) (.cons (.v 4) (.cons (.v 5) .nil)))) .nil)))) .nil)))))))))⟩
/-- _law_live_in (not yet) -/
def f_law_live_in : Fn := ⟨4, 5, .nil⟩
/-- _law_behind -/
def f_law_behind : Fn := ⟨3, 8, (.cons (.set 3 (.lst true .nil)) (.cons (.for_ (.nm 4) (.rng .none (.c (.int 2))) (.cons (.ite (.and (.cons (.cmp .lt (.v 1) (.b1 .len (.v 0))) (.cons (.cmp .eq (.slc (.sub (.v 0) (.v 1)) .none (.some (.c (.int 4)))) (.c (.str "tick"))) .nil))) (.cons (.set 5 (.call 89 2 (.cons (.v 0) (.cons (.v 1) (.cons (.c (.str "tick")) (.cons (.dget (.v 2) (.c (.str "sizes"))) .nil)))))) (.cons (.ite (.cmp .is_ (.v 5) (.c .non)) (.cons (.ret (.tup (.cons (.v 1) (.cons (.c .non) .nil)))) .nil) .nil) (.cons (.ex (.app (.v 3) (.v 5))) (.cons (.set 1 (.bin .add (.v 1) (.c (.int 1)))) .nil)))) .nil) .nil)) (.cons (.dput (.v 2) (.c (.str "ticks")) (.b1 .tuple (.v 3))) (.cons (.for_ (.nm 6) (.e (.tup (.cons (.c (.str "live")) (.cons (.c (.str "skips")) .nil)))) (.cons (.dput (.v 2) (.v 6) (.tup .nil)) (.cons (.ite (.and (.cons (.cmp .lt (.v 1) (.b1 .len (.v 0))) (.cons (.cmp .eq (.slc (.sub (.v 0) (.v 1)) .none (.some (.b1 .len (.v 6)))) (.v 6)) .nil))) (.cons (.set 7 (.call 92 0 (.cons (.v 0) (.cons (.v 1) (.cons (.v 6) (.cons (.b1 .len (.dget (.v 2) (.c (.str "parts")))) .nil)))))) (.cons (.ite (.cmp .is_ (.v 7) (.c .non)) (.cons (.ret (.tup (.cons (.v 1) (.cons (.c .non) .nil)))) .nil) .nil) (.cons (.dput (.v 2) (.v 6) (.v 7)) (.cons (.set 1 (.bin .add (.v 1) (.c (.int 1)))) .nil)))) .nil) .nil))) (.cons (.ite (.cmp .lt (.v 1) (.b1 .len (.v 0))) (.cons (.ret (.tup (.cons (.v 1) (.cons (.c .non) .nil)))) .nil) .nil) (.cons (.ret (.tup (.cons (.v 1) (.cons (.v 2) .nil)))) .nil))))))⟩
/-- _law_read (not yet) -/
def f_law_read : Fn := ⟨1, 6, .nil⟩
/-- _law_due -/
def f_law_due : Fn := ⟨1, 4, (.cons (.set 1 (.splt false (.v 0) (.c (.str "\n")))) (.cons (.unp (.tp [(.nm 2), (.nm 3)]) (.call 94 0 (.cons (.slc (.v 1) .none (.some (.neg (.c (.int 1))))) .nil))) (.cons (.ite (.and (.cons (.cmp .isn (.v 3) (.c .non)) (.cons (.cmp .eq (.sub (.v 1) (.neg (.c (.int 1)))) (.c (.str ""))) .nil))) (.cons (.ret (.tup (.cons (.c (.str "program")) (.cons (.dget (.v 3) (.c (.str "sizes"))) (.cons (.dget (.v 3) (.c (.str "parts"))) (.cons (.dget (.v 3) (.c (.str "ticks"))) (.cons (.dget (.v 3) (.c (.str "live"))) (.cons (.dget (.v 3) (.c (.str "skips"))) .nil)))))))) .nil) .nil) (.cons (.ret (.tup (.cons (.c (.str "bad")) (.cons (.bin .add (.v 2) (.c (.int 1))) .nil)))) .nil))))⟩
/-- _law_told (not yet) -/
def f_law_told_96 : Fn := ⟨1, 3, .nil⟩
/-- _law_strange -/
def f_law_strange : Fn := ⟨2, 3, (.cons (.set 2 (.lst false (.cons (.c (.str "")) (.cons (.c (.str " ")) (.cons (.c (.str "part ")) (.cons (.c (.str "part 0")) (.cons (.c (.str "sizes")) (.cons (.c (.str "sizes 2 3 4 2")) (.cons (.c (.str "sizes 1")) (.cons (.c (.str "sizes 5")) (.cons (.c (.str "look")) (.cons (.c (.str "look 0")) (.cons (.c (.str "word 0 1")) (.cons (.c (.str "press")) (.cons (.c (.str "press 0")) (.cons (.c (.str "press 0 0")) (.cons (.c (.str "press 0 4")) (.cons (.c (.str "press 0 1 0 1 0 1 0 1")) (.cons (.c (.str "tick 0 1")) (.cons (.c (.str "tick 0  1")) (.cons (.c (.str "tick 9 1")) (.cons (.c (.str "live")) (.cons (.c (.str "live 0")) (.cons (.c (.str "live 0 0")) (.cons (.c (.str "live 1 0")) (.cons (.c (.str "live 4")) (.cons (.c (.str "skips")) (.cons (.c (.str "skips 0")) (.cons (.c (.str "skips 1 1")) (.cons (.c (.str "Part")) (.cons (.c (.str "look 0 00 1")) (.cons (.c (.str "look 0 0 1 ")) (.cons (.c (.str "parts")) (.cons (.c (.str "press 0 1")) (.cons (.c (.str "live 01")) .nil))))))))))))))))))))))))))))))))))) (.cons (.ret (.sub (.v 2) (.call 7 0 (.cons (.v 0) (.cons (.c (.int 33)) .nil))))) .nil))⟩
/-- _law_turned -/
def f_law_turned : Fn := ⟨2, 5, (.cons (.set 2 (.c (.str " 0123456789abcdefghijklmnopqrstuvwxyz-~"))) (.cons (.set 3 (.call 7 0 (.cons (.v 0) (.cons (.bin .add (.b1 .len (.v 1)) (.c (.int 1))) .nil)))) (.cons (.set 4 (.call 7 0 (.cons (.v 0) (.cons (.c (.int 3)) .nil)))) (.cons (.ite (.cmp .eq (.v 4) (.c (.int 0))) (.cons (.ret (.bin .add (.bin .add (.slc (.v 1) .none (.some (.v 3))) (.sub (.v 2) (.call 7 0 (.cons (.v 0) (.cons (.c (.int 39)) .nil))))) (.slc (.v 1) (.some (.v 3)) .none))) .nil) .nil) (.cons (.ite (.cmp .eq (.v 4) (.c (.int 1))) (.cons (.ret (.bin .add (.slc (.v 1) .none (.some (.v 3))) (.slc (.v 1) (.some (.bin .add (.v 3) (.c (.int 1)))) .none))) .nil) .nil) (.cons (.ret (.bin .add (.bin .add (.slc (.v 1) .none (.some (.v 3))) (.sub (.v 2) (.call 7 0 (.cons (.v 0) (.cons (.c (.int 39)) .nil))))) (.slc (.v 1) (.some (.bin .add (.v 3) (.c (.int 1)))) .none))) .nil))))))⟩
/-- _law_spoiled -/
def f_law_spoiled : Fn := ⟨2, 5, (.cons (.set 2 (.call 7 0 (.cons (.v 0) (.cons (.bin .add (.b1 .len (.v 1)) (.c (.int 1))) .nil)))) (.cons (.set 3 (.call 7 0 (.cons (.v 0) (.cons (.c (.int 7)) .nil)))) (.cons (.ite (.cmp .eq (.v 3) (.c (.int 0))) (.cons (.ret (.bin .add (.slc (.v 1) .none (.some (.v 2))) (.slc (.v 1) (.some (.bin .add (.v 2) (.c (.int 1)))) .none))) .nil) .nil) (.cons (.ite (.cmp .eq (.v 3) (.c (.int 1))) (.cons (.ret (.bin .add (.bin .add (.slc (.v 1) .none (.some (.v 2))) (.slc (.v 1) (.some (.v 2)) (.some (.bin .add (.v 2) (.c (.int 1)))))) (.slc (.v 1) (.some (.v 2)) .none))) .nil) .nil) (.cons (.ite (.cmp .eq (.v 3) (.c (.int 2))) (.cons (.set 4 (.call 7 0 (.cons (.v 0) (.cons (.bin .add (.b1 .len (.v 1)) (.c (.int 1))) .nil)))) (.cons (.ret (.bin .add (.bin .add (.slc (.v 1) .none (.some (.v 2))) (.slc (.v 1) (.some (.bin .add (.v 2) (.c (.int 1)))) .none)) (.slc (.v 1) (.some (.v 4)) (.some (.bin .add (.v 4) (.c (.int 1))))))) .nil)) .nil) (.cons (.ite (.cmp .eq (.v 3) (.c (.int 3))) (.cons (.set 4 (.call 28 2 (.cons (.call 19 0 (.cons (.v 0) .nil)) .nil))) (.cons (.ret (.bin .add (.bin .add (.slc (.v 1) .none (.some (.v 2))) (.lst false (.cons (.sub (.v 4) (.call 7 0 (.cons (.v 0) (.cons (.b1 .len (.v 4)) .nil)))) .nil))) (.slc (.v 1) (.some (.bin .add (.v 2) (.call 7 0 (.cons (.v 0) (.cons (.c (.int 2)) .nil))))) .none))) .nil)) .nil) (.cons (.ite (.and (.cons (.cmp .eq (.v 3) (.c (.int 4))) (.cons (.cmp .lt (.v 2) (.b1 .len (.v 1))) .nil))) (.cons (.ret (.bin .add (.bin .add (.slc (.v 1) .none (.some (.v 2))) (.lst false (.cons (.call 98 0 (.cons (.v 0) (.cons (.sub (.v 1) (.v 2)) .nil))) .nil))) (.slc (.v 1) (.some (.bin .add (.v 2) (.c (.int 1)))) .none))) .nil) .nil) (.cons (.ite (.cmp .eq (.v 3) (.c (.int 5))) (.cons (.ret (.slc (.v 1) .none (.some (.v 2)))) .nil) .nil) (.cons (.ret (.bin .add (.bin .add (.slc (.v 1) .none (.some (.v 2))) (.lst false (.cons (.call 97 0 (.cons (.v 0) (.cons (.v 1) .nil))) .nil))) (.slc (.v 1) (.some (.bin .add (.v 2) (.call 7 0 (.cons (.v 0) (.cons (.c (.int 2)) .nil))))) .none))) .nil)))))))))⟩
/-- law -/
def f_law_k15 : Fn := ⟨1, 8, (.cons (.set 1 (.lst true (.cons (.b1 (.list true) (.v 0)) (.cons (.c (.int 0)) (.cons (.c (.int 1)) .nil))))) (.cons (.set 2 (.call 28 2 (.cons (.call 19 0 (.cons (.v 1) .nil)) .nil))) (.cons (.for_ (.nm 3) (.rng .none (.c (.int 6))) (.cons (.set 4 (.b1 (.list false) (.v 2))) (.cons (.for_ (.nm 5) (.rng .none (.call 7 0 (.cons (.v 1) (.cons (.c (.int 4)) .nil)))) (.cons (.set 4 (.call 99 0 (.cons (.v 1) (.cons (.v 4) .nil)))) .nil)) (.cons (.set 6 (.call 29 0 (.cons (.v 4) .nil))) (.cons (.set 7 (.call 7 0 (.cons (.v 1) (.cons (.c (.int 6)) .nil)))) (.cons (.ite (.cmp .eq (.v 7) (.c (.int 0))) (.cons (.set 6 (.slc (.v 6) .none (.some (.neg (.c (.int 1)))))) .nil) .nil) (.cons (.ite (.cmp .eq (.v 7) (.c (.int 1))) (.cons (.set 6 (.bin .add (.v 6) (.sub (.lst false (.cons (.c (.str "\n")) (.cons (.c (.str " ")) (.cons (.c (.str "part")) (.cons (.c (.str "live 0")) .nil))))) (.call 7 0 (.cons (.v 1) (.cons (.c (.int 4)) .nil)))))) .nil) .nil) (.cons (.ite (.cmp .ne (.call 96 0 (.cons (.v 6) .nil)) (.call 95 0 (.cons (.v 6) .nil))) (.cons (.ret (.c (.bl false))) .nil) .nil) .nil)))))))) (.cons (.ret (.c (.bl true))) .nil))))⟩
/-- is_stale -/
def f_is_stale : Fn := ⟨5, 5, (.cons (.ret (.and (.cons (.cmp .ne (.v 4) (.tup .nil)) (.cons (.cmp .ne (.sub (.call 10 0 (.cons (.v 0) (.cons (.sub (.v 3) (.c (.int 0))) .nil))) (.sub (.v 4) (.c (.int 0)))) (.sub (.v 4) (.c (.int 1)))) .nil)))) .nil)⟩
/-- is_unsaid -/
def f_is_unsaid : Fn := ⟨5, 10, (.cons (.set 5 (.call 85 0 (.cons (.v 0) (.cons (.sub (.v 1) (.c (.int 0))) .nil)))) (.cons (.set 6 (.call 85 0 (.cons (.v 0) (.cons (.sub (.v 3) (.c (.int 0))) .nil)))) (.cons (.set 7 (.call 10 0 (.cons (.v 0) (.cons (.sub (.v 3) (.c (.int 0))) .nil)))) (.cons (.for_ (.tp [(.nm 8), (.nm 9)]) (.enum (.v 6)) (.cons (.ite (.and (.cons (.cmp .ne (.v 9) (.sub (.v 5) (.v 8))) (.cons (.cmp .nin (.tup (.cons (.v 8) (.cons (.sub (.v 7) (.v 8)) .nil))) (.sub (.v 3) (.c (.int 2)))) .nil))) (.cons (.ret (.c (.bl true))) .nil) .nil) .nil)) (.cons (.ret (.c (.bl false))) .nil)))))⟩
/-- run_to -/
def f_run_to : Fn := ⟨2, 4, (.cons (.set 2 (.lst true .nil)) (.cons (.whl 1000000 (.cmp .isn (.dget (.v 0) (.v 1)) (.c .non)) (.cons (.unp (.tp [(.nm 1), (.nm 3)]) (.dget (.v 0) (.v 1))) (.cons (.ex (.app (.v 2) (.v 3))) .nil))) (.cons (.ret (.rev true (.v 2))) .nil)))⟩
/-- first_run -/
def f_first_run : Fn := ⟨3, 10, (.cons (.set 3 (.lst true (.cons (.call 9 0 (.cons (.v 0) .nil)) .nil))) (.cons (.set 4 (.dn1 (.sub (.v 3) (.c (.int 0))) (.c .non))) (.cons (.set 5 (.c (.int 0))) (.cons (.whl 1000000 (.cmp .lt (.v 5) (.b1 .len (.v 3))) (.cons (.set 6 (.sub (.v 3) (.v 5))) (.cons (.for_ (.nm 7) (.e (.call 14 2 (.cons (.v 0) (.cons (.v 6) .nil)))) (.cons (.unp (.tp [(.nm 8), (.nm 9)]) (.call 16 0 (.cons (.v 0) (.cons (.v 6) (.cons (.v 7) .nil))))) (.cons (.ite (.callv 2 [101, 102] 0 (.cons (.v 0) (.cons (.v 6) (.cons (.v 7) (.cons (.v 8) (.cons (.v 9) .nil)))))) (.cons (.ret (.tup (.cons (.c (.str "run")) (.cons (.addl (.call 103 2 (.cons (.v 4) (.cons (.v 6) .nil))) (.lst false (.cons (.v 7) .nil))) .nil)))) .nil) .nil) (.cons (.ite (.cmp .nin (.v 8) (.v 4)) (.cons (.ite (.cmp .eq (.b1 .len (.v 3)) (.v 1)) (.cons (.ret (.tup (.cons (.c (.str "many")) .nil))) .nil) .nil) (.cons (.dput (.v 4) (.v 8) (.tup (.cons (.v 6) (.cons (.v 7) .nil)))) (.cons (.ex (.app (.v 3) (.v 8))) .nil))) .nil) .nil)))) (.cons (.aug 5 (.c (.int 1))) .nil)))) (.cons (.ret (.tup (.cons (.c (.str "never")) (.cons (.b1 .len (.v 3)) .nil)))) .nil)))))⟩
/-- first_stale -/
def f_first_stale : Fn := ⟨2, 2, (.cons (.ret (.call 104 0 (.cons (.v 0) (.cons (.v 1) (.cons (.gf 101) .nil))))) .nil)⟩
/-- first_unsaid -/
def f_first_unsaid : Fn := ⟨2, 2, (.cons (.ret (.call 104 0 (.cons (.v 0) (.cons (.v 1) (.cons (.gf 102) .nil))))) .nil)⟩
/-- _law_wanted -/
def f_law_wanted : Fn := ⟨6, 10, (.cons (.set 6 (.call 31 0 (.cons (.v 0) (.cons (.v 4) .nil)))) (.cons (.ite (.cmp .eq (.v 1) (.c (.str "stale"))) (.cons (.ret (.and (.cons (.cmp .ne (.v 5) (.tup .nil)) (.cons (.cmp .ne (.sub (.v 6) (.sub (.v 5) (.c (.int 0)))) (.sub (.v 5) (.c (.int 1)))) .nil)))) .nil) .nil) (.cons (.set 7 (.call 86 0 (.cons (.v 0) (.cons (.v 2) .nil)))) (.cons (.set 8 (.call 86 0 (.cons (.v 0) (.cons (.v 4) .nil)))) (.cons (.for_ (.nm 9) (.rng .none (.b1 .len (.fld 0 (.v 0) "parts"))) (.cons (.ite (.and (.cons (.cmp .ne (.sub (.v 7) (.v 9)) (.sub (.v 8) (.v 9))) (.cons (.cmp .nin (.tup (.cons (.v 9) (.cons (.sub (.v 6) (.v 9)) .nil))) (.sub (.v 4) (.c (.int 2)))) .nil))) (.cons (.ret (.c (.bl true))) .nil) .nil) .nil)) (.cons (.ret (.c (.bl false))) .nil))))))⟩
/-- _law_search -/
def f_law_search : Fn := ⟨3, 9, (.cons (.set 3 (.lst true (.cons (.call 9 0 (.cons (.v 0) .nil)) .nil))) (.cons (.set 4 (.dn1 (.sub (.v 3) (.c (.int 0))) (.lst false .nil))) (.cons (.for_ (.nm 5) (.rng .none (.c (.int 500))) (.cons (.ite (.cmp .ge (.v 5) (.b1 .len (.v 3))) (.cons (.ret (.tup (.cons (.c (.str "never")) (.cons (.b1 .len (.v 3)) .nil)))) .nil) .nil) (.cons (.for_ (.nm 6) (.e (.call 14 2 (.cons (.v 0) (.cons (.sub (.v 3) (.v 5)) .nil)))) (.cons (.unp (.tp [(.nm 7), (.nm 8)]) (.call 16 0 (.cons (.v 0) (.cons (.sub (.v 3) (.v 5)) (.cons (.v 6) .nil))))) (.cons (.ite (.call 107 0 (.cons (.v 0) (.cons (.v 2) (.cons (.sub (.v 3) (.v 5)) (.cons (.v 6) (.cons (.v 7) (.cons (.v 8) .nil))))))) (.cons (.ret (.tup (.cons (.c (.str "run")) (.cons (.bin .add (.dget (.v 4) (.sub (.v 3) (.v 5))) (.lst false (.cons (.v 6) .nil))) .nil)))) .nil) .nil) (.cons (.ite (.cmp .nin (.v 7) (.v 4)) (.cons (.ite (.cmp .eq (.b1 .len (.v 3)) (.v 1)) (.cons (.ret (.tup (.cons (.c (.str "many")) .nil))) .nil) .nil) (.cons (.dput (.v 4) (.v 7) (.bin .add (.dget (.v 4) (.sub (.v 3) (.v 5))) (.lst false (.cons (.v 6) .nil)))) (.cons (.ex (.app (.v 3) (.v 7))) .nil))) .nil) .nil)))) .nil))) (.cons (.ret (.tup (.cons (.c (.str "many")) .nil))) .nil))))⟩
/-- law -/
def f_law_k30 : Fn := ⟨1, 7, (.cons (.set 1 (.call 55 0 (.cons (.v 0) .nil))) (.cons (.set 2 (.call 8 0 (.cons (.call 54 0 (.cons (.v 1) .nil)) .nil))) (.cons (.set 3 (.bin .add (.c (.int 1)) (.call 7 0 (.cons (.v 1) (.cons (.c (.int 60)) .nil))))) (.cons (.ite (.cmp .eq (.call 7 0 (.cons (.v 1) (.cons (.c (.int 20)) .nil))) (.c (.int 0))) (.cons (.set 3 (.bin .add (.c (.int 61)) (.call 7 0 (.cons (.v 1) (.cons (.c (.int 340)) .nil))))) .nil) .nil) (.cons (.set 4 (.call 105 0 (.cons (.v 2) (.cons (.v 3) .nil)))) (.cons (.ite (.cmp .ne (.v 4) (.call 108 2 (.cons (.v 2) (.cons (.v 3) (.cons (.c (.str "stale")) .nil))))) (.cons (.ret (.c (.bl false))) .nil) .nil) (.cons (.ite (.cmp .eq (.sub (.v 4) (.c (.int 0))) (.c (.str "run"))) (.cons (.set 5 (.sub (.v 4) (.c (.int 1)))) (.cons (.ex (.app (.v 5) (.tup (.cons (.c (.str "next")) .nil)))) .nil)) .nil) (.cons (.ite (.cmp .ne (.call 105 0 (.cons (.v 2) (.cons (.v 3) .nil))) (.call 108 2 (.cons (.v 2) (.cons (.v 3) (.cons (.c (.str "stale")) .nil))))) (.cons (.ret (.c (.bl false))) .nil) .nil) (.cons (.set 6 (.call 106 0 (.cons (.v 2) (.cons (.v 3) .nil)))) (.cons (.ite (.cmp .ne (.v 6) (.call 108 2 (.cons (.v 2) (.cons (.v 3) (.cons (.c (.str "unsaid")) .nil))))) (.cons (.ret (.c (.bl false))) .nil) .nil) (.cons (.ite (.cmp .eq (.sub (.v 6) (.c (.int 0))) (.c (.str "run"))) (.cons (.set 5 (.sub (.v 6) (.c (.int 1)))) (.cons (.ex (.app (.v 5) (.tup (.cons (.c (.str "next")) .nil)))) .nil)) .nil) (.cons (.ret (.cmp .eq (.call 106 0 (.cons (.v 2) (.cons (.v 3) .nil))) (.call 108 2 (.cons (.v 2) (.cons (.v 3) (.cons (.c (.str "unsaid")) .nil)))))) .nil))))))))))))⟩
/-- keys_for -/
def f_keys_for : Fn := ⟨3, 6, (.cons (.set 3 (.sub (.sub (.call 16 0 (.cons (.v 0) (.cons (.v 1) (.cons (.tup (.cons (.c (.str "point")) (.cons (.v 2) .nil))) .nil)))) (.c (.int 0))) (.c (.int 0)))) (.cons (.set 4 (.lst true .nil)) (.cons (.for_ (.nm 5) (.e (.fld 0 (.v 0) "parts")) (.cons (.ite (.and (.cons (.cmp .in_ (.tup (.cons (.c (.str "press")) .nil)) (.call 14 2 (.cons (.v 0) (.cons (.v 1) .nil)))) (.cons (.cmp .eq (.sub (.sub (.call 16 0 (.cons (.v 0) (.cons (.v 1) (.cons (.tup (.cons (.c (.str "press")) .nil)) .nil)))) (.c (.int 0))) (.c (.int 0))) (.v 3)) .nil))) (.cons (.ret (.addl (.v 4) (.lst false (.cons (.tup (.cons (.c (.str "press")) .nil)) .nil)))) .nil) .nil) (.cons (.set 1 (.sub (.call 16 0 (.cons (.v 0) (.cons (.v 1) (.cons (.tup (.cons (.c (.str "next")) .nil)) .nil)))) (.c (.int 0)))) (.cons (.ex (.app (.v 4) (.tup (.cons (.c (.str "next")) .nil)))) .nil)))) (.cons (.ret (.c .non)) .nil))))⟩
/-- first_keyless -/
def f_first_keyless : Fn := ⟨2, 8, (.cons (.set 2 (.lst true (.cons (.call 9 0 (.cons (.v 0) .nil)) .nil))) (.cons (.set 3 (.dn1 (.sub (.v 2) (.c (.int 0))) (.c .non))) (.cons (.set 4 (.c (.int 0))) (.cons (.whl 1000000 (.cmp .lt (.v 4) (.b1 .len (.v 2))) (.cons (.set 5 (.sub (.v 2) (.v 4))) (.cons (.for_ (.nm 6) (.e (.call 14 2 (.cons (.v 0) (.cons (.v 5) .nil)))) (.cons (.ite (.and (.cons (.cmp .eq (.sub (.v 6) (.c (.int 0))) (.c (.str "point"))) (.cons (.cmp .is_ (.call 110 2 (.cons (.v 0) (.cons (.v 5) (.cons (.sub (.v 6) (.c (.int 1))) .nil)))) (.c .non)) .nil))) (.cons (.ret (.tup (.cons (.c (.str "run")) (.cons (.call 103 3 (.cons (.v 3) (.cons (.v 5) .nil))) (.cons (.sub (.v 6) (.c (.int 1))) .nil))))) .nil) .nil) (.cons (.set 7 (.sub (.call 16 0 (.cons (.v 0) (.cons (.v 5) (.cons (.v 6) .nil)))) (.c (.int 0)))) (.cons (.ite (.cmp .nin (.v 7) (.v 3)) (.cons (.ite (.cmp .eq (.b1 .len (.v 2)) (.v 1)) (.cons (.ret (.tup (.cons (.c (.str "many")) .nil))) .nil) .nil) (.cons (.dput (.v 3) (.v 7) (.tup (.cons (.v 5) (.cons (.v 6) .nil)))) (.cons (.ex (.app (.v 2) (.v 7))) .nil))) .nil) .nil)))) (.cons (.aug 4 (.c (.int 1))) .nil)))) (.cons (.ret (.tup (.cons (.c (.str "never")) (.cons (.b1 .len (.v 2)) .nil)))) .nil)))))⟩
/-- _law_keys -/
def f_law_keys : Fn := ⟨3, 7, (.cons (.set 3 (.sub (.sub (.call 16 0 (.cons (.v 0) (.cons (.v 1) (.cons (.tup (.cons (.c (.str "point")) (.cons (.v 2) .nil))) .nil)))) (.c (.int 0))) (.c (.int 0)))) (.cons (.for_ (.nm 4) (.rng .none (.b1 .len (.fld 0 (.v 0) "parts"))) (.cons (.set 5 (.v 1)) (.cons (.for_ (.nm 6) (.rng .none (.v 4)) (.cons (.set 5 (.sub (.call 16 0 (.cons (.v 0) (.cons (.v 5) (.cons (.tup (.cons (.c (.str "next")) .nil)) .nil)))) (.c (.int 0)))) .nil)) (.cons (.ite (.and (.cons (.cmp .in_ (.tup (.cons (.c (.str "press")) .nil)) (.call 14 2 (.cons (.v 0) (.cons (.v 5) .nil)))) (.cons (.cmp .eq (.sub (.sub (.call 16 0 (.cons (.v 0) (.cons (.v 5) (.cons (.tup (.cons (.c (.str "press")) .nil)) .nil)))) (.c (.int 0))) (.c (.int 0))) (.v 3)) .nil))) (.cons (.ret (.bin .add (.lc false (.nm 6) (.rng .none (.v 4)) .none (.tup (.cons (.c (.str "next")) .nil)) [6]) (.lst false (.cons (.tup (.cons (.c (.str "press")) .nil)) .nil)))) .nil) .nil) .nil)))) (.cons (.ret (.c .non)) .nil)))⟩
/-- _law_first -/
def f_law_first : Fn := ⟨2, 7, (.cons (.set 2 (.lst true (.cons (.call 9 0 (.cons (.v 0) .nil)) .nil))) (.cons (.set 3 (.dn1 (.sub (.v 2) (.c (.int 0))) (.lst false .nil))) (.cons (.for_ (.nm 4) (.rng .none (.c (.int 400))) (.cons (.ite (.cmp .ge (.v 4) (.b1 .len (.v 2))) (.cons (.ret (.tup (.cons (.c (.str "never")) (.cons (.b1 .len (.v 2)) .nil)))) .nil) .nil) (.cons (.for_ (.nm 5) (.e (.call 14 2 (.cons (.v 0) (.cons (.sub (.v 2) (.v 4)) .nil)))) (.cons (.ite (.and (.cons (.cmp .eq (.sub (.v 5) (.c (.int 0))) (.c (.str "point"))) (.cons (.cmp .is_ (.call 112 0 (.cons (.v 0) (.cons (.sub (.v 2) (.v 4)) (.cons (.sub (.v 5) (.c (.int 1))) .nil)))) (.c .non)) .nil))) (.cons (.ret (.tup (.cons (.c (.str "run")) (.cons (.dget (.v 3) (.sub (.v 2) (.v 4))) (.cons (.sub (.v 5) (.c (.int 1))) .nil))))) .nil) .nil) (.cons (.set 6 (.sub (.call 16 0 (.cons (.v 0) (.cons (.sub (.v 2) (.v 4)) (.cons (.v 5) .nil)))) (.c (.int 0)))) (.cons (.ite (.cmp .nin (.v 6) (.v 3)) (.cons (.ite (.cmp .eq (.b1 .len (.v 2)) (.v 1)) (.cons (.ret (.tup (.cons (.c (.str "many")) .nil))) .nil) .nil) (.cons (.dput (.v 3) (.v 6) (.bin .add (.dget (.v 3) (.sub (.v 2) (.v 4))) (.lst false (.cons (.v 5) .nil)))) (.cons (.ex (.app (.v 2) (.v 6))) .nil))) .nil) .nil)))) .nil))) (.cons (.ret (.tup (.cons (.c (.str "many")) .nil))) .nil))))⟩
/-- law -/
def f_law_k32 : Fn := ⟨1, 11, (.cons (.set 1 (.call 55 0 (.cons (.v 0) .nil))) (.cons (.set 2 (.call 8 0 (.cons (.call 54 0 (.cons (.v 1) .nil)) .nil))) (.cons (.set 3 (.call 9 0 (.cons (.v 2) .nil))) (.cons (.for_ (.nm 4) (.rng .none (.c (.int 20))) (.cons (.set 5 (.call 14 2 (.cons (.v 2) (.cons (.v 3) .nil)))) (.cons (.for_ (.nm 6) (.e (.v 5)) (.cons (.ite (.cmp .eq (.sub (.v 6) (.c (.int 0))) (.c (.str "point"))) (.cons (.set 7 (.call 110 3 (.cons (.v 2) (.cons (.v 3) (.cons (.sub (.v 6) (.c (.int 1))) .nil))))) (.cons (.ite (.cmp .ne (.v 7) (.call 112 0 (.cons (.v 2) (.cons (.v 3) (.cons (.sub (.v 6) (.c (.int 1))) .nil))))) (.cons (.ret (.c (.bl false))) .nil) .nil) (.cons (.ite (.cmp .isn (.v 7) (.c .non)) (.cons (.ex (.app (.v 7) (.tup (.cons (.c (.str "next")) .nil)))) .nil) .nil) (.cons (.ite (.cmp .ne (.call 110 2 (.cons (.v 2) (.cons (.v 3) (.cons (.sub (.v 6) (.c (.int 1))) .nil)))) (.call 112 0 (.cons (.v 2) (.cons (.v 3) (.cons (.sub (.v 6) (.c (.int 1))) .nil))))) (.cons (.ret (.c (.bl false))) .nil) .nil) .nil)))) .nil) .nil)) (.cons (.set 3 (.sub (.call 16 0 (.cons (.v 2) (.cons (.v 3) (.cons (.sub (.v 5) (.call 7 0 (.cons (.v 1) (.cons (.b1 .len (.v 5)) .nil)))) .nil)))) (.c (.int 0)))) .nil)))) (.cons (.set 8 (.bin .add (.c (.int 1)) (.call 7 0 (.cons (.v 1) (.cons (.c (.int 40)) .nil))))) (.cons (.set 9 (.call 111 0 (.cons (.v 2) (.cons (.v 8) .nil)))) (.cons (.ite (.cmp .ne (.v 9) (.call 113 2 (.cons (.v 2) (.cons (.v 8) .nil)))) (.cons (.ret (.c (.bl false))) .nil) .nil) (.cons (.ite (.cmp .eq (.sub (.v 9) (.c (.int 0))) (.c (.str "run"))) (.cons (.set 10 (.sub (.v 9) (.c (.int 1)))) (.cons (.ex (.app (.v 10) (.tup (.cons (.c (.str "next")) .nil)))) .nil)) .nil) (.cons (.ret (.cmp .eq (.call 111 0 (.cons (.v 2) (.cons (.v 8) .nil))) (.call 113 2 (.cons (.v 2) (.cons (.v 8) .nil))))) .nil)))))))))⟩
/-- noticed_thing -/
def f_noticed_thing : Fn := ⟨5, 5, (.cons (.ite (.and (.cons (.cmp .eq (.v 1) (.c (.str "watch"))) (.cons (.cmp .ne (.call 86 0 (.cons (.v 0) (.cons (.v 4) .nil))) (.call 86 0 (.cons (.v 0) (.cons (.v 2) .nil)))) .nil))) (.cons (.ret (.call 86 0 (.cons (.v 0) (.cons (.v 4) .nil)))) .nil) .nil) (.cons (.ite (.and (.cons (.cmp .eq (.v 1) (.c (.str "read"))) (.cons (.cmp .ne (.call 31 0 (.cons (.v 0) (.cons (.v 4) .nil))) (.call 31 0 (.cons (.v 0) (.cons (.v 2) .nil)))) .nil))) (.cons (.ret (.call 31 0 (.cons (.v 0) (.cons (.v 4) .nil)))) .nil) .nil) (.cons (.ite (.cmp .eq (.v 1) (.c (.str "listen"))) (.cons (.ret (.v 3)) .nil) .nil) (.cons (.ret (.tup .nil)) .nil))))⟩
/-- sign -/
def f_sign : Fn := ⟨6, 10, (.cons (.unp (.tp [(.nm 6), (.nm 7)]) (.v 1)) (.cons (.set 8 (.ife (.and (.cons (.v 7) (.cons (.cmp .in_ (.sub (.v 3) (.c (.int 0))) (.g 5)) .nil))) (.v 3) (.tup .nil))) (.cons (.set 9 (.call 115 0 (.cons (.v 0) (.cons (.v 6) (.cons (.v 2) (.cons (.v 4) (.cons (.v 5) .nil))))))) (.cons (.ite (.and (.cons (.cmp .eq (.v 8) (.tup .nil)) (.cons (.cmp .eq (.v 9) (.tup .nil)) .nil))) (.cons (.ret (.c .non)) .nil) .nil) (.cons (.ret (.tup (.cons (.v 8) (.cons (.v 9) .nil)))) .nil)))))⟩
/-- final -/
def f_final : Fn := ⟨3, 3, (.cons (.ite (.cmp .in_ (.sub (.v 1) (.c (.int 0))) (.tup (.cons (.c (.str "glance")) (.cons (.c (.str "watch")) .nil)))) (.cons (.ret (.call 86 0 (.cons (.v 0) (.cons (.v 2) .nil)))) .nil) .nil) (.cons (.ite (.cmp .in_ (.sub (.v 1) (.c (.int 0))) (.tup (.cons (.c (.str "ask")) (.cons (.c (.str "read")) .nil)))) (.cons (.ret (.call 31 0 (.cons (.v 0) (.cons (.v 2) .nil)))) .nil) .nil) (.cons (.ret (.tup .nil)) .nil)))⟩
/-- is_ready -/
def f_is_ready : Fn := ⟨3, 3, (.cons (.ret (.or (.cons (.cmp .eq (.sub (.v 2) (.c (.int 2))) (.tup .nil)) (.cons (.and (.cons (.cmp .ne (.sub (.v 0) (.c (.int 0))) (.c (.str "listen"))) (.cons (.cmp .ne (.sub (.v 1) (.c (.int 0))) (.c (.str "listen"))) .nil))) .nil)))) .nil)⟩
/-- _law_observer -/
def f_law_observer : Fn := ⟨1, 2, (.cons (.set 1 (.sub (.lst false (.cons (.c (.str "glance")) (.cons (.c (.str "watch")) (.cons (.c (.str "ask")) (.cons (.c (.str "read")) (.cons (.c (.str "listen")) .nil)))))) (.call 7 0 (.cons (.v 0) (.cons (.c (.int 5)) .nil))))) (.cons (.ite (.cmp .in_ (.v 1) (.tup (.cons (.c (.str "glance")) (.cons (.c (.str "ask")) .nil)))) (.cons (.ret (.tup (.cons (.v 1) (.cons (.c (.bl false)) .nil)))) .nil) .nil) (.cons (.ret (.tup (.cons (.v 1) (.cons (.cmp .eq (.call 7 0 (.cons (.v 0) (.cons (.c (.int 2)) .nil))) (.c (.int 0))) .nil)))) .nil)))⟩
/-- _law_thing -/
def f_law_thing : Fn := ⟨5, 5, (.cons (.ite (.cmp .eq (.v 1) (.c (.str "watch"))) (.cons (.ret (.ife (.cmp .ne (.call 86 0 (.cons (.v 0) (.cons (.v 4) .nil))) (.call 86 0 (.cons (.v 0) (.cons (.v 2) .nil)))) (.call 86 0 (.cons (.v 0) (.cons (.v 4) .nil))) (.tup .nil))) .nil) .nil) (.cons (.ite (.cmp .eq (.v 1) (.c (.str "read"))) (.cons (.ret (.ife (.cmp .ne (.call 31 0 (.cons (.v 0) (.cons (.v 4) .nil))) (.call 31 0 (.cons (.v 0) (.cons (.v 2) .nil)))) (.call 31 0 (.cons (.v 0) (.cons (.v 4) .nil))) (.tup .nil))) .nil) .nil) (.cons (.ret (.ife (.cmp .eq (.v 1) (.c (.str "listen"))) (.v 3) (.tup .nil))) .nil)))⟩
/-- _law_sign -/
def f_law_sign : Fn := ⟨6, 8, (.cons (.set 6 (.tup .nil)) (.cons (.ite (.and (.cons (.sub (.v 1) (.c (.int 1))) (.cons (.cmp .in_ (.sub (.v 3) (.c (.int 0))) (.tup (.cons (.c (.str "point")) (.cons (.c (.str "next")) (.cons (.c (.str "press")) .nil))))) .nil))) (.cons (.set 6 (.v 3)) .nil) .nil) (.cons (.set 7 (.call 120 0 (.cons (.v 0) (.cons (.sub (.v 1) (.c (.int 0))) (.cons (.v 2) (.cons (.v 4) (.cons (.v 5) .nil))))))) (.cons (.ret (.ife (.and (.cons (.cmp .eq (.v 6) (.tup .nil)) (.cons (.cmp .eq (.v 7) (.tup .nil)) .nil))) (.c .non) (.tup (.cons (.v 6) (.cons (.v 7) .nil))))) .nil))))⟩
/-- _law_final -/
def f_law_final : Fn := ⟨3, 3, (.cons (.ite (.cmp .in_ (.sub (.v 1) (.c (.int 0))) (.tup (.cons (.c (.str "glance")) (.cons (.c (.str "watch")) .nil)))) (.cons (.ret (.call 86 0 (.cons (.v 0) (.cons (.v 2) .nil)))) .nil) .nil) (.cons (.ret (.ife (.cmp .in_ (.sub (.v 1) (.c (.int 0))) (.tup (.cons (.c (.str "ask")) (.cons (.c (.str "read")) .nil)))) (.call 31 0 (.cons (.v 0) (.cons (.v 2) .nil))) (.tup .nil))) .nil))⟩
/-- _law_ready -/
def f_law_ready : Fn := ⟨3, 3, (.cons (.ret (.or (.cons (.cmp .eq (.b1 .len (.sub (.v 2) (.c (.int 2)))) (.c (.int 0))) (.cons (.not (.or (.cons (.cmp .eq (.sub (.v 0) (.c (.int 0))) (.c (.str "listen"))) (.cons (.cmp .eq (.sub (.v 1) (.c (.int 0))) (.c (.str "listen"))) .nil)))) .nil)))) .nil)⟩
/-- _law_cut -/
def f_law_cut : Fn := ⟨1, 3, (.cons (.ite (.cmp .isn (.call 39 2 (.cons (.call 8 0 (.cons (.v 0) .nil)) (.cons (.c (.int 40)) .nil))) (.c .non)) (.cons (.ret (.v 0)) .nil) .nil) (.cons (.set 1 (.dcp (.v 0))) (.cons (.dput (.v 1) (.c (.str "live")) (.tup .nil)) (.cons (.dput (.v 1) (.c (.str "skips")) (.b1 .tuple (.lc false (.nm 2) (.rng (.some (.c (.int 1))) (.b1 .len (.dget (.v 0) (.c (.str "parts"))))) .none (.v 2) [2]))) (.cons (.ite (.cmp .isn (.call 39 2 (.cons (.call 8 0 (.cons (.v 1) .nil)) (.cons (.c (.int 40)) .nil))) (.c .non)) (.cons (.ret (.v 1)) .nil) .nil) (.cons (.set 1 (.dcp (.v 0))) (.cons (.dput (.v 1) (.c (.str "parts")) (.slc (.dget (.v 0) (.c (.str "parts"))) .none (.some (.c (.int 1))))) (.cons (.dput (.v 1) (.c (.str "live")) (.b1 .tuple (.lc false (.nm 2) (.e (.dget (.v 0) (.c (.str "live")))) (.some (.cmp .eq (.v 2) (.c (.int 0)))) (.v 2) [2]))) (.cons (.dput (.v 1) (.c (.str "skips")) (.b1 .tuple (.lc false (.nm 2) (.e (.dget (.v 0) (.c (.str "skips")))) (.some (.cmp .eq (.v 2) (.c (.int 0)))) (.v 2) [2]))) (.cons (.ret (.v 1)) .nil))))))))))⟩
/-- law -/
def f_law_k20 : Fn := ⟨1, 12, (.cons (.set 1 (.call 55 0 (.cons (.v 0) .nil))) (.cons (.set 2 (.call 8 0 (.cons (.call 124 2 (.cons (.call 54 0 (.cons (.v 1) .nil)) .nil)) .nil))) (.cons (.set 3 (.call 119 0 (.cons (.v 1) .nil))) (.cons (.set 4 (.call 119 0 (.cons (.v 1) .nil))) (.cons (.set 5 (.call 9 0 (.cons (.v 2) .nil))) (.cons (.for_ (.nm 6) (.rng .none (.c (.int 30))) (.cons (.set 7 (.call 118 0 (.cons (.v 3) (.cons (.v 4) (.cons (.v 5) .nil))))) (.cons (.ite (.or (.cons (.and (.cons (.cmp .isn (.v 7) (.c (.bl true))) (.cons (.cmp .isn (.v 7) (.c (.bl false))) .nil))) (.cons (.cmp .ne (.v 7) (.call 123 0 (.cons (.v 3) (.cons (.v 4) (.cons (.v 5) .nil))))) .nil))) (.cons (.ret (.c (.bl false))) .nil) .nil) (.cons (.ite (.cmp .ne (.call 117 0 (.cons (.v 2) (.cons (.v 3) (.cons (.v 5) .nil)))) (.call 122 0 (.cons (.v 2) (.cons (.v 3) (.cons (.v 5) .nil))))) (.cons (.ret (.c (.bl false))) .nil) .nil) (.cons (.set 8 (.call 14 2 (.cons (.v 2) (.cons (.v 5) .nil)))) (.cons (.for_ (.nm 9) (.e (.v 8)) (.cons (.unp (.tp [(.nm 10), (.nm 11)]) (.call 16 0 (.cons (.v 2) (.cons (.v 5) (.cons (.v 9) .nil))))) (.cons (.ite (.cmp .ne (.call 116 0 (.cons (.v 2) (.cons (.v 3) (.cons (.v 5) (.cons (.v 9) (.cons (.v 11) (.cons (.v 10) .nil))))))) (.call 121 0 (.cons (.v 2) (.cons (.v 3) (.cons (.v 5) (.cons (.v 9) (.cons (.v 11) (.cons (.v 10) .nil)))))))) (.cons (.ret (.c (.bl false))) .nil) .nil) .nil))) (.cons (.set 5 (.sub (.call 16 0 (.cons (.v 2) (.cons (.v 5) (.cons (.sub (.v 8) (.call 7 0 (.cons (.v 1) (.cons (.b1 .len (.v 8)) .nil)))) .nil)))) (.c (.int 0)))) .nil))))))) (.cons (.ret (.c (.bl true))) .nil)))))))⟩
/-- steps -/
def f_steps : Fn := ⟨3, 7, (.cons (.set 3 (.lst true .nil)) (.cons (.for_ (.nm 4) (.e (.call 14 2 (.cons (.v 0) (.cons (.v 2) .nil)))) (.cons (.unp (.tp [(.nm 5), (.nm 6)]) (.call 16 0 (.cons (.v 0) (.cons (.v 2) (.cons (.v 4) .nil))))) (.cons (.ex (.app (.v 3) (.tup (.cons (.v 4) (.cons (.v 5) (.cons (.call 116 0 (.cons (.v 0) (.cons (.v 1) (.cons (.v 2) (.cons (.v 4) (.cons (.v 6) (.cons (.v 5) .nil))))))) .nil)))))) .nil))) (.cons (.ret (.v 3)) .nil)))⟩
/-- grown (not yet) -/
def f_grown : Fn := ⟨3, 9, .nil⟩
/-- first_held -/
def f_first_held : Fn := ⟨2, 2, (.cons (.ret (.call 127 2 (.cons (.v 0) (.cons (.v 1) (.cons (.lst false (.cons (.call 9 0 (.cons (.v 0) .nil)) .nil)) .nil))))) .nil)⟩
/-- next_held -/
def f_next_held : Fn := ⟨4, 9, (.cons (.ite (.cmp .is_ (.v 3) (.c .non)) (.cons (.ret (.v 2)) .nil) .nil) (.cons (.set 4 (.lst true .nil)) (.cons (.for_ (.nm 5) (.e (.v 2)) (.cons (.for_ (.tp [(.nm 6), (.nm 7), (.nm 8)]) (.e (.call 126 2 (.cons (.v 0) (.cons (.v 1) (.cons (.v 5) .nil))))) (.cons (.ite (.cmp .eq (.v 8) (.v 3)) (.cons (.ex (.app (.v 4) (.v 7))) .nil) .nil) .nil)) .nil)) (.cons (.ret (.call 127 2 (.cons (.v 0) (.cons (.v 1) (.cons (.v 4) .nil))))) .nil))))⟩
/-- _law_behind -/
def f_law_behind_130 : Fn := ⟨3, 7, (.cons (.set 3 (.lst true .nil)) (.cons (.for_ (.nm 4) (.e (.call 14 2 (.cons (.v 0) (.cons (.v 2) .nil)))) (.cons (.unp (.tp [(.nm 5), (.nm 6)]) (.call 16 0 (.cons (.v 0) (.cons (.v 2) (.cons (.v 4) .nil))))) (.cons (.ex (.app (.v 3) (.tup (.cons (.v 4) (.cons (.v 5) (.cons (.call 121 0 (.cons (.v 0) (.cons (.v 1) (.cons (.v 2) (.cons (.v 4) (.cons (.v 6) (.cons (.v 5) .nil))))))) .nil)))))) .nil))) (.cons (.ret (.v 3)) .nil)))⟩
/-- _law_grown -/
def f_law_grown : Fn := ⟨3, 10, (.cons (.set 3 .dnew) (.cons (.set 4 (.b1 (.list true) (.v 2))) (.cons (.for_ (.nm 5) (.rng .none (.c (.int 20000))) (.cons (.ite (.cmp .eq (.b1 .len (.v 4)) (.c (.int 0))) (.cons .brk .nil) .nil) (.cons (.set 6 (.pop (.v 4))) (.cons (.ite (.cmp .nin (.v 6) (.v 3)) (.cons (.dput (.v 3) (.v 6) (.c (.bl true))) (.cons (.for_ (.tp [(.nm 7), (.nm 8), (.nm 9)]) (.e (.call 130 2 (.cons (.v 0) (.cons (.v 1) (.cons (.v 6) .nil))))) (.cons (.ite (.cmp .is_ (.v 9) (.c .non)) (.cons (.ex (.app (.v 4) (.v 8))) .nil) .nil) .nil)) .nil)) .nil) .nil)))) (.cons (.ret (.srt false (.v 3))) .nil))))⟩
/-- _law_held -/
def f_law_held : Fn := ⟨4, 9, (.cons (.ite (.cmp .is_ (.v 3) (.c .non)) (.cons (.ret (.v 2)) .nil) .nil) (.cons (.set 4 (.lst true .nil)) (.cons (.for_ (.nm 5) (.e (.v 2)) (.cons (.for_ (.tp [(.nm 6), (.nm 7), (.nm 8)]) (.e (.call 130 2 (.cons (.v 0) (.cons (.v 1) (.cons (.v 5) .nil))))) (.cons (.ite (.cmp .eq (.v 8) (.v 3)) (.cons (.ex (.app (.v 4) (.v 7))) .nil) .nil) .nil)) .nil)) (.cons (.ret (.call 131 2 (.cons (.v 0) (.cons (.v 1) (.cons (.v 4) .nil))))) .nil))))⟩
/-- law -/
def f_law_k21 : Fn := ⟨1, 13, (.cons (.set 1 (.call 55 0 (.cons (.v 0) .nil))) (.cons (.set 2 (.call 8 0 (.cons (.call 124 2 (.cons (.call 54 0 (.cons (.v 1) .nil)) .nil)) .nil))) (.cons (.set 3 (.call 119 0 (.cons (.v 1) .nil))) (.cons (.set 4 (.call 9 0 (.cons (.v 2) .nil))) (.cons (.set 5 (.call 131 2 (.cons (.v 2) (.cons (.v 3) (.cons (.lst false (.cons (.v 4) .nil)) .nil))))) (.cons (.set 6 (.call 128 0 (.cons (.v 2) (.cons (.v 3) .nil)))) (.cons (.ite (.or (.cons (.cmp .ne (.v 6) (.b1 .tuple (.v 5))) (.cons (.cmp .ne (.call 129 2 (.cons (.v 2) (.cons (.v 3) (.cons (.v 6) (.cons (.tup (.cons (.tup (.cons (.c (.str "point")) (.cons (.c (.int 7)) .nil))) (.cons (.tup .nil) .nil))) .nil))))) (.tup .nil)) .nil))) (.cons (.ret (.c (.bl false))) .nil) .nil) (.cons (.for_ (.nm 7) (.rng .none (.c (.int 6))) (.cons (.set 8 (.call 14 2 (.cons (.v 2) (.cons (.v 4) .nil)))) (.cons (.set 9 (.sub (.v 8) (.call 7 0 (.cons (.v 1) (.cons (.b1 .len (.v 8)) .nil))))) (.cons (.unp (.tp [(.nm 10), (.nm 11)]) (.call 16 0 (.cons (.v 2) (.cons (.v 4) (.cons (.v 9) .nil))))) (.cons (.set 12 (.call 121 0 (.cons (.v 2) (.cons (.v 3) (.cons (.v 4) (.cons (.v 9) (.cons (.v 11) (.cons (.v 10) .nil)))))))) (.cons (.set 5 (.call 132 2 (.cons (.v 2) (.cons (.v 3) (.cons (.v 5) (.cons (.v 12) .nil)))))) (.cons (.set 6 (.call 129 2 (.cons (.v 2) (.cons (.v 3) (.cons (.v 6) (.cons (.v 12) .nil)))))) (.cons (.ite (.or (.cons (.cmp .ne (.v 6) (.b1 .tuple (.v 5))) (.cons (.cmp .nin (.v 10) (.v 6)) .nil))) (.cons (.ret (.c (.bl false))) .nil) .nil) (.cons (.set 4 (.v 10)) .nil))))))))) (.cons (.ret (.c (.bl true))) .nil)))))))))⟩
/-- first_node -/
def f_first_node : Fn := ⟨2, 2, (.cons (.ret (.tup (.cons (.call 9 0 (.cons (.v 0) .nil)) (.cons (.call 128 0 (.cons (.v 0) (.cons (.v 1) .nil))) (.cons (.call 9 0 (.cons (.v 0) .nil)) .nil))))) .nil)⟩
/-- moves -/
def f_moves : Fn := ⟨3, 11, (.cons (.set 3 (.call 126 2 (.cons (.v 0) (.cons (.v 1) (.cons (.sub (.v 2) (.c (.int 0))) .nil))))) (.cons (.set 4 (.call 126 2 (.cons (.v 0) (.cons (.v 1) (.cons (.sub (.v 2) (.c (.int 2))) .nil))))) (.cons (.set 5 (.lc true (.tp [(.nm 6), (.nm 7), (.nm 8)]) (.e (.v 3)) (.some (.cmp .is_ (.v 8) (.c .non))) (.tup (.cons (.c (.int 1)) (.cons (.v 6) .nil))) [6, 7, 8])) (.cons (.ex (.ext (.v 5) (.lc false (.tp [(.nm 6), (.nm 7), (.nm 8)]) (.e (.v 4)) (.some (.cmp .is_ (.v 8) (.c .non))) (.tup (.cons (.c (.int 2)) (.cons (.v 6) .nil))) [6, 7, 8]))) (.cons (.for_ (.tp [(.nm 6), (.nm 7), (.nm 8)]) (.e (.v 3)) (.cons (.ite (.cmp .isn (.v 8) (.c .non)) (.cons (.ex (.ext (.v 5) (.lc false (.tp [(.nm 9), (.nm 7), (.nm 10)]) (.e (.v 4)) (.some (.cmp .eq (.v 10) (.v 8))) (.tup (.cons (.c (.int 3)) (.cons (.v 6) (.cons (.v 9) .nil)))) [7, 9, 10]))) .nil) .nil) .nil)) (.cons (.ret (.v 5)) .nil))))))⟩
/-- next_node -/
def f_next_node : Fn := ⟨4, 9, (.cons (.unp (.tp [(.nm 4), (.nm 5), (.nm 6)]) (.v 2)) (.cons (.ite (.cmp .ne (.sub (.v 3) (.c (.int 0))) (.c (.int 2))) (.cons (.unp (.tp [(.nm 7), (.nm 8)]) (.call 16 0 (.cons (.v 0) (.cons (.v 4) (.cons (.sub (.v 3) (.c (.int 1))) .nil))))) (.cons (.set 5 (.call 129 2 (.cons (.v 0) (.cons (.v 1) (.cons (.v 5) (.cons (.call 116 0 (.cons (.v 0) (.cons (.v 1) (.cons (.v 4) (.cons (.sub (.v 3) (.c (.int 1))) (.cons (.v 8) (.cons (.v 7) .nil))))))) .nil)))))) (.cons (.set 4 (.v 7)) .nil))) .nil) (.cons (.ite (.cmp .ne (.sub (.v 3) (.c (.int 0))) (.c (.int 1))) (.cons (.set 6 (.sub (.call 16 0 (.cons (.v 0) (.cons (.v 6) (.cons (.sub (.v 3) (.neg (.c (.int 1)))) .nil)))) (.c (.int 0)))) .nil) .nil) (.cons (.ret (.tup (.cons (.v 4) (.cons (.v 5) (.cons (.v 6) .nil))))) .nil))))⟩
/-- is_bad -/
def f_is_bad : Fn := ⟨4, 7, (.cons (.unp (.tp [(.nm 4), (.nm 5), (.nm 6)]) (.v 3)) (.cons (.ite (.or (.cons (.not (.call 118 0 (.cons (.v 1) (.cons (.v 2) (.cons (.v 4) .nil))))) (.cons (.not (.call 118 0 (.cons (.v 1) (.cons (.v 2) (.cons (.v 6) .nil))))) .nil))) (.cons (.ret (.c (.bl false))) .nil) .nil) (.cons (.ite (.cmp .ne (.call 117 0 (.cons (.v 0) (.cons (.v 2) (.cons (.v 4) .nil)))) (.call 117 0 (.cons (.v 0) (.cons (.v 2) (.cons (.v 6) .nil))))) (.cons (.ret (.c (.bl false))) .nil) .nil) (.cons (.ret (.or (.cons (.cmp .nin (.v 6) (.v 5)) (.cons (.cmp .ne (.call 117 0 (.cons (.v 0) (.cons (.v 1) (.cons (.v 4) .nil)))) (.call 117 0 (.cons (.v 0) (.cons (.v 1) (.cons (.v 6) .nil))))) .nil)))) .nil))))⟩
/-- _law_bad -/
def f_law_bad : Fn := ⟨6, 6, (.cons (.ite (.or (.cons (.not (.call 123 0 (.cons (.v 1) (.cons (.v 2) (.cons (.v 3) .nil))))) (.cons (.not (.call 123 0 (.cons (.v 1) (.cons (.v 2) (.cons (.v 5) .nil))))) .nil))) (.cons (.ret (.c (.bl false))) .nil) .nil) (.cons (.ite (.cmp .ne (.call 122 0 (.cons (.v 0) (.cons (.v 2) (.cons (.v 3) .nil)))) (.call 122 0 (.cons (.v 0) (.cons (.v 2) (.cons (.v 5) .nil))))) (.cons (.ret (.c (.bl false))) .nil) .nil) (.cons (.ret (.or (.cons (.cmp .nin (.v 5) (.v 4)) (.cons (.cmp .ne (.call 122 0 (.cons (.v 0) (.cons (.v 1) (.cons (.v 3) .nil)))) (.call 122 0 (.cons (.v 0) (.cons (.v 1) (.cons (.v 5) .nil))))) .nil)))) .nil)))⟩
/-- _law_moves -/
def f_law_moves : Fn := ⟨4, 9, (.cons (.set 4 (.call 130 2 (.cons (.v 0) (.cons (.v 1) (.cons (.v 2) .nil))))) (.cons (.set 5 (.call 130 2 (.cons (.v 0) (.cons (.v 1) (.cons (.v 3) .nil))))) (.cons (.set 6 (.bin .add (.lc false (.nm 7) (.e (.v 4)) (.some (.cmp .is_ (.sub (.v 7) (.c (.int 2))) (.c .non))) (.tup (.cons (.c (.int 1)) (.cons (.sub (.v 7) (.c (.int 0))) .nil))) [7]) (.lc false (.nm 7) (.e (.v 5)) (.some (.cmp .is_ (.sub (.v 7) (.c (.int 2))) (.c .non))) (.tup (.cons (.c (.int 2)) (.cons (.sub (.v 7) (.c (.int 0))) .nil))) [7]))) (.cons (.for_ (.nm 7) (.e (.v 4)) (.cons (.ite (.cmp .isn (.sub (.v 7) (.c (.int 2))) (.c .non)) (.cons (.set 6 (.bin .add (.v 6) (.lc false (.nm 8) (.e (.v 5)) (.some (.cmp .eq (.sub (.v 8) (.c (.int 2))) (.sub (.v 7) (.c (.int 2))))) (.tup (.cons (.c (.int 3)) (.cons (.sub (.v 7) (.c (.int 0))) (.cons (.sub (.v 8) (.c (.int 0))) .nil)))) [8]))) .nil) .nil) .nil)) (.cons (.ret (.v 6)) .nil)))))⟩
/-- _law_move -/
def f_law_move : Fn := ⟨6, 8, (.cons (.ite (.cmp .ne (.sub (.v 5) (.c (.int 0))) (.c (.int 2))) (.cons (.unp (.tp [(.nm 6), (.nm 7)]) (.call 16 0 (.cons (.v 0) (.cons (.v 2) (.cons (.sub (.v 5) (.c (.int 1))) .nil))))) (.cons (.set 3 (.call 132 2 (.cons (.v 0) (.cons (.v 1) (.cons (.v 3) (.cons (.call 121 0 (.cons (.v 0) (.cons (.v 1) (.cons (.v 2) (.cons (.sub (.v 5) (.c (.int 1))) (.cons (.v 7) (.cons (.v 6) .nil))))))) .nil)))))) (.cons (.set 2 (.v 6)) .nil))) .nil) (.cons (.ite (.cmp .ne (.sub (.v 5) (.c (.int 0))) (.c (.int 1))) (.cons (.set 4 (.sub (.call 16 0 (.cons (.v 0) (.cons (.v 4) (.cons (.sub (.v 5) (.bin .sub (.b1 .len (.v 5)) (.c (.int 1)))) .nil)))) (.c (.int 0)))) .nil) .nil) (.cons (.ret (.tup (.cons (.v 2) (.cons (.v 3) (.cons (.v 4) .nil))))) .nil)))⟩
/-- law -/
def f_law_k22 : Fn := ⟨1, 13, (.cons (.set 1 (.call 55 0 (.cons (.v 0) .nil))) (.cons (.set 2 (.call 8 0 (.cons (.call 124 2 (.cons (.call 54 0 (.cons (.v 1) .nil)) .nil)) .nil))) (.cons (.set 3 (.call 119 0 (.cons (.v 1) .nil))) (.cons (.set 4 (.call 119 0 (.cons (.v 1) .nil))) (.cons (.set 5 (.call 9 0 (.cons (.v 2) .nil))) (.cons (.set 6 (.call 131 2 (.cons (.v 2) (.cons (.v 3) (.cons (.lst false (.cons (.v 5) .nil)) .nil))))) (.cons (.set 7 (.v 5)) (.cons (.set 8 (.call 134 0 (.cons (.v 2) (.cons (.v 3) .nil)))) (.cons (.for_ (.nm 9) (.rng .none (.c (.int 6))) (.cons (.ite (.cmp .ne (.v 8) (.tup (.cons (.v 5) (.cons (.b1 .tuple (.v 6)) (.cons (.v 7) .nil))))) (.cons (.ret (.c (.bl false))) .nil) .nil) (.cons (.set 10 (.call 137 0 (.cons (.v 2) (.cons (.v 3) (.cons (.v 4) (.cons (.v 8) .nil)))))) (.cons (.ite (.or (.cons (.not (.isi "bool" (.v 10))) (.cons (.cmp .ne (.v 10) (.call 138 0 (.cons (.v 2) (.cons (.v 3) (.cons (.v 4) (.cons (.v 5) (.cons (.v 6) (.cons (.v 7) .nil)))))))) .nil))) (.cons (.ret (.c (.bl false))) .nil) .nil) (.cons (.set 11 (.call 135 3 (.cons (.v 2) (.cons (.v 4) (.cons (.v 8) .nil))))) (.cons (.ite (.or (.cons (.not (.isi "list" (.v 11))) (.cons (.cmp .ne (.v 11) (.call 139 0 (.cons (.v 2) (.cons (.v 4) (.cons (.v 5) (.cons (.v 7) .nil)))))) .nil))) (.cons (.ret (.c (.bl false))) .nil) .nil) (.cons (.ex (.app (.v 11) (.tup (.cons (.c (.int 1)) (.cons (.tup (.cons (.c (.str "next")) .nil)) .nil))))) (.cons (.set 11 (.call 135 3 (.cons (.v 2) (.cons (.v 4) (.cons (.v 8) .nil))))) (.cons (.ite (.cmp .ne (.v 11) (.call 139 0 (.cons (.v 2) (.cons (.v 4) (.cons (.v 5) (.cons (.v 7) .nil)))))) (.cons (.ret (.c (.bl false))) .nil) .nil) (.cons (.ite (.cmp .eq (.b1 .len (.v 11)) (.c (.int 0))) (.cons .brk .nil) .nil) (.cons (.set 12 (.sub (.v 11) (.call 7 0 (.cons (.v 1) (.cons (.b1 .len (.v 11)) .nil))))) (.cons (.set 8 (.call 136 0 (.cons (.v 2) (.cons (.v 3) (.cons (.v 8) (.cons (.v 12) .nil)))))) (.cons (.unp (.tp [(.nm 5), (.nm 6), (.nm 7)]) (.call 140 0 (.cons (.v 2) (.cons (.v 3) (.cons (.v 5) (.cons (.v 6) (.cons (.v 7) (.cons (.v 12) .nil)))))))) .nil))))))))))))) (.cons (.ret (.cmp .eq (.v 8) (.tup (.cons (.v 5) (.cons (.b1 .tuple (.v 6)) (.cons (.v 7) .nil)))))) .nil))))))))))⟩
/-- require_observer -/
def f_require_observer : Fn := ⟨1, 3, (.cons (.unp (.tp [(.nm 1), (.nm 2)]) (.v 0)) (.cons (.ite (.or (.cons (.cmp .nin (.v 1) (.g 4)) (.cons (.not (.isi "bool" (.v 2))) .nil))) (.cons .never .nil) .nil) (.cons (.ite (.and (.cons (.v 2) (.cons (.cmp .in_ (.v 1) (.tup (.cons (.c (.str "glance")) (.cons (.c (.str "ask")) .nil)))) .nil))) (.cons .never .nil) .nil) .nil)))⟩
/-- followed -/
def f_followed : Fn := ⟨3, 10, (.cons (.set 3 (.call 9 0 (.cons (.v 0) .nil))) (.cons (.set 4 (.call 128 0 (.cons (.v 0) (.cons (.v 1) .nil)))) (.cons (.set 5 (.lst true .nil)) (.cons (.for_ (.nm 6) (.e (.v 2)) (.cons (.ite (.cmp .nin (.v 6) (.call 14 2 (.cons (.v 0) (.cons (.v 3) .nil)))) (.cons .never .nil) .nil) (.cons (.unp (.tp [(.nm 7), (.nm 8)]) (.call 16 0 (.cons (.v 0) (.cons (.v 3) (.cons (.v 6) .nil))))) (.cons (.set 9 (.call 116 0 (.cons (.v 0) (.cons (.v 1) (.cons (.v 3) (.cons (.v 6) (.cons (.v 8) (.cons (.v 7) .nil)))))))) (.cons (.set 4 (.call 129 2 (.cons (.v 0) (.cons (.v 1) (.cons (.v 4) (.cons (.v 9) .nil)))))) (.cons (.ite (.cmp .isn (.v 9) (.c .non)) (.cons (.ex (.app (.v 5) (.v 9))) .nil) .nil) (.cons (.set 3 (.v 7)) .nil))))))) (.cons (.ret (.tup (.cons (.v 3) (.cons (.v 4) (.cons (.v 5) .nil))))) .nil)))))⟩
/-- noticed -/
def f_noticed : Fn := ⟨3, 6, (.cons (.ex (.call 142 0 (.cons (.v 1) .nil))) (.cons (.unp (.tp [(.nm 3), (.nm 4), (.nm 5)]) (.call 143 2 (.cons (.v 0) (.cons (.v 1) (.cons (.v 2) .nil))))) (.cons (.ret (.tup (.cons (.v 5) (.cons (.call 117 0 (.cons (.v 0) (.cons (.v 1) (.cons (.v 3) .nil)))) .nil)))) .nil)))⟩
/-- possible -/
def f_possible : Fn := ⟨3, 8, (.cons (.ex (.call 142 0 (.cons (.v 1) .nil))) (.cons (.unp (.tp [(.nm 3), (.nm 4), (.nm 5)]) (.call 143 2 (.cons (.v 0) (.cons (.v 1) (.cons (.v 2) .nil))))) (.cons (.set 6 (.call 117 0 (.cons (.v 0) (.cons (.v 1) (.cons (.v 3) .nil))))) (.cons (.ret (.lc false (.nm 7) (.e (.v 4)) (.some (.cmp .eq (.call 117 0 (.cons (.v 0) (.cons (.v 1) (.cons (.v 7) .nil)))) (.v 6))) (.v 7) [7])) .nil))))⟩
/-- can_tell -/
def f_can_tell : Fn := ⟨4, 5, (.cons (.ret (.all (.nm 4) (.e (.call 145 0 (.cons (.v 0) (.cons (.v 1) (.cons (.v 2) .nil))))) (.cmp .in_ (.v 4) (.v 3)) [4])) .nil)⟩
/-- _law_run -/
def f_law_run : Fn := ⟨2, 6, (.cons (.set 2 (.call 9 0 (.cons (.v 0) .nil))) (.cons (.set 3 (.lst true .nil)) (.cons (.for_ (.nm 4) (.rng .none (.call 7 0 (.cons (.v 1) (.cons (.c (.int 9)) .nil)))) (.cons (.set 5 (.call 14 2 (.cons (.v 0) (.cons (.v 2) .nil)))) (.cons (.ex (.app (.v 3) (.sub (.v 5) (.call 7 0 (.cons (.v 1) (.cons (.b1 .len (.v 5)) .nil)))))) (.cons (.set 2 (.sub (.call 16 0 (.cons (.v 0) (.cons (.v 2) (.cons (.sub (.v 3) (.neg (.c (.int 1)))) .nil)))) (.c (.int 0)))) .nil)))) (.cons (.ret (.v 3)) .nil))))⟩
/-- _law_due -/
def f_law_due_148 : Fn := ⟨3, 12, (.cons (.set 3 (.call 9 0 (.cons (.v 0) .nil))) (.cons (.set 4 (.call 131 2 (.cons (.v 0) (.cons (.v 1) (.cons (.lst false (.cons (.v 3) .nil)) .nil))))) (.cons (.set 5 (.lst true .nil)) (.cons (.for_ (.nm 6) (.e (.v 2)) (.cons (.unp (.tp [(.nm 7), (.nm 8)]) (.call 16 0 (.cons (.v 0) (.cons (.v 3) (.cons (.v 6) .nil))))) (.cons (.set 9 (.call 121 0 (.cons (.v 0) (.cons (.v 1) (.cons (.v 3) (.cons (.v 6) (.cons (.v 8) (.cons (.v 7) .nil)))))))) (.cons (.set 4 (.call 132 2 (.cons (.v 0) (.cons (.v 1) (.cons (.v 4) (.cons (.v 9) .nil)))))) (.cons (.ite (.cmp .isn (.v 9) (.c .non)) (.cons (.ex (.app (.v 5) (.v 9))) .nil) .nil) (.cons (.set 3 (.v 7)) .nil)))))) (.cons (.set 10 (.call 122 0 (.cons (.v 0) (.cons (.v 1) (.cons (.v 3) .nil))))) (.cons (.ret (.tup (.cons (.v 5) (.cons (.v 10) (.cons (.lc false (.nm 11) (.e (.v 4)) (.some (.cmp .eq (.call 122 0 (.cons (.v 0) (.cons (.v 1) (.cons (.v 11) .nil)))) (.v 10))) (.v 11) [11]) .nil))))) .nil))))))⟩
/-- _law_refused -/
def f_law_refused : Fn := ⟨4, 5, (.cons (.try_ 0 0 (.cons (.ite (.cmp .eq (.v 3) (.c (.int 0))) (.cons (.ex (.call 144 0 (.cons (.v 0) (.cons (.v 1) (.cons (.v 2) .nil))))) .nil) (.cons (.ite (.cmp .eq (.v 3) (.c (.int 1))) (.cons (.ex (.call 145 0 (.cons (.v 0) (.cons (.v 1) (.cons (.v 2) .nil))))) .nil) (.cons (.ex (.call 146 0 (.cons (.v 0) (.cons (.v 1) (.cons (.v 2) (.cons (.lst false .nil) .nil)))))) .nil)) .nil)) .nil) .nil) (.cons (.ret (.c (.bl false))) .nil))⟩
/-- law -/
def f_law_k37 : Fn := ⟨1, 14, (.cons (.set 1 (.call 55 0 (.cons (.v 0) .nil))) (.cons (.set 2 (.call 8 0 (.cons (.call 124 2 (.cons (.call 54 0 (.cons (.v 1) .nil)) .nil)) .nil))) (.cons (.set 3 (.call 119 0 (.cons (.v 1) .nil))) (.cons (.set 4 (.call 147 0 (.cons (.v 2) (.cons (.v 1) .nil)))) (.cons (.unp (.tp [(.nm 5), (.nm 6), (.nm 7)]) (.call 148 2 (.cons (.v 2) (.cons (.v 3) (.cons (.v 4) .nil))))) (.cons (.set 8 (.b1 (.list false) (.v 4))) (.cons (.ite (.or (.cons (.cmp .ne (.call 144 0 (.cons (.v 2) (.cons (.v 3) (.cons (.v 8) .nil)))) (.tup (.cons (.v 5) (.cons (.v 6) .nil)))) (.cons (.cmp .ne (.call 145 0 (.cons (.v 2) (.cons (.v 3) (.cons (.v 8) .nil)))) (.v 7)) .nil))) (.cons (.ret (.c (.bl false))) .nil) .nil) (.cons (.set 9 (.call 145 0 (.cons (.v 2) (.cons (.v 3) (.cons (.v 8) .nil))))) (.cons (.ex (.app (.v 9) (.tup .nil))) (.cons (.set 10 (.sub (.call 144 0 (.cons (.v 2) (.cons (.v 3) (.cons (.v 8) .nil)))) (.c (.int 0)))) (.cons (.ex (.app (.v 10) (.tup .nil))) (.cons (.ite (.or (.cons (.cmp .ne (.call 144 0 (.cons (.v 2) (.cons (.v 3) (.cons (.v 8) .nil)))) (.tup (.cons (.v 5) (.cons (.v 6) .nil)))) (.cons (.cmp .ne (.call 145 0 (.cons (.v 2) (.cons (.v 3) (.cons (.v 8) .nil)))) (.v 7)) .nil))) (.cons (.ret (.c (.bl false))) .nil) .nil) (.cons (.set 11 (.lc false (.nm 12) (.e (.v 7)) (.some (.cmp .gt (.call 7 0 (.cons (.v 1) (.cons (.c (.int 4)) .nil))) (.c (.int 0)))) (.v 12) [12])) (.cons (.ite (.or (.cons (.cmp .ne (.call 146 0 (.cons (.v 2) (.cons (.v 3) (.cons (.v 8) (.cons (.v 11) .nil))))) (.cmp .eq (.v 11) (.v 7))) (.cons (.cmp .ne (.v 8) (.v 4)) .nil))) (.cons (.ret (.c (.bl false))) .nil) .nil) (.cons (.ite (.cmp .isn (.call 146 0 (.cons (.v 2) (.cons (.v 3) (.cons (.v 8) (.cons (.bin .add (.v 7) (.lst false (.cons (.call 9 0 (.cons (.v 2) .nil)) .nil))) .nil))))) (.c (.bl true))) (.cons (.ret (.c (.bl false))) .nil) .nil) (.cons (.ite (.cmp .gt (.call 7 0 (.cons (.v 1) (.cons (.c (.int 4)) .nil))) (.c (.int 0))) (.cons (.ret (.c (.bl true))) .nil) .nil) (.cons (.set 13 (.call 7 0 (.cons (.v 1) (.cons (.bin .add (.b1 .len (.v 4)) (.c (.int 1))) .nil)))) (.cons (.ret (.call 149 0 (.cons (.v 2) (.cons (.v 3) (.cons (.bin .add (.bin .add (.slc (.v 4) .none (.some (.v 13))) (.lst false (.cons (.tup (.cons (.c (.str "point")) (.cons (.c (.int 7)) .nil))) .nil))) (.slc (.v 4) (.some (.v 13)) .none)) (.cons (.call 7 0 (.cons (.v 1) (.cons (.c (.int 3)) .nil))) .nil)))))) .nil))))))))))))))))))⟩
/-- Search.histories -/
def m_Search_histories : Fn := ⟨2, 6, (.cons (.set 2 (.lst true .nil)) (.cons (.whl 1000000 (.cmp .isn (.v 1) (.c .non)) (.cons (.ex (.app (.v 2) (.sub (.v 1) (.c (.int 1))))) (.cons (.set 1 (.sub (.fld 2 (.v 0) "ways") (.sub (.v 1) (.c (.int 0))))) .nil))) (.cons (.set 3 (.lc false (.nm 4) (.e (.rev false (.v 2))) (.some (.cmp .ne (.sub (.v 4) (.c (.int 0))) (.c (.int 2)))) (.sub (.v 4) (.c (.int 1))) [4])) (.cons (.set 5 (.lc false (.nm 4) (.e (.rev false (.v 2))) (.some (.cmp .ne (.sub (.v 4) (.c (.int 0))) (.c (.int 1)))) (.sub (.v 4) (.neg (.c (.int 1)))) [4])) (.cons (.ret (.tup (.cons (.v 3) (.cons (.v 5) .nil)))) .nil)))))⟩
/-- Search.meet -/
def m_Search_meet : Fn := ⟨3, 3, (.cons (.ite (.cmp .in_ (.v 1) (.fld 2 (.v 0) "numbers")) (.cons (.ret (.dget (.fld 2 (.v 0) "numbers") (.v 1))) .nil) .nil) (.cons (.ite (.call 137 0 (.cons (.fld 2 (.v 0) "program") (.cons (.fld 2 (.v 0) "first") (.cons (.fld 2 (.v 0) "second") (.cons (.v 1) .nil))))) (.cons (.setf 2 (.v 0) "verdict" (.bin .add (.tup (.cons (.c (.str "does not")) .nil)) (.mt 2 151 2 (.v 0) "histories" (.cons (.v 2) .nil)))) (.cons (.ret (.neg (.c (.int 1)))) .nil)) .nil) (.cons (.ite (.cmp .ge (.b1 .len (.fld 2 (.v 0) "nodes")) (.fld 2 (.v 0) "limit")) (.cons (.setf 2 (.v 0) "verdict" (.tup (.cons (.c (.str "many")) .nil))) (.cons (.ret (.neg (.c (.int 1)))) .nil)) .nil) (.cons (.dput (.fld 2 (.v 0) "numbers") (.v 1) (.b1 .len (.fld 2 (.v 0) "nodes"))) (.cons (.ex (.app (.fld 2 (.v 0) "nodes") (.v 1))) (.cons (.ex (.app (.fld 2 (.v 0) "ways") (.v 2))) (.cons (.ret (.bin .sub (.b1 .len (.fld 2 (.v 0) "nodes")) (.c (.int 1)))) .nil)))))))⟩
/-- Search.expand -/
def m_Search_expand : Fn := ⟨2, 5, (.cons (.set 2 (.sub (.fld 2 (.v 0) "nodes") (.v 1))) (.cons (.set 3 (.lst true .nil)) (.cons (.for_ (.nm 4) (.e (.call 135 2 (.cons (.fld 2 (.v 0) "program") (.cons (.fld 2 (.v 0) "second") (.cons (.v 2) .nil))))) (.cons (.ex (.app (.v 3) (.mt 2 152 0 (.v 0) "meet" (.cons (.call 136 0 (.cons (.fld 2 (.v 0) "program") (.cons (.fld 2 (.v 0) "first") (.cons (.v 2) (.cons (.v 4) .nil))))) (.cons (.tup (.cons (.v 1) (.cons (.v 4) .nil))) .nil))))) (.cons (.ite (.cmp .isn (.fld 2 (.v 0) "verdict") (.c .non)) (.cons .retN .nil) .nil) .nil))) (.cons (.ex (.app (.fld 2 (.v 0) "targets") (.b1 .tuple (.v 3)))) .nil))))⟩
/-- Search.__init__ -/
def m_Search_init : Fn := ⟨5, 5, (.cons (.ex (.call 142 0 (.cons (.v 2) .nil))) (.cons (.ex (.call 142 0 (.cons (.v 3) .nil))) (.cons (.setf 2 (.v 0) "program" (.v 1)) (.cons (.setf 2 (.v 0) "first" (.v 2)) (.cons (.setf 2 (.v 0) "second" (.v 3)) (.cons (.setf 2 (.v 0) "limit" (.v 4)) (.cons (.setf 2 (.v 0) "nodes" (.lst false .nil)) (.cons (.setf 2 (.v 0) "numbers" .dnew) (.cons (.setf 2 (.v 0) "ways" (.lst false .nil)) (.cons (.setf 2 (.v 0) "targets" (.lst false .nil)) (.cons (.setf 2 (.v 0) "verdict" (.c .non)) (.cons (.ex (.mt 2 152 0 (.v 0) "meet" (.cons (.call 134 0 (.cons (.v 1) (.cons (.v 2) .nil))) (.cons (.c .non) .nil)))) (.cons (.whl 1000000 (.and (.cons (.cmp .is_ (.fld 2 (.v 0) "verdict") (.c .non)) (.cons (.cmp .lt (.b1 .len (.fld 2 (.v 0) "targets")) (.b1 .len (.fld 2 (.v 0) "nodes"))) .nil))) (.cons (.ex (.mt 2 153 0 (.v 0) "expand" (.cons (.b1 .len (.fld 2 (.v 0) "targets")) .nil))) .nil)) (.cons (.ite (.cmp .is_ (.fld 2 (.v 0) "verdict") (.c .non)) (.cons (.setf 2 (.v 0) "verdict" (.tup (.cons (.c (.str "tells")) (.cons (.b1 .len (.fld 2 (.v 0) "nodes")) .nil)))) .nil) .nil) .nil))))))))))))))⟩
/-- judge -/
def f_judge : Fn := ⟨4, 4, (.cons (.ret (.fld 2 (.new 2 154 2 (.cons (.v 0) (.cons (.v 1) (.cons (.v 2) (.cons (.v 3) .nil))))) "verdict")) .nil)⟩
/-- certificate (not yet) -/
def f_certificate : Fn := ⟨4, 7, .nil⟩
/-- is_right_row (not yet) -/
def f_is_right_row : Fn := ⟨4, 11, .nil⟩
/-- check -/
def f_check : Fn := ⟨4, 7, (.cons (.ex (.call 142 0 (.cons (.v 1) .nil))) (.cons (.ex (.call 142 0 (.cons (.v 2) .nil))) (.cons (.ite (.or (.cons (.not (.v 3)) (.cons (.cmp .ne (.slc (.sub (.v 3) (.c (.int 0))) .none (.some (.c (.int 3)))) (.call 134 0 (.cons (.v 0) (.cons (.v 1) .nil)))) .nil))) (.cons (.ret (.c (.bl false))) .nil) .nil) (.cons (.set 4 (.sn1 (.c (.int 0)))) (.cons (.for_ (.nm 5) (.rng .none (.b1 .len (.v 3))) (.cons (.ite (.or (.cons (.cmp .nin (.v 5) (.v 4)) (.cons (.not (.call 157 0 (.cons (.v 0) (.cons (.tup (.cons (.v 1) (.cons (.v 2) .nil))) (.cons (.v 3) (.cons (.v 5) .nil)))))) .nil))) (.cons (.ret (.c (.bl false))) .nil) .nil) (.cons (.for_ (.nm 6) (.e (.sub (.sub (.v 3) (.v 5)) (.c (.int 3)))) (.cons (.ex (.sadd (.v 4) (.v 6))) .nil)) .nil))) (.cons (.ret (.c (.bl true))) .nil))))))⟩
/-- _law_changes -/
def f_law_changes_159 : Fn := ⟨2, 4, (.cons (.set 2 (.lst true .nil)) (.cons (.for_ (.nm 3) (.rng .none (.bin .add (.c (.int 1)) (.b1 .int (.cmp .eq (.call 7 0 (.cons (.v 0) (.cons (.c (.int 3)) .nil))) (.c (.int 0)))))) (.cons (.ex (.app (.v 2) (.tup (.cons (.call 7 0 (.cons (.v 0) (.cons (.b1 .len (.v 1)) .nil))) (.cons (.bin .add (.c (.int 1)) (.call 7 0 (.cons (.v 0) (.cons (.c (.int 3)) .nil)))) .nil))))) .nil)) (.cons (.ret (.b1 .tuple (.v 2))) .nil)))⟩
/-- _law_part -/
def f_law_part_160 : Fn := ⟨2, 5, (.cons (.set 2 (.call 51 0 (.cons (.v 0) (.cons (.v 1) .nil)))) (.cons (.set 3 (.call 51 0 (.cons (.v 0) (.cons (.v 1) .nil)))) (.cons (.ite (.cmp .eq (.call 7 0 (.cons (.v 0) (.cons (.c (.int 3)) .nil))) (.c (.int 0))) (.cons (.set 3 (.v 2)) .nil) .nil) (.cons (.set 4 (.c .non)) (.cons (.ite (.cmp .gt (.call 7 0 (.cons (.v 0) (.cons (.c (.int 3)) .nil))) (.c (.int 0))) (.cons (.set 4 (.call 159 0 (.cons (.v 0) (.cons (.v 1) .nil)))) .nil) .nil) (.cons (.ret (.tup (.cons (.v 2) (.cons (.v 3) (.cons (.v 4) .nil))))) .nil))))))⟩
/-- _law_data -/
def f_law_data_161 : Fn := ⟨1, 7, (.cons (.set 1 (.sub (.lst false (.cons (.tup (.cons (.c (.int 2)) .nil)) (.cons (.tup (.cons (.c (.int 2)) .nil)) (.cons (.tup (.cons (.c (.int 3)) .nil)) (.cons (.tup (.cons (.c (.int 2)) (.cons (.c (.int 2)) .nil))) (.cons (.tup (.cons (.c (.int 2)) (.cons (.c (.int 3)) .nil))) (.cons (.tup (.cons (.c (.int 2)) (.cons (.c (.int 2)) (.cons (.c (.int 2)) .nil)))) .nil))))))) (.call 7 0 (.cons (.v 0) (.cons (.c (.int 6)) .nil))))) (.cons (.set 2 (.b1 .tuple (.lc false (.nm 3) (.rng .none (.sub (.lst false (.cons (.c (.int 1)) (.cons (.c (.int 1)) (.cons (.c (.int 2)) (.cons (.c (.int 2)) (.cons (.c (.int 3)) .nil)))))) (.call 7 0 (.cons (.v 0) (.cons (.c (.int 5)) .nil))))) .none (.call 160 0 (.cons (.v 0) (.cons (.v 1) .nil))) [3]))) (.cons (.set 4 (.b1 .tuple (.lc false (.nm 3) (.rng .none (.b1 .int (.cmp .eq (.call 7 0 (.cons (.v 0) (.cons (.c (.int 2)) .nil))) (.c (.int 0))))) .none (.call 159 0 (.cons (.v 0) (.cons (.v 1) .nil))) [3]))) (.cons (.set 5 (.b1 .tuple (.lc false (.nm 3) (.rng .none (.b1 .len (.v 2))) (.some (.cmp .gt (.call 7 0 (.cons (.v 0) (.cons (.c (.int 3)) .nil))) (.c (.int 0)))) (.v 3) [3]))) (.cons (.set 6 (.b1 .tuple (.lc false (.nm 3) (.rng .none (.b1 .len (.v 2))) (.some (.cmp .eq (.call 7 0 (.cons (.v 0) (.cons (.c (.int 5)) .nil))) (.c (.int 0)))) (.v 3) [3]))) (.cons (.ret (.dct false [.inr "sizes", .inr "parts", .inr "ticks", .inr "live", .inr "skips"] (.cons (.v 1) (.cons (.v 2) (.cons (.v 4) (.cons (.v 5) (.cons (.v 6) .nil))))))) .nil))))))⟩
/-- _law_cut -/
def f_law_cut_162 : Fn := ⟨1, 3, (.cons (.ite (.cmp .isn (.call 39 2 (.cons (.call 8 0 (.cons (.v 0) .nil)) (.cons (.c (.int 40)) .nil))) (.c .non)) (.cons (.ret (.v 0)) .nil) .nil) (.cons (.set 1 (.dcp (.v 0))) (.cons (.dput (.v 1) (.c (.str "parts")) (.slc (.dget (.v 0) (.c (.str "parts"))) .none (.some (.c (.int 1))))) (.cons (.dput (.v 1) (.c (.str "live")) (.b1 .tuple (.lc false (.nm 2) (.e (.dget (.v 0) (.c (.str "live")))) (.some (.cmp .eq (.v 2) (.c (.int 0)))) (.v 2) [2]))) (.cons (.dput (.v 1) (.c (.str "skips")) (.b1 .tuple (.lc false (.nm 2) (.e (.dget (.v 0) (.c (.str "skips")))) (.some (.cmp .eq (.v 2) (.c (.int 0)))) (.v 2) [2]))) (.cons (.ret (.v 1)) .nil))))))⟩
/-- _law_bad_pair -/
def f_law_bad_pair_163 : Fn := ⟨1, 2, (.cons (.set 1 (.lst false (.cons (.tup (.cons (.c (.str "glance")) (.cons (.c (.bl true)) .nil))) (.cons (.tup (.cons (.c (.str "ask")) (.cons (.c (.bl true)) .nil))) (.cons (.tup (.cons (.c (.str "look")) (.cons (.c (.bl false)) .nil))) (.cons (.tup (.cons (.c (.str "")) (.cons (.c (.bl true)) .nil))) (.cons (.tup (.cons (.c (.str "watch")) (.cons (.c (.int 1)) .nil))) (.cons (.tup (.cons (.c (.str "read")) (.cons (.c (.int 0)) .nil))) (.cons (.tup (.cons (.c (.str "listen")) (.cons (.c .non) .nil))) (.cons (.tup (.cons (.c (.str "Watch")) (.cons (.c (.bl false)) .nil))) (.cons (.tup (.cons (.c (.str "watch")) (.cons (.c (.str "True")) .nil))) (.cons (.tup (.cons (.c (.str "glance")) (.cons (.c (.int 0)) .nil))) (.cons (.tup (.cons (.c (.str "hear")) (.cons (.c (.bl true)) .nil))) (.cons (.tup (.cons (.c (.str "ask")) (.cons (.c .non) .nil))) .nil)))))))))))))) (.cons (.ret (.sub (.v 1) (.call 7 0 (.cons (.v 0) (.cons (.c (.int 12)) .nil))))) .nil))⟩
/-- _law_asked -/
def f_law_asked : Fn := ⟨4, 4, (.cons (.ite (.cmp .eq (.v 1) (.c (.int 0))) (.cons (.ret (.call 155 0 (.cons (.v 0) (.cons (.v 2) (.cons (.v 3) (.cons (.c (.int 3)) .nil)))))) .nil) .nil) (.cons (.ite (.cmp .eq (.v 1) (.c (.int 1))) (.cons (.ret (.call 156 0 (.cons (.v 0) (.cons (.v 2) (.cons (.v 3) (.cons (.c (.int 3)) .nil)))))) .nil) .nil) (.cons (.ret (.call 158 2 (.cons (.v 0) (.cons (.v 2) (.cons (.v 3) (.cons (.lst false .nil) .nil)))))) .nil)))⟩
/-- _law_known -/
def f_law_known : Fn := ⟨4, 4, (.cons (.ite (.cmp .eq (.v 1) (.c (.int 0))) (.cons (.ret (.call 144 0 (.cons (.v 0) (.cons (.v 2) (.cons (.v 3) .nil))))) .nil) .nil) (.cons (.ite (.cmp .eq (.v 1) (.c (.int 1))) (.cons (.ret (.call 145 0 (.cons (.v 0) (.cons (.v 2) (.cons (.v 3) .nil))))) .nil) .nil) (.cons (.ret (.call 146 0 (.cons (.v 0) (.cons (.v 2) (.cons (.v 3) (.cons (.lst false .nil) .nil)))))) .nil)))⟩
/-- _law_alone -/
def f_law_alone : Fn := ⟨4, 5, (.cons (.try_ 0 0 (.cons (.ex (.call 165 0 (.cons (.v 0) (.cons (.v 1) (.cons (.v 2) (.cons (.v 3) .nil)))))) .nil) .nil) (.cons (.ret (.tup (.cons (.c (.str "answered")) .nil))) .nil))⟩
/-- _law_refused -/
def f_law_refused_167 : Fn := ⟨4, 5, (.cons (.try_ 0 0 (.cons (.ex (.call 164 0 (.cons (.v 0) (.cons (.v 1) (.cons (.v 2) (.cons (.v 3) .nil)))))) .nil) .nil) (.cons (.ret (.tup (.cons (.c (.str "answered")) .nil))) .nil))⟩
/-- _law_due -/
def f_law_due_168 : Fn := ⟨1, 1, (.cons (.ret (.tup (.cons (.c (.str "refused")) (.cons (.sub (.v 0) (.c (.int 0))) (.cons (.sub (.v 0) (.c (.int 1))) (.cons (.isi "bool" (.sub (.v 0) (.c (.int 1)))) .nil)))))) .nil)⟩
/-- law -/
def f_law_k36 : Fn := ⟨1, 8, (.cons (.set 1 (.call 55 0 (.cons (.v 0) .nil))) (.cons (.set 2 (.call 8 0 (.cons (.call 162 2 (.cons (.call 161 0 (.cons (.v 1) .nil)) .nil)) .nil))) (.cons (.set 3 (.call 119 0 (.cons (.v 1) .nil))) (.cons (.set 4 (.call 119 0 (.cons (.v 1) .nil))) (.cons (.set 5 (.call 163 0 (.cons (.v 1) .nil))) (.cons (.set 6 (.call 163 0 (.cons (.v 1) .nil))) (.cons (.for_ (.nm 7) (.rng .none (.c (.int 3))) (.cons (.ite (.cmp .ne (.call 167 0 (.cons (.v 2) (.cons (.v 7) (.cons (.v 3) (.cons (.v 4) .nil))))) (.tup (.cons (.c (.str "answered")) .nil))) (.cons (.ret (.c (.bl false))) .nil) .nil) (.cons (.ite (.cmp .ne (.call 167 0 (.cons (.v 2) (.cons (.v 7) (.cons (.v 5) (.cons (.v 4) .nil))))) (.call 168 0 (.cons (.v 5) .nil))) (.cons (.ret (.c (.bl false))) .nil) .nil) (.cons (.ite (.cmp .ne (.call 167 0 (.cons (.v 2) (.cons (.v 7) (.cons (.v 3) (.cons (.v 6) .nil))))) (.call 168 0 (.cons (.v 6) .nil))) (.cons (.ret (.c (.bl false))) .nil) .nil) (.cons (.ite (.cmp .ne (.call 167 0 (.cons (.v 2) (.cons (.v 7) (.cons (.v 5) (.cons (.v 6) .nil))))) (.call 168 0 (.cons (.v 5) .nil))) (.cons (.ret (.c (.bl false))) .nil) .nil) (.cons (.ite (.cmp .ne (.call 166 0 (.cons (.v 2) (.cons (.v 7) (.cons (.v 5) (.cons (.lst false (.cons (.tup (.cons (.c (.str "point")) (.cons (.c (.int 7)) .nil))) .nil)) .nil))))) (.call 168 0 (.cons (.v 5) .nil))) (.cons (.ret (.c (.bl false))) .nil) .nil) (.cons (.ite (.cmp .ne (.call 166 0 (.cons (.v 2) (.cons (.v 7) (.cons (.v 5) (.cons (.lst false (.cons (.tup (.cons (.c (.str "next")) .nil)) .nil)) .nil))))) (.call 168 0 (.cons (.v 5) .nil))) (.cons (.ret (.c (.bl false))) .nil) .nil) (.cons (.ite (.cmp .ne (.call 166 0 (.cons (.v 2) (.cons (.v 7) (.cons (.v 3) (.cons (.lst false (.cons (.tup (.cons (.c (.str "next")) .nil)) (.cons (.tup (.cons (.c (.str "point")) (.cons (.c (.int 7)) .nil))) (.cons (.tup (.cons (.c (.str "jump")) .nil)) .nil)))) .nil))))) (.tup (.cons (.c (.str "not allowed")) (.cons (.tup (.cons (.c (.str "point")) (.cons (.c (.int 7)) .nil))) .nil)))) (.cons (.ret (.c (.bl false))) .nil) .nil) (.cons (.ite (.cmp .ne (.call 166 0 (.cons (.v 2) (.cons (.v 7) (.cons (.v 4) (.cons (.lst false (.cons (.tup (.cons (.c (.str "next")) .nil)) .nil)) .nil))))) (.tup (.cons (.c (.str "answered")) .nil))) (.cons (.ret (.c (.bl false))) .nil) .nil) .nil))))))))) (.cons (.ret (.c (.bl true))) .nil))))))))⟩
/-- _law_way -/
def f_law_way : Fn := ⟨5, 10, (.cons (.set 5 (.call 9 0 (.cons (.v 0) .nil))) (.cons (.set 6 (.call 131 2 (.cons (.v 0) (.cons (.v 1) (.cons (.lst false (.cons (.v 5) .nil)) .nil))))) (.cons (.set 7 (.v 5)) (.cons (.for_ (.nm 8) (.rng .none (.v 4)) (.cons (.ite (.call 138 0 (.cons (.v 0) (.cons (.v 1) (.cons (.v 2) (.cons (.v 5) (.cons (.v 6) (.cons (.v 7) .nil))))))) (.cons (.ret (.v 8)) .nil) .nil) (.cons (.set 9 (.call 139 0 (.cons (.v 0) (.cons (.v 2) (.cons (.v 5) (.cons (.v 7) .nil)))))) (.cons (.ite (.cmp .eq (.b1 .len (.v 9)) (.c (.int 0))) (.cons (.ret (.neg (.c (.int 1)))) .nil) .nil) (.cons (.unp (.tp [(.nm 5), (.nm 6), (.nm 7)]) (.call 140 0 (.cons (.v 0) (.cons (.v 1) (.cons (.v 5) (.cons (.v 6) (.cons (.v 7) (.cons (.sub (.v 9) (.call 7 0 (.cons (.v 3) (.cons (.b1 .len (.v 9)) .nil)))) .nil)))))))) .nil))))) (.cons (.ret (.ife (.call 138 0 (.cons (.v 0) (.cons (.v 1) (.cons (.v 2) (.cons (.v 5) (.cons (.v 6) (.cons (.v 7) .nil))))))) (.v 4) (.neg (.c (.int 1))))) .nil)))))⟩
/-- _law_signs -/
def f_law_signs : Fn := ⟨3, 9, (.cons (.set 3 (.call 9 0 (.cons (.v 0) .nil))) (.cons (.set 4 (.lst true .nil)) (.cons (.for_ (.nm 5) (.e (.v 2)) (.cons (.ite (.cmp .nin (.v 5) (.call 14 2 (.cons (.v 0) (.cons (.v 3) .nil)))) (.cons (.ret (.c .non)) .nil) .nil) (.cons (.unp (.tp [(.nm 6), (.nm 7)]) (.call 16 0 (.cons (.v 0) (.cons (.v 3) (.cons (.v 5) .nil))))) (.cons (.set 8 (.call 121 0 (.cons (.v 0) (.cons (.v 1) (.cons (.v 3) (.cons (.v 5) (.cons (.v 7) (.cons (.v 6) .nil)))))))) (.cons (.ite (.cmp .isn (.v 8) (.c .non)) (.cons (.ex (.app (.v 4) (.v 8))) .nil) .nil) (.cons (.set 3 (.v 6)) .nil)))))) (.cons (.ret (.tup (.cons (.v 4) (.cons (.v 3) .nil)))) .nil))))⟩
/-- law -/
def f_law_k23 : Fn := ⟨1, 9, (.cons (.set 1 (.call 55 0 (.cons (.v 0) .nil))) (.cons (.set 2 (.call 8 0 (.cons (.call 124 2 (.cons (.call 54 0 (.cons (.v 1) .nil)) .nil)) .nil))) (.cons (.set 3 (.call 119 0 (.cons (.v 1) .nil))) (.cons (.set 4 (.call 119 0 (.cons (.v 1) .nil))) (.cons (.set 5 (.bin .add (.c (.int 1)) (.call 7 0 (.cons (.v 1) (.cons (.c (.int 24)) .nil))))) (.cons (.set 6 (.call 155 0 (.cons (.v 2) (.cons (.v 3) (.cons (.v 4) (.cons (.v 5) .nil)))))) (.cons (.set 7 (.call 170 0 (.cons (.v 2) (.cons (.v 3) (.cons (.v 4) (.cons (.v 1) (.cons (.c (.int 24)) .nil))))))) (.cons (.ite (.cmp .eq (.sub (.v 6) (.c (.int 0))) (.c (.str "tells"))) (.cons (.ret (.and (.cons (.cmp .eq (.v 7) (.neg (.c (.int 1)))) (.cons (.chain .le .le (.c (.int 1)) (.sub (.v 6) (.c (.int 1))) (.v 5)) .nil)))) .nil) .nil) (.cons (.ite (.and (.cons (.cmp .eq (.sub (.v 6) (.c (.int 0))) (.c (.str "does not"))) (.cons (.cmp .ge (.v 7) (.c (.int 0))) .nil))) (.cons (.set 8 (.call 171 2 (.cons (.v 2) (.cons (.v 4) (.cons (.sub (.v 6) (.c (.int 1))) .nil))))) (.cons (.ret (.and (.cons (.cmp .isn (.v 8) (.c .non)) (.cons (.cmp .le (.bin .sub (.bin .add (.b1 .len (.sub (.v 6) (.c (.int 1)))) (.b1 .len (.sub (.v 6) (.c (.int 2))))) (.b1 .len (.sub (.v 8) (.c (.int 0))))) (.v 7)) .nil)))) .nil)) .nil) (.cons (.ret (.cmp .in_ (.sub (.v 6) (.c (.int 0))) (.tup (.cons (.c (.str "does not")) (.cons (.c (.str "many")) .nil))))) .nil))))))))))⟩
/-- _law_held_behind -/
def f_law_held_behind : Fn := ⟨3, 8, (.cons (.set 3 (.call 9 0 (.cons (.v 0) .nil))) (.cons (.set 4 (.call 131 2 (.cons (.v 0) (.cons (.v 1) (.cons (.lst false (.cons (.v 3) .nil)) .nil))))) (.cons (.for_ (.nm 5) (.e (.v 2)) (.cons (.unp (.tp [(.nm 6), (.nm 7)]) (.call 16 0 (.cons (.v 0) (.cons (.v 3) (.cons (.v 5) .nil))))) (.cons (.set 4 (.call 132 2 (.cons (.v 0) (.cons (.v 1) (.cons (.v 4) (.cons (.call 121 0 (.cons (.v 0) (.cons (.v 1) (.cons (.v 3) (.cons (.v 5) (.cons (.v 7) (.cons (.v 6) .nil))))))) .nil)))))) (.cons (.set 3 (.v 6)) .nil)))) (.cons (.ret (.v 4)) .nil))))⟩
/-- _law_shows -/
def f_law_shows : Fn := ⟨5, 7, (.cons (.set 5 (.call 171 2 (.cons (.v 0) (.cons (.v 2) (.cons (.v 3) .nil))))) (.cons (.set 6 (.call 171 2 (.cons (.v 0) (.cons (.v 2) (.cons (.v 4) .nil))))) (.cons (.ite (.or (.cons (.cmp .is_ (.v 5) (.c .non)) (.cons (.cmp .is_ (.v 6) (.c .non)) (.cons (.cmp .ne (.sub (.v 5) (.c (.int 0))) (.sub (.v 6) (.c (.int 0)))) .nil)))) (.cons (.ret (.c (.bl false))) .nil) .nil) (.cons (.ret (.call 138 0 (.cons (.v 0) (.cons (.v 1) (.cons (.v 2) (.cons (.sub (.v 5) (.c (.int 1))) (.cons (.call 173 0 (.cons (.v 0) (.cons (.v 1) (.cons (.v 3) .nil)))) (.cons (.sub (.v 6) (.c (.int 1))) .nil)))))))) .nil))))⟩
/-- law -/
def f_law_k24 : Fn := ⟨1, 11, (.cons (.set 1 (.call 55 0 (.cons (.v 0) .nil))) (.cons (.set 2 (.call 8 0 (.cons (.call 124 2 (.cons (.call 54 0 (.cons (.v 1) .nil)) .nil)) .nil))) (.cons (.set 3 (.call 119 0 (.cons (.v 1) .nil))) (.cons (.set 4 (.call 119 0 (.cons (.v 1) .nil))) (.cons (.set 5 (.bin .add (.c (.int 1)) (.call 7 0 (.cons (.v 1) (.cons (.c (.int 24)) .nil))))) (.cons (.set 6 (.call 155 0 (.cons (.v 2) (.cons (.v 3) (.cons (.v 4) (.cons (.v 5) .nil)))))) (.cons (.ite (.cmp .ne (.sub (.v 6) (.c (.int 0))) (.c (.str "does not"))) (.cons (.ret (.cmp .in_ (.sub (.v 6) (.c (.int 0))) (.tup (.cons (.c (.str "tells")) (.cons (.c (.str "many")) .nil))))) .nil) .nil) (.cons (.unp (.tp [(.nm 7), (.nm 8)]) (.slc (.v 6) (.some (.c (.int 1))) .none)) (.cons (.ite (.or (.cons (.not (.isi "list" (.v 7))) (.cons (.not (.isi "list" (.v 8))) (.cons (.not (.call 174 0 (.cons (.v 2) (.cons (.v 3) (.cons (.v 4) (.cons (.v 7) (.cons (.v 8) .nil))))))) .nil)))) (.cons (.ret (.c (.bl false))) .nil) .nil) (.cons (.set 9 (.tup (.cons (.c (.str "does not")) (.cons (.b1 (.list false) (.v 7)) (.cons (.b1 (.list false) (.v 8)) .nil))))) (.cons (.ex (.app (.v 7) (.tup (.cons (.c (.str "next")) .nil)))) (.cons (.ex (.app (.v 8) (.tup (.cons (.c (.str "next")) .nil)))) (.cons (.ite (.cmp .ne (.call 155 0 (.cons (.v 2) (.cons (.v 3) (.cons (.v 4) (.cons (.v 5) .nil))))) (.v 9)) (.cons (.ret (.c (.bl false))) .nil) .nil) (.cons (.set 7 (.sub (.v 9) (.c (.int 1)))) (.cons (.set 8 (.sub (.v 9) (.c (.int 2)))) (.cons (.set 10 (.bin .sub (.bin .add (.b1 .len (.v 7)) (.b1 .len (.v 8))) (.b1 .len (.sub (.call 171 2 (.cons (.v 2) (.cons (.v 4) (.cons (.v 7) .nil)))) (.c (.int 0)))))) (.cons (.ret (.and (.cons (.cmp .gt (.v 10) (.c (.int 0))) (.cons (.cmp .eq (.call 170 0 (.cons (.v 2) (.cons (.v 3) (.cons (.v 4) (.cons (.v 1) (.cons (.mm false (.c (.int 24)) (.bin .sub (.v 10) (.c (.int 1)))) .nil)))))) (.neg (.c (.int 1)))) .nil)))) .nil)))))))))))))))))⟩
/-- _law_along -/
def f_law_along : Fn := ⟨5, 12, (.cons (.set 5 (.call 9 0 (.cons (.v 0) .nil))) (.cons (.set 6 (.call 131 2 (.cons (.v 0) (.cons (.v 1) (.cons (.lst false (.cons (.v 5) .nil)) .nil))))) (.cons (.set 7 (.v 5)) (.cons (.set 8 (.c (.int 0))) (.cons (.for_ (.nm 9) (.rng .none (.c (.int 20))) (.cons (.ite (.or (.cons (.cmp .ne (.slc (.sub (.v 3) (.v 8)) .none (.some (.c (.int 3)))) (.tup (.cons (.v 5) (.cons (.b1 .tuple (.v 6)) (.cons (.v 7) .nil))))) (.cons (.call 138 0 (.cons (.v 0) (.cons (.v 1) (.cons (.v 2) (.cons (.v 5) (.cons (.v 6) (.cons (.v 7) .nil))))))) .nil))) (.cons (.ret (.c (.bl false))) .nil) .nil) (.cons (.set 10 (.call 139 0 (.cons (.v 0) (.cons (.v 2) (.cons (.v 5) (.cons (.v 7) .nil)))))) (.cons (.ite (.cmp .ne (.b1 .len (.sub (.sub (.v 3) (.v 8)) (.c (.int 3)))) (.b1 .len (.v 10))) (.cons (.ret (.c (.bl false))) .nil) .nil) (.cons (.ite (.cmp .eq (.b1 .len (.v 10)) (.c (.int 0))) (.cons .brk .nil) .nil) (.cons (.set 11 (.call 7 0 (.cons (.v 4) (.cons (.b1 .len (.v 10)) .nil)))) (.cons (.unp (.tp [(.nm 5), (.nm 6), (.nm 7)]) (.call 140 0 (.cons (.v 0) (.cons (.v 1) (.cons (.v 5) (.cons (.v 6) (.cons (.v 7) (.cons (.sub (.v 10) (.v 11)) .nil)))))))) (.cons (.set 8 (.sub (.sub (.sub (.v 3) (.v 8)) (.c (.int 3))) (.v 11))) (.cons (.ite (.not (.chain .le .lt (.c (.int 0)) (.v 8) (.b1 .len (.v 3)))) (.cons (.ret (.c (.bl false))) .nil) .nil) .nil))))))))) (.cons (.ret (.c (.bl true))) .nil))))))⟩
/-- law -/
def f_law_k25 : Fn := ⟨1, 11, (.cons (.set 1 (.call 55 0 (.cons (.v 0) .nil))) (.cons (.set 2 (.call 8 0 (.cons (.call 124 2 (.cons (.call 54 0 (.cons (.v 1) .nil)) .nil)) .nil))) (.cons (.set 3 (.call 119 0 (.cons (.v 1) .nil))) (.cons (.set 4 (.call 119 0 (.cons (.v 1) .nil))) (.cons (.set 5 (.bin .add (.c (.int 1)) (.call 7 0 (.cons (.v 1) (.cons (.c (.int 16)) .nil))))) (.cons (.ite (.cmp .eq (.call 7 0 (.cons (.v 1) (.cons (.c (.int 6)) .nil))) (.c (.int 0))) (.cons (.set 5 (.bin .add (.c (.int 17)) (.call 7 0 (.cons (.v 1) (.cons (.c (.int 50)) .nil))))) .nil) .nil) (.cons (.set 6 (.call 155 0 (.cons (.v 2) (.cons (.v 3) (.cons (.v 4) (.cons (.v 5) .nil)))))) (.cons (.set 7 (.call 156 0 (.cons (.v 2) (.cons (.v 3) (.cons (.v 4) (.cons (.v 5) .nil)))))) (.cons (.ite (.cmp .ne (.sub (.v 6) (.c (.int 0))) (.c (.str "tells"))) (.cons (.ret (.cmp .is_ (.v 7) (.c .non))) .nil) .nil) (.cons (.ite (.or (.cons (.not (.isi "list" (.v 7))) (.cons (.cmp .ne (.b1 .len (.v 7)) (.sub (.v 6) (.c (.int 1)))) .nil))) (.cons (.ret (.c (.bl false))) .nil) .nil) (.cons (.set 8 .dnew) (.cons (.for_ (.nm 9) (.e (.v 7)) (.cons (.dput (.v 8) (.slc (.v 9) .none (.some (.c (.int 3)))) (.c (.bl true))) .nil)) (.cons (.ite (.or (.cons (.cmp .ne (.b1 .len (.v 8)) (.b1 .len (.v 7))) (.cons (.cmp .isn (.call 158 2 (.cons (.v 2) (.cons (.v 3) (.cons (.v 4) (.cons (.v 7) .nil))))) (.c (.bl true))) .nil))) (.cons (.ret (.c (.bl false))) .nil) .nil) (.cons (.set 10 (.b1 (.list false) (.v 7))) (.cons (.ex (.app (.v 7) (.sub (.v 7) (.c (.int 0))))) (.cons (.ite (.cmp .ne (.call 156 0 (.cons (.v 2) (.cons (.v 3) (.cons (.v 4) (.cons (.v 5) .nil))))) (.v 10)) (.cons (.ret (.c (.bl false))) .nil) .nil) (.cons (.ret (.call 176 0 (.cons (.v 2) (.cons (.v 3) (.cons (.v 4) (.cons (.v 10) (.cons (.v 1) .nil))))))) .nil)))))))))))))))))⟩
/-- _law_row -/
def f_law_row : Fn := ⟨3, 10, (.cons (.unp (.tp [(.nm 3), (.nm 4), (.nm 5), (.nm 6)]) (.v 1)) (.cons (.set 7 (.call 7 0 (.cons (.v 0) (.cons (.c (.int 4)) .nil)))) (.cons (.ite (.cmp .eq (.v 7) (.c (.int 0))) (.cons (.ret (.tup (.cons (.v 3) (.cons (.slc (.v 4) (.some (.c (.int 1))) .none) (.cons (.v 5) (.cons (.v 6) .nil)))))) .nil) .nil) (.cons (.ite (.cmp .eq (.v 7) (.c (.int 1))) (.cons (.set 8 (.tup (.cons (.sub (.v 3) (.c (.int 0))) (.cons (.sub (.v 3) (.c (.int 1))) (.cons (.tup (.cons (.tup (.cons (.c (.int 0)) (.cons (.c (.int 9)) .nil))) .nil)) .nil))))) (.cons (.ret (.tup (.cons (.v 3) (.cons (.b1 .tuple (.srt false (.bin .add (.b1 (.list false) (.v 4)) (.lst false (.cons (.v 8) .nil))))) (.cons (.v 5) (.cons (.v 6) .nil)))))) .nil)) .nil) (.cons (.ite (.or (.cons (.cmp .eq (.v 7) (.c (.int 2))) (.cons (.cmp .eq (.b1 .len (.v 6)) (.c (.int 0))) .nil))) (.cons (.ret (.tup (.cons (.v 3) (.cons (.v 4) (.cons (.v 3) (.cons (.v 6) .nil)))))) .nil) .nil) (.cons (.set 9 (.call 7 0 (.cons (.v 0) (.cons (.b1 .len (.v 6)) .nil)))) (.cons (.ret (.tup (.cons (.v 3) (.cons (.v 4) (.cons (.v 5) (.cons (.bin .add (.bin .add (.slc (.v 6) .none (.some (.v 9))) (.tup (.cons (.bin .sub (.call 7 0 (.cons (.v 0) (.cons (.bin .add (.v 2) (.c (.int 2))) .nil))) (.c (.int 1))) .nil))) (.slc (.v 6) (.some (.bin .add (.v 9) (.c (.int 1)))) .none)) .nil)))))) .nil)))))))⟩
/-- _law_spoiled -/
def f_law_spoiled_179 : Fn := ⟨2, 6, (.cons (.set 2 (.call 7 0 (.cons (.v 0) (.cons (.c (.int 6)) .nil)))) (.cons (.ite (.cmp .eq (.v 2) (.c (.int 0))) (.cons (.ret (.b1 (.list false) (.v 1))) .nil) .nil) (.cons (.set 3 (.call 7 0 (.cons (.v 0) (.cons (.b1 .len (.v 1)) .nil)))) (.cons (.ite (.cmp .eq (.v 2) (.c (.int 1))) (.cons (.ret (.bin .add (.slc (.v 1) .none (.some (.v 3))) (.slc (.v 1) (.some (.bin .add (.v 3) (.c (.int 1)))) .none))) .nil) .nil) (.cons (.ite (.cmp .eq (.v 2) (.c (.int 2))) (.cons (.ret (.bin .add (.bin .add (.slc (.v 1) .none (.some (.v 3))) (.lst false (.cons (.sub (.v 1) (.v 3)) .nil))) (.slc (.v 1) (.some (.v 3)) .none))) .nil) .nil) (.cons (.ite (.cmp .eq (.v 2) (.c (.int 3))) (.cons (.set 4 (.call 7 0 (.cons (.v 0) (.cons (.b1 .len (.v 1)) .nil)))) (.cons (.set 5 (.b1 (.list true) (.v 1))) (.cons (.seti (.v 5) (.v 3) (.sub (.v 1) (.v 4))) (.cons (.seti (.v 5) (.v 4) (.sub (.v 1) (.v 3))) (.cons (.ret (.v 5)) .nil))))) .nil) (.cons (.ite (.cmp .eq (.v 2) (.c (.int 4))) (.cons (.ret (.slc (.v 1) .none (.some (.v 3)))) .nil) .nil) (.cons (.ret (.bin .add (.bin .add (.slc (.v 1) .none (.some (.v 3))) (.lst false (.cons (.call 178 0 (.cons (.v 0) (.cons (.sub (.v 1) (.v 3)) (.cons (.b1 .len (.v 1)) .nil)))) .nil))) (.slc (.v 1) (.some (.bin .add (.v 3) (.c (.int 1)))) .none))) .nil))))))))⟩
/-- _law_other -/
def f_law_other_180 : Fn := ⟨2, 5, (.cons (.set 2 (.b1 (.list true) (.dget (.v 1) (.c (.str "parts"))))) (.cons (.set 3 (.call 7 0 (.cons (.v 0) (.cons (.b1 .len (.v 2)) .nil)))) (.cons (.seti (.v 2) (.v 3) (.call 53 0 (.cons (.v 0) (.cons (.dget (.v 1) (.c (.str "sizes"))) .nil)))) (.cons (.set 4 (.dcp (.v 1))) (.cons (.dput (.v 4) (.c (.str "parts")) (.b1 .tuple (.v 2))) (.cons (.ret (.v 4)) .nil))))))⟩
/-- law -/
def f_law_k26 : Fn := ⟨1, 10, (.cons (.set 1 (.call 55 0 (.cons (.v 0) .nil))) (.cons (.set 2 (.call 124 2 (.cons (.call 54 0 (.cons (.v 1) .nil)) .nil))) (.cons (.set 3 (.call 8 0 (.cons (.v 2) .nil))) (.cons (.set 4 (.call 119 0 (.cons (.v 1) .nil))) (.cons (.set 5 (.call 119 0 (.cons (.v 1) .nil))) (.cons (.set 6 (.call 156 0 (.cons (.v 3) (.cons (.v 4) (.cons (.v 5) (.cons (.bin .add (.c (.int 1)) (.call 7 0 (.cons (.v 1) (.cons (.c (.int 16)) .nil)))) .nil)))))) (.cons (.ite (.cmp .isn (.call 158 2 (.cons (.v 3) (.cons (.v 4) (.cons (.v 5) (.cons (.lst false .nil) .nil))))) (.c (.bl false))) (.cons (.ret (.c (.bl false))) .nil) .nil) (.cons (.ite (.cmp .is_ (.v 6) (.c .non)) (.cons (.ret (.c (.bl true))) .nil) .nil) (.cons (.ite (.cmp .eq (.call 7 0 (.cons (.v 1) (.cons (.c (.int 3)) .nil))) (.c (.int 0))) (.cons (.set 3 (.call 8 0 (.cons (.call 180 0 (.cons (.v 1) (.cons (.v 2) .nil))) .nil))) .nil) .nil) (.cons (.ite (.cmp .eq (.call 7 0 (.cons (.v 1) (.cons (.c (.int 3)) .nil))) (.c (.int 0))) (.cons (.set 5 (.call 119 0 (.cons (.v 1) .nil))) .nil) .nil) (.cons (.set 7 (.call 179 0 (.cons (.v 1) (.cons (.v 6) .nil)))) (.cons (.set 8 (.b1 (.list false) (.v 7))) (.cons (.set 9 (.call 158 2 (.cons (.v 3) (.cons (.v 4) (.cons (.v 5) (.cons (.v 8) .nil)))))) (.cons (.ite (.or (.cons (.not (.isi "bool" (.v 9))) (.cons (.cmp .ne (.v 8) (.v 7)) .nil))) (.cons (.ret (.c (.bl false))) .nil) .nil) (.cons (.ret (.or (.cons (.not (.v 9)) (.cons (.call 176 0 (.cons (.v 3) (.cons (.v 4) (.cons (.v 5) (.cons (.v 7) (.cons (.v 1) .nil)))))) .nil)))) .nil)))))))))))))))⟩
/-- law -/
def f_law_k27 : Fn := ⟨1, 7, (.cons (.set 1 (.call 55 0 (.cons (.v 0) .nil))) (.cons (.set 2 (.call 8 0 (.cons (.call 124 2 (.cons (.call 54 0 (.cons (.v 1) .nil)) .nil)) .nil))) (.cons (.set 3 (.call 119 0 (.cons (.v 1) .nil))) (.cons (.set 4 (.v 3)) (.cons (.set 5 (.call 7 0 (.cons (.v 1) (.cons (.c (.int 4)) .nil)))) (.cons (.ite (.cmp .eq (.v 5) (.c (.int 1))) (.cons (.set 3 (.tup (.cons (.c (.str "glance")) (.cons (.c (.bl false)) .nil)))) (.cons (.set 4 (.tup (.cons (.c (.str "watch")) (.cons (.cmp .eq (.call 7 0 (.cons (.v 1) (.cons (.c (.int 2)) .nil))) (.c (.int 0))) .nil)))) .nil)) .nil) (.cons (.ite (.cmp .eq (.v 5) (.c (.int 2))) (.cons (.set 3 (.tup (.cons (.c (.str "ask")) (.cons (.c (.bl false)) .nil)))) (.cons (.set 4 (.tup (.cons (.c (.str "read")) (.cons (.cmp .eq (.call 7 0 (.cons (.v 1) (.cons (.c (.int 2)) .nil))) (.c (.int 0))) .nil)))) .nil)) .nil) (.cons (.ite (.cmp .eq (.v 5) (.c (.int 3))) (.cons (.set 6 (.sub (.lst false (.cons (.c (.str "watch")) (.cons (.c (.str "read")) (.cons (.c (.str "listen")) .nil)))) (.call 7 0 (.cons (.v 1) (.cons (.c (.int 3)) .nil))))) (.cons (.set 3 (.tup (.cons (.v 6) (.cons (.c (.bl false)) .nil)))) (.cons (.set 4 (.tup (.cons (.v 6) (.cons (.c (.bl true)) .nil)))) .nil))) .nil) (.cons (.ret (.cmp .in_ (.sub (.call 155 0 (.cons (.v 2) (.cons (.v 3) (.cons (.v 4) (.cons (.bin .add (.c (.int 1)) (.call 7 0 (.cons (.v 1) (.cons (.c (.int 30)) .nil)))) .nil))))) (.c (.int 0))) (.tup (.cons (.c (.str "tells")) (.cons (.c (.str "many")) .nil))))) .nil)))))))))⟩
structure P_is_number (fs : List Fn) : Prop where
  here : fs[0]? = some f_is_number
structure P_are_numbers (fs : List Fn) : Prop where
  here : fs[1]? = some f_are_numbers
  is_number : P_is_number fs
structure P_is_table (fs : List Fn) : Prop where
  here : fs[2]? = some f_is_table
  is_number : P_is_number fs
  are_numbers : P_are_numbers fs
structure P_are_changes (fs : List Fn) : Prop where
  here : fs[3]? = some f_are_changes
  is_number : P_is_number fs
structure P_are_parts (fs : List Fn) : Prop where
  here : fs[4]? = some f_are_parts
  is_table : P_is_table fs
  are_changes : P_are_changes fs
structure P_are_indexes (fs : List Fn) : Prop where
  here : fs[5]? = some f_are_indexes
  is_number : P_is_number fs
structure P_Program_init (fs : List Fn) : Prop where
  here : fs[6]? = some m_Program_init
  are_numbers : P_are_numbers fs
  are_parts : P_are_parts fs
  are_changes : P_are_changes fs
  are_indexes : P_are_indexes fs
structure P_law_next (fs : List Fn) : Prop where
  here : fs[7]? = some f_law_next
structure P_law_made (fs : List Fn) : Prop where
  here : fs[8]? = some f_law_made
  Program_init : P_Program_init fs
structure P_start (fs : List Fn) : Prop where
  here : fs[9]? = some f_start
structure P_words (fs : List Fn) : Prop where
  here : fs[10]? = some f_words
structure P_put (fs : List Fn) : Prop where
  here : fs[11]? = some f_put
structure P_changed (fs : List Fn) : Prop where
  here : fs[12]? = some f_changed
structure P_next_focus (fs : List Fn) : Prop where
  here : fs[13]? = some f_next_focus
structure P_acts (fs : List Fn) : Prop where
  here : fs[14]? = some f_acts
structure P_changes_of (fs : List Fn) : Prop where
  here : fs[15]? = some f_changes_of
structure P_after (fs : List Fn) : Prop where
  here : fs[16]? = some f_after
  acts : P_acts fs
  next_focus : P_next_focus fs
  put : P_put fs
  words : P_words fs
  changed : P_changed fs
  changes_of : P_changes_of fs
structure P_law_changes (fs : List Fn) : Prop where
  here : fs[17]? = some f_law_changes
  law_next : P_law_next fs
structure P_law_pair (fs : List Fn) : Prop where
  here : fs[18]? = some f_law_pair
  law_next : P_law_next fs
structure P_law_data (fs : List Fn) : Prop where
  here : fs[19]? = some f_law_data
  law_next : P_law_next fs
  law_pair : P_law_pair fs
  law_changes : P_law_changes fs
structure P_law_added (fs : List Fn) : Prop where
  here : fs[20]? = some f_law_added
structure P_law_focus (fs : List Fn) : Prop where
  here : fs[21]? = some f_law_focus
structure P_law_k07 (fs : List Fn) : Prop where
  here : fs[22]? = some f_law_k07
  law_data : P_law_data fs
  law_made : P_law_made fs
  start : P_start fs
  acts : P_acts fs
  law_next : P_law_next fs
  law_added : P_law_added fs
  after : P_after fs
  law_focus : P_law_focus fs
structure P_line_of (fs : List Fn) : Prop where
  here : fs[23]? = some f_line_of
structure P_flat (fs : List Fn) : Prop where
  here : fs[24]? = some f_flat
structure P_write_program (fs : List Fn) : Prop where
  here : fs[25]? = some f_write_program
  line_of : P_line_of fs
  flat : P_flat fs
structure P_law_line (fs : List Fn) : Prop where
  here : fs[26]? = some f_law_line
structure P_law_flat (fs : List Fn) : Prop where
  here : fs[27]? = some f_law_flat
structure P_law_lines (fs : List Fn) : Prop where
  here : fs[28]? = some f_law_lines
  law_line : P_law_line fs
  law_flat : P_law_flat fs
structure P_law_text (fs : List Fn) : Prop where
  here : fs[29]? = some f_law_text
structure P_law_k13 (fs : List Fn) : Prop where
  here : fs[30]? = some f_law_k13
  law_data : P_law_data fs
  write_program : P_write_program fs
  law_made : P_law_made fs
  law_text : P_law_text fs
  law_lines : P_law_lines fs
structure P_reading (fs : List Fn) : Prop where
  here : fs[31]? = some f_reading
  words : P_words fs
structure P_law_in_order (fs : List Fn) : Prop where
  here : fs[32]? = some f_law_in_order
structure P_law_told (fs : List Fn) : Prop where
  here : fs[33]? = some f_law_told
  after : P_after fs
  law_in_order : P_law_in_order fs
structure P_law_k09 (fs : List Fn) : Prop where
  here : fs[34]? = some f_law_k09
  law_data : P_law_data fs
  law_made : P_law_made fs
  start : P_start fs
  reading : P_reading fs
  law_next : P_law_next fs
  acts : P_acts fs
  law_told : P_law_told fs
structure P_law_queue (fs : List Fn) : Prop where
  here : fs[35]? = some f_law_queue
structure P_law_k08 (fs : List Fn) : Prop where
  here : fs[36]? = some f_law_k08
  law_data : P_law_data fs
  law_made : P_law_made fs
  start : P_start fs
  reading : P_reading fs
  acts : P_acts fs
  law_next : P_law_next fs
  after : P_after fs
  law_queue : P_law_queue fs
structure P_law_told_37 (fs : List Fn) : Prop where
  here : fs[37]? = some f_law_told_37
  Program_init : P_Program_init fs
structure P_law_k10 (fs : List Fn) : Prop where
  here : fs[38]? = some f_law_k10
  law_data : P_law_data fs
  law_told_37 : P_law_told_37 fs
  law_made : P_law_made fs
  Program_init : P_Program_init fs
structure P_reached (fs : List Fn) : Prop where
  here : fs[39]? = some f_reached
  start : P_start fs
  acts : P_acts fs
  after : P_after fs
structure P_law_word (fs : List Fn) : Prop where
  here : fs[40]? = some f_law_word
structure P_law_put (fs : List Fn) : Prop where
  here : fs[41]? = some f_law_put
structure P_law_added_42 (fs : List Fn) : Prop where
  here : fs[42]? = some f_law_added_42
structure P_law_turn (fs : List Fn) : Prop where
  here : fs[43]? = some f_law_turn
structure P_law_after (fs : List Fn) : Prop where
  here : fs[44]? = some f_law_after
  law_turn : P_law_turn fs
  law_put : P_law_put fs
  law_word : P_law_word fs
  law_added_42 : P_law_added_42 fs
structure P_law_acts (fs : List Fn) : Prop where
  here : fs[45]? = some f_law_acts
structure P_law_found (fs : List Fn) : Prop where
  here : fs[46]? = some f_law_found
  law_acts : P_law_acts fs
  law_after : P_law_after fs
structure P_law_k06 (fs : List Fn) : Prop where
  here : fs[47]? = some f_law_k06
  law_data : P_law_data fs
  law_made : P_law_made fs
  law_next : P_law_next fs
  law_found : P_law_found fs
  reached : P_reached fs
  start : P_start fs
structure P_with_part (fs : List Fn) : Prop where
  here : fs[48]? = some f_with_part
structure P_changed_program (fs : List Fn) : Prop where
  here : fs[49]? = some f_changed_program
  with_part : P_with_part fs
  Program_init : P_Program_init fs
structure P_repaired (fs : List Fn) : Prop where
  here : fs[50]? = some f_repaired
  changed_program : P_changed_program fs
structure P_law_table (fs : List Fn) : Prop where
  here : fs[51]? = some f_law_table
  law_next : P_law_next fs
structure P_law_changes_52 (fs : List Fn) : Prop where
  here : fs[52]? = some f_law_changes_52
  law_next : P_law_next fs
structure P_law_part (fs : List Fn) : Prop where
  here : fs[53]? = some f_law_part
  law_table : P_law_table fs
  law_next : P_law_next fs
  law_changes_52 : P_law_changes_52 fs
structure P_law_data_54 (fs : List Fn) : Prop where
  here : fs[54]? = some f_law_data_54
  law_next : P_law_next fs
  law_part : P_law_part fs
  law_changes_52 : P_law_changes_52 fs
structure P_law_start (fs : List Fn) : Prop where
  here : fs[55]? = some f_law_start
structure P_law_offer (fs : List Fn) : Prop where
  here : fs[56]? = some f_law_offer
  law_next : P_law_next fs
  law_table : P_law_table fs
structure P_law_changed (fs : List Fn) : Prop where
  here : fs[57]? = some f_law_changed
structure P_law_behind_row (fs : List Fn) : Prop where
  here : fs[58]? = some f_law_behind_row
  law_changed : P_law_changed fs
structure P_law_is (fs : List Fn) : Prop where
  here : fs[59]? = some f_law_is
structure P_law_k33 (fs : List Fn) : Prop where
  here : fs[60]? = some f_law_k33
  law_start : P_law_start fs
  law_data_54 : P_law_data_54 fs
  law_made : P_law_made fs
  law_offer : P_law_offer fs
  law_next : P_law_next fs
  repaired : P_repaired fs
  law_is : P_law_is fs
  law_behind_row : P_law_behind_row fs
structure P_law_swapped (fs : List Fn) : Prop where
  here : fs[61]? = some f_law_swapped
structure P_law_beyond (fs : List Fn) : Prop where
  here : fs[62]? = some f_law_beyond
  law_next : P_law_next fs
structure P_law_bad_sizes (fs : List Fn) : Prop where
  here : fs[63]? = some f_law_bad_sizes
  law_next : P_law_next fs
  law_swapped : P_law_swapped fs
  law_beyond : P_law_beyond fs
structure P_law_bad_changes (fs : List Fn) : Prop where
  here : fs[64]? = some f_law_bad_changes
  law_next : P_law_next fs
  law_swapped : P_law_swapped fs
  law_beyond : P_law_beyond fs
structure P_law_bad_pair (fs : List Fn) : Prop where
  here : fs[65]? = some f_law_bad_pair
  law_next : P_law_next fs
  law_beyond : P_law_beyond fs
  law_swapped : P_law_swapped fs
structure P_law_bad_parts (fs : List Fn) : Prop where
  here : fs[66]? = some f_law_bad_parts
  law_next : P_law_next fs
  law_swapped : P_law_swapped fs
  law_bad_pair : P_law_bad_pair fs
  law_bad_changes : P_law_bad_changes fs
structure P_law_bad_ticks (fs : List Fn) : Prop where
  here : fs[67]? = some f_law_bad_ticks
  law_next : P_law_next fs
  law_swapped : P_law_swapped fs
  law_bad_changes : P_law_bad_changes fs
structure P_law_bad_live (fs : List Fn) : Prop where
  here : fs[68]? = some f_law_bad_live
  law_next : P_law_next fs
structure P_law_spoil (fs : List Fn) : Prop where
  here : fs[69]? = some f_law_spoil
  law_bad_sizes : P_law_bad_sizes fs
  law_bad_parts : P_law_bad_parts fs
  law_bad_ticks : P_law_bad_ticks fs
  law_bad_live : P_law_bad_live fs
structure P_law_k11 (fs : List Fn) : Prop where
  here : fs[70]? = some f_law_k11
  law_data : P_law_data fs
  law_told_37 : P_law_told_37 fs
  law_next : P_law_next fs
  law_spoil : P_law_spoil fs
structure P_Lines_init (fs : List Fn) : Prop where
  here : fs[71]? = some m_Lines_init
structure P_Lines_refuse (fs : List Fn) : Prop where
  here : fs[72]? = some m_Lines_refuse
structure P_Lines_sees (fs : List Fn) : Prop where
  here : fs[73]? = some m_Lines_sees
structure P_Lines_numbers (fs : List Fn) : Prop where
  here : fs[74]? = some m_Lines_numbers
  Lines_sees : P_Lines_sees fs
  Lines_refuse : P_Lines_refuse fs
structure P_Lines_sizes (fs : List Fn) : Prop where
  here : fs[75]? = some m_Lines_sizes
  Lines_numbers : P_Lines_numbers fs
  are_numbers : P_are_numbers fs
  Lines_refuse : P_Lines_refuse fs
structure P_Lines_table (fs : List Fn) : Prop where
  here : fs[76]? = some m_Lines_table
  Lines_numbers : P_Lines_numbers fs
  Lines_refuse : P_Lines_refuse fs
  are_numbers : P_are_numbers fs
structure P_Lines_changes (fs : List Fn) : Prop where
  here : fs[77]? = some m_Lines_changes
  Lines_numbers : P_Lines_numbers fs
  Lines_refuse : P_Lines_refuse fs
structure P_Lines_part (fs : List Fn) : Prop where
  here : fs[78]? = some m_Lines_part
  Lines_numbers : P_Lines_numbers fs
  Lines_refuse : P_Lines_refuse fs
  Lines_table : P_Lines_table fs
  Lines_sees : P_Lines_sees fs
  Lines_changes : P_Lines_changes fs
structure P_Lines_indexes (fs : List Fn) : Prop where
  here : fs[79]? = some m_Lines_indexes
  Lines_sees : P_Lines_sees fs
  Lines_numbers : P_Lines_numbers fs
  are_indexes : P_are_indexes fs
  Lines_refuse : P_Lines_refuse fs
structure P_Lines_finish (fs : List Fn) : Prop where
  here : fs[80]? = some m_Lines_finish
  Lines_refuse : P_Lines_refuse fs
structure P_parse_program (fs : List Fn) : Prop where
  here : fs[81]? = some f_parse_program
  Lines_init : P_Lines_init fs
  Lines_sizes : P_Lines_sizes fs
  Lines_part : P_Lines_part fs
  Lines_sees : P_Lines_sees fs
  Lines_refuse : P_Lines_refuse fs
  Lines_changes : P_Lines_changes fs
  Lines_indexes : P_Lines_indexes fs
  Lines_finish : P_Lines_finish fs
  Program_init : P_Program_init fs
structure P_law_all (fs : List Fn) : Prop where
  here : fs[82]? = some f_law_all
structure P_law_other (fs : List Fn) : Prop where
  here : fs[83]? = some f_law_other
  law_next : P_law_next fs
  law_data : P_law_data fs
structure P_law_k14 (fs : List Fn) : Prop where
  here : fs[84]? = some f_law_k14
  law_data : P_law_data fs
  law_made : P_law_made fs
  law_text : P_law_text fs
  law_lines : P_law_lines fs
  parse_program : P_parse_program fs
  write_program : P_write_program fs
  Program_init : P_Program_init fs
  law_all : P_law_all fs
  law_other : P_law_other fs
structure P_looks (fs : List Fn) : Prop where
  here : fs[85]? = some f_looks
structure P_sight (fs : List Fn) : Prop where
  here : fs[86]? = some f_sight
  looks : P_looks fs
structure P_law_k17 (fs : List Fn) : Prop where
  here : fs[87]? = some f_law_k17
  law_made : P_law_made fs
  law_data : P_law_data fs
  parse_program : P_parse_program fs
  write_program : P_write_program fs
  start : P_start fs
  acts : P_acts fs
  sight : P_sight fs
  reading : P_reading fs
  law_next : P_law_next fs
  after : P_after fs
structure P_law_numbers (fs : List Fn) : Prop where
  here : fs[88]? = some f_law_numbers
structure P_law_changes_in (fs : List Fn) : Prop where
  here : fs[89]? = some f_law_changes_in
  law_numbers : P_law_numbers fs
structure P_law_table_in (fs : List Fn) : Prop where
  here : fs[90]? = some f_law_table_in
  law_numbers : P_law_numbers fs
structure P_law_part_in (fs : List Fn) : Prop where
  here : fs[91]? = some f_law_part_in
  law_table_in : P_law_table_in fs
  law_changes_in : P_law_changes_in fs
structure P_law_live_in (fs : List Fn) : Prop where
  here : fs[92]? = some f_law_live_in
  law_numbers : P_law_numbers fs
structure P_law_behind (fs : List Fn) : Prop where
  here : fs[93]? = some f_law_behind
  law_changes_in : P_law_changes_in fs
  law_live_in : P_law_live_in fs
structure P_law_read (fs : List Fn) : Prop where
  here : fs[94]? = some f_law_read
  law_numbers : P_law_numbers fs
  law_part_in : P_law_part_in fs
  law_behind : P_law_behind fs
structure P_law_due (fs : List Fn) : Prop where
  here : fs[95]? = some f_law_due
  law_read : P_law_read fs
structure P_law_told_96 (fs : List Fn) : Prop where
  here : fs[96]? = some f_law_told_96
  parse_program : P_parse_program fs
  Program_init : P_Program_init fs
structure P_law_strange (fs : List Fn) : Prop where
  here : fs[97]? = some f_law_strange
  law_next : P_law_next fs
structure P_law_turned (fs : List Fn) : Prop where
  here : fs[98]? = some f_law_turned
  law_next : P_law_next fs
structure P_law_spoiled (fs : List Fn) : Prop where
  here : fs[99]? = some f_law_spoiled
  law_next : P_law_next fs
  law_lines : P_law_lines fs
  law_data : P_law_data fs
  law_turned : P_law_turned fs
  law_strange : P_law_strange fs
structure P_law_k15 (fs : List Fn) : Prop where
  here : fs[100]? = some f_law_k15
  law_lines : P_law_lines fs
  law_data : P_law_data fs
  law_next : P_law_next fs
  law_spoiled : P_law_spoiled fs
  law_text : P_law_text fs
  law_told_96 : P_law_told_96 fs
  law_due : P_law_due fs
structure P_is_stale (fs : List Fn) : Prop where
  here : fs[101]? = some f_is_stale
  words : P_words fs
structure P_is_unsaid (fs : List Fn) : Prop where
  here : fs[102]? = some f_is_unsaid
  looks : P_looks fs
  words : P_words fs
structure P_run_to (fs : List Fn) : Prop where
  here : fs[103]? = some f_run_to
structure P_first_run (fs : List Fn) : Prop where
  here : fs[104]? = some f_first_run
  start : P_start fs
  acts : P_acts fs
  after : P_after fs
  run_to : P_run_to fs
structure P_first_stale (fs : List Fn) : Prop where
  here : fs[105]? = some f_first_stale
  first_run : P_first_run fs
  is_stale : P_is_stale fs
structure P_first_unsaid (fs : List Fn) : Prop where
  here : fs[106]? = some f_first_unsaid
  first_run : P_first_run fs
  is_unsaid : P_is_unsaid fs
structure P_law_wanted (fs : List Fn) : Prop where
  here : fs[107]? = some f_law_wanted
  reading : P_reading fs
  sight : P_sight fs
structure P_law_search (fs : List Fn) : Prop where
  here : fs[108]? = some f_law_search
  start : P_start fs
  acts : P_acts fs
  after : P_after fs
  law_wanted : P_law_wanted fs
structure P_law_k30 (fs : List Fn) : Prop where
  here : fs[109]? = some f_law_k30
  law_start : P_law_start fs
  law_made : P_law_made fs
  law_data_54 : P_law_data_54 fs
  law_next : P_law_next fs
  first_stale : P_first_stale fs
  law_search : P_law_search fs
  first_unsaid : P_first_unsaid fs
structure P_keys_for (fs : List Fn) : Prop where
  here : fs[110]? = some f_keys_for
  after : P_after fs
  acts : P_acts fs
structure P_first_keyless (fs : List Fn) : Prop where
  here : fs[111]? = some f_first_keyless
  start : P_start fs
  acts : P_acts fs
  keys_for : P_keys_for fs
  run_to : P_run_to fs
  after : P_after fs
structure P_law_keys (fs : List Fn) : Prop where
  here : fs[112]? = some f_law_keys
  after : P_after fs
  acts : P_acts fs
structure P_law_first (fs : List Fn) : Prop where
  here : fs[113]? = some f_law_first
  start : P_start fs
  acts : P_acts fs
  law_keys : P_law_keys fs
  after : P_after fs
structure P_law_k32 (fs : List Fn) : Prop where
  here : fs[114]? = some f_law_k32
  law_start : P_law_start fs
  law_made : P_law_made fs
  law_data_54 : P_law_data_54 fs
  start : P_start fs
  acts : P_acts fs
  keys_for : P_keys_for fs
  law_keys : P_law_keys fs
  after : P_after fs
  law_next : P_law_next fs
  first_keyless : P_first_keyless fs
  law_first : P_law_first fs
structure P_noticed_thing (fs : List Fn) : Prop where
  here : fs[115]? = some f_noticed_thing
  sight : P_sight fs
  reading : P_reading fs
structure P_sign (fs : List Fn) : Prop where
  here : fs[116]? = some f_sign
  noticed_thing : P_noticed_thing fs
structure P_final (fs : List Fn) : Prop where
  here : fs[117]? = some f_final
  sight : P_sight fs
  reading : P_reading fs
structure P_is_ready (fs : List Fn) : Prop where
  here : fs[118]? = some f_is_ready
structure P_law_observer (fs : List Fn) : Prop where
  here : fs[119]? = some f_law_observer
  law_next : P_law_next fs
structure P_law_thing (fs : List Fn) : Prop where
  here : fs[120]? = some f_law_thing
  sight : P_sight fs
  reading : P_reading fs
structure P_law_sign (fs : List Fn) : Prop where
  here : fs[121]? = some f_law_sign
  law_thing : P_law_thing fs
structure P_law_final (fs : List Fn) : Prop where
  here : fs[122]? = some f_law_final
  sight : P_sight fs
  reading : P_reading fs
structure P_law_ready (fs : List Fn) : Prop where
  here : fs[123]? = some f_law_ready
structure P_law_cut (fs : List Fn) : Prop where
  here : fs[124]? = some f_law_cut
  reached : P_reached fs
  law_made : P_law_made fs
structure P_law_k20 (fs : List Fn) : Prop where
  here : fs[125]? = some f_law_k20
  law_start : P_law_start fs
  law_made : P_law_made fs
  law_cut : P_law_cut fs
  law_data_54 : P_law_data_54 fs
  law_observer : P_law_observer fs
  start : P_start fs
  is_ready : P_is_ready fs
  law_ready : P_law_ready fs
  final : P_final fs
  law_final : P_law_final fs
  acts : P_acts fs
  after : P_after fs
  sign : P_sign fs
  law_sign : P_law_sign fs
  law_next : P_law_next fs
structure P_steps (fs : List Fn) : Prop where
  here : fs[126]? = some f_steps
  acts : P_acts fs
  after : P_after fs
  sign : P_sign fs
structure P_grown (fs : List Fn) : Prop where
  here : fs[127]? = some f_grown
  steps : P_steps fs
structure P_first_held (fs : List Fn) : Prop where
  here : fs[128]? = some f_first_held
  grown : P_grown fs
  start : P_start fs
structure P_next_held (fs : List Fn) : Prop where
  here : fs[129]? = some f_next_held
  steps : P_steps fs
  grown : P_grown fs
structure P_law_behind_130 (fs : List Fn) : Prop where
  here : fs[130]? = some f_law_behind_130
  acts : P_acts fs
  after : P_after fs
  law_sign : P_law_sign fs
structure P_law_grown (fs : List Fn) : Prop where
  here : fs[131]? = some f_law_grown
  law_behind_130 : P_law_behind_130 fs
structure P_law_held (fs : List Fn) : Prop where
  here : fs[132]? = some f_law_held
  law_behind_130 : P_law_behind_130 fs
  law_grown : P_law_grown fs
structure P_law_k21 (fs : List Fn) : Prop where
  here : fs[133]? = some f_law_k21
  law_start : P_law_start fs
  law_made : P_law_made fs
  law_cut : P_law_cut fs
  law_data_54 : P_law_data_54 fs
  law_observer : P_law_observer fs
  start : P_start fs
  law_grown : P_law_grown fs
  first_held : P_first_held fs
  next_held : P_next_held fs
  acts : P_acts fs
  law_next : P_law_next fs
  after : P_after fs
  law_sign : P_law_sign fs
  law_held : P_law_held fs
structure P_first_node (fs : List Fn) : Prop where
  here : fs[134]? = some f_first_node
  start : P_start fs
  first_held : P_first_held fs
structure P_moves (fs : List Fn) : Prop where
  here : fs[135]? = some f_moves
  steps : P_steps fs
structure P_next_node (fs : List Fn) : Prop where
  here : fs[136]? = some f_next_node
  after : P_after fs
  next_held : P_next_held fs
  sign : P_sign fs
structure P_is_bad (fs : List Fn) : Prop where
  here : fs[137]? = some f_is_bad
  is_ready : P_is_ready fs
  final : P_final fs
structure P_law_bad (fs : List Fn) : Prop where
  here : fs[138]? = some f_law_bad
  law_ready : P_law_ready fs
  law_final : P_law_final fs
structure P_law_moves (fs : List Fn) : Prop where
  here : fs[139]? = some f_law_moves
  law_behind_130 : P_law_behind_130 fs
structure P_law_move (fs : List Fn) : Prop where
  here : fs[140]? = some f_law_move
  after : P_after fs
  law_held : P_law_held fs
  law_sign : P_law_sign fs
structure P_law_k22 (fs : List Fn) : Prop where
  here : fs[141]? = some f_law_k22
  law_start : P_law_start fs
  law_made : P_law_made fs
  law_cut : P_law_cut fs
  law_data_54 : P_law_data_54 fs
  law_observer : P_law_observer fs
  start : P_start fs
  law_grown : P_law_grown fs
  first_node : P_first_node fs
  is_bad : P_is_bad fs
  law_bad : P_law_bad fs
  moves : P_moves fs
  law_moves : P_law_moves fs
  law_next : P_law_next fs
  next_node : P_next_node fs
  law_move : P_law_move fs
structure P_require_observer (fs : List Fn) : Prop where
  here : fs[142]? = some f_require_observer
structure P_followed (fs : List Fn) : Prop where
  here : fs[143]? = some f_followed
  start : P_start fs
  first_held : P_first_held fs
  acts : P_acts fs
  after : P_after fs
  sign : P_sign fs
  next_held : P_next_held fs
structure P_noticed (fs : List Fn) : Prop where
  here : fs[144]? = some f_noticed
  require_observer : P_require_observer fs
  followed : P_followed fs
  final : P_final fs
structure P_possible (fs : List Fn) : Prop where
  here : fs[145]? = some f_possible
  require_observer : P_require_observer fs
  followed : P_followed fs
  final : P_final fs
structure P_can_tell (fs : List Fn) : Prop where
  here : fs[146]? = some f_can_tell
  possible : P_possible fs
structure P_law_run (fs : List Fn) : Prop where
  here : fs[147]? = some f_law_run
  start : P_start fs
  law_next : P_law_next fs
  acts : P_acts fs
  after : P_after fs
structure P_law_due_148 (fs : List Fn) : Prop where
  here : fs[148]? = some f_law_due_148
  start : P_start fs
  law_grown : P_law_grown fs
  after : P_after fs
  law_sign : P_law_sign fs
  law_held : P_law_held fs
  law_final : P_law_final fs
structure P_law_refused (fs : List Fn) : Prop where
  here : fs[149]? = some f_law_refused
  noticed : P_noticed fs
  possible : P_possible fs
  can_tell : P_can_tell fs
structure P_law_k37 (fs : List Fn) : Prop where
  here : fs[150]? = some f_law_k37
  law_start : P_law_start fs
  law_made : P_law_made fs
  law_cut : P_law_cut fs
  law_data_54 : P_law_data_54 fs
  law_observer : P_law_observer fs
  law_run : P_law_run fs
  law_due_148 : P_law_due_148 fs
  noticed : P_noticed fs
  possible : P_possible fs
  law_next : P_law_next fs
  can_tell : P_can_tell fs
  start : P_start fs
  law_refused : P_law_refused fs
structure P_Search_histories (fs : List Fn) : Prop where
  here : fs[151]? = some m_Search_histories
structure P_Search_meet (fs : List Fn) : Prop where
  here : fs[152]? = some m_Search_meet
  is_bad : P_is_bad fs
  Search_histories : P_Search_histories fs
structure P_Search_expand (fs : List Fn) : Prop where
  here : fs[153]? = some m_Search_expand
  moves : P_moves fs
  Search_meet : P_Search_meet fs
  next_node : P_next_node fs
structure P_Search_init (fs : List Fn) : Prop where
  here : fs[154]? = some m_Search_init
  require_observer : P_require_observer fs
  Search_meet : P_Search_meet fs
  first_node : P_first_node fs
  Search_expand : P_Search_expand fs
structure P_judge (fs : List Fn) : Prop where
  here : fs[155]? = some f_judge
  Search_init : P_Search_init fs
structure P_certificate (fs : List Fn) : Prop where
  here : fs[156]? = some f_certificate
  Search_init : P_Search_init fs
structure P_is_right_row (fs : List Fn) : Prop where
  here : fs[157]? = some f_is_right_row
  moves : P_moves fs
  is_bad : P_is_bad fs
  next_node : P_next_node fs
structure P_check (fs : List Fn) : Prop where
  here : fs[158]? = some f_check
  require_observer : P_require_observer fs
  first_node : P_first_node fs
  is_right_row : P_is_right_row fs
structure P_law_changes_159 (fs : List Fn) : Prop where
  here : fs[159]? = some f_law_changes_159
  law_next : P_law_next fs
structure P_law_part_160 (fs : List Fn) : Prop where
  here : fs[160]? = some f_law_part_160
  law_table : P_law_table fs
  law_next : P_law_next fs
  law_changes_159 : P_law_changes_159 fs
structure P_law_data_161 (fs : List Fn) : Prop where
  here : fs[161]? = some f_law_data_161
  law_next : P_law_next fs
  law_part_160 : P_law_part_160 fs
  law_changes_159 : P_law_changes_159 fs
structure P_law_cut_162 (fs : List Fn) : Prop where
  here : fs[162]? = some f_law_cut_162
  reached : P_reached fs
  law_made : P_law_made fs
structure P_law_bad_pair_163 (fs : List Fn) : Prop where
  here : fs[163]? = some f_law_bad_pair_163
  law_next : P_law_next fs
structure P_law_asked (fs : List Fn) : Prop where
  here : fs[164]? = some f_law_asked
  judge : P_judge fs
  certificate : P_certificate fs
  check : P_check fs
structure P_law_known (fs : List Fn) : Prop where
  here : fs[165]? = some f_law_known
  noticed : P_noticed fs
  possible : P_possible fs
  can_tell : P_can_tell fs
structure P_law_alone (fs : List Fn) : Prop where
  here : fs[166]? = some f_law_alone
  law_known : P_law_known fs
structure P_law_refused_167 (fs : List Fn) : Prop where
  here : fs[167]? = some f_law_refused_167
  law_asked : P_law_asked fs
structure P_law_due_168 (fs : List Fn) : Prop where
  here : fs[168]? = some f_law_due_168
structure P_law_k36 (fs : List Fn) : Prop where
  here : fs[169]? = some f_law_k36
  law_start : P_law_start fs
  law_made : P_law_made fs
  law_cut_162 : P_law_cut_162 fs
  law_data_161 : P_law_data_161 fs
  law_observer : P_law_observer fs
  law_bad_pair_163 : P_law_bad_pair_163 fs
  law_refused_167 : P_law_refused_167 fs
  law_due_168 : P_law_due_168 fs
  law_alone : P_law_alone fs
structure P_law_way (fs : List Fn) : Prop where
  here : fs[170]? = some f_law_way
  start : P_start fs
  law_grown : P_law_grown fs
  law_bad : P_law_bad fs
  law_moves : P_law_moves fs
  law_move : P_law_move fs
  law_next : P_law_next fs
structure P_law_signs (fs : List Fn) : Prop where
  here : fs[171]? = some f_law_signs
  start : P_start fs
  acts : P_acts fs
  after : P_after fs
  law_sign : P_law_sign fs
structure P_law_k23 (fs : List Fn) : Prop where
  here : fs[172]? = some f_law_k23
  law_start : P_law_start fs
  law_made : P_law_made fs
  law_cut : P_law_cut fs
  law_data_54 : P_law_data_54 fs
  law_observer : P_law_observer fs
  law_next : P_law_next fs
  judge : P_judge fs
  law_way : P_law_way fs
  law_signs : P_law_signs fs
structure P_law_held_behind (fs : List Fn) : Prop where
  here : fs[173]? = some f_law_held_behind
  start : P_start fs
  law_grown : P_law_grown fs
  after : P_after fs
  law_held : P_law_held fs
  law_sign : P_law_sign fs
structure P_law_shows (fs : List Fn) : Prop where
  here : fs[174]? = some f_law_shows
  law_signs : P_law_signs fs
  law_bad : P_law_bad fs
  law_held_behind : P_law_held_behind fs
structure P_law_k24 (fs : List Fn) : Prop where
  here : fs[175]? = some f_law_k24
  law_start : P_law_start fs
  law_made : P_law_made fs
  law_cut : P_law_cut fs
  law_data_54 : P_law_data_54 fs
  law_observer : P_law_observer fs
  law_next : P_law_next fs
  judge : P_judge fs
  law_shows : P_law_shows fs
  law_signs : P_law_signs fs
  law_way : P_law_way fs
structure P_law_along (fs : List Fn) : Prop where
  here : fs[176]? = some f_law_along
  start : P_start fs
  law_grown : P_law_grown fs
  law_bad : P_law_bad fs
  law_moves : P_law_moves fs
  law_next : P_law_next fs
  law_move : P_law_move fs
structure P_law_k25 (fs : List Fn) : Prop where
  here : fs[177]? = some f_law_k25
  law_start : P_law_start fs
  law_made : P_law_made fs
  law_cut : P_law_cut fs
  law_data_54 : P_law_data_54 fs
  law_observer : P_law_observer fs
  law_next : P_law_next fs
  judge : P_judge fs
  certificate : P_certificate fs
  check : P_check fs
  law_along : P_law_along fs
structure P_law_row (fs : List Fn) : Prop where
  here : fs[178]? = some f_law_row
  law_next : P_law_next fs
structure P_law_spoiled_179 (fs : List Fn) : Prop where
  here : fs[179]? = some f_law_spoiled_179
  law_next : P_law_next fs
  law_row : P_law_row fs
structure P_law_other_180 (fs : List Fn) : Prop where
  here : fs[180]? = some f_law_other_180
  law_next : P_law_next fs
  law_part : P_law_part fs
structure P_law_k26 (fs : List Fn) : Prop where
  here : fs[181]? = some f_law_k26
  law_start : P_law_start fs
  law_cut : P_law_cut fs
  law_data_54 : P_law_data_54 fs
  law_made : P_law_made fs
  law_observer : P_law_observer fs
  certificate : P_certificate fs
  law_next : P_law_next fs
  check : P_check fs
  law_other_180 : P_law_other_180 fs
  law_spoiled_179 : P_law_spoiled_179 fs
  law_along : P_law_along fs
structure P_law_k27 (fs : List Fn) : Prop where
  here : fs[182]? = some f_law_k27
  law_start : P_law_start fs
  law_made : P_law_made fs
  law_cut : P_law_cut fs
  law_data_54 : P_law_data_54 fs
  law_observer : P_law_observer fs
  law_next : P_law_next fs
  judge : P_judge fs
end TK
end
section
set_option autoImplicit false
set_option linter.all false
set_option maxRecDepth 100000
/-! ### the turns of a program, def by def -/
namespace TK
open PySem
section
variable {gc : Nat → D} {fs : List Fn} {n : Nat} {S : Sx} {t : TP}
theorem fd_sizesT : fldD 0 t.d "sizes" S = some (.tup (t.zs.map nD)) := by
  show fldD 0 (.iv 0 fldN t.pd.vals) "sizes" S = _
  rw [fd_sizes]; simp [TP.pd, map_nD]
theorem fd_partsT : fldD 0 t.d "parts" S = some (.tup (t.ps.map partD)) := by
  show fldD 0 (.iv 0 fldN t.pd.vals) "parts" S = _
  rw [fd_parts]; simp [TP.pd]
theorem fd_ticksT : fldD 0 t.d "ticks" S = some (.tup (t.ts.map chgD)) := by
  show fldD 0 (.iv 0 fldN t.pd.vals) "ticks" S = _
  rw [fd_ticks]; simp [TP.pd]
theorem fd_liveT : fldD 0 t.d "live" S = some (.tup (t.lv.map nD)) := by
  show fldD 0 (.iv 0 fldN t.pd.vals) "live" S = _
  rw [fd_live]; simp [TP.pd, map_nD]
theorem fd_skipsT : fldD 0 t.d "skips" S = some (.tup (t.sk.map nD)) := by
  show fldD 0 (.iv 0 fldN t.pd.vals) "skips" S = _
  rw [fd_skips]; simp [TP.pd, map_nD]
theorem at_fs {k : Nat} {f : Fn} (h : fs[k]? = some f) {xs : List D} : runF gc fs (n + 1) k xs S = runB gc (runF gc fs n) f xs S := by
  show (match fs[k]? with | some f => runB gc (runF gc fs n) f xs S | none => .bad) = _
  rw [h]
@[simp] theorem seqI_tup {xs : List D} {S : Sx} : seqI (.tup xs) S = .ok (xs, fun _ => true) S := rfl
@[simp] theorem seqI_lv {xs : List D} {S : Sx} : seqI (.lv xs) S = .ok (xs, fun _ => true) S := rfl
@[simp] theorem getD_nil {s : Vs} : ([] : Vs).getD 0 none = none := rfl
theorem start_ok (ht : t.ok) (P : P_start fs) : runF gc fs (n + 1) 9 [t.d] S = .ok (startN t).d S := by
  have := ht.zs
  rw [at_fs P.here]
  unfold runB f_start
  simp [startV, fd_sizesT, -List.map_map]
  rw [lc_map t.zs nD (fun _ => .int 0) rfl (by omega) (fun x hx => ⟨_, rfl, rfl⟩)]
  simp [newL_f, szl_le (show t.zs.length ≤ 1000000 by omega), show ([] : List D).length ≤ sizeLine from Nat.zero_le _, startN, Wd.d, Function.comp_def, show (3 : Nat) ≤ sizeLine from Nat.le_trans (by omega) szl]
theorem words_ok (ht : t.ok) (P : P_words fs) {vs : List Nat} (hv : okVals t vs) : runF gc fs (n + 1) 10 [t.d, .tup (vs.map nD)] S = .ok (.tup ((wordsN t vs).map nD)) S := by
  have := ht.ps
  rw [at_fs P.here]
  unfold runB f_words
  simp [startV, fd_partsT, -List.map_map]
  rw [lc_map t.ps partD (fun p => nD (tabAt p.word vs)) rfl (by omega) (fun p hp => ?_)]
  · simp [newL_f, szl_le (show t.ps.length ≤ 1000000 by omega), wordsN, Function.comp_def]
  · obtain ⟨_, ⟨o1, o2⟩, _⟩ := ht.ps.2.2 p hp
    refine ⟨_, rfl, ?_⟩
    have h1 : p.word.1 < t.zs.length := (List.getElem?_eq_some_iff.mp o1).1
    obtain ⟨v, hv1⟩ : ∃ v, vs[p.word.1]? = some v := ⟨_, List.getElem?_eq_getElem (by rw [hv.1]; exact h1)⟩
    have h2 := hv.2 _ _ _ hv1 o1
    obtain ⟨w, hw⟩ : ∃ w, p.word.2[v]? = some w := ⟨_, List.getElem?_eq_getElem h2⟩
    simp [partD, tabD, ix_tup, hv1, hw, tabAt]
end
end TK
end
section
set_option autoImplicit false
set_option linter.all false
set_option maxRecDepth 100000
namespace TK
open PySem
theorem mem_inj {α : Type} {f : α → D} (hf : ∀ a b, f a = f b → a = b) {a : α} {l : List α} : f a ∈ l.map f ↔ a ∈ l := by
  constructor
  · intro h
    obtain ⟨b, hb, e⟩ := List.mem_map.mp h
    exact hf b a e ▸ hb
  · exact fun h => List.mem_map.mpr ⟨a, h, rfl⟩
theorem nD_inj (a b : Nat) (h : nD a = nD b) : a = b := by
  simp only [nD, D.int.injEq] at h
  omega
theorem pairD_inj (a b : Nat × Nat) (h : pairD a = pairD b) : a = b := by
  simp only [pairD, D.tup.injEq, List.cons.injEq, and_true] at h
  exact Prod.ext (nD_inj _ _ h.1) (nD_inj _ _ h.2)
@[simp] theorem datNat {n k : Nat} : Dat n (nD k) := datI
@[simp] theorem datPair {n : Nat} {p : Nat × Nat} : Dat (n + 1) (pairD p) := by
  intro d hd
  simp only [List.mem_cons, List.not_mem_nil, or_false] at hd
  rcases hd with rfl | rfl <;> exact datI
@[simp] theorem purN {k : Nat} : (nD k).pure = true := rfl
@[simp] theorem purPair {p : Nat × Nat} : (pairD p).pure = true := rfl
theorem pures_map {α : Type} {f : α → D} (h : ∀ a, (f a).pure = true) : ∀ l : List α, D.pures (l.map f) = true
  | [] => rfl
  | a :: l => by
    show ((f a).pure && D.pures (l.map f)) = true
    rw [h a, pures_map h l]; rfl
@[simp] theorem Act.dat {n : Nat} (a : Act) : Dat (n + 1) a.d := by
  cases a <;> (intro d hd; simp only [List.mem_cons, List.not_mem_nil, or_false] at hd)
  · rcases hd with rfl | rfl
    · exact datS.mpr so_point
    · exact datI
  · subst hd; exact datS.mpr so_next
  · subst hd; exact datS.mpr so_press
  · rcases hd with rfl | rfl
    · exact datS.mpr so_tick
    · exact datI
  · subst hd; exact datS.mpr so_speak
theorem Act.inj (a b : Act) (h : a.d = b.d) : a = b := by
  cases a <;> cases b <;> simp [Act.d] at h <;> first | rfl | (subst h; rfl) | omega | (have h := Int.ofNat.inj h; subst h; rfl) | exact absurd h (by decide)
@[simp] theorem Act.pure (a : Act) : a.d.pure = true := by cases a <;> rfl
@[simp] theorem Wd.pure (w : Wd) : w.d.pure = true := by
  show D.pures [_, _, _] = true
  simp [D.pures, D.pure, pures_map (fun _ => purN), pures_map (fun _ => purPair)]
@[simp] theorem Wd.dat {n : Nat} (w : Wd) : Dat (n + 3) w.d := by
  intro d hd
  simp only [List.mem_cons, List.not_mem_nil, or_false] at hd
  rcases hd with rfl | rfl | rfl
  · intro d hd
    obtain ⟨_, _, rfl⟩ := List.mem_map.mp hd
    exact datI
  · exact datI
  · intro d hd
    obtain ⟨_, _, rfl⟩ := List.mem_map.mp hd
    exact datPair
theorem map_inj {α : Type} {f : α → D} (hf : ∀ a b, f a = f b → a = b) : ∀ (l m : List α), l.map f = m.map f → l = m
  | [], [], _ => rfl
  | [], _ :: _, h => by simp at h
  | _ :: _, [], h => by simp at h
  | a :: l, b :: m, h => by
    simp only [List.map_cons, List.cons.injEq] at h
    rw [hf a b h.1, map_inj hf l m h.2]
theorem Wd.inj (a b : Wd) (h : a.d = b.d) : a = b := by
  obtain ⟨v, f, q⟩ := a
  obtain ⟨v', f', q'⟩ := b
  simp only [Wd.d, D.tup.injEq, List.cons.injEq, and_true] at h
  rw [map_inj nD_inj _ _ h.1, nD_inj _ _ h.2.1, map_inj pairD_inj _ _ h.2.2]
@[simp] theorem dat_map {α : Type} {f : α → D} {n : Nat} {l : List α} : (∀ d ∈ l.map f, Dat n d) ↔ ∀ a ∈ l, Dat n (f a) := by simp
section
variable {gc : Nat → D} {fs : List Fn} {n : Nat} {S : Sx} {t : TP}
theorem put_ok (P : P_put fs) {q : List (Nat × Nat)} {m : Nat × Nat} (hq : q.length < 1000) : wrp 2 S (runF gc fs (n + 1) 11 [.tup (q.map pairD), pairD m] S) = .ok (.tup ((putN' q m).map pairD)) S := by
  refine wrp2_sat (at_sat P.here rfl ?_) (by simp [D.pure, pures_map (fun _ => purPair)]) (fun k => by simp)
  simp [f_put, startV, -List.map_map]
  rw [lc_mapG q pairD (fun o => if o.1 = m.1 then m else o) pairD rfl (by omega) (fun o ho => ⟨_, rfl, by
    by_cases h : (o.1 : Int) = m.1
    · have h2 : o.1 = m.1 := by omega
      simp [pairD, h2]
    · have h2 : ¬ o.1 = m.1 := by omega
      simp [pairD, h, h2]⟩)]
  unfold putN'
  generalize hf : (q.map fun o => if o.1 = m.1 then m else o) = f
  have hl : f.length < 1000 := by rw [← hf]; simpa using hq
  have hn := nin_obj (n := S.length) (S := S ++ [.lst (f.map pairD)]) (xs := f.map pairD) (by simp) (datPair (n := 15) (p := m)) (dat_map.mpr fun _ _ => datPair)
  by_cases h : m ∈ f
  · simp (disch := first | omega | (simp; done) | (simp; omega)) [hn, mem_inj pairD_inj, h, -List.mem_map, -List.map_map]
  · simp (disch := first | omega | (simp; done) | (simp; omega)) [hn, mem_inj pairD_inj, h, -List.mem_map, -List.map_map]
end
end TK
end
section
set_option autoImplicit false
set_option linter.all false
set_option maxRecDepth 100000
namespace TK
open PySem
section
variable {gc : Nat → D} {fs : List Fn} {n : Nat} {S : Sx} {t : TP}
theorem okVals.set {t : TP} {vs : List Nat} (h : okVals t vs) {i v z : Nat} (hz : t.zs[i]? = some z) (hv : v < z) : okVals t (vs.set i v) := by
  refine ⟨by simpa using h.1, fun j u y h1 h2 => ?_⟩
  rw [List.getElem?_set] at h1
  by_cases e : i = j
  · subst e
    rw [hz] at h2
    cases h2
    rw [if_pos rfl] at h1
    split at h1
    · cases h1; exact hv
    · cases h1
  · rw [if_neg e] at h1
    exact h.2 j u y h1 h2
theorem getD_of {α : Type} {l : List α} {i : Nat} {x d : α} (h : l[i]? = some x) : l.getD i d = x := by
  rw [List.getD_eq_getElem?_getD, h]; rfl
theorem zs_pos (ht : t.ok) {i z : Nat} (h : t.zs[i]? = some z) : 2 ≤ z ∧ z ≤ 4 := ht.zs.2.2 z (List.mem_of_getElem? h)
theorem changed_ok (ht : t.ok) (P : P_changed fs) {vs : List Nat} (hv : okVals t vs) {c : Chg} (hc : okChg t.zs c) : wrp 2 S (runF gc fs (n + 1) 12 [t.d, .tup (vs.map nD), chgD c] S) = .ok (.tup ((chgN t vs c).map nD)) S := by
  have hz := ht.zs
  have hvl := hv.1
  refine wrp2_sat (at_sat P.here rfl ?_) (by simp [D.pure, pures_map (fun _ => purN)]) (fun k => by simp)
  simp (disch := first | omega | (simp; done) | (simp; omega)) [f_changed, startV, -List.map_map, chgD]
  refine forL_sat (fun (xs : Chg) s S' => ∃ vs' x4 x5, s = [some t.d, some (.tup (vs.map nD)), some (.tup (c.map pairD)), some (.obj S.length), x4, x5] ∧ S' = S ++ [.lst (vs'.map nD)] ∧ okVals t vs' ∧ chgN t vs' xs = chgN t vs c ∧ ∀ p ∈ xs, p.1 < t.zs.length) (fun _ _ _ _ => rfl) ?_ ?_ ⟨vs, none, none, rfl, rfl, hv, rfl, fun p hp => (hc.2.2 p hp).1⟩
  · rintro p xs s S' ⟨vs', x4, x5, rfl, rfl, h1, h2, h3⟩
    refine ⟨_, rfl, ?_⟩
    have hp := h3 p List.mem_cons_self
    obtain ⟨z, hz1⟩ : ∃ z, t.zs[p.1]? = some z := ⟨_, List.getElem?_eq_getElem hp⟩
    obtain ⟨v, hv1⟩ : ∃ v, vs'[p.1]? = some v := ⟨_, List.getElem?_eq_getElem (by rw [h1.1]; exact hp)⟩
    have hz2 := zs_pos ht hz1
    have z1 : t.zs[p.1] = z := (List.getElem?_eq_some_iff.mp hz1).2
    have v1 : vs'[p.1]'(by rw [h1.1]; exact hp) = v := (List.getElem?_eq_some_iff.mp hv1).2
    have e1 : opD .mod (.int ((v : Int) + (p.2 : Int))) (.int (z : Int)) (S ++ [.lst (vs'.map nD)]) = some (nD ((v + p.2) % z)) := by
      rw [op_mod (by omega)]; simp [nD]
    have hl : p.1 < (vs'.map nD).length := by simp [h1.1, hp]
    simp (disch := first | omega | (simp; done) | (simp; omega)) [fd_sizesT, z1, v1, hz1, hv1, e1, set_e hl]


    refine ⟨vs'.set p.1 ((v + p.2) % z), by rw [List.map_set], h1.set hz1 (Nat.mod_lt _ (by omega)), ?_, fun a b hq => h3 (a, b) (List.mem_cons_of_mem _ hq)⟩
    rw [← h2]
    simp [chgN, hv1, hz1]
  · rintro s S' ⟨vs', x4, x5, rfl, rfl, h1, h2, h3⟩
    simp [chgN] at h2 ⊢
    rw [h2]
end
end TK
end
section
set_option autoImplicit false
set_option linter.all false
set_option maxRecDepth 100000
set_option maxHeartbeats 0
namespace TK
open PySem
theorem rng_nat {k : Nat} {S : Sx} (h : k ≤ 1000000) : rngI none (.int (k : Int)) S = .ok ((List.range k).map nD, fun _ => true) S := by
  rw [rng_ok (by omega) (by omega)]
  simp [rngL, nD]
theorem rngI_ok {l k : Int} {S : Sx} (h1 : 0 ≤ l) (h2 : l ≤ 1000000) (h3 : 0 ≤ k) (h4 : k ≤ 2000000) : rngI (some l) (.int k) S = .ok (rngL l k, fun _ => true) S := by
  have hr : (-(2 ^ 62) ≤ (some l : Option Int).getD 0 ∧ (some l : Option Int).getD 0 < 2 ^ 62) ∧ (-(2 ^ 62) ≤ k ∧ k < 2 ^ 62) := by
    show (-(2 ^ 62) ≤ l ∧ l < 2 ^ 62) ∧ (-(2 ^ 62) ≤ k ∧ k < 2 ^ 62)
    refine ⟨⟨by omega, by omega⟩, by omega, by omega⟩
  unfold rngI
  simp only [intD, lift_some, R.bind_ok]
  rw [if_pos hr]
  rfl
theorem rng_nat1 {a k : Nat} {S : Sx} (h : a + k ≤ 1000000) : rngI (some (a : Int)) (.int ((a : Int) + (k : Int))) S = .ok ((List.range' a k).map nD, fun _ => true) S := by
  have e : ((a : Int) + (k : Int) - (a : Int)).toNat = k := by omega
  rw [rngI_ok (by omega) (by omega) (by omega) (by omega)]
  simp only [rngL, e]
  simp [nD, List.range'_eq_map_range, Function.comp_def]
theorem rng_1 {k : Nat} {S : Sx} (h : k < 1000000) : rngI (some 1) (.int ((k : Int) + 1)) S = .ok ((List.range' 1 k).map nD, fun _ => true) S := by
  have r := @rng_nat1 1 k S (by omega)
  have e : (1 : Int) + (k : Int) = (k : Int) + 1 := by omega
  rw [← e]
  exact r
@[simp] theorem intD_int {i : Int} : intD (.int i) = some i := rfl
theorem enum_map {α : Type} {f : α → D} {l : List α} : enumL (l.map f) = l.zipIdx.map fun p => .tup [nD p.2, f p.1] := by
  simp [enumL, List.zipIdx_map, Function.comp_def]
theorem zipIdx_range {α : Type} {l : List α} {x : α} : l.zipIdx = (List.range l.length).map fun i => (l.getD i x, i) := by
  apply List.ext_getElem?
  intro i
  simp only [List.getElem?_zipIdx, List.getElem?_map, List.getElem?_range, List.getD_eq_getElem?_getD]
  by_cases h : i < l.length
  · simp [h]
  · simp [h]
section
variable {gc : Nat → D} {fs : List Fn} {n : Nat} {S : Sx} {t : TP}
theorem next_ok (ht : t.ok) (P : P_next_focus fs) {f : Nat} : runF gc fs (n + 1) 13 [t.d, nD f] S = .ok (nD (nextN t f)) S := by
  have hp := ht.ps
  apply eq_of_sat
  refine at_sat P.here rfl ?_
  have r1 := @rng_1 t.ps.length S (by omega)
  simp -implicitDefEqProofs (disch := first | omega | (simp; done) | (simp; omega)) [f_next_focus, startV, -List.map_map, fd_partsT, r1]
  refine forL_sat (fun (xs : List Nat) s S' => ∃ x3 x4, s = [some t.d, some (nD f), some (.int t.ps.length), x3, x4] ∧ S' = S ∧ ((xs.map fun s => (f + s) % t.ps.length).find? (· ∉ t.sk)).getD f = nextN t f) (fun _ _ _ _ => rfl) ?_ ?_ ⟨none, none, rfl, rfl, rfl⟩
  · rintro s xs _ S ⟨x3, x4, rfl, rfl, h⟩
    refine ⟨_, rfl, ?_⟩
    have e1 : opD .mod (.int ((f : Int) + (s : Int))) (.int (t.ps.length : Int)) S = some (nD ((f + s) % t.ps.length)) := by
      rw [op_mod (by omega)]; simp [nD]
    have e2 := nin_tup (a := nD ((f + s) % t.ps.length)) (xs := t.sk.map nD) (S := S) datNat (dat_map.mpr fun _ _ => datNat)
    by_cases hm : (f + s) % t.ps.length ∈ t.sk
    · simp [e1, fd_skipsT, e2, mem_inj nD_inj, hm, -List.mem_map]
      simp [hm] at h
      rw [← h]
    · simp [e1, fd_skipsT, e2, mem_inj nD_inj, hm, -List.mem_map]
      simp [hm] at h
      rw [← h]
      simp
  · rintro s S ⟨x3, x4, rfl, rfl, h⟩
    simp at h ⊢
    rw [← h]
theorem press_of {t : TP} {k : Nat} {p : Part} (h : t.ps[k]? = some p) : isPress t k = p.press.isSome := by simp [isPress, h]
theorem prs_isn {p : Option Chg} : decide (prsD p = .non) = !p.isSome := by
  cases p <;> simp [prsD, chgD]
theorem acts_len (ht : t.ok) (w : Wd) : (actsN t w).length ≤ 9 := by
  have h1 := ht.ps
  have h2 := ht.ts
  have h3 := List.length_filter_le (isPress t) (List.range t.ps.length)
  have h4 : (if isPress t w.foc then [Act.press] else []).length ≤ 1 := by split <;> simp
  have h5 : (if w.q = [] then [] else [Act.speak]).length ≤ 1 := by split <;> simp
  simp only [List.length_range] at h3
  simp only [actsN, List.length_append, List.length_map, List.length_range, List.length_cons, List.length_nil]
  omega
theorem acts_ok (ht : t.ok) (P : P_acts fs) {w : Wd} (hw : w.foc < t.ps.length) : wrp 2 S (runF gc fs (n + 1) 14 [t.d, w.d] S) = .ok (.lv ((actsN t w).map Act.d)) S := by
  have hp := ht.ps
  have hts := ht.ts
  refine wrp2_obj0 (at_sat P.here rfl ?_) (pures_map Act.pure _)
  obtain ⟨p, hp1⟩ : ∃ p, t.ps[w.foc]? = some p := ⟨_, List.getElem?_eq_getElem hw⟩
  have hp2 : t.ps[w.foc] = p := (List.getElem?_eq_some_iff.mp hp1).2
  simp -implicitDefEqProofs (disch := first | omega | (simp; done) | (simp; omega)) [f_acts, startV, -List.map_map, fd_partsT, Wd.d, enumI, enum_map]
  rw [lc_filterG t.ps.zipIdx (fun p => .tup [nD p.2, partD p.1]) (fun p => p.1.press.isSome) (fun p => Act.point p.2) Act.d rfl (by simp; omega) (fun p _ => ⟨_, rfl, by simp [partD, prs_isn], fun _ => by simp [Act.d]⟩)]
  have ez : (t.ps.zipIdx.filter fun p => p.1.press.isSome).map (fun p => Act.point p.2) = ((List.range t.ps.length).filter (isPress t)).map Act.point := by
    rw [zipIdx_range (x := p), List.filter_map, List.map_map]
    congr 1
    apply List.filter_congr
    intro i hi
    have hi := List.mem_range.mp hi
    simp [isPress, List.getD_eq_getElem?_getD, List.getElem?_eq_getElem hi]
  rw [ez]
  have l1 := List.length_filter_le (isPress t) (List.range t.ps.length)
  simp only [List.length_range] at l1
  have hpr : isPress t w.foc = p.press.isSome := press_of hp1
  cases e : p.press
  all_goals
    simp -implicitDefEqProofs (disch := first | omega | (simp; done) | (simp; omega)) [fd_partsT, fd_ticksT, hp1, hp2, -List.map_map, partD, prs_isn, extD, rng_nat, e, prsD, chgD]
    rw [lc_mapG (List.range t.ts.length) nD Act.tick Act.d rfl (by simp; omega) (fun i _ => ⟨_, rfl, by simp [Act.d]⟩)]
    cases hq : w.q
    all_goals
      simp -implicitDefEqProofs (disch := first | omega | (simp; done) | (simp; omega)) [-List.map_map, hq]
      simp [actsN, hpr, e, hq, Act.d]
theorem changes_of_ok (P : P_changes_of fs) {f : Nat} {a : Act} (h : (∃ k p c, a = .point k ∧ t.ps[k]? = some p ∧ p.press = some c) ∨ (∃ p c, a = .press ∧ t.ps[f]? = some p ∧ p.press = some c) ∨ (∃ k, a = .tick k ∧ k < t.ts.length)) : runF gc fs (n + 1) 15 [t.d, nD f, a.d] S = .ok (chgD (chgOf t f a)) S := by
  apply eq_of_sat
  refine at_sat P.here rfl ?_
  rcases h with ⟨k, p, c, rfl, hk, hc⟩ | ⟨p, c, rfl, hk, hc⟩ | ⟨k, rfl, hk⟩
  · have hk2 : t.ps[k]'((List.getElem?_eq_some_iff.mp hk).1) = p := (List.getElem?_eq_some_iff.mp hk).2
    simp -implicitDefEqProofs (disch := first | omega | (simp; done) | (simp; omega)) [f_changes_of, startV, Act.d, fd_partsT, hk, partD, hc, prsD, chgOf, pressAt]
  · simp -implicitDefEqProofs (disch := first | omega | (simp; done) | (simp; omega)) [f_changes_of, startV, Act.d, fd_partsT, hk, partD, hc, prsD, chgOf, pressAt]
  · simp -implicitDefEqProofs (disch := first | omega | (simp; done) | (simp; omega)) [f_changes_of, startV, Act.d, fd_ticksT, hk, chgOf]
end
end TK
end
section
set_option autoImplicit false
set_option linter.all false
set_option maxRecDepth 100000
set_option maxHeartbeats 0
namespace TK
open PySem
/-! ### plain facts -/
theorem nodup_le {l : List Nat} {n : Nat} (h1 : l.Nodup) (h2 : ∀ k ∈ l, k < n) : l.length ≤ n := by
  have := h1.length_le_of_subset (l₂ := List.range n) fun k hk => List.mem_range.mpr (h2 k hk)
  simpa using this
section
variable {t : TP} {q : List (Nat × Nat)} {m : Nat × Nat}
theorem put_keys (h : m.1 ∈ q.map (·.1)) : (putN' q m).map (·.1) = q.map (·.1) := by
  have e : (q.map fun o => if o.1 = m.1 then m else o).map (·.1) = q.map (·.1) := by
    rw [List.map_map]
    apply List.map_congr_left
    intro o _
    by_cases ho : o.1 = m.1 <;> simp [ho]
  have hm : m ∈ q.map fun o => if o.1 = m.1 then m else o := by
    obtain ⟨o, ho, e⟩ := List.mem_map.mp h
    exact List.mem_map.mpr ⟨o, ho, by simp [e]⟩
  simp only [putN', hm, if_true]
  exact e
theorem put_same (h : ¬ m.1 ∈ q.map (·.1)) : putN' q m = q ++ [m] := by
  have e : (q.map fun o => if o.1 = m.1 then m else o) = q := by
    conv => rhs; rw [← List.map_id q]
    apply List.map_congr_left
    intro o ho
    have : ¬ o.1 = m.1 := fun z => h (List.mem_map.mpr ⟨o, ho, z⟩)
    simp [this]
  have hm : ¬ m ∈ q := fun z => h (List.mem_map.mpr ⟨m, z, rfl⟩)
  simp only [putN', e, hm, if_false]
theorem put_nodup (h : (q.map (·.1)).Nodup) : ((putN' q m).map (·.1)).Nodup := by
  by_cases hm : m.1 ∈ q.map (·.1)
  · rw [put_keys hm]; exact h
  · rw [put_same hm, List.map_append, List.nodup_append]
    refine ⟨h, by simp, fun a ha b hb => ?_⟩
    simp only [List.map_cons, List.map_nil, List.mem_singleton] at hb
    rintro rfl
    exact hm (hb ▸ ha)
theorem put_mem {o : Nat × Nat} (h : o ∈ putN' q m) : o = m ∨ o ∈ q := by
  unfold putN' at h
  have key : ∀ o, o ∈ (q.map fun o => if o.1 = m.1 then m else o) → o = m ∨ o ∈ q := fun o h => by
    obtain ⟨p, hp, e⟩ := List.mem_map.mp h
    by_cases hq : p.1 = m.1
    · simp [hq] at e; exact .inl e.symm
    · simp [hq] at e; exact .inr (e ▸ hp)
  simp only at h
  split at h
  · exact key o h
  · rcases List.mem_append.mp h with h | h
    · exact key o h
    · exact .inl (List.mem_singleton.mp h)
def okQ (t : TP) (q : List (Nat × Nat)) : Prop := (q.map (·.1)).Nodup ∧ ∀ m ∈ q, m.1 < t.ps.length
theorem okQ.put (h : okQ t q) (hm : m.1 < t.ps.length) : okQ t (putN' q m) := ⟨put_nodup h.1, fun o ho => by
  rcases put_mem ho with rfl | ho
  · exact hm
  · exact h.2 o ho⟩
theorem okQ.len (ht : t.ok) (h : okQ t q) : q.length ≤ 4 := by
  have h1 := nodup_le h.1 (n := t.ps.length) fun k hk => by
    obtain ⟨m, hm, rfl⟩ := List.mem_map.mp hk
    exact h.2 m hm
  have := ht.ps
  simp at h1
  omega
theorem okQ.say (ht : t.ok) {vs later : List Nat} (h : okQ t q) : okQ t (sayN t vs later q) := by
  unfold sayN
  have : ∀ (l : List Nat) (q : List (Nat × Nat)), okQ t q → (∀ k ∈ l, k < t.ps.length) → okQ t (l.foldl (fun qu k => if (wordsN t later).getD k 0 ≠ (wordsN t vs).getD k 0 then putN' qu (k, (wordsN t later).getD k 0) else qu) q) := by
    intro l
    induction l with
    | nil => intro q h _; exact h
    | cons k l ih =>
      intro q h hl
      rw [List.foldl_cons]
      refine ih _ ?_ fun j hj => hl j (List.mem_cons_of_mem _ hj)
      split
      · exact h.put (hl k List.mem_cons_self)
      · exact h
  exact this t.lv q h ht.lv.2
theorem chg_ok (ht : t.ok) : ∀ (c : Chg) (vs : List Nat), okVals t vs → (∀ p ∈ c, p.1 < t.zs.length) → okVals t (chgN t vs c)
  | [], vs, h, _ => h
  | p :: c, vs, h, hc => by
    have hp := hc p List.mem_cons_self
    obtain ⟨z, hz1⟩ : ∃ z, t.zs[p.1]? = some z := ⟨_, List.getElem?_eq_getElem hp⟩
    have hz2 := zs_pos ht hz1
    refine chg_ok ht c _ (h.set (v := (vs.getD p.1 0 + p.2) % t.zs.getD p.1 0) hz1 ?_) fun q hq => hc q (List.mem_cons_of_mem _ hq)
    rw [getD_of hz1]
    exact Nat.mod_lt _ (by omega)
theorem next_lt (ht : t.ok) {f : Nat} (hf : f < t.ps.length) : nextN t f < t.ps.length := by
  unfold nextN
  cases e : ((List.range' 1 t.ps.length).map fun s => (f + s) % t.ps.length).find? (· ∉ t.sk) with
  | none => exact hf
  | some k =>
    have := List.mem_of_find?_eq_some e
    obtain ⟨s, _, rfl⟩ := List.mem_map.mp this
    exact Nat.mod_lt _ (by omega)
theorem isPress_lt {k : Nat} (h : isPress t k = true) : ∃ p c, t.ps[k]? = some p ∧ p.press = some c := by
  unfold isPress at h
  split at h
  · rename_i p e
    obtain ⟨c, hc⟩ := Option.isSome_iff_exists.mp h
    exact ⟨p, c, e, hc⟩
  · cases h
theorem mem_acts {w : Wd} {a : Act} : a ∈ actsN t w ↔ match a with
    | .point k => isPress t k = true
    | .next => True
    | .press => isPress t w.foc = true
    | .tick k => k < t.ts.length
    | .speak => w.q ≠ [] := by
  have hp : ∀ k, isPress t k = true → k < t.ps.length := fun k h => by
    obtain ⟨p, _, e, _⟩ := isPress_lt h
    exact (List.getElem?_eq_some_iff.mp e).1
  cases a with
  | point k => simp [actsN]; exact hp k
  | next => simp [actsN]
  | press => simp [actsN]
  | tick k => simp [actsN]
  | speak => simp [actsN]
theorem chgOf_ok (ht : t.ok) {w : Wd} {a : Act} (h : a ∈ actsN t w) (h1 : a ≠ .next) (h2 : a ≠ .speak) : okChg t.zs (chgOf t w.foc a) := by
  have pr : ∀ k, isPress t k = true → okChg t.zs (pressAt t k) := fun k hk => by
    obtain ⟨p, c, e, hc⟩ := isPress_lt hk
    have := (ht.ps.2.2 p (List.mem_of_getElem? e)).2.2 c hc
    simpa [pressAt, e, hc] using this
  have h := mem_acts.mp h
  cases a with
  | point k => exact pr k h
  | next => exact absurd rfl h1
  | press => exact pr _ h
  | tick k =>
    have e : t.ts[k]? = some (t.ts[k]'h) := List.getElem?_eq_getElem h
    show okChg t.zs (t.ts.getD k [])
    rw [getD_of e]
    exact ht.ts.2 _ (List.getElem_mem h)
  | speak => exact absurd rfl h2
theorem Wd.ok.qu {w : Wd} (h : w.ok t) : okQ t w.q := ⟨h.qn, h.qp⟩
theorem after_wd (ht : t.ok) {w : Wd} (hw : w.ok t) {a : Act} (ha : a ∈ actsN t w) : (afterN t w a).1.ok t := by
  have gen : ∀ a, a ∈ actsN t w → a ≠ .next → a ≠ .speak → (⟨chgN t w.vals (chgOf t w.foc a), w.foc, sayN t w.vals (chgN t w.vals (chgOf t w.foc a)) w.q⟩ : Wd).ok t := fun a ha h1 h2 =>
    ⟨chg_ok ht _ _ hw.vals fun p hp => ((chgOf_ok ht ha h1 h2).2.2 p hp).1, hw.foc, (hw.qu.say ht).1, (hw.qu.say ht).2⟩
  cases a with
  | point k => exact gen _ ha (by simp) (by simp)
  | press => exact gen _ ha (by simp) (by simp)
  | tick k => exact gen _ ha (by simp) (by simp)
  | next => exact ⟨hw.vals, next_lt ht hw.foc, (hw.qu.put (next_lt ht hw.foc)).1, (hw.qu.put (next_lt ht hw.foc)).2⟩
  | speak =>
    refine ⟨hw.vals, hw.foc, ?_, fun m hm => hw.qp m (List.mem_of_mem_tail hm)⟩
    show (w.q.tail.map (·.1)).Nodup
    rw [List.map_tail]
    exact hw.qn.tail
theorem start_wd (ht : t.ok) : (startN t).ok t := by
  refine ⟨⟨by simp [startN], fun i v z h1 h2 => ?_⟩, by have := ht.ps; simp [startN]; omega, by simp [startN], by simp [startN]⟩
  simp [startN, h2] at h1
  have := zs_pos ht h2
  omega
end
/-! ### after -/
section
variable {gc : Nat → D} {fs : List Fn} {n : Nat} {S : Sx} {t : TP}
theorem cut1 {xs : List D} {x : D} : cutD (x :: xs) (some 1) none = xs := by
  have h1 : HT.sIx (x :: xs).length 0 (some 1) = 1 := by
    have := HT.sIx_nat (x :: xs).length 0 1
    simp only [Int.natCast_one] at this
    rw [this]; simp
  have h2 : HT.sIx (x :: xs).length (x :: xs).length none = xs.length + 1 := rfl
  unfold cutD
  rw [h1, h2]
  simp
theorem after_ok (ht : t.ok) (P : P_after fs) {w : Wd} (hw : w.ok t) {a : Act} (ha : a ∈ actsN t w) : runF gc fs (n + 2) 16 [t.d, w.d, a.d] S = .ok (.tup [(afterN t w a).1.d, msgD (afterN t w a).2]) S := by
  have hp := ht.ps
  apply eq_of_sat
  refine at_sat P.here rfl ?_
  have hact := acts_ok (gc := gc) (n := n) (S := S) ht P.acts hw.foc
  have hin := nin_lv (a := a.d) (xs := (actsN t w).map Act.d) (S := S) (Act.dat a) (dat_map.mpr fun b _ => Act.dat b)
  have hin2 : a.d ∈ (actsN t w).map Act.d := (mem_inj Act.inj).mpr ha
  have hwo : ∀ vs, okVals t vs → runF gc fs (n + 1) 10 [t.d, .tup (vs.map nD)] S = .ok (.tup ((wordsN t vs).map nD)) S := fun vs h => words_ok ht P.words h
  have wl : ∀ vs, (wordsN t vs).length = t.ps.length := fun vs => by simp [wordsN]
  have wat : ∀ vs k, k < t.ps.length → ∃ u, (wordsN t vs)[k]? = some u := fun vs k hk => by
    have : k < (wordsN t vs).length := by rw [wl]; exact hk
    exact ⟨_, List.getElem?_eq_getElem this⟩
  clear wl
  have gen : ∀ b, b = a → b ≠ .next → b ≠ .speak → (ess gc (runF gc fs (n + 1)) f_after.body (startV f_after.nv [t.d, w.d, a.d]) S).sat fun fl S' => match fl with
      | .nx _ => False
      | .rt d => d = .tup [(⟨chgN t w.vals (chgOf t w.foc a), w.foc, sayN t w.vals (chgN t w.vals (chgOf t w.foc a)) w.q⟩ : Wd).d, .tup []] ∧ S' = S
      | _ => False := by
    intro b hb h1 h2
    subst hb
    have hc := chgOf_ok ht ha h1 h2
    have hv2 := chg_ok ht _ _ hw.vals fun p hp => (hc.2.2 p hp).1
    have e1 : runF gc fs (n + 1) 15 [t.d, nD w.foc, b.d] S = .ok (chgD (chgOf t w.foc b)) S := by
      refine changes_of_ok P.changes_of ?_
      have h := mem_acts.mp ha
      cases b with
      | point k => obtain ⟨p, c, x, y⟩ := isPress_lt h; exact .inl ⟨k, p, c, rfl, x, y⟩
      | next => exact absurd rfl h1
      | press => obtain ⟨p, c, x, y⟩ := isPress_lt h; exact .inr (.inl ⟨p, c, rfl, x, y⟩)
      | tick k => exact .inr (.inr ⟨k, rfl, h⟩)
      | speak => exact absurd rfl h2
    have e2 := changed_ok (gc := gc) (n := n) (S := S) ht P.changed hw.vals hc
    have hd : ∃ x r, b.d = .tup (.str x :: r) ∧ PyData.strOk x = true ∧ x ≠ "speak" ∧ x ≠ "next" := by
      cases b with
      | point k => exact ⟨_, _, rfl, by simp, by simp, by simp⟩
      | next => exact absurd rfl h1
      | press => exact ⟨_, _, rfl, by simp, by simp, by simp⟩
      | tick k => exact ⟨_, _, rfl, by simp, by simp, by simp⟩
      | speak => exact absurd rfl h2
    obtain ⟨x, r, ed, x1, x2, x3⟩ := hd
    rw [ed] at hin hin2 e1
    rw [ed]
    simp only [Wd.d] at hact
    simp -implicitDefEqProofs (disch := first | omega | assumption | (simp; done) | (simp; omega)) [f_after, startV, hact, hin, hin2, Wd.d, -List.mem_map, -List.map_map, x1, x2, x3]
    simp -implicitDefEqProofs (disch := first | omega | assumption | (simp; done) | (simp; omega)) [e1, e2, hwo _ hw.vals, hwo _ hv2, fd_liveT, -List.mem_map, -List.map_map]
    refine forL_sat (fun (xs : List Nat) s S' => ∃ q x9, s = [some t.d, some (.tup [.tup (w.vals.map nD), nD w.foc, .tup (w.q.map pairD)]), some (.tup (.str x :: r)), some (.tup (w.vals.map nD)), some (nD w.foc), some (.tup (q.map pairD)), some (.tup ((chgN t w.vals (chgOf t w.foc b)).map nD)), some (.tup ((wordsN t w.vals).map nD)), some (.tup ((wordsN t (chgN t w.vals (chgOf t w.foc b))).map nD)), x9] ∧ S' = S ∧ okQ t q ∧ (∀ k ∈ xs, k < t.ps.length) ∧
      xs.foldl (fun qu k => if (wordsN t (chgN t w.vals (chgOf t w.foc b))).getD k 0 ≠ (wordsN t w.vals).getD k 0 then putN' qu (k, (wordsN t (chgN t w.vals (chgOf t w.foc b))).getD k 0) else qu) q = sayN t w.vals (chgN t w.vals (chgOf t w.foc b)) w.q) (fun _ _ _ _ => rfl) ?_ ?_ ⟨w.q, none, rfl, rfl, hw.qu, ht.lv.2, rfl⟩
    · rintro k xs _ S ⟨q, x9, rfl, rfl, hq, hk, hf⟩
      refine ⟨_, rfl, ?_⟩
      have hk0 := hk k List.mem_cons_self
      have hql := hq.len ht
      obtain ⟨u1, w1⟩ := wat w.vals k hk0
      obtain ⟨u2, w2⟩ := wat (chgN t w.vals (chgOf t w.foc b)) k hk0
      rw [List.foldl_cons, getD_of w1, getD_of w2] at hf
      have hput := put_ok (gc := gc) (n := n) (S := S) P.put (q := q) (m := (k, u2)) (by omega)
      simp only [pairD] at hput
      by_cases h : u2 = u1
      · simp -implicitDefEqProofs (disch := first | omega | assumption | (simp; done) | (simp; omega)) [w1, w2, h]
        simp only [h, ne_eq, not_true, if_false] at hf
        exact ⟨q, rfl, hq, fun a ha => hk a (List.mem_cons_of_mem _ ha), by simpa using hf⟩
      · simp -implicitDefEqProofs (disch := first | omega | assumption | (simp; done) | (simp; omega)) [w1, w2, h, hput]
        simp only [h, ne_eq, not_false_eq_true, if_true] at hf
        exact ⟨putN' q (k, u2), rfl, hq.put (m := (k, u2)) hk0, fun a ha => hk a (List.mem_cons_of_mem _ ha), by simpa using hf⟩
    · rintro s S ⟨q, x9, rfl, rfl, hq, hk, hf⟩
      simp only [List.foldl_nil] at hf
      simp -implicitDefEqProofs (disch := first | omega | assumption | (simp; done) | (simp; omega)) [hf]
  cases a with
  | point k => exact (gen _ rfl (by simp) (by simp)).imp fun fl S' h => by cases fl <;> first | exact h | exact h.elim
  | press => exact (gen _ rfl (by simp) (by simp)).imp fun fl S' h => by cases fl <;> first | exact h | exact h.elim
  | tick k => exact (gen _ rfl (by simp) (by simp)).imp fun fl S' h => by cases fl <;> first | exact h | exact h.elim
  | speak =>
    have hq := mem_acts.mp ha
    simp only at hq
    obtain ⟨m, q, e⟩ : ∃ m q, w.q = m :: q := by
      cases h : w.q with
      | nil => exact absurd h hq
      | cons m q => exact ⟨m, q, rfl⟩
    simp only [Act.d] at hin hin2
    simp only [Wd.d, e, List.map_cons] at hact
    simp -implicitDefEqProofs (disch := first | omega | assumption | (simp; done) | (simp; omega)) [f_after, startV, hact, hin, hin2, Wd.d, Act.d, -List.mem_map, -List.map_map, e, slcD, cut1, afterN, msgD]
  | next =>
    have hl := next_lt ht hw.foc
    have hql := hw.qu.len ht
    obtain ⟨u, hu⟩ := wat w.vals _ hl
    have hput := put_ok (gc := gc) (n := n) (S := S) P.put (q := w.q) (m := (nextN t w.foc, u)) (by omega)
    simp only [pairD] at hput
    simp only [Act.d] at hin hin2
    simp only [Wd.d] at hact
    simp -implicitDefEqProofs (disch := first | omega | assumption | (simp; done) | (simp; omega)) [f_after, startV, hact, hin, hin2, Wd.d, Act.d, -List.mem_map, -List.map_map, next_ok ht P.next_focus, hwo _ hw.vals, hu, hput, afterN, msgD]
end
end TK
end
section
set_option autoImplicit false
set_option linter.all false
set_option maxRecDepth 100000
set_option maxHeartbeats 0
namespace TK
open PySem
/-! ### the law's data, the first rows of a law -/
def TP.dv (t : TP) : D := .dv keysP t.pd.vals
section
variable {t : TP} {S : Sx}
theorem dg_sizesT : dgetD t.dv (.str "sizes") S = some (.tup (t.zs.map nD)) := by
  show dgetD (.dv keysP t.pd.vals) (.str "sizes") S = _
  rw [dg_sizes]; simp [TP.pd, map_nD]
theorem dg_partsT : dgetD t.dv (.str "parts") S = some (.tup (t.ps.map partD)) := by
  show dgetD (.dv keysP t.pd.vals) (.str "parts") S = _
  rw [dg_parts]; simp [TP.pd]
theorem dg_ticksT : dgetD t.dv (.str "ticks") S = some (.tup (t.ts.map chgD)) := by
  show dgetD (.dv keysP t.pd.vals) (.str "ticks") S = _
  rw [dg_ticks]; simp [TP.pd]
theorem dg_liveT : dgetD t.dv (.str "live") S = some (.tup (t.lv.map nD)) := by
  show dgetD (.dv keysP t.pd.vals) (.str "live") S = _
  rw [dg_live]; simp [TP.pd, map_nD]
theorem dg_skipsT : dgetD t.dv (.str "skips") S = some (.tup (t.sk.map nD)) := by
  show dgetD (.dv keysP t.pd.vals) (.str "skips") S = _
  rw [dg_skips]; simp [TP.pd, map_nD]
end
section
variable {gc : Nat → D} {rest : List Fn} {n : Nat} {S : Sx} {t : TP}
theorem made_T (h7 : gc 0 = .int 7) (h : t.ok) : runF gc (comA ++ rest) (n + 6) 8 [t.dv] S = .ok t.d S := made_ok h7 h.pd
theorem data_T {c q w : Nat} (P : Pl gc rest c q w) (h : Dr [] S) : ∃ (t : TP) (S' : Sx), t.ok ∧ runF gc (comA ++ rest) (n + 3) w [.obj 1] S = .ok t.dv S' ∧ Dr [.lst (t.ps.map partD)] S' := by
  obtain ⟨p, S', hp, e, d⟩ := data_ok (n := n) P h
  obtain ⟨t, rfl, ht⟩ := hp.typed
  exact ⟨t, S', ht, e, d⟩
theorem draw_N {r : Sx} {m : Nat} (hm : 0 < m) (hm2 : m < 1073741824) (h : Dr r S) : ∃ (v : Nat) (S' : Sx), runF gc (comA ++ rest) (n + 1) 7 [.obj 1, .int (m : Int)] S = .ok (nD v) S' ∧ v < m ∧ Dr r S' := by
  obtain ⟨v, S', e, d, v1, v2⟩ := draw (gc := gc) (rest := rest) (n := n) (m := (m : Int)) (by omega) (by omega) h
  obtain ⟨k, rfl⟩ := Int.eq_ofNat_of_zero_le v1
  exact ⟨k, S', e, by omega, d⟩
theorem init_St {gc : Nat → D} {G : Gm} {ns : List Int} (h : ns.length ≤ 63) {s : Vs} (h0 : s.getD 0 none = some (.scr ns)) : (ev gc G (.lst true (.cons (.b1 (.list true) (.v 0)) (.cons (.c (.int 0)) (.cons (.c (.int 1)) .nil))))).val s [] = .ok (.obj 1) (St ns 0 1 []) := by
  have e : newL true (ns.map D.int) [] = .ok (.obj 0) [.lst (ns.map D.int)] := newL_t (szl_t (by simp; omega))
  have e2 : newL true [.obj 0, .int 0, .int 1] [.lst (ns.map D.int)] = .ok (.obj 1) [.lst (ns.map D.int), .lst [.obj 0, .int 0, .int 1]] := newL_t (szl_t (by simp))
  simp only [ev_lst, evs_cons, evs_nil, ev_b1, ev_v, ev_c, h0, lift_some, R.bind_ok, b1_list, e]
  exact e2
theorem St_dr {ns : List Int} {r : Sx} : Dr r (St ns 0 1 r) := ⟨_, _, _, rfl⟩
end
/-! ### nexts -/
section
variable (t : TP)
def keptN : List Nat := (List.range t.ps.length).filter (· ∉ t.sk)
def laterN (f : Nat) : List Nat := (keptN t).filter (f < ·)
end
section
variable {t : TP}
theorem turns {f n : Nat} (h : f < n) : ((List.range' 1 n).map fun s => (f + s) % n) = List.range' (f + 1) (n - 1 - f) ++ List.range (f + 1) := by
  apply List.ext_getElem
  · simp; omega
  · intro i h1 h2
    simp only [List.length_map, List.length_range'] at h1
    simp only [List.getElem_map, List.getElem_range', List.getElem_append]
    split
    · rename_i h3
      simp only [List.length_range'] at h3
      have : f + (1 + 1 * i) = f + 1 + 1 * i := by omega
      rw [this, Nat.mod_eq_of_lt (by omega)]
    · rename_i h3
      simp only [List.length_range'] at h3 ⊢
      have : f + (1 + 1 * i) = n + (i - (n - 1 - f)) := by omega
      rw [this, Nat.add_mod_left, Nat.mod_eq_of_lt (by omega)]
      simp
theorem kept_split {f : Nat} (h : f < t.ps.length) : List.range t.ps.length = List.range (f + 1) ++ List.range' (f + 1) (t.ps.length - 1 - f) := by
  rw [List.range_eq_range', List.range_eq_range']
  have := List.range'_append (s := 0) (m := f + 1) (n := t.ps.length - 1 - f) (step := 1)
  simp only [Nat.one_mul, Nat.zero_add] at this
  rw [this]
  congr 1
  omega
theorem later_eq {f : Nat} (h : f < t.ps.length) : laterN t f = (List.range' (f + 1) (t.ps.length - 1 - f)).filter (· ∉ t.sk) := by
  unfold laterN keptN
  rw [kept_split h, List.filter_append, List.filter_append]
  have h1 : ((List.range (f + 1)).filter (· ∉ t.sk)).filter (f < ·) = [] := by
    rw [List.filter_eq_nil_iff]
    intro a ha
    have := List.mem_range.mp (List.mem_filter.mp ha).1
    simp; omega
  have h2 : ((List.range' (f + 1) (t.ps.length - 1 - f)).filter (· ∉ t.sk)).filter (f < ·) = (List.range' (f + 1) (t.ps.length - 1 - f)).filter (· ∉ t.sk) := by
    rw [List.filter_eq_self]
    intro a ha
    have := (List.mem_range'_1.mp (List.mem_filter.mp ha).1).1
    simp; omega
  rw [h1, h2, List.nil_append]
theorem next_eq {f : Nat} (h : f < t.ps.length) : nextN t f = ((laterN t f).head?.or (keptN t).head?).getD f := by
  unfold nextN
  rw [turns h, List.find?_append, later_eq h, List.head?_filter]
  have hk : (keptN t).head? = (List.range t.ps.length).find? (· ∉ t.sk) := by
    unfold keptN
    rw [List.head?_filter]
  rw [hk]
  cases e : (List.range' (f + 1) (t.ps.length - 1 - f)).find? (· ∉ t.sk) with
  | some k => rfl
  | none =>
    rw [kept_split h, List.find?_append, e]
    simp
theorem kept_lt {k : Nat} (h : k ∈ keptN t) : k < t.ps.length := List.mem_range.mp (List.mem_filter.mp h).1
theorem kept_asc : (keptN t).Pairwise (· < ·) := List.Pairwise.filter _ (by rw [List.range_eq_range']; exact List.pairwise_lt_range')
/-- behind the i-th of the kept ones -/
theorem later_at : ∀ {l : List Nat} {i : Nat} (h : i < l.length), l.Pairwise (· < ·) → l.filter (l[i] < ·) = l.drop (i + 1)
  | a :: l, 0, _, h => by
    obtain ⟨h1, h2⟩ := List.pairwise_cons.mp h
    simp only [List.getElem_cons_zero, List.drop_succ_cons, List.drop_zero]
    rw [List.filter_cons_of_neg (by simp), List.filter_eq_self]
    intro b hb
    simp [h1 b hb]
  | a :: l, i + 1, hi, h => by
    obtain ⟨h1, h2⟩ := List.pairwise_cons.mp h
    simp only [List.length_cons] at hi
    simp only [List.getElem_cons_succ, List.drop_succ_cons]
    rw [List.filter_cons_of_neg (by have := h1 l[i] (List.getElem_mem _); simp; omega)]
    exact later_at (by omega) h2
theorem next_at {i : Nat} (h : i < (keptN t).length) : nextN t (keptN t)[i] = (keptN t)[(i + 1) % (keptN t).length]'(Nat.mod_lt _ (by omega)) := by
  rw [next_eq (kept_lt (List.getElem_mem h))]
  unfold laterN
  rw [later_at h kept_asc, List.head?_drop]
  by_cases h2 : i + 1 < (keptN t).length
  · rw [List.getElem?_eq_getElem h2]
    simp [Nat.mod_eq_of_lt h2]
  · have h3 : i + 1 = (keptN t).length := by omega
    rw [List.getElem?_eq_none (by omega)]
    have h4 : 0 < (keptN t).length := by omega
    simp [h3, List.head?_eq_getElem?, List.getElem?_eq_getElem h4]
end
end TK
end
section
set_option autoImplicit false
set_option linter.all false
set_option maxRecDepth 100000
set_option maxHeartbeats 0
/-! ### texts as lists of signs -/
namespace TK
open PySem
def mkS (l : List Nat) : Str := ⟨l.toArray⟩
theorem mkS_inj {a b : List Nat} : mkS a = mkS b ↔ a = b := by simp [mkS]
theorem mkS_len {a : List Nat} : (mkS a).length = a.length := rfl
theorem mkS_app {a b : List Nat} : mkS a ++ mkS b = mkS (a ++ b) := by
  show Str.append (mkS a) (mkS b) = _
  simp [Str.append, mkS]
theorem mkS_cps {a : List Nat} : (mkS a).cps.toList = a := rfl
theorem ofS {s : String} {l : List Nat} (h : s.toList.map Char.toNat = l) : Str.ofString s = mkS l := by
  rw [Str.ofString_eq_toList, h]; rfl
abbrev sD (l : List Nat) : D := .str (mkS l)
theorem mkS_ok {a : List Nat} (h : ∀ c ∈ a, c < 200) : PyData.strOk (mkS a) = true := by
  show (mkS a).cps.all (· < 0x110000) = true
  simp only [mkS, List.all_toArray, List.all_eq_true, decide_eq_true_eq]
  intro c hc
  have := h c hc
  omega
theorem cat_S {a b : List Nat} {S : Sx} (h : a.length + b.length ≤ 1000000) : opD .add (sD a) (sD b) S = some (sD (a ++ b)) := by
  show (if (mkS a).length + (mkS b).length ≤ sizeLine then some (D.str (mkS a ++ mkS b)) else none) = _
  rw [mkS_len, mkS_len, if_szl h, mkS_app]
def jn (z : List Nat) : List (List Nat) → List Nat
  | [] => []
  | [x] => x
  | x :: y :: r => x ++ z ++ jn z (y :: r)
theorem strs_S : ∀ (ls : List (List Nat)), strsD (ls.map sD) = some (ls.map mkS)
  | [] => rfl
  | l :: ls => by
    show (strsD (ls.map sD)).map (mkS l :: ·) = _
    rw [strs_S ls]; rfl
theorem join_S (z : List Nat) : ∀ ls : List (List Nat), Str.join (mkS z) (ls.map mkS) = mkS (jn z ls)
  | [] => rfl
  | [x] => rfl
  | x :: y :: r => by
    show mkS x ++ mkS z ++ Str.join (mkS z) ((y :: r).map mkS) = _
    rw [join_S z (y :: r), mkS_app, mkS_app]
    rfl
theorem joinD_S {z : List Nat} {ls : List (List Nat)} {d : D} {S : Sx} (hd : seqOf d S = some (ls.map sD)) (h : (ls.map List.length).sum + ls.length * z.length ≤ 1000000) : joinD (mkS z) d S = some (sD (jn z ls)) := by
  unfold joinD
  rw [hd]
  simp only [strs_S]
  have e : ((ls.map mkS).map (·.length)).sum + (ls.map mkS).length * (mkS z).length = (ls.map List.length).sum + ls.length * z.length := by
    rw [List.map_map, List.length_map, mkS_len]
    rfl
  rw [e, if_pos (by omega)]
  show some (D.str (Txt.join (mkS z) (ls.map mkS))) = _
  rw [TL.join_eq, join_S]
theorem jn_nil : ∀ ls : List (List Nat), jn [] ls = ls.flatten
  | [] => rfl
  | [x] => by simp [jn]
  | x :: y :: r => by
    show x ++ [] ++ jn [] (y :: r) = _
    rw [jn_nil (y :: r)]; simp
/-- one sign ahead of each -/
theorem jn_one (c : Nat) (w : List Nat) : ∀ ls : List (List Nat), jn [c] (w :: ls) = w ++ ls.flatMap (c :: ·)
  | [] => by simp [jn]
  | y :: r => by
    have := jn_one c y r
    show w ++ [c] ++ jn [c] (y :: r) = _
    rw [this]; simp
theorem dig_str {n : Nat} (h : n ≤ 9) {S : Sx} : b1D .str (nD n) S = .ok (sD [48 + n]) S := by
  have e : ∀ n : Nat, n ≤ 9 → (Str.ofString (toString (n : Int) : String)) = mkS [48 + n] ∧ (n : Int).natAbs.log2 < 1920 := by decide +kernel
  obtain ⟨e1, e2⟩ := e n h
  show (if (n : Int).natAbs.log2 < 1920 then R.ok (D.str (Str.ofString (toString (n : Int) : String))) S else .bad) = _
  rw [if_pos e2, e1]
theorem dig_at {n : Nat} (h : n ≤ 7) {S : Sx} : ixD (.str "01234567") (nD n) S = some (sD [48 + n]) := by
  have e : ∀ n : Nat, n ≤ 7 → (Str.ofString "01234567").length ≤ 1000 ∧ (L2.atI (Str.ofString "01234567").cps.toList (n : Int)) = some (48 + n) := by decide +kernel
  obtain ⟨e1, e2⟩ := e n h
  show (if (Str.ofString "01234567").length ≤ sizeLine then (L2.atI (Str.ofString "01234567").cps.toList (n : Int)).map fun c => D.str ⟨#[c]⟩ else none) = _
  rw [if_szl (by omega), e2]
  rfl
end TK
end
section
set_option autoImplicit false
set_option linter.all false
set_option maxRecDepth 100000
set_option maxHeartbeats 0
namespace TK
open PySem
/-- rows one after the other -/
def Sms.app : Sms → Sms → Sms
  | .nil, b => b
  | .cons s r, b => .cons s (r.app b)
theorem sat_app {gc : Nat → D} {G : Gm} {Q : Fl → Sx → Prop} {b : Sms} : ∀ {a : Sms} {s : Vs} {S : Sx}, ((ess gc G a s S).sat fun f S' => match f with
    | .nx s' => (ess gc G b s' S').sat Q
    | f => Q f S') → (ess gc G (a.app b) s S).sat Q
  | .nil, s, S, h => by
    rw [ess_nil, sat_ok] at h
    exact h
  | .cons x r, s, S, h => by
    show (ess gc G (.cons x (r.app b)) s S).sat Q
    apply sat_cons
    rw [ess_cons, sat_bind] at h
    refine h.imp fun f S' h => ?_
    cases f with
    | nx s' => exact sat_app h
    | rt d => have h : (R.ok (Fl.rt d) S').sat _ := h; rw [sat_ok] at h; exact h
    | bk s' => have h : (R.ok (Fl.bk s') S').sat _ := h; rw [sat_ok] at h; exact h
    | ct s' => have h : (R.ok (Fl.ct s') S').sat _ := h; rw [sat_ok] at h; exact h
/-! ### messages: what is looked up -/
def lookQ : List (Nat × Nat) → Nat → Option Nat
  | [], _ => none
  | m :: q, k => if m.1 = k then some m.2 else lookQ q k
section
variable {t : TP} {q : List (Nat × Nat)} {m : Nat × Nat} {k : Nat}
theorem look_none : lookQ q k = none ↔ k ∉ q.map (·.1) := by
  induction q with
  | nil => simp [lookQ]
  | cons o q ih =>
    by_cases h : o.1 = k
    · simp [lookQ, h]
    · have : ¬ k = o.1 := fun z => h z.symm
      simp only [lookQ, h, if_false, ih, List.map_cons, List.mem_cons, this, false_or]
theorem look_app {r : List (Nat × Nat)} : lookQ (q ++ r) k = (lookQ q k).or (lookQ r k) := by
  induction q with
  | nil => simp [lookQ]
  | cons o q ih =>
    by_cases h : o.1 = k
    · simp [lookQ, h]
    · simp [lookQ, h, ih]
theorem look_map : lookQ (q.map fun o => if o.1 = m.1 then m else o) k = if k = m.1 then (lookQ q k).map (fun _ => m.2) else lookQ q k := by
  induction q with
  | nil => simp [lookQ]
  | cons o q ih =>
    by_cases h : o.1 = m.1
    · by_cases hk : k = m.1
      · subst hk; simp [lookQ, h]
      · have : ¬ m.1 = k := fun z => hk z.symm
        simp only [List.map_cons, h, if_true, lookQ, this, if_false, ih, hk, if_neg]
    · by_cases hk : k = m.1
      · subst hk
        simp only [List.map_cons, h, if_false, lookQ, ih, if_true]
      · simp only [List.map_cons, h, if_false, lookQ, ih, hk]
theorem look_put : lookQ (putN' q m) k = if k = m.1 then some m.2 else lookQ q k := by
  by_cases hm : m.1 ∈ q.map (·.1)
  · have e : putN' q m = q.map fun o => if o.1 = m.1 then m else o := by
      have h2 : m ∈ q.map fun o => if o.1 = m.1 then m else o := by
        obtain ⟨o, ho, e⟩ := List.mem_map.mp hm
        exact List.mem_map.mpr ⟨o, ho, by simp [e]⟩
      simp only [putN', h2, if_true]
    rw [e, look_map]
    by_cases hk : k = m.1
    · subst hk
      cases hl : lookQ q m.1 with
      | none => exact absurd hm (look_none.mp hl)
      | some x => simp
    · simp [hk]
  · rw [put_same hm, look_app]
    by_cases hk : k = m.1
    · subst hk
      rw [look_none.mpr hm]; simp [lookQ]
    · have : ¬ m.1 = k := fun z => hk z.symm
      simp [lookQ, this, hk]
/-- what live parts have said -/
def sayF (l new old : List Nat) (q : List (Nat × Nat)) : List (Nat × Nat) := l.foldl (fun qu k => if new.getD k 0 ≠ old.getD k 0 then putN' qu (k, new.getD k 0) else qu) q
theorem look_sayF {new old : List Nat} : ∀ (l : List Nat) (q : List (Nat × Nat)), lookQ (sayF l new old q) k = if k ∈ l ∧ new.getD k 0 ≠ old.getD k 0 then some (new.getD k 0) else lookQ q k
  | [], q => by simp [sayF]
  | a :: l, q => by
    show lookQ (sayF l new old (if new.getD a 0 ≠ old.getD a 0 then putN' q (a, new.getD a 0) else q)) k = _
    rw [look_sayF l]
    by_cases h1 : k ∈ l ∧ new.getD k 0 ≠ old.getD k 0
    · rw [if_pos h1, if_pos ⟨List.mem_cons_of_mem _ h1.1, h1.2⟩]
    · rw [if_neg h1]
      by_cases hk : k = a
      · subst hk
        by_cases h2 : new.getD k 0 ≠ old.getD k 0
        · rw [if_pos (show k ∈ k :: l ∧ new.getD k 0 ≠ old.getD k 0 from ⟨List.mem_cons_self, h2⟩), if_pos h2, look_put]; simp
        · rw [if_neg h2, if_neg (fun z => h2 z.2)]
      · have h3 : ¬ (k ∈ a :: l ∧ new.getD k 0 ≠ old.getD k 0) := fun z => h1 ⟨(List.mem_cons.mp z.1).resolve_left hk, z.2⟩
        rw [if_neg h3]
        split
        · rw [look_put]; simp [hk]
        · rfl
theorem say_eq {vs later : List Nat} : sayN t vs later q = sayF t.lv (wordsN t later) (wordsN t vs) q := rfl
/-- the keys ahead stay -/
theorem put_ahead : ∃ ext, (putN' q m).map (·.1) = q.map (·.1) ++ ext := by
  by_cases hm : m.1 ∈ q.map (·.1)
  · exact ⟨[], by rw [put_keys hm]; simp⟩
  · exact ⟨[m.1], by rw [put_same hm]; simp⟩
theorem say_ahead {new old : List Nat} : ∀ (l : List Nat) (q : List (Nat × Nat)), ∃ ext, (sayF l new old q).map (·.1) = q.map (·.1) ++ ext
  | [], q => ⟨[], by simp [sayF]⟩
  | a :: l, q => by
    obtain ⟨e1, h1⟩ := say_ahead l (if new.getD a 0 ≠ old.getD a 0 then putN' q (a, new.getD a 0) else q)
    have : ∃ e2, (if new.getD a 0 ≠ old.getD a 0 then putN' q (a, new.getD a 0) else q).map (·.1) = q.map (·.1) ++ e2 := by
      split
      · exact put_ahead
      · exact ⟨[], by simp⟩
    obtain ⟨e2, h2⟩ := this
    exact ⟨e2 ++ e1, by show (sayF l new old _).map _ = _; rw [h1, h2, List.append_assoc]⟩
theorem after_ahead {w : Wd} {a : Act} (h : a ≠ .speak) : ∃ ext, (afterN t w a).1.q.map (·.1) = w.q.map (·.1) ++ ext := by
  cases a with
  | speak => exact absurd rfl h
  | next => exact put_ahead
  | point k => exact say_ahead _ _
  | press => exact say_ahead _ _
  | tick k => exact say_ahead _ _
theorem after_msg {w : Wd} {a : Act} : (afterN t w a).2 = if a = .speak then w.q.head? else none := by
  cases a <;> rfl
/-- the word of a live part that was told last, or waits -/
def LiveI (t : TP) (w : Wd) (last : List Nat) : Prop := last.length = t.ps.length ∧ ∀ k ∈ t.lv, (lookQ w.q k).getD (last.getD k 0) = (wordsN t w.vals).getD k 0
def toldL (last : List Nat) : Option (Nat × Nat) → List Nat
  | none => last
  | some m => last.set m.1 m.2
theorem live_start : LiveI t (startN t) (wordsN t (startN t).vals) := ⟨by simp [wordsN], fun k _ => by simp [startN, lookQ]⟩
theorem live_after {w : Wd} {last : List Nat} (hw : w.ok t) {a : Act} (ha : a ∈ actsN t w) (h : LiveI t w last) : LiveI t (afterN t w a).1 (toldL last (afterN t w a).2) := by
  obtain ⟨h1, h2⟩ := h
  have gen : ∀ later, LiveI t ⟨later, w.foc, sayN t w.vals later w.q⟩ last := fun later => ⟨h1, fun k hk => by
    have h3 := h2 k hk
    rw [say_eq, look_sayF]
    by_cases hc : (wordsN t later).getD k 0 ≠ (wordsN t w.vals).getD k 0
    · rw [if_pos ⟨hk, hc⟩]; rfl
    · rw [if_neg (fun z => hc z.2)]
      show _ = (wordsN t later).getD k 0
      rw [Classical.not_not.mp hc]
      exact h3⟩
  cases a with
  | point k => exact gen _
  | press => exact gen _
  | tick k => exact gen _
  | next =>
    refine ⟨h1, fun k hk => ?_⟩
    show (lookQ (putN' w.q (nextN t w.foc, (wordsN t w.vals).getD (nextN t w.foc) 0)) k).getD (last.getD k 0) = (wordsN t w.vals).getD k 0
    rw [look_put]
    by_cases e : k = nextN t w.foc
    · rw [if_pos e, e]; rfl
    · rw [if_neg e]; exact h2 k hk
  | speak =>
    have hq := mem_acts.mp ha
    simp only at hq
    obtain ⟨m, q, e⟩ : ∃ m q, w.q = m :: q := by
      cases h : w.q with
      | nil => exact absurd h hq
      | cons m q => exact ⟨m, q, rfl⟩
    have hn := hw.qn
    have hp := hw.qp m (by rw [e]; exact List.mem_cons_self)
    rw [e] at hn
    obtain ⟨n1, n2⟩ := List.nodup_cons.mp (show (m.1 :: q.map (·.1)).Nodup from hn)
    refine ⟨by simp [afterN, e, toldL, h1], fun k hk => ?_⟩
    have h3 := h2 k hk
    rw [e] at h3
    simp only [afterN, e, List.tail_cons, List.head?_cons, toldL]
    by_cases hk2 : m.1 = k
    · subst hk2
      rw [look_none.mpr n1]
      simp only [lookQ, if_true, Option.getD_some] at h3
      rw [← h3]
      have : m.1 < last.length := by rw [h1]; exact hp
      simp [this]
    · simp only [lookQ, hk2, if_false] at h3
      rw [← h3]
      congr 1
      simp [List.getElem?_set, hk2]
end
/-! ### dicts of numbers -/
def kI (n : Nat) : L2.Key := .inl (n : Int)
theorem kI_inj {a b : Nat} : kI a = kI b ↔ a = b := by
  constructor
  · intro h
    have : (a : Int) = b := Sum.inl.inj h
    omega
  · rintro rfl; rfl
theorem keyD_n {n : Nat} : keyD (nD n) = some (kI n) := rfl
theorem keyD'_n {n : Nat} : keyD' (nD n) = some (kI n) := rfl
theorem any_k {ks : List Nat} {q : Nat} : ((ks.map kI).any fun k => decide (k = kI q)) = decide (q ∈ ks) := by
  induction ks with
  | nil => simp
  | cons a ks ih =>
    have hd : ∀ x y : L2.Key, ∀ (i j : Decidable (x = y)), @decide _ i = @decide _ j := fun x y i j => by congr
    simp only [List.map_cons, List.any_cons, ih]
    by_cases h : a = q
    · subst h; simp
    · have h2 : ¬ kI a = kI q := fun z => h (kI_inj.mp z)
      have h3 : ¬ q = a := fun z => h z.symm
      simp [h2, h3]
/-- the values of the parts 0, 1, .. -/
def dkR (l : List Nat) : MO := .dk ((List.range l.length).map kI) (l.map nD)
theorem look_k : ∀ (ks : List Nat) (ds : List D) (q i : Nat), ks[i]? = some q → ks.Nodup → lookK (ks.map kI) ds (kI q) = ds[i]?
  | [], _, _, _, h, _ => by simp at h
  | k :: ks, [], q, i, h, _ => by simp [lookK]
  | k :: ks, d :: ds, q, 0, h, _ => by
    simp at h
    subst h
    simp [lookK]
  | k :: ks, d :: ds, q, i + 1, h, hn => by
    obtain ⟨h1, h2⟩ := List.nodup_cons.mp hn
    have h3 : ks[i]? = some q := by simpa using h
    have : ¬ kI k = kI q := fun z => h1 (kI_inj.mp z ▸ List.mem_of_getElem? h3)
    simp only [List.map_cons, lookK, this, if_false]
    rw [look_k ks ds q i h3 h2]
    simp
theorem look_R {l : List Nat} {k : Nat} (h : k < l.length) : lookK ((List.range l.length).map kI) (l.map nD) (kI k) = some (nD (l.getD k 0)) := by
  rw [look_k _ _ k k (by simp [h]) List.nodup_range]
  simp [h]
theorem put_R {l : List Nat} {k v : Nat} (h : k < l.length) : putKD ((List.range l.length).map kI) (l.map nD) (kI k) (nD v) = ((List.range l.length).map kI, (l.set k v).map nD) := by
  unfold putKD
  rw [any_k, if_pos (by simp [h])]
  congr 1
  apply List.ext_getElem?
  intro i
  rw [List.getElem?_zipWith]
  by_cases hi : i < l.length
  · simp only [List.getElem?_map, List.getElem?_range hi, List.getElem?_eq_getElem hi, Option.map_some, List.getElem?_set]
    by_cases e : k = i
    · subst e; simp [h]
    · have : ¬ kI i = kI k := fun z => e (kI_inj.mp z).symm
      simp [this, e, hi]
  · have h1 : ((List.range l.length).map kI)[i]? = none := List.getElem?_eq_none (by simp; omega)
    have h2 : ((l.set k v).map nD)[i]? = none := List.getElem?_eq_none (by simp; omega)
    rw [h1, h2]
theorem put_R1 {l : List Nat} {v : Nat} : putKD ((List.range l.length).map kI) (l.map nD) (kI l.length) (nD v) = ((List.range (l.length + 1)).map kI, (l ++ [v]).map nD) := by
  unfold putKD
  rw [any_k, if_neg (by simp)]
  simp [List.range_succ]
section
variable {S : Sx} {n : Nat} {l : List Nat} {k v : Nat}
theorem dput_R (h : S[n]? = some (dkR l)) (hk : k < l.length) (hl : l.length < 1000) : dputD (.obj n) (nD k) (nD v) S = some (S.set n (dkR (l.set k v))) := by
  unfold dputD
  simp only [h, dkR, keyD_n, Option.bind_some, put_R hk, List.length_map, List.length_range, List.length_set]
  rw [if_pos (Nat.lt_of_lt_of_le (by omega) szl)]
theorem dput_R1 (h : S[n]? = some (dkR l)) (hl : l.length < 1000) : dputD (.obj n) (nD l.length) (nD v) S = some (S.set n (dkR (l ++ [v]))) := by
  unfold dputD
  simp only [h, dkR, keyD_n, Option.bind_some, put_R1, List.length_map, List.length_range, List.length_append, List.length_cons, List.length_nil]
  rw [if_pos (Nat.lt_of_lt_of_le (by omega) szl)]
theorem dget_R (h : S[n]? = some (dkR l)) (hk : k < l.length) : dgetD (.obj n) (nD k) S = some (nD (l.getD k 0)) := by
  unfold dgetD
  simp only [h, dkR, keyD_n, Option.bind_some, look_R hk]
end
section
variable {xs : List Int} {c s : Int} {r : Sx} {k : Nat} {o : MO}
@[simp] theorem St_get : (St xs c s r)[k + 2]? = r[k]? := rfl
@[simp] theorem St_set : (St xs c s r).set (k + 2) o = St xs c s (r.set k o) := rfl
@[simp] theorem St_len : (St xs c s r).length = r.length + 2 := rfl
@[simp] theorem St_app : St xs c s r ++ [o] = St xs c s (r ++ [o]) := rfl
end
section
variable {gc : Nat → D} {fs : List Fn} {n : Nat} {S : Sx} {t : TP}
theorem reading_ok (ht : t.ok) (P : P_reading fs) {w : Wd} (hw : w.ok t) : runF gc fs (n + 2) 31 [t.d, w.d] S = .ok (.tup ((wordsN t w.vals ++ [w.foc]).map nD)) S := by
  have hp := ht.ps
  apply eq_of_sat
  refine at_sat P.here rfl ?_
  have h1 := words_ok (gc := gc) (n := n) (S := S) ht P.words hw.vals
  have wl : (wordsN t w.vals).length = t.ps.length := by simp [wordsN]
  have h2 : opD .add (.tup ((wordsN t w.vals).map nD)) (.tup [nD w.foc]) S = some (.tup ((wordsN t w.vals ++ [w.foc]).map nD)) := by
    show (if ((wordsN t w.vals).map nD).length + [nD w.foc].length ≤ sizeLine then some (D.tup ((wordsN t w.vals).map nD ++ [nD w.foc])) else none) = _
    rw [if_szl (by simp [wl]; omega)]; simp
  simp -implicitDefEqProofs (disch := first | omega | assumption | (simp; done) | (simp; omega)) [f_reading, startV, Wd.d, h1, h2]
theorem words_len {vs : List Nat} : (wordsN t vs).length = t.ps.length := by simp [wordsN]
end
end TK
end
section
set_option autoImplicit false
set_option linter.all false
set_option maxRecDepth 100000
set_option maxHeartbeats 0
/-! ### dicts whose keys are worlds; equality of results -/
namespace TK
open PySem
section
variable {S : Sx} {n : Nat}
def Nk (n : Nat) (d : D) : Prop := ∃ k, nkey d = some k ∧ k.depth ≤ n
theorem nk_list {n : Nat} : ∀ {ds : List D}, (∀ d ∈ ds, Nk n d) → ∃ ks, nkeys ds = some ks ∧ NestedKey.depthAll ks ≤ n
  | [], _ => ⟨[], rfl, by simp [NestedKey.depthAll]⟩
  | d :: ds, h => by
    obtain ⟨k, h1, h2⟩ := h d List.mem_cons_self
    obtain ⟨ks, k1, k2⟩ := nk_list fun e he => h e (List.mem_cons_of_mem _ he)
    exact ⟨k :: ks, by simp [nkeys, h1, k1], by simp only [NestedKey.depthAll]; omega⟩
theorem nk_tup {n : Nat} {ds : List D} (h : ∀ d ∈ ds, Nk n d) : Nk (n + 1) (.tup ds) := by
  obtain ⟨ks, k1, k2⟩ := nk_list h
  exact ⟨.tup ks, by simp [nkey, k1], by simp only [NestedKey.depth]; omega⟩
theorem nk_int {n : Nat} {i : Int} : Nk n (.int i) := ⟨.num i, rfl, by simp [NestedKey.depth]⟩
theorem nk_nat {n i : Nat} : Nk n (nD i) := nk_int
theorem nk_mono {n m : Nat} {d : D} (h : Nk n d) (hm : n ≤ m) : Nk m d := by
  obtain ⟨k, h1, h2⟩ := h
  exact ⟨k, h1, by omega⟩
theorem nkOk_of {n : Nat} {ds : List D} (h : Nk n (.tup ds)) (hn : n ≤ 8) : nkOk (.tup ds) = true := by
  obtain ⟨k, h1, h2⟩ := h
  simp only [nkOk, h1, decide_eq_true_eq]
  omega
theorem nk_pair {p : Nat × Nat} : Nk 1 (pairD p) := nk_tup fun d hd => by
  simp at hd
  rcases hd with rfl | rfl <;> exact nk_nat
theorem nk_wd {w : Wd} : Nk 3 w.d := nk_tup fun d hd => by
  simp at hd
  rcases hd with rfl | rfl | rfl
  · exact nk_mono (n := 1) (nk_tup (n := 0) fun d hd => by obtain ⟨i, _, rfl⟩ := List.mem_map.mp hd; exact nk_nat) (by omega)
  · exact nk_nat
  · exact nk_mono (n := 2) (nk_tup (n := 1) fun d hd => by obtain ⟨i, _, rfl⟩ := List.mem_map.mp hd; exact nk_pair) (by omega)
@[simp] theorem nkOk_wd {w : Wd} : nkOk w.d = true := nkOk_of nk_wd (by omega)
def dkW (fo : List Wd) (ys : List D) : MO := .dn (fo.map Wd.d) ys
theorem wd_mem {w : Wd} {fo : List Wd} : w.d ∈ fo.map Wd.d ↔ w ∈ fo := by
  constructor
  · intro h
    obtain ⟨v, hv, e⟩ := List.mem_map.mp h
    rw [← Wd.inj _ _ e]; exact hv
  · exact List.mem_map_of_mem
theorem look_W {w : Wd} : ∀ {fo : List Wd} {ys : List D} {i : Nat}, fo.Nodup → fo.length = ys.length → fo[i]? = some w → lookN' (fo.map Wd.d) ys w.d = ys[i]?
  | v :: fo, y :: ys, 0, _, _, h => by
    simp at h
    subst h
    simp [lookN']
  | v :: fo, y :: ys, i + 1, h1, h2, h => by
    obtain ⟨a1, a2⟩ := List.nodup_cons.mp h1
    have h3 : fo[i]? = some w := by simpa using h
    have hm := List.mem_of_getElem? h3
    have hne : v.d ≠ w.d := fun e => a1 (by rw [Wd.inj _ _ e]; exact hm)
    simp only [List.map_cons, lookN', if_neg hne, List.getElem?_cons_succ]
    exact look_W a2 (by simpa using h2) h3
  | [], ys, i, _, _, h => by simp at h
  | v :: fo, [], i, _, h2, _ => by simp at h2
theorem dget_W {fo : List Wd} {ys : List D} {w : Wd} {i : Nat} (h : S[n]? = some (dkW fo ys)) (h1 : fo.Nodup) (h2 : fo.length = ys.length) (h3 : fo[i]? = some w) : dgetD (.obj n) w.d S = ys[i]? := by
  simp only [dgetD, h, dkW, nkOk_wd, if_true]
  exact look_W h1 h2 h3
theorem dput_W {fo : List Wd} {ys : List D} {w : Wd} {v : D} (h : S[n]? = some (dkW fo ys)) (h1 : w ∉ fo) (hl : fo.length < 1000) : dputD (.obj n) w.d v S = some (S.set n (dkW (fo ++ [w]) (ys ++ [v]))) := by
  have hs : fo.length < sizeLine := Nat.lt_of_lt_of_le (by omega) szl
  have hm : w.d ∉ fo.map Wd.d := fun h => h1 (wd_mem.mp h)
  simp only [dputD, h, dkW, nkOk_wd, List.length_map, hs, and_self, if_true, putND, if_neg hm]
  simp
theorem nin_W {fo : List Wd} {ys : List D} {w : Wd} (h : S[n]? = some (dkW fo ys)) : cmpD .nin w.d (.obj n) S = some (!decide (w ∈ fo)) := by
  show (inD w.d (.obj n) S).map (!·) = _
  simp only [inD, h, dkW, nkOk_wd, if_true, Option.map_some, wd_mem]
/-! equality -/
theorem eqD_same {a b : D} {x : PyData} (h1 : pyOf2 a S = some x) (h2 : pyOf2 b S = some x) (hs : SeqAt.shaped x = true) : eqD a b S = some true := by
  have hc : PyData.canLay0 x = true := by
    unfold SeqAt.shaped at hs
    simp at hs
    exact hs.1
  simp only [eqD, h1, h2, hs, Bool.and_self, if_true, SeqAt.eqv_refl x hc]
theorem py_lst {e : D} {xs : List D} (h : lstOf e S = some xs) : pyOf e S = (toPys xs).map .list := by
  cases e with
  | lv ys => cases h; rfl
  | obj k =>
    simp only [lstOf] at h
    simp only [pyOf]
    split at h
    · rename_i e1
      cases h
      rfl
    · cases h
  | _ => cases h
theorem pyOf2_lst {e : D} {xs : List D} (h : lstOf e S = some xs) : pyOf2 e S = (toPys xs).map .list := by
  cases e with
  | tup ds => cases h
  | _ => exact py_lst h
theorem shp_lst {xs : List D} (h : ∀ d ∈ xs, Dat 16 d) : ∃ x, toPys xs = some x ∧ PyData.canLay0 (.list x) = true ∧ PyData.depth (.list x) ≤ 17 := by
  obtain ⟨x, a1, a2, a3⟩ := dat_list (n := 16) (Dat.py 16) xs h
  exact ⟨x, a1, a2, by simp only [PyData.depth]; omega⟩
theorem shaped_of {x : PyData} (h1 : PyData.canLay0 x = true) (h2 : PyData.depth x ≤ 18) : SeqAt.shaped x = true := by
  unfold SeqAt.shaped
  simp [h1]
  omega
theorem addl_o {a b : D} {xs ys : List D} (h1 : lstOf a S = some xs) (h2 : lstOf b S = some ys) (hl : xs.length + ys.length ≤ 1000000) : addlD a b S = .ok (.obj S.length) (S ++ [.lst (xs ++ ys)]) := by
  have hs : (xs ++ ys).length ≤ sizeLine := Nat.le_trans (by simpa using hl) szl
  simp only [addlD, h1, h2, newL, if_pos hs, if_true]
theorem lst_lv {xs : List D} : lstOf (.lv xs) S = some xs := rfl
theorem lst_e {xs : List D} : lstOf (.obj S.length) (S ++ [.lst xs]) = some xs := by simp [lstOf]
/-- equal lists -/
theorem eq_lists {a b : D} {xs : List D} (h1 : lstOf a S = some xs) (h2 : lstOf b S = some xs) (h : ∀ d ∈ xs, Dat 16 d) : eqD a b S = some true := by
  obtain ⟨x, a1, a2, a3⟩ := shp_lst h
  exact eqD_same (x := .list x) (by rw [pyOf2_lst h1, a1]; rfl) (by rw [pyOf2_lst h2, a1]; rfl) (shaped_of a2 (by omega))
end
end TK
end
section
set_option autoImplicit false
set_option linter.all false
set_option maxRecDepth 100000
set_option maxHeartbeats 0
namespace TK
open PySem
def cW (s : String) : List Nat := s.toList.map Char.toNat
theorem ofC (s : String) : Str.ofString s = mkS (cW s) := ofS rfl
def lineC (w ns : List Nat) : List Nat := w ++ ns.flatMap fun n => [32, 48 + n]
def flatC (c : Chg) : List Nat := c.flatMap fun p => [p.1, p.2]
theorem lineC_len (w ns : List Nat) : (lineC w ns).length = w.length + 2 * ns.length := by
  simp only [lineC, List.length_append]
  congr 1
  induction ns with
  | nil => rfl
  | cons n ns ih => simp only [List.flatMap_cons, List.length_append, List.length_cons, List.length_nil, ih]; omega
theorem flatC_len (c : Chg) : (flatC c).length = 2 * c.length := by
  induction c with
  | nil => rfl
  | cons n ns ih => simp only [flatC, List.flatMap_cons, List.length_append, List.length_cons, List.length_nil] at ih ⊢; rw [ih]; omega
section
variable {gc : Nat → D} {fs : List Fn} {n : Nat} {S : Sx} {t : TP}
theorem line_of_ok (P : P_line_of fs) {w ns : List Nat} {d : D} (hd : d = .tup (ns.map nD) ∨ d = .lv (ns.map nD)) (hw : w.length ≤ 10) (hn : ns.length ≤ 100) (h9 : ∀ k ∈ ns, k ≤ 9) : runF gc fs (n + 1) 23 [sD w, d] S = .ok (sD (lineC w ns ++ [10])) S := by
  apply eq_of_sat
  refine at_sat P.here rfl ?_
  have hlc : lcL (.nm 2) (evc gc (runF gc fs n) .none) (ev gc (runF gc fs n) (.b1 .str (.v 2))).val (fun _ => true) [some (sD w), some d, none] (ns.map nD) [] S = .ok ((ns.map fun k => [48 + k]).map sD) S :=
    lc_mapG ns nD (fun k => [48 + k]) sD rfl (by omega) (fun k hk => ⟨_, rfl, by
      have := dig_str (h9 k hk) (S := S)
      simp [this]⟩)
  have hcat : opD .add (.lv [sD w]) (.lv ((ns.map fun k => [48 + k]).map sD)) S = some (.lv ((w :: ns.map fun k => [48 + k]).map sD)) := by
    show (if [sD w].length + ((ns.map fun k => [48 + k]).map sD).length ≤ sizeLine then some (D.lv ([sD w] ++ (ns.map fun k => [48 + k]).map sD)) else none) = _
    rw [if_szl (by simp; omega)]; rfl
  have hsum : ∀ l : List Nat, ((l.map fun k => [48 + k]).map List.length).sum = l.length := fun l => by
    induction l with
    | nil => rfl
    | cons a l ih => simp only [List.map_cons, List.sum_cons, ih, List.length_cons, List.length_nil]; omega
  have hj : joinD (mkS [32]) (.lv ((w :: ns.map fun k => [48 + k]).map sD)) S = some (sD (lineC w ns)) := by
    rw [joinD_S (ls := w :: ns.map fun k => [48 + k]) rfl (by simp only [List.map_cons, List.sum_cons, hsum, List.length_cons, List.length_map, List.length_nil]; omega), jn_one]
    simp [lineC, List.flatMap_map]
  have hc2 : opD .add (sD (lineC w ns)) (sD [10]) S = some (sD (lineC w ns ++ [10])) := cat_S (by rw [lineC_len]; simp; omega)
  have e1 : Str.ofString " " = mkS [32] := ofS rfl
  have e2 : Str.ofString "\n" = mkS [10] := ofS rfl
  rcases hd with rfl | rfl
  · simp -implicitDefEqProofs (disch := first | omega | assumption | (simp; done) | (simp; omega)) [f_line_of, startV, -List.map_map, e1, e2, strD]
    rw [hlc]
    simp only [List.map_cons] at hj hcat
    simp -implicitDefEqProofs (disch := first | omega | assumption | (simp; done) | (simp; omega)) [-List.map_map, hcat, hj, strD, hc2]
  · simp -implicitDefEqProofs (disch := first | omega | assumption | (simp; done) | (simp; omega)) [f_line_of, startV, -List.map_map, e1, e2, strD]
    rw [hlc]
    simp only [List.map_cons] at hj hcat
    simp -implicitDefEqProofs (disch := first | omega | assumption | (simp; done) | (simp; omega)) [-List.map_map, hcat, hj, strD, hc2]
theorem law_line_ok (P : P_law_line fs) {w ns : List Nat} {d : D} (hd : d = .tup (ns.map nD) ∨ d = .lv (ns.map nD)) (hw : w.length ≤ 10) (hn : ns.length ≤ 100) (h7 : ∀ k ∈ ns, k ≤ 7) : runF gc fs (n + 1) 26 [sD w, d] S = .ok (sD (lineC w ns)) S := by
  apply eq_of_sat
  refine at_sat P.here rfl ?_
  have e1 : Str.ofString " " = mkS [32] := ofS rfl
  have key : (forL (.nm 3) (fun _ => true) (ess gc (runF gc fs n) (.cons (.set 2 (.bin .add (.bin .add (.v 2) (.c (.str " "))) (.sub (.c (.str "01234567")) (.v 3)))) .nil)) (ns.map nD) [some (sD w), some d, some (sD w), none] S).sat fun fl S' => ∃ x, fl = .nx [some (sD w), some d, some (sD (lineC w ns)), x] ∧ S' = S := by
    refine forL_sat (fun (xs : List Nat) s S' => ∃ u x, s = [some (sD w), some d, some (sD u), x] ∧ S' = S ∧ lineC u xs = lineC w ns ∧ (∀ k ∈ xs, k ≤ 7) ∧ u.length + 2 * xs.length ≤ 1000) (fun _ _ _ _ => rfl) ?_ ?_ ⟨w, none, rfl, rfl, rfl, h7, by omega⟩
    · rintro k xs _ S ⟨u, x, rfl, rfl, h1, h2, h3⟩
      refine ⟨_, rfl, ?_⟩
      have hk := h2 k List.mem_cons_self
      simp only [List.length_cons] at h3
      have c1 := cat_S (a := u) (b := [32]) (S := S) (by simp; omega)
      have c2 := cat_S (a := u ++ [32]) (b := [48 + k]) (S := S) (by simp; omega)
      have c3 := dig_at hk (S := S)
      simp -implicitDefEqProofs [e1, c1, c2, c3]
      exact ⟨_, rfl, by rw [← h1]; simp [lineC], fun j hj => h2 j (List.mem_cons_of_mem _ hj), by simp; omega⟩
    · rintro s S ⟨u, x, rfl, rfl, h1, h2, h3⟩
      have h1 : u = lineC w ns := by rw [← h1]; simp [lineC]
      exact ⟨x, by rw [h1], rfl⟩
  rcases hd with rfl | rfl <;>
  · simp -implicitDefEqProofs [f_law_line, startV, -List.map_map]
    refine key.imp ?_
    rintro fl S' ⟨x, rfl, rfl⟩
    simp
theorem flat_ok (P : P_flat fs) {c : Chg} (hc : c.length ≤ 100) : runF gc fs (n + 1) 24 [chgD c] S = .ok (.lv ((flatC c).map nD)) S := by
  apply eq_of_sat
  refine at_sat P.here rfl ?_
  have key : ∀ (xs : Chg) (acc : List Nat), acc.length + 2 * xs.length ≤ 1000 → lc2L (.nm 1) (.nm 2) (ev gc (runF gc fs n) (.v 1)).val (ev gc (runF gc fs n) (.v 2)).val (fun _ => true) [some (chgD c), none, none] [2] (xs.map pairD) (acc.map nD) S = .ok ((acc ++ flatC xs).map nD) S := by
    intro xs
    induction xs with
    | nil => intro acc _; simp [lc2L, flatC]
    | cons p xs ih =>
      intro acc hl
      simp only [List.length_cons] at hl
      have := ih (acc ++ [p.1, p.2]) (by simp; omega)
      simp -implicitDefEqProofs (disch := first | omega | assumption | (simp; done) | (simp; omega)) [lc2L, pairD, lcL]
      rw [show (List.map nD acc ++ [nD p.1, nD p.2]) = (acc ++ [p.1, p.2]).map nD by simp, this]
      simp [flatC]
  have k0 := key c [] (by simp; omega)
  simp only [List.map_nil, List.nil_append] at k0
  have hl := flatC_len c
  simp -implicitDefEqProofs (disch := first | omega | assumption | (simp; done) | (simp; omega)) [f_flat, startV, -List.map_map, chgD]
  simp only [chgD] at k0
  rw [k0]
  simp -implicitDefEqProofs (disch := first | omega | assumption | (simp; done) | (simp; omega)) []
theorem law_flat_ok (P : P_law_flat fs) {c : Chg} (hc : c.length ≤ 100) : runF gc fs (n + 1) 27 [chgD c] S = .ok (.lv ((flatC c).map nD)) S := by
  apply eq_of_sat
  refine at_sat P.here rfl ?_
  simp -implicitDefEqProofs (disch := first | omega | assumption | (simp; done) | (simp; omega)) [f_law_flat, startV, -List.map_map, chgD]
  refine forL_sat (fun (xs : Chg) s S' => ∃ u x y, s = [some (chgD c), some (.lv (u.map nD)), x, y] ∧ S' = S ∧ u ++ flatC xs = flatC c ∧ u.length + 2 * xs.length ≤ 1000) (fun _ _ _ _ => rfl) ?_ ?_ ⟨[], none, none, rfl, rfl, rfl, by simp; omega⟩
  · rintro p xs _ S ⟨u, x, y, rfl, rfl, h1, h2⟩
    refine ⟨_, rfl, ?_⟩
    simp only [List.length_cons] at h2
    have hcat : opD .add (.lv (u.map nD)) (.lv [nD p.1, nD p.2]) S = some (.lv ((u ++ [p.1, p.2]).map nD)) := by
      show (if (u.map nD).length + [nD p.1, nD p.2].length ≤ sizeLine then some (D.lv (u.map nD ++ [nD p.1, nD p.2])) else none) = _
      rw [if_szl (by simp; omega)]; simp
    simp -implicitDefEqProofs (disch := first | omega | assumption | (simp; done) | (simp; omega)) [hcat, -List.map_append]
    exact ⟨u ++ [p.1, p.2], rfl, by rw [← h1]; simp [flatC], by simp; omega⟩
  · rintro s S ⟨u, x, y, rfl, rfl, h1, h2⟩
    have : u = flatC c := by rw [← h1]; simp [flatC]
    simp [this]
end
end TK
end
section
set_option autoImplicit false
set_option linter.all false
set_option maxRecDepth 100000
set_option maxHeartbeats 0
namespace TK
open PySem
def partL (p : Part) : List (List Nat) := [cW "part", lineC (cW "look") (p.look.1 :: p.look.2), lineC (cW "word") (p.word.1 :: p.word.2)] ++ (match p.press with
  | none => []
  | some c => [lineC (cW "press") (flatC c)])
def linesC (t : TP) : List (List Nat) := [lineC (cW "sizes") t.zs] ++ t.ps.flatMap partL ++ t.ts.map (fun c => lineC (cW "tick") (flatC c)) ++ (if t.lv = [] then [] else [lineC (cW "live") t.lv]) ++ (if t.sk = [] then [] else [lineC (cW "skips") t.sk])
def textC (t : TP) : List Nat := ((linesC t).map (· ++ [10])).flatten
theorem tab_7 {zs : List Nat} {a : Tab} (hz : zs.length ≤ 3 ∧ ∀ z ∈ zs, z ≤ 4) (h : okTab zs a) : (∀ k ∈ a.1 :: a.2, k ≤ 7) ∧ (a.1 :: a.2).length ≤ 5 := by
  obtain ⟨h1, h2⟩ := h
  have h3 := (List.getElem?_eq_some_iff.mp h1).1
  have h4 := hz.2 _ (List.mem_of_getElem? h1)
  refine ⟨fun k hk => ?_, by simp; omega⟩
  rcases List.mem_cons.mp hk with rfl | hk
  · omega
  · exact h2 k hk
theorem chg_7 {zs : List Nat} {c : Chg} (hz : zs.length ≤ 3) (h : okChg zs c) : (∀ k ∈ flatC c, k ≤ 7) ∧ (flatC c).length ≤ 6 := by
  obtain ⟨h1, h2, h3⟩ := h
  refine ⟨fun k hk => ?_, by rw [flatC_len]; omega⟩
  obtain ⟨p, hp, hk⟩ := List.mem_flatMap.mp hk
  have := h3 p hp
  simp at hk
  omega
theorem part_len (p : Part) : (partL p).length ≤ 4 := by
  unfold partL
  cases p.press <;> simp
theorem asc_len {l : List Nat} {n : Nat} (h : l.Pairwise (· < ·)) (h2 : ∀ k ∈ l, k < n) : l.length ≤ n := by
  refine nodup_le (h.imp fun h => Nat.ne_of_lt h) h2
theorem TP.ok.z4 {t : TP} (h : t.ok) : t.zs.length ≤ 3 ∧ ∀ z ∈ t.zs, z ≤ 4 := ⟨h.zs.2.1, fun z hz => (h.zs.2.2 z hz).2⟩
section
variable {gc : Nat → D} {fs : List Fn} {n : Nat} {S : Sx} {t : TP}
theorem line_of_okS (P : P_line_of fs) {s : String} {ns : List Nat} {d : D} (hd : d = .tup (ns.map nD) ∨ d = .lv (ns.map nD)) (hw : (cW s).length ≤ 10) (hn : ns.length ≤ 100) (h7 : ∀ k ∈ ns, k ≤ 7) : runF gc fs (n + 1) 23 [.str (Str.ofString s), d] S = .ok (sD (lineC (cW s) ns ++ [10])) S := by
  rw [ofC]; exact line_of_ok P hd hw hn fun k hk => by have := h7 k hk; omega
theorem law_line_okS (P : P_law_line fs) {s : String} {ns : List Nat} {d : D} (hd : d = .tup (ns.map nD) ∨ d = .lv (ns.map nD)) (hw : (cW s).length ≤ 10) (hn : ns.length ≤ 100) (h7 : ∀ k ∈ ns, k ≤ 7) : runF gc fs (n + 1) 26 [.str (Str.ofString s), d] S = .ok (sD (lineC (cW s) ns)) S := by
  rw [ofC]; exact law_line_ok P hd hw hn h7
theorem cat_tup {xs ys : List D} (h : xs.length + ys.length ≤ 1000000) : opD .add (.tup xs) (.tup ys) S = some (.tup (xs ++ ys)) := by
  show (if xs.length + ys.length ≤ sizeLine then some (D.tup (xs ++ ys)) else none) = _
  rw [if_szl h]
theorem cat_lv {xs ys : List D} (h : xs.length + ys.length ≤ 1000000) : opD .add (.lv xs) (.lv ys) S = some (.lv (xs ++ ys)) := by
  show (if xs.length + ys.length ≤ sizeLine then some (D.lv (xs ++ ys)) else none) = _
  rw [if_szl h]
def wpBody : Sms := (.cons (.ex (.app (.v 1) (.c (.str "part\n")))) (.cons (.ex (.app (.v 1) (.call 23 0 (.cons (.c (.str "look")) (.cons (.bin .add (.tup (.cons (.sub (.v 2) (.c (.int 0))) .nil)) (.sub (.v 2) (.c (.int 1)))) .nil))))) (.cons (.ex (.app (.v 1) (.call 23 0 (.cons (.c (.str "word")) (.cons (.bin .add (.tup (.cons (.sub (.v 3) (.c (.int 0))) .nil)) (.sub (.v 3) (.c (.int 1)))) .nil))))) (.cons (.ite (.cmp .isn (.v 4) (.c .non)) (.cons (.ex (.app (.v 1) (.call 23 0 (.cons (.c (.str "press")) (.cons (.call 24 0 (.cons (.v 4) .nil)) .nil))))) .nil) .nil) .nil))))
theorem wp_part (hz : t.zs.length ≤ 3 ∧ ∀ z ∈ t.zs, z ≤ 4) (P : P_write_program fs) {p : Part} (hp : okPart t.zs p) {L : List (List Nat)} (hL : L.length ≤ 100) {x0 : Option D} : (ess gc (runF gc fs (n + 1)) wpBody [x0, some (.obj S.length), some (tabD p.look), some (tabD p.word), some (prsD p.press), none] (S ++ [.lst (L.map sD)])).sat fun fl S' => fl = .nx [x0, some (.obj S.length), some (tabD p.look), some (tabD p.word), some (prsD p.press), none] ∧ S' = S ++ [.lst ((L ++ (partL p).map (· ++ [10])).map sD)] := by
  obtain ⟨o1, o2, o3⟩ := hp
  obtain ⟨a1, a2⟩ := tab_7 hz o1
  obtain ⟨b1, b2⟩ := tab_7 hz o2
  have e0 : Str.ofString "part\n" = mkS (cW "part" ++ [10]) := ofS rfl
  have l1 := fun S => line_of_okS (gc := gc) (n := n) (S := S) P.line_of (s := "look") (ns := p.look.1 :: p.look.2) (.inl rfl) (by decide) (by omega) a1
  have l2 := fun S => line_of_okS (gc := gc) (n := n) (S := S) P.line_of (s := "word") (ns := p.word.1 :: p.word.2) (.inl rfl) (by decide) (by omega) b1
  simp only [List.map_cons, List.length_cons] at l1 l2 a2 b2
  have c1 := fun S => cat_tup (S := S) (xs := [nD p.look.1]) (ys := p.look.2.map nD) (by simp; omega)
  have c2 := fun S => cat_tup (S := S) (xs := [nD p.word.1]) (ys := p.word.2.map nD) (by simp; omega)
  simp only [List.cons_append, List.nil_append] at c1 c2
  cases hpr : p.press with
  | none => simp -implicitDefEqProofs (disch := first | omega | assumption | (simp; done) | (simp; omega)) [wpBody, e0, tabD, c1, c2, l1, l2, prsD, partL, hpr]
  | some c =>
    obtain ⟨d1, d2⟩ := chg_7 hz.1 (o3 c hpr)
    have f1 := fun S => flat_ok (gc := gc) (n := n) (S := S) P.flat (c := c) (by have := (o3 c hpr).2.1; omega)
    have l3 := fun S => line_of_okS (gc := gc) (n := n) (S := S) P.line_of (s := "press") (ns := flatC c) (.inr rfl) (by decide) (by omega) d1
    simp only [chgD] at f1
    simp -implicitDefEqProofs (disch := first | omega | assumption | (simp; done) | (simp; omega)) [wpBody, e0, tabD, c1, c2, l1, l2, l3, f1, prsD, chgD, partL, hpr]
end
end TK
end
section
set_option autoImplicit false
set_option linter.all false
set_option maxRecDepth 100000
set_option maxHeartbeats 0
namespace TK
open PySem
def wordsW : List String := ["sizes", "part", "look", "word", "press", "tick", "live", "skips"]
theorem line_mem {t : TP} (ht : t.ok) {l : List Nat} (h : l ∈ linesC t) : ∃ w ns, w ∈ wordsW ∧ l = lineC (cW w) ns ∧ ns.length ≤ 6 ∧ ∀ k ∈ ns, k ≤ 7 := by
  have hz := ht.z4
  have hps := ht.ps
  simp only [linesC, List.mem_append, List.mem_singleton, List.mem_flatMap, List.mem_map] at h
  rcases h with (((rfl | ⟨p, hp, h⟩) | ⟨c, hc, rfl⟩) | h) | h
  · exact ⟨"sizes", t.zs, by simp [wordsW], rfl, by omega, fun k hk => by have := hz.2 k hk; omega⟩
  · obtain ⟨o1, o2, o3⟩ := ht.ps.2.2 p hp
    obtain ⟨a1, a2⟩ := tab_7 hz o1
    obtain ⟨b1, b2⟩ := tab_7 hz o2
    simp only [partL, List.mem_append, List.mem_cons, List.not_mem_nil, or_false] at h
    rcases h with (rfl | rfl | rfl) | h
    · exact ⟨"part", [], by simp [wordsW], by simp [lineC], by simp, by simp⟩
    · exact ⟨"look", _, by simp [wordsW], rfl, by omega, a1⟩
    · exact ⟨"word", _, by simp [wordsW], rfl, by omega, b1⟩
    · cases hpr : p.press with
      | none => rw [hpr] at h; simp at h
      | some c =>
        rw [hpr] at h
        simp only [List.mem_singleton] at h
        obtain ⟨d1, d2⟩ := chg_7 hz.1 (o3 c hpr)
        exact ⟨"press", _, by simp [wordsW], h, by omega, d1⟩
  · obtain ⟨d1, d2⟩ := chg_7 hz.1 (ht.ts.2 c hc)
    exact ⟨"tick", _, by simp [wordsW], rfl, by omega, d1⟩
  · split at h
    · simp at h
    · rw [List.mem_singleton] at h
      exact ⟨"live", _, by simp [wordsW], h, by have := asc_len ht.lv.1 ht.lv.2; omega, fun k hk => by have := ht.lv.2 k hk; omega⟩
  · split at h
    · simp at h
    · rw [List.mem_singleton] at h
      exact ⟨"skips", _, by simp [wordsW], h, by have := asc_len ht.sk.1 ht.sk.2; omega, fun k hk => by have := ht.sk.2 k hk; omega⟩
theorem line_30 {t : TP} (ht : t.ok) {l : List Nat} (h : l ∈ linesC t) : l.length ≤ 30 ∧ ∀ c ∈ l, c < 200 ∧ c ≠ 10 := by
  obtain ⟨w, ns, hw, rfl, h1, h2⟩ := line_mem ht h
  have hw2 : (cW w).length ≤ 5 ∧ ∀ c ∈ cW w, c < 200 ∧ c ≠ 10 := by
    have : ∀ w ∈ wordsW, (cW w).length ≤ 5 ∧ ∀ c ∈ cW w, c < 200 ∧ c ≠ 10 := by decide +kernel
    exact this w hw
  refine ⟨by rw [lineC_len]; omega, fun c hc => ?_⟩
  rcases List.mem_append.mp hc with hc | hc
  · exact hw2.2 c hc
  · obtain ⟨k, hk, hc⟩ := List.mem_flatMap.mp hc
    have := h2 k hk
    simp at hc
    omega
theorem parts_len {ps : List Part} : (ps.flatMap partL).length ≤ 4 * ps.length := by
  induction ps with
  | nil => simp
  | cons p ps ih =>
    have := part_len p
    simp only [List.flatMap_cons, List.length_append, List.length_cons]
    omega
theorem lines_21 {t : TP} (ht : t.ok) : (linesC t).length ≤ 21 := by
  have h1 := ht.ps
  have h2 := ht.ts
  have h3 := parts_len (ps := t.ps)
  have h4 : (if t.lv = [] then [] else [lineC (cW "live") t.lv]).length ≤ 1 := by split <;> simp
  have h5 : (if t.sk = [] then [] else [lineC (cW "skips") t.sk]).length ≤ 1 := by split <;> simp
  simp only [linesC, List.length_append, List.length_map, List.length_cons, List.length_nil]
  omega
theorem sum_le {ls : List (List Nat)} {B : Nat} (h : ∀ l ∈ ls, l.length ≤ B) : (ls.map List.length).sum ≤ B * ls.length := by
  induction ls with
  | nil => simp
  | cons l ls ih =>
    have h1 := h l List.mem_cons_self
    have h2 := ih fun m hm => h m (List.mem_cons_of_mem _ hm)
    simp only [List.map_cons, List.sum_cons, List.length_cons, Nat.mul_add, Nat.mul_one]
    omega
section
variable {gc : Nat → D} {fs : List Fn} {n : Nat} {S : Sx} {t : TP}
theorem text_join (ht : t.ok) {d : D} (hd : seqOf d S = some (((linesC t).map (· ++ [10])).map sD)) : joinD (mkS []) d S = some (sD (textC t)) := by
  rw [joinD_S hd ?_, jn_nil]
  · rfl
  · have h1 := lines_21 ht
    have h2 := sum_le (ls := (linesC t).map (· ++ [10])) (B := 31) fun l hl => by
      obtain ⟨m, hm, rfl⟩ := List.mem_map.mp hl
      have := (line_30 ht hm).1
      simp; omega
    simp only [List.length_map, List.length_nil, Nat.mul_zero, Nat.add_zero] at h2 ⊢
    omega
theorem write_ok (ht : t.ok) (P : P_write_program fs) : wrp 2 S (runF gc fs (n + 2) 25 [t.d] S) = .ok (sD (textC t)) S := by
  refine wrp2_sat (at_sat P.here rfl ?_) rfl (fun k => by simp)
  have hz := ht.z4
  have hps := ht.ps
  have hts := ht.ts
  have lv4 := asc_len ht.lv.1 ht.lv.2
  have sk4 := asc_len ht.sk.1 ht.sk.2
  have l0 := fun S => line_of_okS (gc := gc) (n := n) (S := S) P.line_of (s := "sizes") (ns := t.zs) (.inl rfl) (by decide) (by omega) fun k hk => by have := hz.2 k hk; omega
  have l1 := fun S => line_of_okS (gc := gc) (n := n) (S := S) P.line_of (s := "live") (ns := t.lv) (.inl rfl) (by decide) (by omega) fun k hk => by have := ht.lv.2 k hk; omega
  have l2 := fun S => line_of_okS (gc := gc) (n := n) (S := S) P.line_of (s := "skips") (ns := t.sk) (.inl rfl) (by decide) (by omega) fun k hk => by have := ht.sk.2 k hk; omega
  have e2 : Str.ofString "" = mkS [] := ofS rfl
  simp -implicitDefEqProofs (disch := first | omega | assumption | (simp; done) | (simp; omega)) [f_write_program, startV, -List.map_map, fd_sizesT, fd_partsT, l0]
  refine forL_sat (fun (xs : List Part) s S' => ∃ L x2 x3 x4, s = [some t.d, some (.obj S.length), x2, x3, x4, none] ∧ S' = S ++ [.lst (L.map sD)] ∧ L ++ (xs.flatMap partL).map (· ++ [10]) = ([lineC (cW "sizes") t.zs] ++ t.ps.flatMap partL).map (· ++ [10]) ∧ (∀ p ∈ xs, okPart t.zs p) ∧ L.length ≤ 100) (fun _ _ _ _ => rfl) ?_ ?_ ⟨[lineC (cW "sizes") t.zs ++ [10]], none, none, none, rfl, by simp, by simp, hps.2.2, by simp⟩
  · rintro p xs s S' ⟨L, x2, x3, x4, rfl, rfl, h1, h2, h3⟩
    refine ⟨_, rfl, (wp_part (n := n) hz P (h2 p List.mem_cons_self) h3 (x0 := some t.d)).imp ?_⟩
    rintro fl S2 ⟨rfl, rfl⟩
    refine ⟨L ++ (partL p).map (· ++ [10]), _, _, _, rfl, rfl, by rw [← h1]; simp, fun q hq => h2 q (List.mem_cons_of_mem _ hq), ?_⟩
    have hl := congrArg List.length h1
    have h3 := parts_len (ps := t.ps)
    simp only [List.length_append, List.length_map, List.flatMap_cons, List.length_cons, List.length_nil] at hl ⊢
    omega
  · rintro s S' ⟨L, x2, x3, x4, rfl, rfl, h1, _, h3⟩
    simp only [List.flatMap_nil, List.map_nil, List.append_nil] at h1
    subst h1
    generalize hL : ([lineC (cW "sizes") t.zs] ++ t.ps.flatMap partL).map (· ++ [10]) = L at *
    simp -implicitDefEqProofs (disch := first | omega | assumption | (simp; done) | (simp; omega)) [-List.map_map, fd_ticksT]
    have hlc := fun S => lc_mapG (gc := gc) (G := runF gc fs (n + 1)) t.ts chgD (fun c => lineC (cW "tick") (flatC c) ++ [10]) sD (tg := .nm 5) (elt := .call 23 0 (.cons (.c (.str "tick")) (.cons (.call 24 0 (.cons (.v 5) .nil)) .nil))) (still := fun _ => true) (sw := [some t.d, some (.obj S.length), x2, x3, x4, none]) (S := S ++ [.lst (L.map sD)]) rfl (by omega) (fun c hc => ⟨_, rfl, by
      have hc2 := ht.ts.2 c hc
      obtain ⟨d1, d2⟩ := chg_7 hz.1 hc2
      have f1 := fun S => flat_ok (gc := gc) (n := n) (S := S) P.flat (c := c) (by have := hc2.2.1; omega)
      have l3 := fun S => line_of_okS (gc := gc) (n := n) (S := S) P.line_of (s := "tick") (ns := flatC c) (.inr rfl) (by decide) (by omega) d1
      simp -implicitDefEqProofs [f1, l3]⟩)
    rw [hlc]
    have hT : ∀ (b c : List (List Nat)), b = (if t.lv = [] then [] else [lineC (cW "live") t.lv ++ [10]]) → c = (if t.sk = [] then [] else [lineC (cW "skips") t.sk ++ [10]]) → L ++ t.ts.map (fun c => lineC (cW "tick") (flatC c) ++ [10]) ++ b ++ c = (linesC t).map (· ++ [10]) := fun b c hb hc => by
      rw [hb, hc, ← hL]
      have e1 : (if t.lv = [] then [] else [lineC (cW "live") t.lv ++ [10]]) = (if t.lv = [] then [] else [lineC (cW "live") t.lv]).map (· ++ [10]) := by split <;> simp
      have e2 : (if t.sk = [] then [] else [lineC (cW "skips") t.sk ++ [10]]) = (if t.sk = [] then [] else [lineC (cW "skips") t.sk]).map (· ++ [10]) := by split <;> simp
      rw [e1, e2]
      unfold linesC
      simp only [List.map_append, List.map_map]
      rfl
    generalize t.ts.map (fun c => lineC (cW "tick") (flatC c) ++ [10]) = M at *
    have hM : M.length ≤ 1000 := by
      have := congrArg List.length (hT _ _ rfl rfl)
      have h21 := lines_21 ht
      simp only [List.length_append, List.length_map] at this
      omega
    have hj := fun (ls : List (List Nat)) (S : Sx) (h : ls = (linesC t).map (· ++ [10])) => text_join (S := S ++ [.lst (ls.map sD)]) (d := .obj S.length) ht (by simp [h])
    by_cases hlv : t.lv = [] <;> by_cases hsk : t.sk = []
    · have := hT [] [] (by rw [if_pos hlv]) (by rw [if_pos hsk])
      have hjj := hj _ S this
      simp -implicitDefEqProofs (disch := first | omega | assumption | (simp; done) | (simp; omega)) [-List.map_map, fd_liveT, fd_skipsT, hlv, hsk, extD, e2, strD] at hjj ⊢
      simp [hjj]
    · have := hT [] _ (by rw [if_pos hlv]) rfl
      rw [if_neg hsk] at this
      have hjj := hj _ S this
      simp -implicitDefEqProofs (disch := first | omega | assumption | (simp; done) | (simp; omega)) [-List.map_map, fd_liveT, fd_skipsT, hlv, hsk, extD, e2, strD, l2] at hjj ⊢
      simp [hjj]
    · have := hT _ [] rfl (by rw [if_pos hsk])
      rw [if_neg hlv] at this
      have hjj := hj _ S this
      simp -implicitDefEqProofs (disch := first | omega | assumption | (simp; done) | (simp; omega)) [-List.map_map, fd_liveT, fd_skipsT, hlv, hsk, extD, e2, strD, l1] at hjj ⊢
      simp [hjj]
    · have := hT _ _ rfl rfl
      rw [if_neg hlv, if_neg hsk] at this
      have hjj := hj _ S this
      simp -implicitDefEqProofs (disch := first | omega | assumption | (simp; done) | (simp; omega)) [-List.map_map, fd_liveT, fd_skipsT, hlv, hsk, extD, e2, strD, l1, l2] at hjj ⊢
      simp [hjj]
end
end TK
end
section
set_option autoImplicit false
set_option linter.all false
set_option maxRecDepth 100000
set_option maxHeartbeats 0
/-! ### texts that are read: lines -/
namespace TK
open PySem
namespace MP
/-! split -/
theorem spl_hit1 {c : Nat} : ∀ (w : List Nat) (acc r : List Nat), (∀ x ∈ w, x ≠ c) → TL.spl [c] 0 acc (w ++ c :: r) = (acc ++ w) :: TL.spl [c] 0 [] r
  | [], acc, r, _ => by
    have : TL.pre [c] (c :: r) = true := by simp [TL.pre]
    rw [List.nil_append, TL.spl_hit this, List.append_nil]
    rfl
  | x :: w, acc, r, h => by
    have hx : x ≠ c := h x List.mem_cons_self
    have hp : ¬ TL.pre [c] (x :: (w ++ c :: r)) = true := by simp [TL.pre, hx]
    show (if TL.pre [c] (x :: (w ++ c :: r)) = true then _ else TL.spl [c] 0 (acc ++ [x]) (w ++ c :: r)) = _
    rw [if_neg hp, spl_hit1 w (acc ++ [x]) r fun y hy => h y (List.mem_cons_of_mem _ hy)]
    simp
theorem spl_end1 {c : Nat} : ∀ (w : List Nat) (acc : List Nat), (∀ x ∈ w, x ≠ c) → TL.spl [c] 0 acc w = [acc ++ w]
  | [], acc, _ => by rw [TL.spl_nil, List.append_nil]
  | x :: w, acc, h => by
    have hx : x ≠ c := h x List.mem_cons_self
    have hp : ¬ TL.pre [c] (x :: w) = true := by simp [TL.pre, hx]
    show (if TL.pre [c] (x :: w) = true then _ else TL.spl [c] 0 (acc ++ [x]) w) = _
    rw [if_neg hp, spl_end1 w (acc ++ [x]) fun y hy => h y (List.mem_cons_of_mem _ hy)]
    simp
theorem spl_line : ∀ (ns w : List Nat), (∀ x ∈ w, x ≠ 32) → TL.spl [32] 0 [] (lineC w ns) = w :: ns.map fun n => [48 + n]
  | [], w, h => by
    have : lineC w [] = w := by simp [lineC]
    rw [this, spl_end1 w [] h]; rfl
  | n :: ns, w, h => by
    have e : lineC w (n :: ns) = w ++ 32 :: lineC [48 + n] ns := by simp [lineC]
    rw [e, spl_hit1 w [] _ h, spl_line ns [48 + n] (by simp; omega)]
    rfl
theorem spl_text : ∀ ls : List (List Nat), (∀ l ∈ ls, ∀ x ∈ l, x ≠ 10) → TL.spl [10] 0 [] ((ls.map (· ++ [10])).flatten) = ls ++ [[]]
  | [], _ => rfl
  | l :: ls, h => by
    have e : ((l :: ls).map (· ++ [10])).flatten = l ++ 10 :: (ls.map (· ++ [10])).flatten := by simp
    rw [e, spl_hit1 l [] _ (h l List.mem_cons_self), spl_text ls fun m hm => h m (List.mem_cons_of_mem _ hm)]
    rfl
theorem splt_S {a : List Nat} {ls : List (List Nat)} {c : Nat} {S : Sx} (hc : c < 256) (h : TL.spl [c] 0 [] a = ls) (ha : a.length + 2 ≤ 1000000) (hl : ls.length ≤ 1000000) : spltD false (sD a) (sD [c]) S = .ok (.lv (ls.map sD)) S := by
  have h1 : Txt.split (mkS a) (mkS [c]) = (TL.spl [c] 0 [] a).map mkS := SX.split_S (by simp) (by simpa using hc)
  show (if ((mkS [c]).length == 0) = false ∧ (mkS a).length + 2 ≤ sizeLine then newL false ((Txt.split (mkS a) (mkS [c])).map .str) S else .bad) = _
  rw [if_pos ⟨rfl, by rw [mkS_len]; exact Nat.le_trans ha szl⟩, h1, h, List.map_map]
  exact newL_f (Nat.le_trans (by simpa using hl) szl)
/-! lines -/
abbrev Ln := String × List Nat
def lineP (p : Ln) : List Nat := lineC (cW p.1) p.2
def okLn (p : Ln) : Prop := p.1 ∈ wordsW ∧ p.2.length ≤ 6 ∧ ∀ k ∈ p.2, k ≤ 7
def partP (p : Part) : List Ln := [("part", []), ("look", p.look.1 :: p.look.2), ("word", p.word.1 :: p.word.2)] ++ (match p.press with
  | none => []
  | some c => [("press", flatC c)])
def LP (t : TP) : List Ln := [("sizes", t.zs)] ++ t.ps.flatMap partP ++ t.ts.map (fun c => ("tick", flatC c)) ++ (if t.lv = [] then [] else [("live", t.lv)]) ++ (if t.sk = [] then [] else [("skips", t.sk)])
theorem LP_lines (t : TP) : (LP t).map lineP = linesC t := by
  have hp : ∀ p : Part, (partP p).map lineP = partL p := fun p => by
    unfold partP partL
    cases p.press <;> simp [lineP, lineC]
  unfold LP linesC
  simp only [List.map_append, List.map_cons, List.map_nil, List.map_flatMap, hp, List.map_map]
  congr 1
  · congr 1
    by_cases h : t.lv = [] <;> simp [h, lineP]
  · by_cases h : t.sk = [] <;> simp [h, lineP]
theorem word32 : ∀ w ∈ wordsW, (∀ x ∈ cW w, x ≠ 32) ∧ (cW w).length ≤ 6 ∧ PyData.strOk (mkS (cW w)) = true := by decide +kernel
def LnO (L : List Ln) (k : Nat) : MO := .ins 1 ["lines", "rest", "at"] [.lv ((L.map lineP).map sD), sD [], nD k]
def digs : D := .tup [.str "0", .str "1", .str "2", .str "3", .str "4", .str "5", .str "6", .str "7", .str "8", .str "9"]
theorem dig_facts : ∀ n : Nat, n ≤ 9 → (sD [48 + n]) ∈ ([.str "0", .str "1", .str "2", .str "3", .str "4", .str "5", .str "6", .str "7", .str "8", .str "9"] : List D) ∧ PySem.intText? (mkS [48 + n]) = some (n : Int) ∧ PyData.strOk (mkS [48 + n]) = true := by decide +kernel
theorem dat_digs : ∀ d ∈ ([.str "0", .str "1", .str "2", .str "3", .str "4", .str "5", .str "6", .str "7", .str "8", .str "9"] : List D), Dat 16 d := by
  intro d hd
  have : ∀ d ∈ ([.str "0", .str "1", .str "2", .str "3", .str "4", .str "5", .str "6", .str "7", .str "8", .str "9"] : List D), ∃ x, d = .str x ∧ PyData.strOk x = true := by
    simp only [List.mem_cons, List.not_mem_nil, or_false]
    rintro d (rfl | rfl | rfl | rfl | rfl | rfl | rfl | rfl | rfl | rfl) <;> exact ⟨_, rfl, by decide +kernel⟩
  obtain ⟨x, rfl, h⟩ := this d hd
  exact datS.mpr h
section
variable {gc : Nat → D} {G : Gm} {s : Vs} {S : Sx} {L : List Ln} {j k n : Nat}
@[simp] theorem es_augf {c : Nat} {a e : E} {x : Str} : es gc G (.augf c a x e) s S = ((ev gc G a).val s S).bind fun o S => (lift (fldD c o x S) S).bind fun d S => (match d with
      | .int p => ((ev gc G e).val s S).bind fun d S => (match d with
        | .int q => (match setF c o x (.int (p + q)) S with
          | some S' => .ok (.nx s) S'
          | none => .bad)
        | _ => .bad)
      | _ => .bad) := rfl
theorem nin_dig (h : n ≤ 9) : cmpD .nin (sD [48 + n]) digs S = some false := by
  obtain ⟨h1, _, h3⟩ := dig_facts n h
  show cmpD .nin (sD [48 + n]) (.tup _) S = _
  rw [nin_tup (datS.mpr h3) dat_digs, decide_eq_true h1]
  rfl
theorem int_dig (h : n ≤ 9) : b1D .int (sD [48 + n]) S = .ok (nD n) S := by
  obtain ⟨_, h2, _⟩ := dig_facts n h
  show (match PySem.intText? (mkS [48 + n]) with
    | some n => if (mkS [48 + n.toNat]).length ≤ 640 then R.ok (D.int n) S else .bad
    | none => .bad) = _
  rw [h2]
  rfl
theorem fd_lines (h : S[j]? = some (LnO L k)) : fldD 1 (.obj j) "lines" S = some (.lv ((L.map lineP).map sD)) := by simp only [fldD, h, LnO]; rfl
theorem fd_rest (h : S[j]? = some (LnO L k)) : fldD 1 (.obj j) "rest" S = some (sD []) := by simp only [fldD, h, LnO]; rfl
theorem fd_at (h : S[j]? = some (LnO L k)) : fldD 1 (.obj j) "at" S = some (nD k) := by simp only [fldD, h, LnO]; rfl
theorem st_at {v : Nat} (h : S[j]? = some (LnO L k)) : setF 1 (.obj j) "at" (nD v) S = some (S.set j (LnO L v)) := by simp only [setF, h, LnO]; rfl
theorem mt_L {x : Str} (h : S[j]? = some (LnO L k)) (hx : x ∉ (["lines", "rest", "at"] : List Str)) : mtD 1 x (.obj j) S = some () := by simp only [mtD, h, LnO]; exact if_pos ⟨trivial, hx⟩
theorem line_split {p : Ln} (hp : okLn p) : spltD false (sD (lineP p)) (sD [32]) S = .ok (.lv ((cW p.1 :: p.2.map fun n => [48 + n]).map sD)) S := by
  obtain ⟨h1, h2, h3⟩ := word32 _ hp.1
  refine splt_S (by omega) (spl_line p.2 _ h1) ?_ ?_
  · have := hp.2.1; unfold lineP; rw [lineC_len]; omega
  · have := hp.2.1; simp; omega
def seesN (L : List Ln) (k : Nat) (w : String) : Bool := match L[k]? with
  | some p => decide (p.1 = w)
  | none => false
theorem cW_inj : ∀ v ∈ wordsW, ∀ w ∈ wordsW, (mkS (cW v) = mkS (cW w) ↔ v = w) := by decide +kernel
theorem sees_ok {fs : List Fn} (P : P_Lines_sees fs) (h : S[j]? = some (LnO L k)) (hL : ∀ p ∈ L, okLn p) (hl : L.length ≤ 1000) {w : String} (hw : w ∈ wordsW) : runF gc fs (n + 1) 73 [.obj j, .str (Str.ofString w)] S = .ok (.bl (seesN L k w)) S := by
  apply eq_of_sat
  refine at_sat P.here rfl ?_
  have e1 := fd_lines h
  have e2 := fd_at h
  have e3 : Str.ofString " " = mkS [32] := ofS rfl
  unfold seesN
  by_cases hk : k < L.length
  · obtain ⟨p, hp⟩ : ∃ p, L[k]? = some p := ⟨_, List.getElem?_eq_getElem hk⟩
    have hpo := hL p (List.mem_of_getElem? hp)
    have e4 : ixD (.lv ((L.map lineP).map sD)) (nD k) S = some (sD (lineP p)) := by
      rw [ix_lv]
      show L2.atI _ (k : Int) = _
      rw [at_nat]; simp [hp]
    have e5 := line_split (S := S) hpo
    have e6 : cmpD .eq (sD (cW p.1)) (.str (Str.ofString w)) S = some (decide (p.1 = w)) := by
      rw [ofC]
      show cmpD .eq (.str (mkS (cW p.1))) (.str (mkS (cW w))) S = _
      rw [eq_dat (datS.mpr (word32 _ hpo.1).2.2) (datS.mpr (word32 _ hw).2.2)]
      have := cW_inj _ hpo.1 _ hw
      simp only [D.str.injEq]
      rw [decide_eq_decide.mpr this]
    simp -implicitDefEqProofs (disch := first | omega | assumption | (simp; done) | (simp; omega)) [m_Lines_sees, startV, e1, e2, e3, e4, hk, hp, strD, -List.map_map]
    rw [e5]
    have hp2 : L[k]'hk = p := (List.getElem?_eq_some_iff.mp hp).2
    simp -implicitDefEqProofs (disch := first | omega | assumption | (simp; done) | (simp; omega)) [e6, hp2, -List.map_map]
  · have hp : L[k]? = none := List.getElem?_eq_none (by omega)
    simp -implicitDefEqProofs (disch := first | omega | assumption | (simp; done) | (simp; omega)) [m_Lines_sees, startV, e1, e2, hk, hp, -List.map_map]

theorem numbers_ok {fs : List Fn} (h3 : gc 3 = digs) (P : P_Lines_numbers fs) (h : S[j]? = some (LnO L k)) (hL : ∀ p ∈ L, okLn p) (hl : L.length ≤ 1000) {w : String} {ns : List Nat} (hk : L[k]? = some (w, ns)) : wrp 2 S (runF gc fs (n + 2) 74 [.obj j, .str (Str.ofString w)] S) = .ok (.lv (ns.map nD)) S := by
  have hpo := hL _ (List.mem_of_getElem? hk)
  have hj : j < S.length := (List.getElem?_eq_some_iff.mp h).1
  have hklt : k < L.length := (List.getElem?_eq_some_iff.mp hk).1
  have g : ∀ T : Sx, (S ++ T)[j]? = some (LnO L k) := fun T => by rw [List.getElem?_append_left hj]; exact h
  refine wrp2_obj0 (at_sat P.here rfl ?_) (pures_map (fun _ => purN) _)
  have a1 := sees_ok (gc := gc) (n := n) P.Lines_sees h hL hl (w := w) hpo.1
  have a2 : seesN L k w = true := by simp only [seesN, hk]; simp
  rw [a2] at a1
  have m1 := mt_L (x := "sees") h (by decide)
  have e1 := fun T => fd_lines (g T)
  have e2 := fun T => fd_at (g T)
  have e3 : Str.ofString " " = mkS [32] := ofS rfl
  have e4 : ∀ S : Sx, ixD (.lv ((L.map lineP).map sD)) (nD k) S = some (sD (lineP (w, ns))) := fun S => by
    rw [ix_lv]
    show L2.atI _ (k : Int) = _
    rw [at_nat]; simp [hk]
  have e5 := fun S : Sx => line_split (S := S) hpo
  unfold m_Lines_numbers
  refine sat_cons (sat_of_eq (x := .nx [some (.obj j), some (.str (Str.ofString w)), none, none]) (S := S) (by
    simp -implicitDefEqProofs (disch := first | omega | assumption | (simp; done) | (simp; omega)) [startV, m1, a1]) ?_)
  refine sat_cons (sat_of_eq (x := .nx [some (.obj j), some (.str (Str.ofString w)), some (.obj S.length), none]) (S := S ++ [.lst []]) (by
    simp -implicitDefEqProofs (disch := first | omega | assumption | (simp; done) | (simp; omega)) []) ?_)
  refine sat_cons ?_
  simp -implicitDefEqProofs (disch := first | omega | assumption | (simp; done) | (simp; omega)) [e1, e2, e3, e4, strD, -List.map_map]
  rw [e5]
  have hc : slcD (.lv ((cW w :: ns.map fun n => [48 + n]).map sD)) (some 1) none (S ++ [.lst []]) = some (.lv (ns.map fun n => sD [48 + n])) := by
    show some (D.lv (cutD (sD (cW w) :: (ns.map fun n => [48 + n]).map sD) (some 1) none)) = _
    rw [cut1, List.map_map]; rfl
  simp -implicitDefEqProofs (disch := first | omega | assumption | (simp; done) | (simp; omega)) [hc, -List.map_map, -List.map_cons]
  refine forL_sat (enc := fun n => sD [48 + n]) (fun (xs : List Nat) s S' => ∃ (ms : List Nat) (x3 : Option D), s = [some (.obj j), some (.str (Str.ofString w)), some (.obj S.length), x3] ∧ S' = S ++ [.lst (ms.map nD)] ∧ ms ++ xs = ns) (fun _ _ _ _ => rfl) ?_ ?_ ⟨[], none, rfl, rfl, rfl⟩
  · rintro x xs s S' ⟨ms, x3, rfl, rfl, he⟩
    refine ⟨_, rfl, ?_⟩
    have hx : x ≤ 9 := by
      have := hpo.2.2 x (by show x ∈ ns; rw [← he]; simp)
      omega
    have hml : ms.length ≤ 6 := by
      have h2 : ns.length ≤ 6 := hpo.2.1
      rw [← he] at h2; simp at h2; omega
    have q1 := fun S : Sx => nin_dig (S := S) hx
    have q2 := fun S : Sx => int_dig (S := S) hx
    simp -implicitDefEqProofs (disch := first | omega | assumption | (simp; done) | (simp; omega)) [h3, q1, q2, -List.map_map]
    exact ⟨ms ++ [x], by simp, by rw [← he]; simp⟩
  · rintro s S' ⟨ms, x3, rfl, rfl, he⟩
    simp only [List.append_nil] at he
    subst he
    simp -implicitDefEqProofs (disch := first | omega | assumption | (simp; done) | (simp; omega)) [-List.map_map]
end
section
variable {gc : Nat → D} {rest : List Fn} {S : Sx} {L : List Ln} {j k n : Nat} {t : TP}
theorem nums_lv {ns : List Nat} {lo hi : Nat} (h : ∀ x ∈ ns, lo ≤ x ∧ x ≤ hi) : runF gc (comA ++ rest) (n + 2) 1 [.lv (ns.map nD), nD lo, nD hi] S = .ok (.bl true) S := by
  show runB gc (rA gc rest (n + 1)) f_are_numbers [.lv (ns.map nD), nD lo, nD hi] S = _
  unfold runB f_are_numbers
  have := allL_true (tg := .nm 3) (elt := (ev gc (rA gc rest (n + 1)) (.call 0 0 (.cons (.v 3) (.cons (.v 1) (.cons (.v 2) .nil))))).val) (still := fun _ => true) (sw := [some (.lv (ns.map nD)), some (nD lo), some (nD hi), none]) (S := S) rfl (ds := ns.map nD) (fun d hd => by
    obtain ⟨x, hx, rfl⟩ := List.mem_map.mp hd
    refine ⟨_, rfl, ?_⟩
    obtain ⟨h1, h2⟩ := h x hx
    have := @num_ok gc rest n S (x : Int) (lo : Int) (hi : Int)
    simp [this, h1, h2])
  simp [startV, seqI, seqOf, stillOf, lstOf, -List.map_map]
  rw [this]
  rfl
theorem sizes_ok (h3 : gc 3 = digs) (P : P_Lines_sizes (comA ++ rest)) (h : S[j]? = some (LnO L k)) (hL : ∀ p ∈ L, okLn p) (hl : L.length ≤ 1000) {ns : List Nat} (hk : L[k]? = some ("sizes", ns)) (hn : 1 ≤ ns.length ∧ ns.length ≤ 3) (hz : ∀ z ∈ ns, 2 ≤ z ∧ z ≤ 4) :
    runF gc (comA ++ rest) (n + 3) 75 [.obj j] S = .ok (.tup (ns.map nD)) (S.set j (LnO L (k + 1))) := by
  apply eq_of_sat
  refine at_sat P.here rfl ?_
  have a1 := numbers_ok (gc := gc) (n := n) h3 P.Lines_numbers h hL hl hk
  have a2 : runF gc (comA ++ rest) (n + 2) 1 [.lv (ns.map nD), .int 2, .int 4] S = .ok (.bl true) S := nums_lv (lo := 2) (hi := 4) hz
  have m1 := mt_L (x := "numbers") h (by decide)
  have e2 := fd_at h
  have e3 : setF 1 (.obj j) "at" (.int ((k : Int) + 1)) S = some (S.set j (LnO L (k + 1))) := st_at (v := k + 1) h
  have c1 : (1 : Int) ≤ (ns.length : Int) := by omega
  have c2 : (ns.length : Int) ≤ 3 := by omega
  simp -implicitDefEqProofs (disch := first | omega | assumption | (simp; done) | (simp; omega)) [m_Lines_sizes, startV, m1, a1, a2, c1, c2, e2, e3, -List.map_map]
end
end MP
end TK
end
section
set_option autoImplicit false
set_option linter.all false
set_option maxRecDepth 100000
set_option maxHeartbeats 0
/-! ### texts that are read: parts -/
namespace TK
open PySem
namespace MP
theorem drop_get {α : Type} {L : List α} {k : Nat} {p : α} {R : List α} (h : L.drop k = p :: R) : L[k]? = some p ∧ L.drop (k + 1) = R := by
  constructor
  · have := congrArg (fun l : List α => l[0]?) h
    simpa using this
  · have := congrArg (List.drop 1) h
    simpa [List.drop_drop] using this
theorem sees_hd {L : List Ln} {k : Nat} {p : Ln} {R : List Ln} {w : String} (h : L.drop k = p :: R) : seesN L k w = decide (p.1 = w) := by simp only [seesN, (drop_get h).1]
theorem sees_nil {L : List Ln} {k : Nat} {w : String} (h : L.drop k = []) : seesN L k w = false := by
  have : L[k]? = none := List.getElem?_eq_none (by simpa using h)
  simp only [seesN, this]
/-- what comes does not begin with w -/
def NoHd (w : String) (R : List Ln) : Prop := ∀ q R', R = q :: R' → q.1 ≠ w
theorem sees_no {L : List Ln} {k : Nat} {w : String} {R : List Ln} (h : L.drop k = R) (hn : NoHd w R) : seesN L k w = false := by
  cases R with
  | nil => exact sees_nil h
  | cons q R => rw [sees_hd h]; simpa using hn q R rfl
section
variable {gc : Nat → D} {rest : List Fn} {S : Sx} {L R : List Ln} {j k n : Nat} {t : TP}
theorem get_set {x : MO} (h : S[j]? = some x) (y : MO) : (S.set j y)[j]? = some y := by
  have := (List.getElem?_eq_some_iff.mp h).1
  simp [this]
theorem table_ok (h3 : gc 3 = digs) (h0 : gc 0 = .int 7) (hz : t.zs.length ≤ 3 ∧ ∀ z ∈ t.zs, z ≤ 4) (P : P_Lines_table (comA ++ rest)) (h : S[j]? = some (LnO L k)) (hL : ∀ p ∈ L, okLn p) (hl : L.length ≤ 1000) {w : String} {a : Tab} (hk : L.drop k = (w, a.1 :: a.2) :: R) (ha : okTab t.zs a) :
    runF gc (comA ++ rest) (n + 3) 76 [.obj j, .str (Str.ofString w), .tup (t.zs.map nD)] S = .ok (tabD a) (S.set j (LnO L (k + 1))) := by
  apply eq_of_sat
  refine at_sat P.here rfl ?_
  obtain ⟨o1, o2⟩ := ha
  obtain ⟨v, tb⟩ := a
  simp only at o1 o2 hk
  have hlt := (List.getElem?_eq_some_iff.mp o1).1
  have hz2 : t.zs[v]'hlt = tb.length := (List.getElem?_eq_some_iff.mp o1).2
  have a1 := numbers_ok (gc := gc) (n := n) h3 P.Lines_numbers h hL hl (drop_get hk).1
  have a2 : runF gc (comA ++ rest) (n + 2) 1 [.lv ((v :: tb).map nD), .int 0, .int 7] S = .ok (.bl true) S := nums_lv (lo := 0) (hi := 7) fun x hx => by
    rcases List.mem_cons.mp hx with rfl | hx
    · omega
    · have := o2 x hx; omega
  have m1 := mt_L (x := "numbers") h (by decide)
  have e2 := fd_at h
  have e3 : setF 1 (.obj j) "at" (.int ((k : Int) + 1)) S = some (S.set j (LnO L (k + 1))) := st_at (v := k + 1) h
  have b1 : ¬ (t.zs.length : Int) ≤ (v : Int) := by omega
  have hc : ∀ S : Sx, slcD (.lv ((v :: tb).map nD)) (some 1) none S = some (.lv (tb.map nD)) := fun S => by
    show some (D.lv (cutD (nD v :: tb.map nD) (some 1) none)) = _
    rw [cut1]
  have hc0 : ∀ S : Sx, ixD (.lv ((v :: tb).map nD)) (.int 0) S = some (nD v) := fun S => by simp
  have hln : b1D .len (.lv ((v :: tb).map nD)) S = .ok (.int ((tb.length : Int) + 1)) S := by simp
  have htr : truD (.lv ((v :: tb).map nD)) S = some true := rfl
  have hne : cmpD .ne (.int ((tb.length : Int) + 1)) (.int (1 + (tb.length : Int))) S = some false := by rw [ne_int]; simp; omega
  have hge : cmpD .ge (nD v) (.int (t.zs.length : Int)) S = some false := by simp [cmpD]; omega
  have hzs : ixD (.tup (t.zs.map nD)) (nD v) S = some (nD tb.length) := by
    rw [ix_tup]
    show L2.atI _ (v : Int) = _
    rw [at_nat]; simp [o1]
  have hF' : (((v :: tb).map nD).length : Int) = 1 + (tb.length : Int) := by simp; omega
  have b1' : ¬ t.zs.length ≤ v := by omega
  generalize (v :: tb).map nD = F at *
  simp -implicitDefEqProofs (disch := first | omega | assumption | (simp; done) | (simp; omega)) [m_Lines_table, startV, m1, a1, a2, h0, e2, e3, hc, hc0, hln, htr, hne, hge, hzs, hF', b1', hz2, -List.map_map]
  have hts : tb.length ≤ 4 := by have := hz.2 _ (List.mem_of_getElem? o1); exact this
  simp -implicitDefEqProofs (disch := first | omega | assumption | (simp; done) | (simp; omega)) [tabD, -List.map_map]
theorem every_flat : ∀ c : Chg, everyO false ((flatC c).map nD) = c.map (fun p => nD p.1) ∧ everyO true ((flatC c).map nD) = c.map (fun p => nD p.2)
  | [] => ⟨rfl, rfl⟩
  | p :: c => by
    obtain ⟨h1, h2⟩ := every_flat c
    have e : (flatC (p :: c)).map nD = nD p.1 :: nD p.2 :: (flatC c).map nD := by simp [flatC]
    rw [e]
    exact ⟨by show nD p.1 :: everyO false _ = _; rw [h1]; rfl, by show nD p.2 :: everyO true _ = _; rw [h2]; rfl⟩
theorem zip_pairs : ∀ c : Chg, ((c.map (fun p => nD p.1)).zip (c.map (fun p => nD p.2))).map (fun p => D.tup [p.1, p.2]) = c.map pairD
  | [] => rfl
  | p :: c => by
    simp only [List.map_cons, List.zip_cons_cons, zip_pairs c]; rfl
theorem changes_ok2 (h3 : gc 3 = digs) (hz : t.zs.length ≤ 3 ∧ ∀ z ∈ t.zs, z ≤ 4) (P : P_Lines_changes (comA ++ rest)) (h : S[j]? = some (LnO L k)) (hL : ∀ p ∈ L, okLn p) (hl : L.length ≤ 1000) {w : String} {c : Chg} (hk : L.drop k = (w, flatC c) :: R) (hc : okChg t.zs c) :
    runF gc (comA ++ rest) (n + 3) 77 [.obj j, .str (Str.ofString w), .tup (t.zs.map nD)] S = .ok (chgD c) (S.set j (LnO L (k + 1))) := by
  apply eq_of_sat
  refine at_sat P.here rfl ?_
  have a1 := numbers_ok (gc := gc) (n := n) h3 P.Lines_numbers h hL hl (drop_get hk).1
  have m1 := mt_L (x := "numbers") h (by decide)
  have e2 := fd_at h
  have e3 : setF 1 (.obj j) "at" (.int ((k : Int) + 1)) S = some (S.set j (LnO L (k + 1))) := st_at (v := k + 1) h
  have hln : b1D .len (.lv ((flatC c).map nD)) S = .ok (nD (2 * c.length)) S := by simp [flatC_len]
  have hin : cmpD .nin (nD (2 * c.length)) (.tup [.int 2, .int 4, .int 6]) S = some false := by
    have hd : ∀ d ∈ ([.int 2, .int 4, .int 6] : List D), Dat 16 d := by
      intro d hd
      simp only [List.mem_cons, List.not_mem_nil, or_false] at hd
      rcases hd with rfl | rfl | rfl <;> exact datI
    rw [nin_tup datNat hd, decide_eq_true]
    · rfl
    · have h1 := hc.1
      have h2 := hc.2.1
      have : c.length = 1 ∨ c.length = 2 ∨ c.length = 3 := by omega
      rcases this with e | e | e <;> rw [e] <;> simp
  have s0 : stp2D false false (.lv ((flatC c).map nD)) S = .ok (.lv (c.map fun p => nD p.1)) S := by
    show newL false (everyO false ((flatC c).map nD)) S = _
    rw [(every_flat c).1]
    have := hc.2.1
    exact newL_f (Nat.le_trans (by simp; omega) szl)
  have s1 : stp2D false true (.lv ((flatC c).map nD)) S = .ok (.lv (c.map fun p => nD p.2)) S := by
    show newL false (everyO true ((flatC c).map nD)) S = _
    rw [(every_flat c).2]
    have := hc.2.1
    exact newL_f (Nat.le_trans (by simp; omega) szl)
  have s2 : lzipD false (.lv (c.map fun p => nD p.1)) (.lv (c.map fun p => nD p.2)) S = .ok (.lv (c.map pairD)) S := by
    show newL false (((c.map fun p => nD p.1).zip (c.map fun p => nD p.2)).map fun p => D.tup [p.1, p.2]) S = _
    rw [zip_pairs]
    have := hc.2.1
    exact newL_f (Nat.le_trans (by simp; omega) szl)
  unfold m_Lines_changes
  refine sat_cons (sat_of_eq (x := .nx [some (.obj j), some (.str (Str.ofString w)), some (.tup (t.zs.map nD)), some (.lv ((flatC c).map nD)), none, none, none]) (S := S) (by
    simp -implicitDefEqProofs (disch := first | omega | assumption | (simp; done) | (simp; omega)) [startV, m1, a1, -List.map_map]) ?_)
  refine sat_cons (sat_of_eq (x := .nx [some (.obj j), some (.str (Str.ofString w)), some (.tup (t.zs.map nD)), some (.lv ((flatC c).map nD)), none, none, none]) (S := S) (by
    have hin2 : cmpD .nin (.int ((flatC c).length : Int)) (.tup [.int 2, .int 4, .int 6]) S = some false := by rw [flatC_len]; exact hin
    simp -implicitDefEqProofs (disch := first | omega | assumption | (simp; done) | (simp; omega)) [hin2, -List.map_map]) ?_)
  refine sat_cons (sat_of_eq (x := .nx [some (.obj j), some (.str (Str.ofString w)), some (.tup (t.zs.map nD)), some (.lv ((flatC c).map nD)), some (.lv (c.map pairD)), none, none]) (S := S) (by
    simp -implicitDefEqProofs (disch := first | omega | assumption | (simp; done) | (simp; omega)) [s0, s1, s2, -List.map_map]) ?_)
  refine sat_cons (TK.R.sat.imp (P := fun f S' => ∃ x5 x6, f = .nx [some (.obj j), some (.str (Str.ofString w)), some (.tup (t.zs.map nD)), some (.lv ((flatC c).map nD)), some (.lv (c.map pairD)), x5, x6] ∧ S' = S) ?_ ?_)
  · simp -implicitDefEqProofs (disch := first | omega | assumption | (simp; done) | (simp; omega)) [-List.map_map]
    refine forL_sat (fun (xs : Chg) s S' => ∃ x5 x6, s = [some (.obj j), some (.str (Str.ofString w)), some (.tup (t.zs.map nD)), some (.lv ((flatC c).map nD)), some (.lv (c.map pairD)), x5, x6] ∧ S' = S ∧ ∀ p ∈ xs, p ∈ c) (fun _ _ _ _ => rfl) ?_ ?_ ⟨none, none, rfl, rfl, fun p h => h⟩
    · rintro p xs s S' ⟨x5, x6, rfl, rfl, hm⟩
      refine ⟨_, rfl, ?_⟩
      obtain ⟨q1, q2, q3⟩ := hc.2.2 p (hm p List.mem_cons_self)
      have b1 : ¬ (t.zs.length : Int) ≤ (p.1 : Int) := by omega
      have b2 : (1 : Int) ≤ (p.2 : Int) := by omega
      have b3 : (p.2 : Int) ≤ 3 := by omega
      have b1' : ¬ t.zs.length ≤ p.1 := by omega
      have b2' : 1 ≤ p.2 := by omega
      simp -implicitDefEqProofs (disch := first | omega | assumption | (simp; done) | (simp; omega)) [b1, b2, b3, b1', b2', -List.map_map]
      exact fun a b hq => hm (a, b) (List.mem_cons_of_mem _ hq)
    · rintro s S' ⟨x5, x6, rfl, rfl, hm⟩
      exact ⟨⟨x5, x6, rfl⟩, rfl⟩
  · rintro f S' ⟨x5, x6, rfl, rfl⟩
    simp -implicitDefEqProofs (disch := first | omega | assumption | (simp; done) | (simp; omega)) [e2, e3, -List.map_map]
    rfl
end
end MP
end TK
end
section
set_option autoImplicit false
set_option linter.all false
set_option maxRecDepth 100000
set_option maxHeartbeats 0
/-! ### texts that are read: programs -/
namespace TK
open PySem
namespace MP
section
variable {gc : Nat → D} {rest : List Fn} {S : Sx} {L R : List Ln} {j k n : Nat} {t : TP}
theorem set_set' {x y : MO} : (S.set j x).set j y = S.set j y := List.set_set ..
theorem part_ok (h3 : gc 3 = digs) (h0 : gc 0 = .int 7) (hz : t.zs.length ≤ 3 ∧ ∀ z ∈ t.zs, z ≤ 4) (P : P_Lines_part (comA ++ rest)) (h : S[j]? = some (LnO L k)) (hL : ∀ p ∈ L, okLn p) (hl : L.length ≤ 1000) {p : Part} (hk : L.drop k = partP p ++ R) (hp : okPart t.zs p) (hR : NoHd "press" R) :
    runF gc (comA ++ rest) (n + 4) 78 [.obj j, .tup (t.zs.map nD)] S = .ok (partD p) (S.set j (LnO L (k + (partP p).length))) := by
  apply eq_of_sat
  refine at_sat P.here rfl ?_
  obtain ⟨o1, o2, o3⟩ := hp
  obtain ⟨R1, hR1⟩ : ∃ R1, R1 = (match p.press with
    | none => []
    | some c => [(("press", flatC c) : Ln)]) ++ R := ⟨_, rfl⟩
  have hk0 : L.drop k = ("part", []) :: ("look", p.look.1 :: p.look.2) :: ("word", p.word.1 :: p.word.2) :: R1 := by rw [hk, hR1]; unfold partP; cases p.press <;> simp
  have hk1 := (drop_get hk0).2
  have hk2 := (drop_get hk1).2
  have hk3 := (drop_get hk2).2
  have a1 := numbers_ok (gc := gc) (n := n + 1) h3 P.Lines_numbers h hL hl (drop_get hk0).1
  have m1 := mt_L (x := "numbers") h (by decide)
  have e2 := fd_at h
  have e3 : setF 1 (.obj j) "at" (.int ((k : Int) + 1)) S = some (S.set j (LnO L (k + 1))) := st_at (v := k + 1) h
  have g1 := get_set h (LnO L (k + 1))
  have m2 := mt_L (x := "table") g1 (by decide)
  have a2 := table_ok (gc := gc) (n := n) h3 h0 hz P.Lines_table g1 hL hl hk1 o1
  rw [set_set'] at a2
  have g2 := get_set h (LnO L (k + 1 + 1))
  have m3 := mt_L (x := "table") g2 (by decide)
  have a3 := table_ok (gc := gc) (n := n) h3 h0 hz P.Lines_table g2 hL hl hk2 o2
  rw [set_set'] at a3
  have g3 := get_set h (LnO L (k + 1 + 1 + 1))
  have m4 := mt_L (x := "sees") g3 (by decide)
  have m5 := mt_L (x := "changes") g3 (by decide)
  have a4 := sees_ok (gc := gc) (n := n + 2) P.Lines_sees g3 hL hl (w := "press") (by decide)
  unfold m_Lines_part
  refine sat_cons (sat_of_eq (x := .nx [some (.obj j), some (.tup (t.zs.map nD)), none, none, none]) (S := S) (by
    simp -implicitDefEqProofs (disch := first | omega | assumption | (simp; done) | (simp; omega)) [startV, m1, a1, -List.map_map]) ?_)
  refine sat_cons (sat_of_eq (x := .nx [some (.obj j), some (.tup (t.zs.map nD)), none, none, none]) (S := S.set j (LnO L (k + 1))) (by
    simp -implicitDefEqProofs (disch := first | omega | assumption | (simp; done) | (simp; omega)) [e2, e3, -List.map_map]) ?_)
  refine sat_cons (sat_of_eq (x := .nx [some (.obj j), some (.tup (t.zs.map nD)), some (tabD p.look), none, none]) (S := S.set j (LnO L (k + 1 + 1))) (by
    simp -implicitDefEqProofs (disch := first | omega | assumption | (simp; done) | (simp; omega)) [m2, a2, -List.map_map]) ?_)
  refine sat_cons (sat_of_eq (x := .nx [some (.obj j), some (.tup (t.zs.map nD)), some (tabD p.look), some (tabD p.word), none]) (S := S.set j (LnO L (k + 1 + 1 + 1))) (by
    simp -implicitDefEqProofs (disch := first | omega | assumption | (simp; done) | (simp; omega)) [m3, a3, -List.map_map]) ?_)
  cases hpr : p.press with
  | none =>
    have hs : seesN L (k + 1 + 1 + 1) "press" = false := by
      rw [hpr] at hR1
      simp only [List.nil_append] at hR1
      subst hR1
      exact sees_no hk3 hR
    rw [hs] at a4
    simp -implicitDefEqProofs (disch := first | omega | assumption | (simp; done) | (simp; omega)) [m4, a4, hpr, partD, prsD, partP, -List.map_map]
  | some c =>
    rw [hpr] at hR1
    have hk3' : L.drop (k + 1 + 1 + 1) = ("press", flatC c) :: R := by rw [hk3, hR1]; rfl
    have hs : seesN L (k + 1 + 1 + 1) "press" = true := by rw [sees_hd hk3']; rfl
    rw [hs] at a4
    have a5 := changes_ok2 (gc := gc) (n := n) h3 hz P.Lines_changes g3 hL hl hk3' (o3 c hpr)
    rw [set_set'] at a5
    simp -implicitDefEqProofs (disch := first | omega | assumption | (simp; done) | (simp; omega)) [m4, m5, a4, a5, hpr, partD, prsD, partP, -List.map_map]
theorem indexes_lv {c : Int} {l : List Nat} (h : Asc c (-1) (l.map Int.ofNat)) : runF gc (comA ++ rest) (n + 2) 5 [.lv (l.map nD), .int c] S = .ok (.bl true) S := by
  show runB gc (rA gc rest (n + 1)) f_are_indexes [.lv (l.map nD), .int c] S = _
  rw [← map_nD]
  generalize l.map Int.ofNat = l at *
  unfold runB f_are_indexes
  obtain ⟨s', e, x, k, rfl, _⟩ := forL_thru (S := S) (tg := .nm 3) (still := fun _ => true) (b := ess gc (rA gc rest (n + 1)) (.cons (.ite (.not (.call 0 0 (.cons (.v 3) (.cons (.bin .add (.v 2) (.c (.int 1))) (.cons (.bin .sub (.v 1) (.c (.int 1))) .nil))))) (.cons (.ret (.c (.bl false))) .nil) .nil) (.cons (.set 2 (.v 3)) .nil)))
    (fun ds s => ∃ (x : Option D) (k : Int), s = [some (.lv (l.map .int)), some (.int c), some (.int k), x] ∧ ∃ r : List Int, ds = r.map .int ∧ Asc c k r) rfl (ds := l.map .int) (s := [some (.lv (l.map .int)), some (.int c), some (.int (-1)), none])
    ⟨none, -1, rfl, l, rfl, h⟩ (by
    rintro d ds s ⟨x, k, rfl, r, hr, ha⟩
    cases r with
    | nil => cases hr
    | cons y r =>
      cases hr
      obtain ⟨q1, q2, q3⟩ := ha
      have b1 : k + 1 ≤ y := by omega
      have b2 : y ≤ c - 1 := by omega
      refine ⟨_, [some (.lv (l.map .int)), some (.int c), some (.int y), some (.int y)], rfl, ?_, some (.int y), y, rfl, r, rfl, q3⟩
      simp [num_ok, b1, b2])
  simp [startV, seqI, seqOf, stillOf, lstOf]
  rw [e]
  rfl
theorem indexes_no (P : P_Lines_indexes (comA ++ rest)) (h : S[j]? = some (LnO L k)) (hL : ∀ p ∈ L, okLn p) (hl : L.length ≤ 1000) {w : String} (hw : w ∈ wordsW) (hs : seesN L k w = false) {c : D} :
    runF gc (comA ++ rest) (n + 3) 79 [.obj j, .str (Str.ofString w), c] S = .ok (.tup []) S := by
  apply eq_of_sat
  refine at_sat P.here rfl ?_
  have a4 := sees_ok (gc := gc) (n := n + 1) P.Lines_sees h hL hl (w := w) hw
  rw [hs] at a4
  have m4 := mt_L (x := "sees") h (by decide)
  simp -implicitDefEqProofs (disch := first | omega | assumption | (simp; done) | (simp; omega)) [m_Lines_indexes, startV, m4, a4, -List.map_map]
theorem indexes_yes (h3 : gc 3 = digs) (P : P_Lines_indexes (comA ++ rest)) (h : S[j]? = some (LnO L k)) (hL : ∀ p ∈ L, okLn p) (hl : L.length ≤ 1000) {w : String} {ns : List Nat} (hk : L.drop k = (w, ns) :: R) (hn : ns ≠ []) {c : Nat} (hc : Asc (c : Int) (-1) (ns.map Int.ofNat)) :
    runF gc (comA ++ rest) (n + 3) 79 [.obj j, .str (Str.ofString w), nD c] S = .ok (.tup (ns.map nD)) (S.set j (LnO L (k + 1))) := by
  apply eq_of_sat
  refine at_sat P.here rfl ?_
  have hpo := hL _ (List.mem_of_getElem? (drop_get hk).1)
  have a4 := sees_ok (gc := gc) (n := n + 1) P.Lines_sees h hL hl (w := w) hpo.1
  rw [sees_hd hk, decide_eq_true rfl] at a4
  have m4 := mt_L (x := "sees") h (by decide)
  have a1 := numbers_ok (gc := gc) (n := n) h3 P.Lines_numbers h hL hl (drop_get hk).1
  have m1 := mt_L (x := "numbers") h (by decide)
  have e2 := fd_at h
  have e3 : setF 1 (.obj j) "at" (.int ((k : Int) + 1)) S = some (S.set j (LnO L (k + 1))) := st_at (v := k + 1) h
  have a5 : runF gc (comA ++ rest) (n + 2) 5 [.lv (ns.map nD), nD c] S = .ok (.bl true) S := indexes_lv hc
  have htr : truD (.lv (ns.map nD)) S = some true := by
    cases ns with
    | nil => exact absurd rfl hn
    | cons a l => rfl
  simp -implicitDefEqProofs (disch := first | omega | assumption | (simp; done) | (simp; omega)) [m_Lines_indexes, startV, m4, a4, m1, a1, a5, e2, e3, htr, -List.map_map]
theorem finish_ok (P : P_Lines_finish (comA ++ rest)) (h : S[j]? = some (LnO L k)) (hk : L.length ≤ k) : runF gc (comA ++ rest) (n + 1) 80 [.obj j] S = .ok .non S := by
  apply eq_of_sat
  refine at_sat P.here rfl ?_
  have e1 := fd_lines h
  have e2 := fd_at h
  have e4 := fd_rest h
  have b1 : ¬ k < L.length := by omega
  have e5 : cmpD .ne (sD []) (.str "") S = some false := by
    rw [show (D.str "") = sD [] from congrArg D.str (ofS rfl), ne_dat (datS.mpr (by decide +kernel)) (datS.mpr (by decide +kernel))]; simp
  simp -implicitDefEqProofs (disch := first | omega | assumption | (simp; done) | (simp; omega)) [m_Lines_finish, startV, e1, e2, e4, b1, e5, -List.map_map]
theorem init_ok (P : P_Lines_init (comA ++ rest)) {a : List Nat} (hL : ∀ p ∈ L, okLn p) (ha : a = ((L.map lineP).map (· ++ [10])).flatten) (hal : a.length ≤ 999000) (hl : L.length ≤ 1000) :
    newD 1 (runF gc (comA ++ rest) (n + 1) 71) [sD a] S = .ok (.obj S.length) (S ++ [LnO L 0]) := by
  have hsp : spltD false (sD a) (sD [10]) (S ++ [.ins 1 [] []]) = .ok (.lv (((L.map lineP) ++ [[]]).map sD)) (S ++ [.ins 1 [] []]) := by
    refine splt_S (by omega) ?_ (by omega) (by simp; omega)
    rw [ha]
    refine spl_text _ fun l hl x hx => ?_
    obtain ⟨p, hp, rfl⟩ := List.mem_map.mp hl
    have h10 : ∀ w ∈ wordsW, ∀ x ∈ cW w, x ≠ 10 := by decide +kernel
    obtain ⟨q1, q2, q3⟩ := hL p hp
    unfold lineP lineC at hx
    rcases List.mem_append.mp hx with hx | hx
    · exact h10 _ q1 x hx
    · obtain ⟨b, hb, hx⟩ := List.mem_flatMap.mp hx
      have := q3 b hb
      simp at hx
      omega
  have e1 : Str.ofString "\n" = mkS [10] := ofS rfl
  have hr : runF gc (comA ++ rest) (n + 1) 71 [.obj S.length, sD a] (S ++ [.ins 1 [] []]) = .ok .non (S ++ [LnO L 0]) := by
    apply eq_of_sat
    refine at_sat P.here rfl ?_
    unfold m_Lines_init
    generalize hM : (L.map lineP).map sD = M at *
    have hsp' : spltD false (sD a) (sD [10]) (S ++ [.ins 1 [] []]) = .ok (.lv (M ++ [sD []])) (S ++ [.ins 1 [] []]) := by rw [hsp, List.map_append, hM]; rfl
    have hc : ∀ S : Sx, slcD (.lv (M ++ [sD []])) none (some (-1)) S = some (.lv M) := fun S => by
      show some (D.lv (cutD (M ++ [sD []]) none (some (-1)))) = _
      have h1 : HT.sIx (M ++ [sD []]).length (M ++ [sD []]).length (some (-1)) = M.length := by simp [HT.sIx]; omega
      have h2 : HT.sIx (M ++ [sD []]).length 0 none = 0 := rfl
      unfold cutD
      rw [h1, h2]
      simp
    have hx : ∀ S : Sx, ixD (.lv (M ++ [sD []])) (.int (-1)) S = some (sD []) := fun S => by
      rw [ix_lv]
      unfold L2.atI L2.ixN
      simp
      rw [if_pos (by omega), show ((-1 : Int) + ((M.length : Int) + 1)).toNat = M.length by omega]
      simp
    have f1 : setF 1 (.obj S.length) "lines" (.lv M) (S ++ [.ins 1 [] []]) = some (S ++ [.ins 1 ["lines"] [.lv M]]) := by
      simp [setF, putN]
    have f2 : setF 1 (.obj S.length) "rest" (sD []) (S ++ [.ins 1 ["lines"] [.lv M]]) = some (S ++ [.ins 1 ["lines", "rest"] [.lv M, sD []]]) := by
      simp [setF, putN]
    have f3 : setF 1 (.obj S.length) "at" (.int 0) (S ++ [.ins 1 ["lines", "rest"] [.lv M, sD []]]) = some (S ++ [.ins 1 ["lines", "rest", "at"] [.lv M, sD [], .int 0]]) := by
      simp [setF, putN]
    simp -implicitDefEqProofs (disch := first | omega | assumption | (simp; done) | (simp; omega)) [startV, e1, strD, hsp', hc, hx, f1, f2, f3, -List.map_map]
    rw [← hM]; rfl
  unfold newD
  rw [hr]
  rfl
end
end MP
end TK
end
section
set_option autoImplicit false
set_option linter.all false
set_option maxRecDepth 100000
set_option maxHeartbeats 0
/-! ### parse_program of the text of a program -/
namespace TK
open PySem
namespace MP
theorem inW : "sizes" ∈ wordsW ∧ "part" ∈ wordsW ∧ "look" ∈ wordsW ∧ "word" ∈ wordsW ∧ "press" ∈ wordsW ∧ "tick" ∈ wordsW ∧ "live" ∈ wordsW ∧ "skips" ∈ wordsW := by decide
theorem LP_ok {t : TP} (ht : t.ok) : ∀ p ∈ LP t, okLn p := by
  have hz := ht.z4
  have hp := ht.ps
  have hts := ht.ts
  have tab : ∀ a : Tab, okTab t.zs a → (a.1 :: a.2).length ≤ 6 ∧ ∀ k ∈ a.1 :: a.2, k ≤ 7 := fun a ha => by
    have := tab_7 hz ha
    exact ⟨by have := this.2; omega, this.1⟩
  have chg : ∀ c : Chg, okChg t.zs c → (flatC c).length ≤ 6 ∧ ∀ k ∈ flatC c, k ≤ 7 := fun c hc => by
    have := chg_7 hz.1 hc
    exact ⟨this.2, this.1⟩
  obtain ⟨w1, w2, w3, w4, w5, w6, w7, w8⟩ := inW
  intro p hpm
  unfold LP at hpm
  simp only [List.mem_append, List.mem_singleton, List.mem_flatMap, List.mem_map] at hpm
  rcases hpm with (((rfl | ⟨q, hq, hpm⟩) | ⟨c, hc, rfl⟩) | hpm) | hpm
  · exact ⟨w1, by show t.zs.length ≤ 6; omega, fun k hk => by have := hz.2 k hk; omega⟩
  · obtain ⟨o1, o2, o3⟩ := hp.2.2 q hq
    unfold partP at hpm
    rcases List.mem_append.mp hpm with hpm | hpm
    · simp only [List.mem_cons, List.not_mem_nil, or_false] at hpm
      rcases hpm with rfl | rfl | rfl
      · exact ⟨w2, by simp, by simp⟩
      · exact ⟨w3, tab _ o1⟩
      · exact ⟨w4, tab _ o2⟩
    · cases e : q.press with
      | none => rw [e] at hpm; simp at hpm
      | some c =>
        rw [e] at hpm
        simp only [List.mem_cons, List.not_mem_nil, or_false] at hpm
        subst hpm
        exact ⟨w5, chg _ (o3 c e)⟩
  · exact ⟨w6, chg _ (hts.2 c hc)⟩
  · split at hpm
    · cases hpm
    · simp only [List.mem_cons, List.not_mem_nil, or_false] at hpm
      subst hpm
      have := nodup_le (ht.lv.1.imp fun h => Nat.ne_of_lt h) ht.lv.2
      exact ⟨w7, by show t.lv.length ≤ 6; omega, fun k hk => by have := ht.lv.2 k hk; omega⟩
  · split at hpm
    · cases hpm
    · simp only [List.mem_cons, List.not_mem_nil, or_false] at hpm
      subst hpm
      have := nodup_le (ht.sk.1.imp fun h => Nat.ne_of_lt h) ht.sk.2
      exact ⟨w8, by show t.sk.length ≤ 6; omega, fun k hk => by have := ht.sk.2 k hk; omega⟩
/-- what stands behind the parts; behind the ticks; behind live -/
def R4 (t : TP) : List Ln := if t.sk = [] then [] else [("skips", t.sk)]
def R3 (t : TP) : List Ln := (if t.lv = [] then [] else [(("live", t.lv) : Ln)]) ++ R4 t
def R2 (t : TP) (ts : List Chg) : List Ln := ts.map (fun c => (("tick", flatC c) : Ln)) ++ R3 t
def R1 (t : TP) (ps : List Part) : List Ln := ps.flatMap partP ++ R2 t t.ts
theorem LP_R (t : TP) : LP t = ("sizes", t.zs) :: R1 t t.ps := by simp [LP, R1, R2, R3, R4]
theorem nh4 {t : TP} {w : String} (hw : w ≠ "skips") : NoHd w (R4 t) := by
  intro q R' e
  unfold R4 at e
  split at e
  · cases e
  · cases e; exact fun h => hw h.symm
theorem nh3 {t : TP} {w : String} (hw : w ≠ "skips") (h2 : w ≠ "live") : NoHd w (R3 t) := by
  intro q R' e
  unfold R3 at e
  split at e
  · exact nh4 hw q R' e
  · cases e; exact fun h => h2 h.symm
theorem nh2 {t : TP} {ts : List Chg} {w : String} (hw : w ≠ "skips") (h2 : w ≠ "live") (h3 : w ≠ "tick") : NoHd w (R2 t ts) := by
  intro q R' e
  unfold R2 at e
  cases ts with
  | nil => exact nh3 hw h2 q R' e
  | cons c ts => cases e; exact fun h => h3 h.symm
theorem nh1 {t : TP} {ps : List Part} {w : String} (hw : w ≠ "skips") (h2 : w ≠ "live") (h3 : w ≠ "tick") (h4 : w ≠ "part") : NoHd w (R1 t ps) := by
  intro q R' e
  unfold R1 at e
  cases ps with
  | nil => exact nh2 hw h2 h3 q R' e
  | cons p ps => cases e; exact fun h => h4 h.symm
theorem asc_in {l : List Nat} {n : Nat} (h : l.Pairwise (· < ·)) (h2 : ∀ k ∈ l, k < n) : ∀ a : Int, (∀ k ∈ l, a < (k : Int)) → Asc n a (l.map Int.ofNat) := by
  induction l with
  | nil => intro a _; trivial
  | cons x l ih =>
    intro a h1
    obtain ⟨h3, h4⟩ := List.pairwise_cons.mp h
    exact ⟨h1 x List.mem_cons_self, by have := h2 x List.mem_cons_self; simp; omega, ih h4 (fun k hk => h2 k (List.mem_cons_of_mem _ hk)) _ fun k hk => by have := h3 k hk; simp; omega⟩
section
variable {gc : Nat → D} {rest : List Fn} {S : Sx} {j k n : Nat} {t : TP}
theorem drop_app {L A B : List Ln} {k : Nat} (h : L.drop k = A ++ B) : L.drop (k + A.length) = B := by
  rw [← List.drop_drop, h, List.drop_left]
theorem pure_d (t : TP) : t.d.pure = true := by
  have h1 : ∀ a : Tab, (tabD a).pure = true := fun a => by simp only [tabD, D.pure, D.pures, Bool.and_true, Bool.true_and]; exact pures_map (fun _ => purN) _
  have h2 : ∀ c : Chg, (chgD c).pure = true := fun c => pures_map (f := pairD) (fun _ => purPair) c
  have h3 : ∀ p : Part, (partD p).pure = true := fun p => by
    cases hp : p.press <;> simp [partD, D.pure, D.pures, h1, hp, prsD, h2]
  show D.pures t.pd.vals = true
  simp only [TP.pd, PD.vals, map_nD, D.pures, D.pure, Bool.and_eq_true, and_true]
  exact ⟨pures_map (fun _ => purN) _, pures_map h3 _, pures_map h2 _, pures_map (fun _ => purN) _, pures_map (fun _ => purN) _⟩
theorem parse_ok (h7 : gc 0 = .int 7) (h4 : gc 1 = .int 4) (h2 : gc 2 = .int 2) (h3 : gc 3 = digs) (ht : t.ok) (P : P_parse_program (comA ++ rest)) : wrp 2 S (runF gc (comA ++ rest) (n + 7) 81 [sD (textC t)] S) = .ok t.d S := by
  have hz := ht.z4
  have hp := ht.ps
  have hts := ht.ts
  have hL := LP_ok ht
  have hlines : textC t = (((LP t).map lineP).map (· ++ [10])).flatten := by rw [LP_lines]; rfl
  have hll : (LP t).length ≤ 21 := by
    have := lines_21 ht
    rw [← LP_lines] at this
    simpa using this
  have htl : (textC t).length ≤ 999000 := by
    have h30 : ∀ l ∈ (linesC t).map (· ++ [10]), l.length ≤ 31 := fun l hl => by
      obtain ⟨m, hm, rfl⟩ := List.mem_map.mp hl
      have := (line_30 ht hm).1
      simp; omega
    have h1 := sum_le h30
    have h2 := lines_21 ht
    have e : (textC t).length = (((linesC t).map (· ++ [10])).map List.length).sum := by unfold textC; rw [List.length_flatten]
    rw [e]
    simp only [List.length_map] at h1
    omega
  refine wrp2_sat (at_sat P.here rfl ?_) (pure_d t) (fun k => by simp [TP.d])
  generalize hLL : LP t = L at *
  have i1 := init_ok (gc := gc) (n := n + 5) (S := S) P.Lines_init hL hlines htl (by omega)
  have g0 : ∀ (k : Nat) (T : Sx), (S ++ LnO L k :: T)[S.length]? = some (LnO L k) := fun k T => by rw [List.getElem?_append_right (Nat.le_refl _)]; simp
  have gs : ∀ (a b : Nat) (T : Sx), (S ++ LnO L a :: T).set S.length (LnO L b) = S ++ LnO L b :: T := fun a b T => by simp
  have k1 : L.drop 0 = ("sizes", t.zs) :: R1 t t.ps := by rw [List.drop_zero, ← hLL]; exact LP_R t
  have a1 := sizes_ok (gc := gc) (n := n + 3) h3 P.Lines_sizes (g0 0 []) hL (by omega) (drop_get k1).1 ⟨ht.zs.1, ht.zs.2.1⟩ ht.zs.2.2
  rw [gs] at a1
  have m1 : ∀ (k : Nat) (T : Sx) (x : Str), x ∉ (["lines", "rest", "at"] : List Str) → mtD 1 x (.obj S.length) (S ++ LnO L k :: T) = some () := fun k T x hx => mt_L (g0 k T) hx
  have k2 := (drop_get k1).2
  obtain ⟨p0, ps, hps⟩ : ∃ p0 ps, t.ps = p0 :: ps := by
    cases e : t.ps with
    | nil => rw [e] at hp; simp at hp
    | cons p0 ps => exact ⟨p0, ps, rfl⟩
  have hp0 : okPart t.zs p0 := hp.2.2 p0 (by rw [hps]; exact List.mem_cons_self)
  have k2' : L.drop (0 + 1) = partP p0 ++ R1 t ps := by rw [k2, hps]; simp [R1]
  have nh : ∀ ps, NoHd "press" (R1 t ps) := fun ps => nh1 (by decide) (by decide) (by decide) (by decide)
  have a2 := part_ok (gc := gc) (n := n + 2) h3 h7 hz P.Lines_part (g0 (0 + 1) []) hL (by omega) k2' hp0 (nh ps)
  rw [gs] at a2
  unfold f_parse_program
  refine sat_cons (sat_of_eq (x := .nx [some (sD (textC t)), some (.obj S.length), none, none, none, none, none]) (S := S ++ [LnO L 0]) (by
    simp -implicitDefEqProofs (disch := first | omega | assumption | (simp; done) | (simp; omega)) [startV, i1, -List.map_map]) ?_)
  refine sat_cons (sat_of_eq (x := .nx [some (sD (textC t)), some (.obj S.length), some (.tup (t.zs.map nD)), none, none, none, none]) (S := S ++ [LnO L (0 + 1)]) (by
    simp -implicitDefEqProofs (disch := first | omega | assumption | (simp; done) | (simp; omega)) [m1 0 [] "sizes" (by decide), a1, -List.map_map]) ?_)
  refine sat_cons (sat_of_eq (x := .nx [some (sD (textC t)), some (.obj S.length), some (.tup (t.zs.map nD)), some (.obj (S.length + 1)), none, none, none]) (S := S ++ [LnO L (0 + 1 + (partP p0).length), .lst [partD p0]]) (by
    have m2 := m1 (0 + 1) [] "part" (by decide)
    generalize 0 + 1 = o at *
    simp -implicitDefEqProofs (disch := first | omega | assumption | (simp; done) | (simp; omega)) [m2, a2, -List.map_map]) ?_)
  refine sat_cons (TK.R.sat.imp (P := fun f S' => ∃ k, f = .nx [some (sD (textC t)), some (.obj S.length), some (.tup (t.zs.map nD)), some (.obj (S.length + 1)), none, none, none] ∧ S' = S ++ [LnO L k, .lst (t.ps.map partD)] ∧ L.drop k = R2 t t.ts) ?_ ?_)
  · rw [es_whl]
    refine whlL_sat (fun m s S' => ∃ (dn rem : List Part) (k : Nat), s = [some (sD (textC t)), some (.obj S.length), some (.tup (t.zs.map nD)), some (.obj (S.length + 1)), none, none, none] ∧ S' = S ++ [LnO L k, .lst (dn.map partD)] ∧ t.ps = dn ++ rem ∧ L.drop k = R1 t rem ∧ m = rem.length) ?_ _ ps.length _ _ (by have := hp.2.1; rw [hps] at this; simp at this; omega) ⟨[p0], ps, 0 + 1 + (partP p0).length, rfl, rfl, hps, drop_app k2', rfl⟩
    rintro m s S' ⟨dn, rem, k, rfl, rfl, hd, hk, rfl⟩
    have m2 := m1 k [.lst (dn.map partD)] "sees" (by decide)
    have m3 := m1 k [.lst (dn.map partD)] "part" (by decide)
    have q1 := sees_ok (gc := gc) (fs := comA ++ rest) (n := n + 5) P.Lines_sees (g0 k [.lst (dn.map partD)]) hL (by omega) (w := "part") inW.2.1
    cases rem with
    | nil =>
      have hs : seesN L k "part" = false := sees_no hk (nh2 (by decide) (by decide) (by decide))
      rw [hs] at q1
      simp -implicitDefEqProofs (disch := first | omega | assumption | (simp; done) | (simp; omega)) [m2, q1, -List.map_map]
      simp only [List.append_nil] at hd
      exact ⟨k, ⟨rfl, by rw [hd]⟩, hk⟩
    | cons p rem =>
      have hk' : L.drop k = partP p ++ R1 t rem := by rw [hk]; simp [R1]
      have hs : seesN L k "part" = true := by
        have : L.drop k = ("part", []) :: (partP p ++ R1 t rem).tail := by rw [hk']; rfl
        rw [sees_hd this]; rfl
      rw [hs] at q1
      have q2 := part_ok (gc := gc) (n := n + 2) h3 h7 hz P.Lines_part (g0 k [.lst (dn.map partD)]) hL (by omega) hk' (hp.2.2 p (by rw [hd]; simp)) (nh rem)
      rw [gs] at q2
      have hlen : dn.length < 4 := by
        have := hp.2.1
        rw [hd] at this
        simp at this; omega
      have hne : ¬ (dn.length : Int) = 4 := by omega
      have hiso : (lstOf (.obj (S.length + 1)) (S ++ [LnO L k, .lst (dn.map partD)])).isSome = true := by simp [lstOf]
      simp -implicitDefEqProofs (disch := first | omega | assumption | (simp; done) | (simp; omega)) [m2, m3, q1, q2, h4, hne, -List.map_map]
      exact ⟨rem.length, by omega, dn ++ [p], rem, k + (partP p).length, ⟨rfl, by simp⟩, by rw [hd]; simp, drop_app hk', rfl⟩
  rintro f S' ⟨k3, rfl, rfl, hk3⟩
  refine sat_cons (sat_of_eq (x := .nx [some (sD (textC t)), some (.obj S.length), some (.tup (t.zs.map nD)), some (.obj (S.length + 1)), some (.obj (S.length + 2)), none, none]) (S := S ++ [LnO L k3, .lst (t.ps.map partD), .lst []]) (by
    simp -implicitDefEqProofs (disch := first | omega | assumption | (simp; done) | (simp; omega)) [-List.map_map]) ?_)
  refine sat_cons (TK.R.sat.imp (P := fun f S' => ∃ k, f = .nx [some (sD (textC t)), some (.obj S.length), some (.tup (t.zs.map nD)), some (.obj (S.length + 1)), some (.obj (S.length + 2)), none, none] ∧ S' = S ++ [LnO L k, .lst (t.ps.map partD), .lst (t.ts.map chgD)] ∧ L.drop k = R3 t) ?_ ?_)
  · rw [es_whl]
    generalize hPA : MO.lst (t.ps.map partD) = PA
    refine whlL_sat (fun m s S' => ∃ (dn rem : List Chg) (k : Nat), s = [some (sD (textC t)), some (.obj S.length), some (.tup (t.zs.map nD)), some (.obj (S.length + 1)), some (.obj (S.length + 2)), none, none] ∧ S' = S ++ [LnO L k, PA, .lst (dn.map chgD)] ∧ t.ts = dn ++ rem ∧ L.drop k = R2 t rem ∧ m = rem.length) ?_ _ t.ts.length _ _ (by omega) ⟨[], t.ts, k3, rfl, rfl, rfl, hk3, rfl⟩
    rintro m s S' ⟨dn, rem, k, rfl, rfl, hd, hk, rfl⟩
    have m2 := m1 k [PA, .lst (dn.map chgD)] "sees" (by decide)
    have m3 := m1 k [PA, .lst (dn.map chgD)] "changes" (by decide)
    have q1 := sees_ok (gc := gc) (fs := comA ++ rest) (n := n + 5) P.Lines_sees (g0 k [PA, .lst (dn.map chgD)]) hL (by omega) (w := "tick") inW.2.2.2.2.2.1
    have g4 : (S ++ [LnO L k, PA, .lst (dn.map chgD)])[S.length + 2]? = some (.lst (dn.map chgD)) := by rw [List.getElem?_append_right (by omega)]; simp
    cases rem with
    | nil =>
      have hs : seesN L k "tick" = false := sees_no hk (nh3 (by decide) (by decide))
      rw [hs] at q1
      simp -implicitDefEqProofs (disch := first | omega | assumption | (simp; done) | (simp; omega)) [m2, q1, -List.map_map]
      simp only [List.append_nil] at hd
      exact ⟨k, ⟨rfl, by rw [hd]⟩, hk⟩
    | cons c rem =>
      have hk' : L.drop k = ("tick", flatC c) :: R2 t rem := by rw [hk]; rfl
      have hs : seesN L k "tick" = true := by rw [sees_hd hk']; rfl
      rw [hs] at q1
      have q2 := changes_ok2 (gc := gc) (n := n + 3) h3 hz P.Lines_changes (g0 k [PA, .lst (dn.map chgD)]) hL (by omega) hk' (hts.2 c (by rw [hd]; simp))
      rw [gs] at q2
      have g5 : (S ++ [LnO L (k + 1), PA, .lst (dn.map chgD)])[S.length + 2]? = some (.lst (dn.map chgD)) := by rw [List.getElem?_append_right (by omega)]; simp
      have hlen : dn.length < 2 := by
        have := hts.1
        rw [hd] at this
        simp at this; omega
      have hne : ¬ (dn.length : Int) = 2 := by omega
      have hbl : b1D .len (.obj (S.length + 2)) (S ++ [LnO L k, PA, .lst (dn.map chgD)]) = .ok (.int (dn.length : Int)) (S ++ [LnO L k, PA, .lst (dn.map chgD)]) := by rw [b1_leno g4]; simp
      have hap := app_o (d := chgD c) g5 (by simp; omega)
      have hse : (S ++ [LnO L (k + 1), PA, .lst (dn.map chgD)]).set (S.length + 2) (.lst (dn.map chgD ++ [chgD c])) = S ++ [LnO L (k + 1), PA, .lst ((dn ++ [c]).map chgD)] := by simp
      rw [hse] at hap
      simp -implicitDefEqProofs (disch := first | omega | assumption | (simp; done) | (simp; omega)) [m2, m3, q1, q2, h2, hne, hbl, hap, g4, g5, -List.map_map, -List.map_append]
      exact ⟨rem.length, by omega, dn ++ [c], rem, k + 1, ⟨rfl, rfl⟩, by rw [hd]; simp, (drop_get hk').2, rfl⟩
  rintro f S' ⟨k4, rfl, rfl, hk4⟩
  have ascl : ∀ l : List Nat, l.Pairwise (· < ·) → (∀ k ∈ l, k < t.ps.length) → Asc (t.ps.length : Int) (-1) (l.map Int.ofNat) := fun l h1 h2 => asc_in h1 h2 _ fun k hk => by omega
  obtain ⟨k5, e5, hk5⟩ : ∃ k5, runF gc (comA ++ rest) (n + 6) 79 [.obj S.length, .str (Str.ofString "live"), nD t.ps.length] (S ++ [LnO L k4, .lst (t.ps.map partD), .lst (t.ts.map chgD)]) = .ok (.tup (t.lv.map nD)) (S ++ [LnO L k5, .lst (t.ps.map partD), .lst (t.ts.map chgD)]) ∧ L.drop k5 = R4 t := by
    by_cases hv : t.lv = []
    · have hk4' : L.drop k4 = R4 t := by rw [hk4]; simp [R3, hv]
      have := indexes_no (gc := gc) (n := n + 3) P.Lines_indexes (g0 k4 [.lst (t.ps.map partD), .lst (t.ts.map chgD)]) hL (by omega) (w := "live") inW.2.2.2.2.2.2.1 (sees_no hk4' (nh4 (by decide))) (c := nD t.ps.length)
      exact ⟨k4, by rw [this, hv]; rfl, hk4'⟩
    · have hk4' : L.drop k4 = ("live", t.lv) :: R4 t := by rw [hk4]; simp [R3, hv]
      have := indexes_yes (gc := gc) (n := n + 3) h3 P.Lines_indexes (g0 k4 [.lst (t.ps.map partD), .lst (t.ts.map chgD)]) hL (by omega) hk4' hv (ascl _ ht.lv.1 ht.lv.2)
      rw [gs] at this
      exact ⟨k4 + 1, this, (drop_get hk4').2⟩
  obtain ⟨k6, e6, hk6⟩ : ∃ k6, runF gc (comA ++ rest) (n + 6) 79 [.obj S.length, .str (Str.ofString "skips"), nD t.ps.length] (S ++ [LnO L k5, .lst (t.ps.map partD), .lst (t.ts.map chgD)]) = .ok (.tup (t.sk.map nD)) (S ++ [LnO L k6, .lst (t.ps.map partD), .lst (t.ts.map chgD)]) ∧ L.drop k6 = [] := by
    by_cases hv : t.sk = []
    · have hk5' : L.drop k5 = [] := by rw [hk5]; simp [R4, hv]
      have := indexes_no (gc := gc) (n := n + 3) P.Lines_indexes (g0 k5 [.lst (t.ps.map partD), .lst (t.ts.map chgD)]) hL (by omega) (w := "skips") inW.2.2.2.2.2.2.2 (sees_nil hk5') (c := nD t.ps.length)
      exact ⟨k5, by rw [this, hv]; rfl, hk5'⟩
    · have hk5' : L.drop k5 = ("skips", t.sk) :: [] := by rw [hk5]; simp [R4, hv]
      have := indexes_yes (gc := gc) (n := n + 3) h3 P.Lines_indexes (g0 k5 [.lst (t.ps.map partD), .lst (t.ts.map chgD)]) hL (by omega) hk5' hv (ascl _ ht.sk.1 ht.sk.2)
      rw [gs] at this
      exact ⟨k5 + 1, this, (drop_get hk5').2⟩
  have e7 := finish_ok (gc := gc) (n := n + 5) P.Lines_finish (g0 k6 [.lst (t.ps.map partD), .lst (t.ts.map chgD)]) (by simpa using hk6)
  have m5 := m1 k4 [.lst (t.ps.map partD), .lst (t.ts.map chgD)] "indexes" (by decide)
  have m6 := m1 k5 [.lst (t.ps.map partD), .lst (t.ts.map chgD)] "indexes" (by decide)
  have m7 := m1 k6 [.lst (t.ps.map partD), .lst (t.ts.map chgD)] "finish" (by decide)
  have gl : ∀ k, b1D .len (.obj (S.length + 1)) (S ++ [LnO L k, .lst (t.ps.map partD), .lst (t.ts.map chgD)]) = .ok (.int (t.ps.length : Int)) (S ++ [LnO L k, .lst (t.ps.map partD), .lst (t.ts.map chgD)]) := fun k => by
    have : (S ++ [LnO L k, .lst (t.ps.map partD), .lst (t.ts.map chgD)])[S.length + 1]? = some (.lst (t.ps.map partD)) := by rw [List.getElem?_append_right (by omega)]; simp
    rw [b1_leno this]; simp
  have gt1 : ∀ k, b1D .tuple (.obj (S.length + 1)) (S ++ [LnO L k, .lst (t.ps.map partD), .lst (t.ts.map chgD)]) = .ok (.tup (t.ps.map partD)) (S ++ [LnO L k, .lst (t.ps.map partD), .lst (t.ts.map chgD)]) := fun k => by
    have : (S ++ [LnO L k, .lst (t.ps.map partD), .lst (t.ts.map chgD)])[S.length + 1]? = some (.lst (t.ps.map partD)) := by rw [List.getElem?_append_right (by omega)]; simp
    exact b1_tupo this
  have gt2 : ∀ k, b1D .tuple (.obj (S.length + 2)) (S ++ [LnO L k, .lst (t.ps.map partD), .lst (t.ts.map chgD)]) = .ok (.tup (t.ts.map chgD)) (S ++ [LnO L k, .lst (t.ps.map partD), .lst (t.ts.map chgD)]) := fun k => by
    have : (S ++ [LnO L k, .lst (t.ps.map partD), .lst (t.ts.map chgD)])[S.length + 2]? = some (.lst (t.ts.map chgD)) := by rw [List.getElem?_append_right (by omega)]; simp
    exact b1_tupo this
  have ep := @prog_ok gc rest (n + 1) (S ++ [LnO L k6, .lst (t.ps.map partD), .lst (t.ts.map chgD)]) h7 t.pd ht.pd
  have ev5 : t.pd.vals = [.tup (t.zs.map nD), .tup (t.ps.map partD), .tup (t.ts.map chgD), .tup (t.lv.map nD), .tup (t.sk.map nD)] := by simp only [TP.pd, PD.vals, map_nD]
  rw [show (D.iv 0 fldN t.pd.vals) = t.d from rfl, ev5] at ep
  refine sat_cons (sat_of_eq (x := .nx [some (sD (textC t)), some (.obj S.length), some (.tup (t.zs.map nD)), some (.obj (S.length + 1)), some (.obj (S.length + 2)), some (.tup (t.lv.map nD)), none]) (S := S ++ [LnO L k5, .lst (t.ps.map partD), .lst (t.ts.map chgD)]) (by
    simp -implicitDefEqProofs (disch := first | omega | assumption | (simp; done) | (simp; omega)) [m5, gl, e5, -List.map_map]) ?_)
  refine sat_cons (sat_of_eq (x := .nx [some (sD (textC t)), some (.obj S.length), some (.tup (t.zs.map nD)), some (.obj (S.length + 1)), some (.obj (S.length + 2)), some (.tup (t.lv.map nD)), some (.tup (t.sk.map nD))]) (S := S ++ [LnO L k6, .lst (t.ps.map partD), .lst (t.ts.map chgD)]) (by
    simp -implicitDefEqProofs (disch := first | omega | assumption | (simp; done) | (simp; omega)) [m6, gl, e6, -List.map_map]) ?_)
  refine sat_cons (sat_of_eq (x := .nx [some (sD (textC t)), some (.obj S.length), some (.tup (t.zs.map nD)), some (.obj (S.length + 1)), some (.obj (S.length + 2)), some (.tup (t.lv.map nD)), some (.tup (t.sk.map nD))]) (S := S ++ [LnO L k6, .lst (t.ps.map partD), .lst (t.ts.map chgD)]) (by
    simp -implicitDefEqProofs (disch := first | omega | assumption | (simp; done) | (simp; omega)) [m7, e7, -List.map_map]) ?_)
  simp -implicitDefEqProofs (disch := first | omega | assumption | (simp; done) | (simp; omega)) [gt1, gt2, ep, -List.map_map]
end
end MP
end TK
end
section
set_option autoImplicit false
set_option linter.all false
set_option maxRecDepth 100000
set_option maxHeartbeats 0
namespace Kk17
open TK PySem L2 PySem.Spec PyProof.Rows
abbrev pw := PySem.Challenge.pw_twoknowers_k17_whole_read_programs_run_a
def top (i : Nat) : Stmt := pw.main.body.getD i (.Pass ⟨0, 0, 0, 0⟩)
def inCls (s : Stmt) (j : Nat) : Stmt := match s with | .ClassDef _ _ _ b _ _ _ _ _ _ _ => b.getD j (.Pass ⟨0, 0, 0, 0⟩) | s => s
def rest : List Fn := [f_start, f_words, f_put, f_changed, f_next_focus, f_acts, f_changes_of, f_after, f_law_changes, f_law_pair, f_law_data, f_is_number, f_is_number, f_is_number, f_line_of, f_flat, f_write_program, f_is_number, f_is_number, f_is_number, f_is_number, f_is_number, f_reading, f_is_number, f_is_number, f_is_number, f_is_number, f_is_number, f_is_number, f_is_number, f_is_number, f_is_number, f_is_number, f_is_number, f_is_number, f_is_number, f_is_number, f_is_number, f_is_number, f_is_number, f_is_number, f_is_number, f_is_number, f_is_number, f_is_number, f_is_number, f_is_number, f_is_number, f_is_number, f_is_number, f_is_number, f_is_number, f_is_number, f_is_number, f_is_number, f_is_number, f_is_number, f_is_number, f_is_number, f_is_number, f_is_number, f_is_number, m_Lines_init, m_Lines_refuse, m_Lines_sees, m_Lines_numbers, m_Lines_sizes, m_Lines_table, m_Lines_changes, m_Lines_part, m_Lines_indexes, m_Lines_finish, f_parse_program, f_is_number, f_is_number, f_is_number, f_looks, f_sight, f_law_k17]
abbrev fs : List Fn := comA ++ rest
def r0 : RowD := ⟨⟨("is_number", none), "is_number", "is_number", defArgs (top 7), defBody (top 7), defScope (top 7), [], []⟩, ["value", "least", "most"], ["value", "least", "most"], false⟩
def r1 : RowD := ⟨⟨("are_numbers", none), "are_numbers", "are_numbers", defArgs (top 8), defBody (top 8), defScope (top 8), [], []⟩, ["values", "least", "most"], ["values", "least", "most", "value"], true⟩
def r2 : RowD := ⟨⟨("is_table", none), "is_table", "is_table", defArgs (top 9), defBody (top 9), defScope (top 9), [], []⟩, ["sizes", "pair"], ["sizes", "pair", "variable", "table"], false⟩
def r3 : RowD := ⟨⟨("are_changes", none), "are_changes", "are_changes", defArgs (top 10), defBody (top 10), defScope (top 10), [], []⟩, ["sizes", "changes"], ["sizes", "changes", "variable", "add"], false⟩
def r4 : RowD := ⟨⟨("are_parts", none), "are_parts", "are_parts", defArgs (top 11), defBody (top 11), defScope (top 11), [], []⟩, ["sizes", "parts"], ["sizes", "parts", "look", "word", "press"], false⟩
def r5 : RowD := ⟨⟨("are_indexes", none), "are_indexes", "are_indexes", defArgs (top 12), defBody (top 12), defScope (top 12), [], []⟩, ["indexes", "count"], ["indexes", "count", "last", "part"], false⟩
def r6 : RowD := ⟨⟨("Program", some "__init__"), "__init__", "Program.__init__", defArgs (inCls (top 13) 0), defBody (inCls (top 13) 0), defScope (inCls (top 13) 0), [], [("ticks", .adr (kwAt ("Program", some "__init__") "ticks")), ("live", .adr (kwAt ("Program", some "__init__") "live")), ("skips", .adr (kwAt ("Program", some "__init__") "skips"))]⟩, ["self", "sizes", "parts", "ticks", "live", "skips"], ["self", "sizes", "parts", "ticks", "live", "skips", "changes"], true⟩
def r7 : RowD := ⟨⟨("_law_next", none), "_law_next", "_law_next", defArgs (top 36), defBody (top 36), defScope (top 36), [], []⟩, ["_law_state", "_law_many"], ["_law_state", "_law_many", "_law_cell", "_law_drawn"], false⟩
def r8 : RowD := ⟨⟨("_law_made", none), "_law_made", "_law_made", defArgs (top 40), defBody (top 40), defScope (top 40), [], []⟩, ["_law_data_here"], ["_law_data_here"], false⟩
def r9 : RowD := ⟨⟨("start", none), "start", "start", defArgs (top 24), defBody (top 24), defScope (top 24), [], []⟩, ["program"], ["program", "_"], false⟩
def r10 : RowD := ⟨⟨("words", none), "words", "words", defArgs (top 26), defBody (top 26), defScope (top 26), [], []⟩, ["program", "values"], ["program", "values", "_", "variable", "table"], false⟩
def r11 : RowD := ⟨⟨("put", none), "put", "put", defArgs (top 29), defBody (top 29), defScope (top 29), [], []⟩, ["queue", "message"], ["queue", "message", "found", "one"], false⟩
def r12 : RowD := ⟨⟨("changed", none), "changed", "changed", defArgs (top 30), defBody (top 30), defScope (top 30), [], []⟩, ["program", "values", "changes"], ["program", "values", "changes", "found", "variable", "add"], false⟩
def r13 : RowD := ⟨⟨("next_focus", none), "next_focus", "next_focus", defArgs (top 31), defBody (top 31), defScope (top 31), [], []⟩, ["program", "focus"], ["program", "focus", "count", "step", "part"], false⟩
def r14 : RowD := ⟨⟨("acts", none), "acts", "acts", defArgs (top 32), defBody (top 32), defScope (top 32), [], []⟩, ["program", "state"], ["program", "state", "_", "focus", "queue", "found", "part", "row", "index"], false⟩
def r15 : RowD := ⟨⟨("changes_of", none), "changes_of", "changes_of", defArgs (top 33), defBody (top 33), defScope (top 33), [], []⟩, ["program", "focus", "act"], ["program", "focus", "act", "part"], false⟩
def r16 : RowD := ⟨⟨("after", none), "after", "after", defArgs (top 34), defBody (top 34), defScope (top 34), [], []⟩, ["program", "state", "act"], ["program", "state", "act", "values", "focus", "queue", "later", "before", "behind", "part"], false⟩
def r17 : RowD := ⟨⟨("_law_changes", none), "_law_changes", "_law_changes", defArgs (top 37), defBody (top 37), defScope (top 37), [], []⟩, ["_law_state", "_law_sizes"], ["_law_state", "_law_sizes", "_law_k"], false⟩
def r18 : RowD := ⟨⟨("_law_pair", none), "_law_pair", "_law_pair", defArgs (top 38), defBody (top 38), defScope (top 38), [], []⟩, ["_law_state", "_law_sizes", "_law_most"], ["_law_state", "_law_sizes", "_law_most", "_law_variable", "_law_k"], false⟩
def r19 : RowD := ⟨⟨("_law_data", none), "_law_data", "_law_data", defArgs (top 39), defBody (top 39), defScope (top 39), [], []⟩, ["_law_state"], ["_law_state", "_law_sizes", "_law_k", "_law_parts", "_law_most", "_law_look", "_law_word", "_law_press", "_law_ticks", "_law_live", "_law_skips"], false⟩
def r23 : RowD := ⟨⟨("line_of", none), "line_of", "line_of", defArgs (top 18), defBody (top 18), defScope (top 18), [], []⟩, ["word", "numbers"], ["word", "numbers", "number"], false⟩
def r24 : RowD := ⟨⟨("flat", none), "flat", "flat", defArgs (top 19), defBody (top 19), defScope (top 19), [], []⟩, ["changes"], ["changes", "pair", "number"], false⟩
def r25 : RowD := ⟨⟨("write_program", none), "write_program", "write_program", defArgs (top 20), defBody (top 20), defScope (top 20), [], []⟩, ["program"], ["program", "lines", "look", "word", "press", "changes"], false⟩
def r31 : RowD := ⟨⟨("reading", none), "reading", "reading", defArgs (top 28), defBody (top 28), defScope (top 28), [], []⟩, ["program", "state"], ["program", "state"], false⟩
def r71 : RowD := ⟨⟨("Lines", some "__init__"), "__init__", "Lines.__init__", defArgs (inCls (top 21) 0), defBody (inCls (top 21) 0), defScope (inCls (top 21) 0), [], []⟩, ["self", "text"], ["self", "text", "pieces"], false⟩
def r72 : RowD := ⟨⟨("Lines", some "refuse"), "refuse", "Lines.refuse", defArgs (inCls (top 21) 1), defBody (inCls (top 21) 1), defScope (inCls (top 21) 1), [], []⟩, ["self"], ["self"], false⟩
def r73 : RowD := ⟨⟨("Lines", some "sees"), "sees", "Lines.sees", defArgs (inCls (top 21) 2), defBody (inCls (top 21) 2), defScope (inCls (top 21) 2), [], []⟩, ["self", "word"], ["self", "word"], false⟩
def r74 : RowD := ⟨⟨("Lines", some "numbers"), "numbers", "Lines.numbers", defArgs (inCls (top 21) 3), defBody (inCls (top 21) 3), defScope (inCls (top 21) 3), [], []⟩, ["self", "word"], ["self", "word", "found", "one"], false⟩
def r75 : RowD := ⟨⟨("Lines", some "sizes"), "sizes", "Lines.sizes", defArgs (inCls (top 21) 4), defBody (inCls (top 21) 4), defScope (inCls (top 21) 4), [], []⟩, ["self"], ["self", "found"], false⟩
def r76 : RowD := ⟨⟨("Lines", some "table"), "table", "Lines.table", defArgs (inCls (top 21) 5), defBody (inCls (top 21) 5), defScope (inCls (top 21) 5), [], []⟩, ["self", "word", "sizes"], ["self", "word", "sizes", "found"], false⟩
def r77 : RowD := ⟨⟨("Lines", some "changes"), "changes", "Lines.changes", defArgs (inCls (top 21) 6), defBody (inCls (top 21) 6), defScope (inCls (top 21) 6), [], []⟩, ["self", "word", "sizes"], ["self", "word", "sizes", "found", "pairs", "variable", "add"], false⟩
def r78 : RowD := ⟨⟨("Lines", some "part"), "part", "Lines.part", defArgs (inCls (top 21) 7), defBody (inCls (top 21) 7), defScope (inCls (top 21) 7), [], []⟩, ["self", "sizes"], ["self", "sizes", "look", "word", "press"], false⟩
def r79 : RowD := ⟨⟨("Lines", some "indexes"), "indexes", "Lines.indexes", defArgs (inCls (top 21) 8), defBody (inCls (top 21) 8), defScope (inCls (top 21) 8), [], []⟩, ["self", "word", "count"], ["self", "word", "count", "found"], false⟩
def r80 : RowD := ⟨⟨("Lines", some "finish"), "finish", "Lines.finish", defArgs (inCls (top 21) 9), defBody (inCls (top 21) 9), defScope (inCls (top 21) 9), [], []⟩, ["self"], ["self"], false⟩
def r81 : RowD := ⟨⟨("parse_program", none), "parse_program", "parse_program", defArgs (top 22), defBody (top 22), defScope (top 22), [], []⟩, ["text"], ["text", "lines", "sizes", "parts", "ticks", "live", "skips"], false⟩
def r85 : RowD := ⟨⟨("looks", none), "looks", "looks", defArgs (top 25), defBody (top 25), defScope (top 25), [], []⟩, ["program", "values"], ["program", "values", "variable", "table", "_"], false⟩
def r86 : RowD := ⟨⟨("sight", none), "sight", "sight", defArgs (top 27), defBody (top 27), defScope (top 27), [], []⟩, ["program", "state"], ["program", "state"], false⟩
def r87 : RowD := ⟨⟨("law", none), "law", "law", defArgs (top 41), defBody (top 41), defScope (top 41), [], []⟩, ["_law_script"], ["_law_script", "_law_state", "_law_program", "_law_other", "_law_world", "_law_k", "_law_allowed", "_law_act", "_law_told"], false⟩
def rows : List RowD := [r0, r1, r2, r3, r4, r5, r6, r7, r8, r9, r10, r11, r12, r13, r14, r15, r16, r17, r18, r19, r0, r0, r0, r23, r24, r25, r0, r0, r0, r0, r0, r31, r0, r0, r0, r0, r0, r0, r0, r0, r0, r0, r0, r0, r0, r0, r0, r0, r0, r0, r0, r0, r0, r0, r0, r0, r0, r0, r0, r0, r0, r0, r0, r0, r0, r0, r0, r0, r0, r0, r0, r71, r72, r73, r74, r75, r76, r77, r78, r79, r80, r81, r0, r0, r0, r85, r86, r87]
def tb : TC := ⟨[0, 1, 2, 3, 4, 5, 7, 8, 9, 10, 11, 12, 13, 14, 15, 16, 17, 18, 19, 23, 24, 25, 31, 71, 72, 73, 74, 75, 76, 77, 78, 79, 80, 81, 85, 86, 87], [(("is_number" : Str), 0), (("are_numbers" : Str), 1), (("is_table" : Str), 2), (("are_changes" : Str), 3), (("are_parts" : Str), 4), (("are_indexes" : Str), 5), (("line_of" : Str), 23), (("flat" : Str), 24), (("write_program" : Str), 25), (("parse_program" : Str), 81), (("start" : Str), 9), (("looks" : Str), 85), (("words" : Str), 10), (("sight" : Str), 86), (("reading" : Str), 31), (("put" : Str), 11), (("changed" : Str), 12), (("next_focus" : Str), 13), (("acts" : Str), 14), (("changes_of" : Str), 15), (("after" : Str), 16), (("_law_next" : Str), 7), (("_law_changes" : Str), 17), (("_law_pair" : Str), 18), (("_law_data" : Str), 19), (("_law_made" : Str), 8), (("law" : Str), 87)], [("Program", (0, 6)), ("Lines", (1, 71))], [(1, "refuse", 72), (1, "sees", 73), (1, "numbers", 74), (1, "sizes", 75), (1, "table", 76), (1, "changes", 77), (1, "part", 78), (1, "indexes", 79), (1, "finish", 80)], [(0, "sizes"), (0, "parts"), (0, "ticks"), (0, "live"), (0, "skips"), (1, "lines"), (1, "rest"), (1, "at")], [(6, ["sizes", "parts", "ticks", "live", "skips"], [])], [("MOST_NUMBER", 0), ("MOST_PARTS", 1), ("MOST_TICKS", 2), ("DIGITS", 3)]⟩
def nums0 : List (Str × D) := [("MOST_NUMBER", (.int 7)), ("MOST_PARTS", (.int 4)), ("MOST_TICKS", (.int 2)), ("DIGITS", (.tup [(.str "0"), (.str "1"), (.str "2"), (.str "3"), (.str "4"), (.str "5"), (.str "6"), (.str "7"), (.str "8"), (.str "9")]))]
def L : LawD := ⟨rows, tb, ["Program", "Lines"], nums0, 6, fun K => conAll K nums0 && (emptyT K (kwAt (("Program" : Str), some ("__init__" : Str)) "ticks" K) && emptyT K (kwAt (("Program" : Str), some ("__init__" : Str)) "live" K) && emptyT K (kwAt (("Program" : Str), some ("__init__" : Str)) "skips" K))⟩
theorem lok : L.ok = true := by decide +kernel
theorem lck : ckAll L.tb (L.rows.map RowD.row) fs = true := by decide +kernel
theorem g7 : L.gc 0 = .int 7 := rfl
theorem pl : P_law_k17 fs := by repeat' constructor
end Kk17
end
section
set_option autoImplicit false
set_option linter.all false
set_option maxRecDepth 100000
set_option maxHeartbeats 0
/-! ### k17 -/
namespace TK
open PySem Kk17
namespace M17
section
variable {gc : Nat → D} {fs : List Fn} {n : Nat} {S : Sx} {t : TP}
theorem looks_ok (ht : t.ok) (P : P_looks fs) {vs : List Nat} (hv : okVals t vs) : runF gc fs (n + 1) 85 [t.d, .tup (vs.map nD)] S = .ok (.tup ((looksN t vs).map nD)) S := by
  have := ht.ps
  rw [at_fs P.here]
  unfold runB f_looks
  simp [startV, fd_partsT, -List.map_map]
  rw [lc_map t.ps partD (fun p => nD (tabAt p.look vs)) rfl (by omega) (fun p hp => ?_)]
  · simp [newL_f, szl_le (show t.ps.length ≤ 1000000 by omega), looksN, Function.comp_def]
  · obtain ⟨⟨o1, o2⟩, _, _⟩ := ht.ps.2.2 p hp
    refine ⟨_, rfl, ?_⟩
    have h1 : p.look.1 < t.zs.length := (List.getElem?_eq_some_iff.mp o1).1
    obtain ⟨v, hv1⟩ : ∃ v, vs[p.look.1]? = some v := ⟨_, List.getElem?_eq_getElem (by rw [hv.1]; exact h1)⟩
    have h2 := hv.2 _ _ _ hv1 o1
    obtain ⟨w, hw⟩ : ∃ w, p.look.2[v]? = some w := ⟨_, List.getElem?_eq_getElem h2⟩
    simp [partD, tabD, ix_tup, hv1, hw, tabAt]
theorem sight_ok (ht : t.ok) (P : P_sight fs) {w : Wd} (hw : w.ok t) : runF gc fs (n + 2) 86 [t.d, w.d] S = .ok (.tup ((looksN t w.vals ++ [w.foc]).map nD)) S := by
  have hp := ht.ps
  apply eq_of_sat
  refine at_sat P.here rfl ?_
  have h1 := looks_ok (gc := gc) (n := n) (S := S) ht P.looks hw.vals
  have wl : (looksN t w.vals).length = t.ps.length := by simp [looksN]
  have h2 : opD .add (.tup ((looksN t w.vals).map nD)) (.tup [nD w.foc]) S = some (.tup ((looksN t w.vals ++ [w.foc]).map nD)) := by
    show (if ((looksN t w.vals).map nD).length + [nD w.foc].length ≤ sizeLine then some (D.tup ((looksN t w.vals).map nD ++ [nD w.foc])) else none) = _
    rw [if_szl (by simp [wl]; omega)]; simp
  simp -implicitDefEqProofs (disch := first | omega | assumption | (simp; done) | (simp; omega)) [f_sight, startV, Wd.d, h1, h2]
end
abbrev gcL : Nat → D := L.gc
theorem ne_same {d : D} {S : Sx} (h : Dat 16 d) : cmpD .ne d d S = some false := by rw [ne_dat h h]; simp
theorem dat_row {n : Nat} {l : List Nat} : Dat (n + 1) (.tup (l.map nD)) := fun d hd => by
  obtain ⟨k, _, rfl⟩ := List.mem_map.mp hd
  exact datNat
theorem dat_msgd {n : Nat} {m : Option (Nat × Nat)} : Dat (n + 2) (msgD m) := by
  cases m with
  | none => intro d hd; cases hd
  | some p => exact datPair
theorem ne_actsL {l : List Act} {S : Sx} : cmpD .ne (.lv (l.map Act.d)) (.lv (l.map Act.d)) S = some false := by
  have h : eqD (.lv (l.map Act.d)) (.lv (l.map Act.d)) S = some true := eq_lists rfl rfl (dat_map.mpr fun a _ => Act.dat (n := 15) a)
  show (eqD _ _ _).map (!·) = _
  rw [h]; rfl
theorem math : ∀ ns : List Int, ns.length ≤ 63 → ∃ S, runF gcL fs 20 87 [.scr ns] [] = .ok (.bl true) S := by
  intro ns hns
  have P : P_law_k17 fs := pl
  have plk : Pl gcL rest 17 18 19 := ⟨rfl, rfl, rfl⟩
  suffices h : (runF gcL fs 20 87 [.scr ns] []).sat fun d _ => d = .bl true by
    obtain ⟨d, S, e, rfl⟩ := h
    exact ⟨S, e⟩
  refine at_sat P.here rfl ?_
  have e0 := init_St (gc := gcL) (G := runF gcL fs 19) (ns := ns) hns (s := [some (.scr ns), none, none, none, none, none, none, none, none]) rfl
  obtain ⟨t, S1, ht, e1, d1⟩ := data_T (gc := gcL) (rest := rest) (n := 16) (S := St ns 0 1 []) plk St_dr
  have e2 := made_T (gc := gcL) (rest := rest) (n := 13) (S := S1) (t := t) rfl ht
  have e3 := write_ok (gc := gcL) (fs := fs) (n := 17) (S := S1) ht P.write_program
  have e4 := MP.parse_ok (gc := gcL) (rest := rest) (n := 12) (S := S1) rfl rfl rfl rfl ht P.parse_program
  have e5 := start_ok (gc := gcL) (fs := fs) (n := 18) (S := S1) ht P.start
  have q0 := ne_same (d := (startN t).d) (S := S1) (Wd.dat (n := 13) _)
  unfold f_law_k17
  refine sat_cons (sat_of_eq (x := .nx [some (.scr ns), some (.obj 1), none, none, none, none, none, none, none]) (S := St ns 0 1 []) (by
    rw [es_set]
    simp only [startV, List.map_cons, List.map_nil, List.length_cons, List.length_nil, List.replicate, List.cons_append, List.nil_append]
    rw [e0]; rfl) ?_)
  refine sat_cons (sat_of_eq (x := .nx [some (.scr ns), some (.obj 1), some t.d, none, none, none, none, none, none]) (S := S1) (by simp -implicitDefEqProofs (disch := first | omega | assumption | (simp; done) | (simp; omega)) [e1, e2]) ?_)
  refine sat_cons (sat_of_eq (x := .nx [some (.scr ns), some (.obj 1), some t.d, some t.d, none, none, none, none, none]) (S := S1) (by simp -implicitDefEqProofs (disch := first | omega | assumption | (simp; done) | (simp; omega)) [e3, e4]) ?_)
  refine sat_cons (sat_of_eq (x := .nx [some (.scr ns), some (.obj 1), some t.d, some t.d, some (startN t).d, none, none, none, none]) (S := S1) (by simp -implicitDefEqProofs (disch := first | omega | assumption | (simp; done) | (simp; omega)) [e5]) ?_)
  refine sat_cons (sat_of_eq (x := .nx [some (.scr ns), some (.obj 1), some t.d, some t.d, some (startN t).d, none, none, none, none]) (S := S1) (by simp -implicitDefEqProofs (disch := first | omega | assumption | (simp; done) | (simp; omega)) [e5, q0]) ?_)
  clear e0 e1 e2 e3 e4 e5
  refine sat_cons ?_
  simp -implicitDefEqProofs (disch := first | omega | assumption | (simp; done) | (simp; omega)) [show ∀ S, rngI none (.int 40) S = .ok ((List.range 40).map nD, fun _ => true) S from fun S => rng_nat (k := 40) (by omega), -List.map_map]
  refine forL_sat (fun (xs : List Nat) s S' => ∃ (w : Wd) (x5 x6 x7 x8 : Option D), s = [some (.scr ns), some (.obj 1), some t.d, some t.d, some w.d, x5, x6, x7, x8] ∧ w.ok t ∧ Dr [.lst (t.ps.map partD)] S') (fun _ _ _ _ => rfl) ?_ ?_ ⟨startN t, none, none, none, none, rfl, start_wd ht, d1⟩
  · rintro k xs s S' ⟨w, x5, x6, x7, x8, rfl, hw, hd⟩
    refine ⟨_, rfl, ?_⟩
    have a1 := acts_ok (gc := gcL) (fs := fs) (n := 18) (S := S') ht P.acts hw.foc
    have a2 := sight_ok (gc := gcL) (fs := fs) (n := 17) (S := S') ht P.sight hw
    have a3 := reading_ok (gc := gcL) (fs := fs) (n := 17) (S := S') ht P.reading hw
    have q1 := ne_actsL (l := actsN t w) (S := S')
    have q2 := ne_same (d := .tup ((looksN t w.vals ++ [w.foc]).map nD)) (S := S') (dat_row (n := 15))
    have q3 := ne_same (d := .tup ((wordsN t w.vals ++ [w.foc]).map nD)) (S := S') (dat_row (n := 15))
    have hl9 := acts_len ht w
    have hl1 : 0 < (actsN t w).length := List.length_pos_of_mem (mem_acts.mpr trivial : Act.next ∈ actsN t w)
    obtain ⟨u, S3, e3, u1, d3⟩ := draw_N (gc := gcL) (rest := rest) (n := 18) (m := (actsN t w).length) hl1 (by omega) hd
    obtain ⟨a, ha⟩ : ∃ a, (actsN t w)[u]? = some a := ⟨_, List.getElem?_eq_getElem u1⟩
    have haa := List.mem_of_getElem? ha
    have haf := after_ok (gc := gcL) (fs := fs) (n := 17) (S := S3) ht P.after hw haa
    obtain ⟨_, ha2⟩ := List.getElem?_eq_some_iff.mp ha
    have hv := after_wd ht hw haa
    have q4 := ne_same (d := .tup [(afterN t w a).1.d, msgD (afterN t w a).2]) (S := S3) (fun d hd => by
      simp only [List.mem_cons, List.not_mem_nil, or_false] at hd
      rcases hd with rfl | rfl
      · exact Wd.dat (n := 12) _
      · exact dat_msgd (n := 13))
    generalize (looksN t w.vals ++ [w.foc]).map nD = X1 at *
    generalize (wordsN t w.vals ++ [w.foc]).map nD = X2 at *
    refine sat_cons (sat_of_eq (x := .nx [some (.scr ns), some (.obj 1), some t.d, some t.d, some w.d, some (nD k), some (.lv ((actsN t w).map Act.d)), x7, x8]) (S := S') (by simp -implicitDefEqProofs (disch := first | omega | assumption | (simp; done) | (simp; omega)) [a1, -List.map_map]) ?_)
    refine sat_cons (sat_of_eq (x := .nx [some (.scr ns), some (.obj 1), some t.d, some t.d, some w.d, some (nD k), some (.lv ((actsN t w).map Act.d)), x7, x8]) (S := S') (by simp -implicitDefEqProofs (disch := first | omega | assumption | (simp; done) | (simp; omega)) [a1, a2, q1, q2, -List.map_map]) ?_)
    refine sat_cons (sat_of_eq (x := .nx [some (.scr ns), some (.obj 1), some t.d, some t.d, some w.d, some (nD k), some (.lv ((actsN t w).map Act.d)), x7, x8]) (S := S') (by simp -implicitDefEqProofs (disch := first | omega | assumption | (simp; done) | (simp; omega)) [a3, q3, -List.map_map]) ?_)
    refine sat_cons (sat_of_eq (x := .nx [some (.scr ns), some (.obj 1), some t.d, some t.d, some w.d, some (nD k), some (.lv ((actsN t w).map Act.d)), some a.d, x8]) (S := S3) (by simp -implicitDefEqProofs (disch := first | omega | assumption | (simp; done) | (simp; omega)) [e3, ha, ha2, -List.map_map]) ?_)
    refine sat_cons (sat_of_eq (x := .nx [some (.scr ns), some (.obj 1), some t.d, some t.d, some w.d, some (nD k), some (.lv ((actsN t w).map Act.d)), some a.d, some (.tup [(afterN t w a).1.d, msgD (afterN t w a).2])]) (S := S3) (by simp -implicitDefEqProofs (disch := first | omega | assumption | (simp; done) | (simp; omega)) [haf, -List.map_map]) ?_)
    refine sat_cons (sat_of_eq (x := .nx [some (.scr ns), some (.obj 1), some t.d, some t.d, some w.d, some (nD k), some (.lv ((actsN t w).map Act.d)), some a.d, some (.tup [(afterN t w a).1.d, msgD (afterN t w a).2])]) (S := S3) (by simp -implicitDefEqProofs (disch := first | omega | assumption | (simp; done) | (simp; omega)) [haf, q4, -List.map_map]) ?_)
    simp -implicitDefEqProofs (disch := first | omega | assumption | (simp; done) | (simp; omega)) [-List.map_map]
    exact ⟨_, rfl, hv, d3⟩
  · rintro s S' ⟨w, x5, x6, x7, x8, rfl, hw, hd⟩
    simp -implicitDefEqProofs (disch := first | omega | assumption | (simp; done) | (simp; omega)) [-List.map_map]
end M17
end TK
theorem Kk17.math : ∀ ns : List Int, ns.length ≤ 63 → ∃ S, TK.runF Kk17.L.gc Kk17.fs 20 87 [.scr ns] [] = .ok (.bl true) S := TK.M17.math
end
section
set_option autoImplicit false
set_option linter.all false
set_option maxRecDepth 100000
set_option maxHeartbeats 0
namespace Kk17
open TK PySem L2 PySem.Spec PyProof.Rows
abbrev R : PySem.W.OpenRow := PySem.W.OpenLaw.row PySem.Challenge.rw_twoknowers_k17_whole_read_programs_run_a
theorem run (w : World) : HandSHeadRun.RunEq R (PySem.W.view R.prog [41]) L.hk L.ob 5000 [("__name__" : Str), ("KnowError" : Str), ("BadProgram" : Str), ("NotAllowed" : Str), ("BadLine" : Str), ("MOST_NUMBER" : Str), ("is_number" : Str), ("are_numbers" : Str), ("is_table" : Str), ("are_changes" : Str), ("are_parts" : Str), ("are_indexes" : Str), ("Program" : Str), ("DIGITS" : Str), ("MOST_PARTS" : Str), ("MOST_TICKS" : Str), ("line_of" : Str), ("flat" : Str), ("write_program" : Str), ("Lines" : Str), ("parse_program" : Str), ("start" : Str), ("looks" : Str), ("words" : Str), ("sight" : Str), ("reading" : Str), ("put" : Str), ("changed" : Str), ("next_focus" : Str), ("acts" : Str), ("changes_of" : Str), ("after" : Str), ("_law_next" : Str), ("_law_changes" : Str), ("_law_pair" : Str), ("_law_data" : Str), ("_law_made" : Str)] w := by
  intro os
  kernel_rfl
end Kk17
end
section
set_option autoImplicit false
set_option linter.all false
set_option maxRecDepth 100000
set_option maxHeartbeats 0
namespace Kk17
open TK PySem L2 PySem.Spec PyProof.Rows
theorem binds : ∀ k, k ∈ L.tb.pos → ∀ r, L.rows[k]? = some r → BindP r.d r.ps := by
  intro k hk r hr
  have hk : k ∈ tb.pos := hk
  simp only [tb, List.mem_cons, List.not_mem_nil, or_false] at hk
  rcases hk with rfl | rfl | rfl | rfl | rfl | rfl | rfl | rfl | rfl | rfl | rfl | rfl | rfl | rfl | rfl | rfl | rfl | rfl | rfl | rfl | rfl | rfl | rfl | rfl | rfl | rfl | rfl | rfl | rfl | rfl | rfl | rfl | rfl | rfl | rfl | rfl | rfl <;> (cases hr; refine ⟨rfl, fun _ _ _ _ _ _ us hl => ?_⟩) <;> first
    | (match us, hl with | [_], _ => rfl)
    | (match us, hl with | [_, _], _ => rfl)
    | (match us, hl with | [_, _, _], _ => rfl)
    | (match us, hl with | [_, _, _, _], _ => rfl)
    | (match us, hl with | [_, _, _, _, _], _ => rfl)
    | (match us, hl with | [_, _, _, _, _, _], _ => rfl)
    | (match us, hl with | [_, _, _, _, _, _, _], _ => rfl)
theorem kws (P : Program) (w : World) (K : PySem.W.Frag) (mg : Str → Option Value) (h : Heap) (c : He.SaysX L.fa L.fn [] L.tf L.ex w h K) (fdOf : Nat → FuncData) (base : Heap)
    (hfd : ∀ k r, L.rows[k]? = some r → FunD K r.d.name r.d.qual r.d.params r.d.body r.d.scope (r.d.dvs K) (r.d.kws K) (He.fAd K r.d.at_) (fdOf k)) : ∀ k kw dfl, (k, kw, dfl) ∈ L.tb.kws → ∃ r, L.rows[k]? = some r ∧ ∃ mvs gg, (∀ hs H m, RepL ((L.T P w K mg base).at hs) H m dfl mvs) ∧ KBn K (fdOf k) r.ps 1 kw gg (fun vs zs => vs ++ (zs ++ mvs)) := by
  intro k kw dfl hm
  have hm : (k, kw, dfl) ∈ tb.kws := hm
  have F := hfd 6 r6 rfl
  have more0 : L.ex K = true := c.more
  simp only [L] at more0
  have more := (Bool.and_eq_true_iff.mp more0).2
  have e3 : ∀ x ∈ (["ticks", "live", "skips"] : List Str), emptyT K (kwAt (("Program" : Str), some ("__init__" : Str)) x K) = true := by
    simp only [Bool.and_eq_true] at more
    intro x hx
    simp only [List.mem_cons, List.not_mem_nil, or_false] at hx
    rcases hx with rfl | rfl | rfl
    · exact more.1.1
    · exact more.1.2
    · exact more.2
  simp only [tb, List.mem_cons, List.not_mem_nil, or_false, Prod.mk.injEq] at hm
  obtain ⟨rfl, rfl, rfl⟩ := hm
  · refine ⟨r6, rfl, ?_⟩
    obtain ⟨mv, hk⟩ := FunD.kbinds0 (ps := r6.ps) F 1 ["sizes", "parts", "ticks", "live", "skips"] [] (fun us mv ws => us ++ (ws ++ mv)) (by intro h; cases h) (fun _ h => by cases h) (fun a b d => a.append (d.append b)) (by
      intro D doc pm an cdv ct us mv ws h1 h2 h3
      match us, mv, ws, h1, h2, h3 with
      | [_], [], [_, _, _, _, _], _, _, _ => rfl)
    exact ⟨[], _, fun hs H m => rfl, hk⟩
theorem con (w : World) (K : PySem.W.Frag) (h : Heap) (c : He.SaysX L.fa L.fn [] L.tf L.ex w h K) : conAll K L.nums = true := by
  have more0 : L.ex K = true := c.more
  simp only [L] at more0
  exact (Bool.and_eq_true_iff.mp more0).1
end Kk17
open PySem PySem.W PySem.Calls PyProof.Rows
theorem PySem.Challenge.cw_twoknowers_k17_whole_read_programs_run_a_holds : PySem.Challenge.rw_twoknowers_k17_whole_read_programs_run_a.Holds := by
  w_on; o_law
  refine HandSHeadRun.head_any (r := OpenLaw.row PySem.Challenge.rw_twoknowers_k17_whole_read_programs_run_a) (q := view (OpenLaw.row PySem.Challenge.rw_twoknowers_k17_whole_read_programs_run_a).prog [41]) (H := Kk17.L.hk) (ob := Kk17.L.ob) (M := 5000) (loose := [("__name__" : Str), ("KnowError" : Str), ("BadProgram" : Str), ("NotAllowed" : Str), ("BadLine" : Str), ("MOST_NUMBER" : Str), ("is_number" : Str), ("are_numbers" : Str), ("is_table" : Str), ("are_changes" : Str), ("are_parts" : Str), ("are_indexes" : Str), ("Program" : Str), ("DIGITS" : Str), ("MOST_PARTS" : Str), ("MOST_TICKS" : Str), ("line_of" : Str), ("flat" : Str), ("write_program" : Str), ("Lines" : Str), ("parse_program" : Str), ("start" : Str), ("looks" : Str), ("words" : Str), ("sight" : Str), ("reading" : Str), ("put" : Str), ("changed" : Str), ("next_focus" : Str), ("acts" : Str), ("changes_of" : Str), ("after" : Str), ("_law_next" : Str), ("_law_changes" : Str), ("_law_pair" : Str), ("_law_data" : Str), ("_law_made" : Str)]) (d := HandSHeadRun.topDef (OpenLaw.row PySem.Challenge.rw_twoknowers_k17_whole_read_programs_run_a).prog 41) (kwd := []) Kk17.L.ob_eq
    (by kernel_rfl) (fun s => by kernel_rfl) Kk17.run (by kernel_rfl) (by kernel_rfl) (by kernel_rfl) (by rfl) (by first | assumption | decide +kernel) (by decide +kernel) ⟨rfl, rfl, rfl, rfl, rfl, by decide +kernel⟩ ?hw ?hc
  case hw => w_witness2
  case hc =>
    refine LamX.walk_ofTsE (l := PySem.Challenge.rw_twoknowers_k17_whole_read_programs_run_a) (n := 63) (k := 40) (x := "_law_script") (CX := fun w => L2.CX PySem.Challenge.rw_twoknowers_k17_whole_read_programs_run_a.prog w) rfl (by decide) (by kernel_rfl) ⟨rfl, by decide, by decide⟩ ?F (fun _ _ _ _ _ z => by
      obtain ⟨_, _, _, _, _, _, _, _, _, _, _, _, h⟩ := z
      exact h)
    intro w mg fa h Y G hmg0
    obtain ⟨K, KX, c⟩ := Y
    have hmg : mg ("law" : PySem.Str) = some (.ref fa) := by
      have e : (HandSHeadRun.topDef (OpenLaw.row PySem.Challenge.rw_twoknowers_k17_whole_read_programs_run_a).prog 41).name = ("law" : PySem.Str) := by kernel_rfl
      rw [← e]
      exact hmg0
    exact ⟨K, KX, TK.law_of (n := 20) (kl := 87) (rl := Kk17.r87) Kk17.lok Kk17.lck KX G c Kk17.binds (fun fdOf base hfd => Kk17.kws _ w K mg h c fdOf base hfd) (Kk17.con w K h c) rfl rfl rfl (Kk17.binds 87 (by decide) _ rfl) hmg (List.mem_append_left _ (List.mem_map.mpr ⟨(("law" : PySem.Str), 87), List.mem_of_getElem? (i := 26) rfl, rfl⟩)) Kk17.math⟩
end
