import PyProof.Rows.All
import Wide.All
import OpenK.AllK
import Wide.FinOn
import HandS.ForMost
import HandS.ForExc
import KE.KDictKeyed
import KE.SortData
import KE.DataCmp
import HandS.Deep
import HandS.TupAny
import HandS.TupLe
import HandS.CallSlots
import HandS.Zip
import HandS.Conv
import KE.KDictCopyH
import KE.KDictSum
import PyProof.ReprRoads
import HandS.Style
import HandS.Walk
import HandS.Head0
import HandS.Head1
import HandS.Head2
import HandS.HeadEnd
import HandS.HeadHook1
import HandS.HeadHook2
import HandS.Ends
import HandS.Defaults
import PySem.Challenge.RW_gonemarks_k75_outlines
set_option autoImplicit false
set_option Elab.async false
set_option linter.all false
set_option maxRecDepth 100000
set_option maxHeartbeats 0
namespace DP
open PySem

inductive DV where
  | non
  | bl (b : Bool)
  | int (i : Int)
  | str (x : Str)
  | tup (xs : List DV)
  | lst (xs : List DV)
  | dic (kvs : List (DV × DV))
  | loc (n : Nat)
  /-- the script: a list that is only read -/
  | scr (ns : List Int)

namespace DV
mutual
def beq : DV → DV → Bool
  | .non, .non => true
  | .bl a, .bl b => a == b
  | .int a, .int b => decide (a = b)
  | .str a, .str b => decide (a = b)
  | .tup a, .tup b => beqs a b
  | .lst a, .lst b => beqs a b
  | .dic a, .dic b => beqd a b
  | .loc a, .loc b => decide (a = b)
  | .scr a, .scr b => decide (a = b)
  | _, _ => false
def beqs : List DV → List DV → Bool
  | [], [] => true
  | a :: as, b :: bs => beq a b && beqs as bs
  | _, _ => false
def beqd : List (DV × DV) → List (DV × DV) → Bool
  | [], [] => true
  | (a, x) :: as, (b, y) :: bs => beq a b && beq x y && beqd as bs
  | _, _ => false
end
mutual
theorem beq_self : ∀ a : DV, beq a a = true
  | .non => rfl
  | .bl a => by simp [beq]
  | .int a => by simp [beq]
  | .str a => by simp [beq]
  | .tup a => by simp only [beq]; exact beqs_self a
  | .lst a => by simp only [beq]; exact beqs_self a
  | .dic a => by simp only [beq]; exact beqd_self a
  | .loc a => by simp [beq]
  | .scr a => by simp [beq]
theorem beqs_self : ∀ a : List DV, beqs a a = true
  | [] => rfl
  | a :: as => by simp only [beqs, beq_self a, beqs_self as]; rfl
theorem beqd_self : ∀ a : List (DV × DV), beqd a a = true
  | [] => rfl
  | (a, x) :: as => by simp only [beqd, beq_self a, beq_self x, beqd_self as]; rfl
end
mutual
theorem eq_of_beq : ∀ a b : DV, beq a b = true → a = b
  | .non, b, h => by cases b <;> simp_all [beq]
  | .bl a, b, h => by cases b <;> simp_all [beq]
  | .int a, b, h => by cases b <;> simp_all [beq]
  | .str a, b, h => by cases b <;> simp_all [beq]
  | .loc a, b, h => by cases b <;> simp_all [beq]
  | .scr a, b, h => by cases b <;> simp_all [beq]
  | .tup a, .tup b, h => by simp only [beq] at h; rw [eq_of_beqs a b h]
  | .lst a, .lst b, h => by simp only [beq] at h; rw [eq_of_beqs a b h]
  | .dic a, .dic b, h => by simp only [beq] at h; rw [eq_of_beqd a b h]
  | .tup _, .non, h | .tup _, .bl _, h | .tup _, .int _, h | .tup _, .str _, h | .tup _, .lst _, h | .tup _, .dic _, h | .tup _, .loc _, h | .tup _, .scr _, h => by simp [beq] at h
  | .lst _, .non, h | .lst _, .bl _, h | .lst _, .int _, h | .lst _, .str _, h | .lst _, .tup _, h | .lst _, .dic _, h | .lst _, .loc _, h | .lst _, .scr _, h => by simp [beq] at h
  | .dic _, .non, h | .dic _, .bl _, h | .dic _, .int _, h | .dic _, .str _, h | .dic _, .tup _, h | .dic _, .lst _, h | .dic _, .loc _, h | .dic _, .scr _, h => by simp [beq] at h
theorem eq_of_beqs : ∀ a b : List DV, beqs a b = true → a = b
  | [], [], _ => rfl
  | a :: as, b :: bs, h => by
    simp only [beqs, Bool.and_eq_true] at h
    rw [eq_of_beq a b h.1, eq_of_beqs as bs h.2]
  | [], _ :: _, h => by simp [beqs] at h
  | _ :: _, [], h => by simp [beqs] at h
theorem eq_of_beqd : ∀ a b : List (DV × DV), beqd a b = true → a = b
  | [], [], _ => rfl
  | (a, x) :: as, (b, y) :: bs, h => by
    simp only [beqd, Bool.and_eq_true] at h
    rw [eq_of_beq a b h.1.1, eq_of_beq x y h.1.2, eq_of_beqd as bs h.2]
  | [], _ :: _, h => by simp [beqd] at h
  | _ :: _, [], h => by simp [beqd] at h
end
instance : DecidableEq DV := fun a b => if h : beq a b = true then .isTrue (eq_of_beq a b h) else .isFalse fun e => h (e ▸ beq_self a)

mutual
/-- no place of the store within -/
def pure : DV → Bool
  | .loc _ => false
  | .tup xs => pures xs
  | .lst xs => pures xs
  | .dic kvs => pured kvs
  | _ => true
def pures : List DV → Bool
  | [] => true
  | x :: xs => pure x && pures xs
def pured : List (DV × DV) → Bool
  | [] => true
  | (k, v) :: r => pure k && pure v && pured r
end
mutual
/-- as the library's data -/
def toP : DV → PyData
  | .non => .none
  | .bl b => .bool b
  | .int i => .int i
  | .str x => .str x
  | .tup xs => .tuple (toPs xs)
  | .lst xs => .list (toPs xs)
  | .dic kvs => .dict (toPd kvs)
  | .loc _ => .none
  | .scr ns => .list (ns.map .int)
def toPs : List DV → List PyData
  | [] => []
  | x :: xs => toP x :: toPs xs
def toPd : List (DV × DV) → List (PyData × PyData)
  | [] => []
  | (k, v) :: r => (toP k, toP v) :: toPd r
end
mutual
/-- None, bools, ints, texts, tuples and lists of these -/
def flat : DV → Bool
  | .loc _ => false
  | .dic _ => false
  | .tup xs => flats xs
  | .lst xs => flats xs
  | _ => true
def flats : List DV → Bool
  | [] => true
  | x :: xs => flat x && flats xs
end
mutual
/-- how deep -/
def depth : DV → Nat
  | .tup xs => depths xs + 1
  | .lst xs => depths xs + 1
  | .scr _ => 1
  | _ => 0
def depths : List DV → Nat
  | [] => 0
  | x :: xs => max (depth x) (depths xs)
end
mutual
/-- as a dict's key: tuples of whole numbers, texts, None, nested; no bool -/
def key : DV → Option NestedKey
  | .non => some .none
  | .int i => some (.num i)
  | .str x => some (.text x)
  | .tup xs => (keys xs).map .tup
  | _ => none
def keys : List DV → Option (List NestedKey)
  | [] => some []
  | x :: xs => match key x, keys xs with
    | some k, some ks => some (k :: ks)
    | _, _ => none
end
end DV

/-- what stands at a place of the store -/
inductive MO where
  | lst (xs : List DV)
  | dic (kvs : List (DV × DV))
  | ins (C : Nat) (fs : List (Str × DV))
mutual
def below (n : Nat) : DV → Bool
  | .loc i => decide (i < n)
  | .tup xs => belows n xs
  | .lst xs => belows n xs
  | .dic kvs => belowd n kvs
  | _ => true
def belows (n : Nat) : List DV → Bool
  | [] => true
  | x :: xs => below n x && belows n xs
def belowd (n : Nat) : List (DV × DV) → Bool
  | [] => true
  | (k, v) :: r => below n k && below n v && belowd n r
end
def MO.below (n : Nat) : MO → Bool
  | .lst xs => belows n xs
  | .dic kvs => belowd n kvs
  | .ins _ fs => fs.all fun p => DP.below n p.2
abbrev Store := List MO
inductive Res (α : Type) where
  | ok (a : α) (S : Store)
  | exc (c : Nat) (as : List DV) (S : Store)
  | stuck
def Res.bind {α β : Type} (r : Res α) (f : α → Store → Res β) : Res β := match r with
  | .ok a S => f a S
  | .exc c as S => .exc c as S
  | .stuck => .stuck
@[simp] theorem Res.bind_ok {α β : Type} (a : α) (S : Store) (f : α → Store → Res β) : (Res.ok a S).bind f = f a S := rfl
@[simp] theorem Res.bind_exc {α β : Type} (c : Nat) (as : List DV) (S : Store) (f : α → Store → Res β) : (Res.exc c as S : Res α).bind f = .exc c as S := rfl
@[simp] theorem Res.bind_stuck {α β : Type} (f : α → Store → Res β) : (Res.stuck : Res α).bind f = .stuck := rfl
def Res.of {α : Type} (o : Option α) (S : Store) : Res α := match o with
  | some a => .ok a S
  | none => .stuck
@[simp] theorem Res.of_some {α : Type} (a : α) (S : Store) : Res.of (some a) S = .ok a S := rfl
@[simp] theorem Res.of_none {α : Type} (S : Store) : (Res.of none S : Res α) = .stuck := rfl
abbrev Fn := Nat → List DV → Store → Res DV
abbrev Env := List (Option DV)

end DP

namespace DP
open PySem

namespace DV
mutual
/-- the two can be compared, place by place (the library's word) -/
def alike : DV → DV → Bool
  | .non, .non => true
  | .bl _, .bl _ => true
  | .int _, .int _ => true
  | .str _, .str _ => true
  | .lst xs, .lst ys => alikes xs ys
  | .tup xs, .tup ys => alikes xs ys
  | _, _ => false
def alikes : List DV → List DV → Bool
  | x :: xs, y :: ys => alike x y && alikes xs ys
  | [], _ => true
  | _ :: _, [] => true
end
/-- x < y, of alike ones -/
def ltb (x y : DV) : Bool := W.dataLt x.toP y.toP
def leb (x y : DV) : Bool := !ltb y x
def allAlike (xs : List DV) : Bool := xs.all fun a => xs.all fun b => alike a b
def isTup1 : DV → Bool
  | .tup (_ :: _) => true
  | _ => false
def isOther : DV → Bool
  | .non => false
  | .tup _ => false
  | _ => true
def sortable (xs : List DV) : Bool := xs.all isTup1 || xs.all isOther
end DV

inductive BO where | add | sub | mul | fdiv | mod | pow
  deriving DecidableEq
inductive CO where | eq | ne | lt | le | gt | ge | isin | notin
  deriving DecidableEq
/-- built-in functions of values -/
inductive BF where | len | tuple | list | sorted | dict | int | str | repr | min | max | sum | any | all
  deriving DecidableEq
/-- methods of values -/
inductive MF where | get1 | get2 | append | extend | pop0 | pop1 | pop2
  deriving DecidableEq
/-- what a loop goes over -/
inductive SK where | seq | rng1 | rng2 | keys | vals | items | enum | zip
  deriving DecidableEq
/-- a loop's target: one name, a tuple of names -/
inductive MT where | nm (i : Nat) | tp (is : List Nat)
  deriving DecidableEq

inductive ME where
  | non | bl (b : Bool) | int (i : Int) | str (x : Str)
  | var (i : Nat) | con (k : Nat)
  | tup (es : List ME) | lst (es : List ME) | newD
  | bin (op : BO) (a b : ME) | neg (a : ME)
  | cmp (op : CO) (a b : ME) | chain (op op' : CO) (a b c : ME)
  | isN (a : ME) | notN (a : ME)
  | and (a b : ME) | or (a b : ME) | not (a : ME)
  | ite (c a b : ME)
  | idx (a i : ME) | slc (a : ME) (lo hi : List ME) | rev (a : ME)
  | call (k : Nat) (es : List ME)
  | blt (f : BF) (es : List ME)
  | meth (f : MF) (o : ME) (es : List ME)
  | comp (elt : ME) (tg : MT) (src : SK) (ses : List ME) (cnd : List ME) (own : List Nat)
  | new (e : ME)

inductive MS where
  | asg (i : Nat) (e : ME)
  | asgT (is : List Nat) (e : ME)
  | par (i j : Nat) (a b : ME)
  | sub (o i e : ME)
  | expr (e : ME) | ret (e : ME) | retN
  | ifs (c : ME) (a b : List MS)
  | whl (fuel : Nat) (c : ME) (body : List MS)
  | fors (tg : MT) (src : SK) (ses : List ME) (body : List MS)

structure Ctx where
  fs : List Fn
  cs : List DV
  base : Nat

/-! ### the values' operations -/
def peek (S : Store) : DV → DV
  | .loc n => match S[n]? with
    | some (.lst xs) => .lst xs
    | some (.dic kvs) => .dic kvs
    | _ => .loc n
  | d => d
def bin (op : BO) (a b : DV) : Option DV := match op, a, b with
  | .add, .int i, .int j => some (.int (i + j))
  | .add, .str x, .str y => if x.length + y.length ≤ sizeLine then some (.str (x ++ y)) else none
  | .add, .tup x, .tup y => if x.length + y.length ≤ sizeLine then some (.tup (x ++ y)) else none
  | .add, .lst x, .lst y => if x.length + y.length ≤ sizeLine then some (.lst (x ++ y)) else none
  | .sub, .int i, .int j => some (.int (i - j))
  | .mul, .int i, .int j => if (-(2 ^ 64) < i ∧ i < 2 ^ 64) ∨ (-(2 ^ 64) < j ∧ j < 2 ^ 64) then some (.int (i * j)) else none
  | .mul, .lst x, .int k => if -(2 ^ 63) ≤ k ∧ k < 2 ^ 63 ∧ x.length * k.toNat ≤ sizeLine then some (.lst (List.replicate k.toNat x).flatten) else none
  | .fdiv, .int i, .int j => if 0 < j ∧ j < 1073741824 then some (.int (i / j)) else none
  | .mod, .int i, .int j => if 0 < j then some (.int (i % j)) else none
  | .pow, .int i, .int j => if 0 ≤ j ∧ j ≤ 1000000 ∧ i.natAbs < 2 ^ 64 then some (.int (i ^ j.toNat)) else none
  | _, _, _ => none
/-- a tuple that may be a key -/
def tkey : DV → Bool
  | .tup xs => (DV.keys xs).isSome && decide (DV.depths xs < 8)
  | _ => false
def skey : DV → Bool
  | .str _ => true
  | _ => false
/-- k may be asked of a dict with these: all keys are texts, or all are tuples -/
def dok (kvs : List (DV × DV)) (k : DV) : Bool := (skey k && kvs.all fun p => skey p.1) || (tkey k && kvs.all fun p => tkey p.1)
def dget (kvs : List (DV × DV)) (k : DV) : Option DV := (kvs.find? fun p => decide (p.1 = k)).map (·.2)
def dhas (kvs : List (DV × DV)) (k : DV) : Bool := kvs.any fun p => decide (p.1 = k)
def dput (kvs : List (DV × DV)) (k v : DV) : List (DV × DV) :=
  if dhas kvs k then kvs.map fun p => if p.1 = k then (p.1, v) else p else kvs ++ [(k, v)]
def ddel (kvs : List (DV × DV)) (k : DV) : List (DV × DV) := kvs.filter fun p => !decide (p.1 = k)
/-- == -/
def deq (a b : DV) : Option Bool := if a.flat && b.flat && decide (a.depth ≤ 64) && decide (b.depth ≤ 64) then some (PyData.eqv a.toP b.toP) else none
def cmp (op : CO) (a b : DV) : Option Bool := match op, a, b with
  | .eq, a, b => deq a b
  | .ne, a, b => (deq a b).map (!·)
  | .isin, k, .dic kvs => if dok kvs k then some (dhas kvs k) else none
  | .notin, k, .dic kvs => if dok kvs k then some (!dhas kvs k) else none
  | .isin, x, .lst ys => if x.flat && DV.flats ys && decide (x.depth ≤ 64) && decide (DV.depths ys < 64) then some (ys.any fun y => PyData.eqv y.toP x.toP) else none
  | .notin, x, .lst ys => if x.flat && DV.flats ys && decide (x.depth ≤ 64) && decide (DV.depths ys < 64) then some (!ys.any fun y => PyData.eqv y.toP x.toP) else none
  | .lt, a, b => if a.flat && b.flat && a.alike b && decide (a ≠ .non) && decide (a.depth ≤ 64) then some (DV.ltb a b) else none
  | .gt, a, b => if a.flat && b.flat && a.alike b && decide (a ≠ .non) && decide (a.depth ≤ 64) then some (DV.ltb b a) else none
  | .le, a, b => if a.flat && b.flat && a.alike b && decide (a ≠ .non) && decide (a.depth ≤ 64) then some (!DV.ltb b a) else none
  | .ge, a, b => if a.flat && b.flat && a.alike b && decide (a ≠ .non) && decide (a.depth ≤ 64) then some (!DV.ltb a b) else none
  | _, _, _ => none
/-- the place i of a sequence, from its end where below 0 -/
def idx (a i : DV) : Option DV := match a, i with
  | .tup xs, .int i => L2.atI xs i
  | .lst xs, .int i => L2.atI xs i
  | .str z, .int i => (L2.atI z.cps.toList i).map fun c => .str ⟨#[c]⟩
  | .dic kvs, k => if dok kvs k then dget kvs k else none
  | .tup _, _ => none
  | .lst _, _ => none
  | _, _ => none
def cut {α : Type} (xs : List α) (lo hi : Option Int) : List α :=
  (xs.drop (HT.sIx xs.length 0 lo)).take (HT.sIx xs.length xs.length hi - HT.sIx xs.length 0 lo)
def slc (a : DV) (lo hi : Option Int) : Option DV := match a with
  | .tup xs => some (.tup (cut xs lo hi))
  | .lst xs => some (.lst (cut xs lo hi))
  | .scr ns => some (.lst ((cut ns lo hi).map .int))
  | _ => none
/-- an end of a cut: left out, or a whole number -/
def part : List DV → Option (Option Int)
  | [] => some none
  | [.int i] => some (some i)
  | _ => none
def intsOf : List DV → Option (List Int)
  | [] => some []
  | .int i :: r => (intsOf r).map (i :: ·)
  | _ => none
def boolsOf : List DV → Option (List Bool)
  | [] => some []
  | .bl i :: r => (boolsOf r).map (i :: ·)
  | _ => none
def pairs : List DV → Option (List (DV × DV))
  | [] => some []
  | .tup [k, v] :: r => (pairs r).map ((k, v) :: ·)
  | _ => none
def seqOf : DV → Option (List DV)
  | .lst xs => some xs
  | .tup xs => some xs
  | _ => none
def sorted (xs : List DV) : Option DV := if DV.allAlike xs && DV.sortable xs && DV.flats xs && decide (DV.depths xs ≤ 64) then some (.lst (xs.mergeSort DV.leb)) else none
def isSeq : DV → Bool
  | .lst _ => true
  | .tup _ => true
  | _ => false
def blt (f : BF) (as : List DV) : Option DV := match f, as with
  | .len, [.lst xs] => some (.int xs.length)
  | .len, [.tup xs] => some (.int xs.length)
  | .len, [.dic kvs] => some (.int kvs.length)
  | .len, [.str z] => some (.int z.length)
  | .tuple, [.lst xs] => some (.tup xs)
  | .tuple, [.tup xs] => some (.tup xs)
  | .list, [.lst xs] => some (.lst xs)
  | .list, [.tup xs] => some (.lst xs)
  | .list, [.dic kvs] => some (.lst (kvs.map (·.1)))
  | .sorted, [.lst xs] => sorted xs
  | .sorted, [.dic kvs] => sorted (kvs.map (·.1))
  | .dict, [.lst xs] => (pairs xs).bind fun kvs => if kvs.all fun p => tkey p.1 then some (.dic (kvs.foldl (fun d p => dput d p.1 p.2) [])) else none
  | .dict, [.tup xs] => (pairs xs).bind fun kvs => if kvs.all fun p => tkey p.1 then some (.dic (kvs.foldl (fun d p => dput d p.1 p.2) [])) else none
  | .int, [.int i] => some (.int i)
  | .int, [.bl k] => some (.int (if k then 1 else 0))
  | .str, [.int i] => if i.natAbs.log2 < 1920 then some (.str (toString i)) else none
  | .repr, [d] => if isSeq d && d.flat && d.toP.showable && decide (d.depth ≤ 64) && decide (d.toP.shown.length ≤ sizeLine) && PyData.strOk d.toP.shown then some (.str d.toP.shown) else none
  | .sum, [.lst xs] => (intsOf xs).map fun ns => .int ns.sum
  | .any, [.lst xs] => (boolsOf xs).map fun bs => .bl (bs.any id)
  | .all, [.lst xs] => (boolsOf xs).map fun bs => .bl (bs.all id)
  | _, _ => none

/-! ### targets, sources -/
def bindTo (tg : MT) (d : DV) (e : Env) : Option Env := match tg, d with
  | .nm i, d => some (e.set i (some d))
  | .tp is, .tup xs => if xs.length = is.length then some ((is.zip xs).foldl (fun e p => e.set p.1 (some p.2)) e) else none
  | .tp _, _ => none
/-- what the sources' values give, item by item; what must stand still meanwhile -/
def srcOf (k : SK) (as : List DV) : Option (List DV) := match k, as with
  | .seq, [.lst xs] => some xs
  | .seq, [.tup xs] => some xs
  | .rng1, [.int n] => if -(2 ^ 62) ≤ n ∧ n ≤ sizeLine then some ((List.range n.toNat).map fun (i : Nat) => .int i) else none
  | .rng2, [.int a, .int b] => if -(2 ^ 62) ≤ a ∧ a < 2 ^ 62 ∧ -(2 ^ 62) ≤ b ∧ b < 2 ^ 62 ∧ b - a ≤ sizeLine then some ((List.range (b - a).toNat).map fun (i : Nat) => .int (a + i)) else none
  | .keys, [.dic kvs] => if !kvs.isEmpty && kvs.all fun p => tkey p.1 then some (kvs.map (·.1)) else none
  | _, _ => none
/-- a dict that is walked by its keys is no place -/
def srcArg (k : SK) (S : Store) (as : List DV) : List DV := match k with
  | .keys => as
  | _ => as.map (peek S)
def live (as : List DV) (S0 S : Store) : Prop := ∀ n, DV.loc n ∈ as → S[n]? = S0[n]?
def isLive : List DV → Store → Store → Bool
  | [], _, _ => true
  | .loc n :: r, S0, S => (match S0[n]?, S[n]? with
    | some (.lst xs), some (.lst ys) => decide (xs = ys)
    | some (.dic xs), some (.dic ys) => decide (xs = ys)
    | _, _ => false) && isLive r S0 S
  | _ :: r, S0, S => isLive r S0 S
def wipe (e : Env) : List Nat → Env
  | [] => e
  | i :: r => (wipe e r).set i none
/-- may v be written into the place n where what lies below b is older than this call -/
def fits (b n : Nat) (v : DV) : Bool := decide (b ≤ n) || v.pure

inductive Out where
  | nx (e : Env) (S : Store)
  | rt (v : DV) (S : Store)
  | exc (c : Nat) (as : List DV) (e : Env) (S : Store)
  | stuck
def Out.bind (o : Out) (f : Env → Store → Out) : Out := match o with
  | .nx e S => f e S
  | .rt v S => .rt v S
  | .exc c as e S => .exc c as e S
  | .stuck => .stuck
@[simp] theorem Out.bind_nx (e : Env) (S : Store) (f : Env → Store → Out) : (Out.nx e S).bind f = f e S := rfl
@[simp] theorem Out.bind_rt (v : DV) (S : Store) (f : Env → Store → Out) : (Out.rt v S).bind f = .rt v S := rfl
@[simp] theorem Out.bind_exc (c : Nat) (as : List DV) (e : Env) (S : Store) (f : Env → Store → Out) : (Out.exc c as e S).bind f = .exc c as e S := rfl
@[simp] theorem Out.bind_stuck (f : Env → Store → Out) : Out.stuck.bind f = .stuck := rfl
/-- from a value to what follows -/
def Res.then {α : Type} (r : Res α) (e : Env) (f : α → Store → Out) : Out := match r with
  | .ok a S => f a S
  | .exc c as S => .exc c as e S
  | .stuck => .stuck
@[simp] theorem Res.then_ok {α : Type} (a : α) (S : Store) (e : Env) (f : α → Store → Out) : (Res.ok a S).then e f = f a S := rfl
@[simp] theorem Res.then_exc {α : Type} (c : Nat) (as : List DV) (S : Store) (e : Env) (f : α → Store → Out) : (Res.exc c as S : Res α).then e f = .exc c as e S := rfl
@[simp] theorem Res.then_stuck {α : Type} (e : Env) (f : α → Store → Out) : (Res.stuck : Res α).then e f = .stuck := rfl

def asBl {α : Type} (d : DV) (f : Bool → Res α) : Res α := match d with
  | .bl b => f b
  | _ => .stuck
@[simp] theorem asBl_bl {α : Type} (b : Bool) (f : Bool → Res α) : asBl (.bl b) f = f b := rfl
def asBlO (d : DV) (f : Bool → Out) : Out := match d with
  | .bl b => f b
  | _ => .stuck
@[simp] theorem asBlO_bl (b : Bool) (f : Bool → Out) : asBlO (.bl b) f = f b := rfl
/-- a fresh value laid into the store -/
def lay (d : DV) (S : Store) : Res DV := match d with
  | .lst xs => .ok (.loc S.length) (S ++ [.lst xs])
  | .dic kvs => .ok (.loc S.length) (S ++ [.dic kvs])
  | _ => .stuck
/-- a comprehension's turns: f gives the item, or none where the test says no; nothing is raised -/
def compL (f : DV → Store → Res (Option DV)) (chk : Store → Bool) : List DV → Store → Res (List DV)
  | [], S => if chk S then .ok [] S else .stuck
  | d :: ds, S => if chk S then (f d S).bind fun o S => (compL f chk ds S).bind fun r S => .ok (match o with | some v => v :: r | none => r) S else .stuck
def noExc {α : Type} (r : Res α) : Res α := match r with
  | .exc _ _ _ => .stuck
  | r => r
/-- of which kind a thing is whose method is called -/
inductive Kd where | lst | dic | str
  deriving DecidableEq
def kindOf : DV → Option Kd
  | .lst _ => some .lst
  | .dic _ => some .dic
  | .str _ => some .str
  | _ => none
/-- which are shown -/
def mok : MF → Kd → Bool
  | .append, .lst => true | .extend, .lst => true | .pop1, .lst => true
  | .pop1, .dic => true | .pop2, .dic => true | .get1, .dic => true | .get2, .dic => true
  | _, _ => false
/-- methods: what they give, the store behind them -/
def meth (b : Nat) (f : MF) (k : Kd) (o : DV) (as : List DV) (S : Store) : Res DV := match f, k, as with
  | .get1, .dic, [k] => (match peek S o with
    | .dic kvs => if dok kvs k then .ok ((dget kvs k).getD .non) S else .stuck
    | _ => .stuck)
  | .get2, .dic, [k, d] => (match peek S o with
    | .dic kvs => if dok kvs k then .ok ((dget kvs k).getD d) S else .stuck
    | _ => .stuck)
  | .append, .lst, [v] => (match o with
    | .loc n => (match S[n]? with
      | some (.lst xs) => if fits b n v && decide (xs.length < sizeLine) then .ok .non (S.set n (.lst (xs ++ [v]))) else .stuck
      | _ => .stuck)
    | _ => .stuck)
  | .extend, .lst, [v] => (match o with
    | .loc n => (match S[n]?, peek S v with
      | some (.lst xs), .lst ys => if ys.all (fits b n) && decide (xs.length + ys.length ≤ sizeLine) then .ok .non (S.set n (.lst (xs ++ ys))) else .stuck
      | _, _ => .stuck)
    | _ => .stuck)
  | .pop1, .lst, [.int i] => (match o with
    | .loc n => (match S[n]? with
      | some (.lst xs) => (match L2.ixN xs.length i, L2.atI xs i with
        | some j, some v => if i < 2 ^ 62 then .ok v (S.set n (.lst (xs.eraseIdx j))) else .stuck
        | _, _ => .stuck)
      | _ => .stuck)
    | _ => .stuck)
  | .pop1, .dic, [k] => (match o with
    | .loc n => (match S[n]? with
      | some (.dic kvs) => (match dok kvs k, dget kvs k with
        | true, some v => .ok v (S.set n (.dic (ddel kvs k)))
        | _, _ => .stuck)
      | _ => .stuck)
    | _ => .stuck)
  | .pop2, .dic, [k, d] => (match o with
    | .loc n => (match S[n]? with
      | some (.dic kvs) => if dok kvs k then (match dget kvs k with
        | some v => .ok v (S.set n (.dic (ddel kvs k)))
        | none => .ok d S) else .stuck
      | _ => .stuck)
    | _ => .stuck)
  | _, _, _ => .stuck
def subSet (b : Nat) (o i v : DV) (S : Store) : Res Unit := match o with
  | .loc n => (match S[n]?, i with
    | some (.lst xs), .int i => (match L2.ixN xs.length i with
      | some j => if fits b n v then .ok () (S.set n (.lst (xs.set j v))) else .stuck
      | none => .stuck)
    | some (.dic kvs), k => if dok kvs k && fits b n v && decide (kvs.length < sizeLine) then .ok () (S.set n (.dic (dput kvs k v))) else .stuck
    | _, _ => .stuck)
  | _ => .stuck

mutual
def evE (G : Ctx) : ME → Env → Store → Res DV
  | .non, _, S => .ok .non S
  | .bl b, _, S => .ok (.bl b) S
  | .int i, _, S => .ok (.int i) S
  | .str x, _, S => .ok (.str x) S
  | .var i, e, S => Res.of (e[i]?.getD none) S
  | .con k, _, S => Res.of G.cs[k]? S
  | .tup es, e, S => (evEs G es e S).bind fun ds S => .ok (.tup ds) S
  | .lst es, e, S => (evEs G es e S).bind fun ds S => .ok (.lst ds) S
  | .newD, _, S => .ok (.dic []) S
  | .bin op a b, e, S => (evE G a e S).bind fun x S => (evE G b e S).bind fun y S => Res.of (bin op (peek S x) (peek S y)) S
  | .neg a, e, S => (evE G a e S).bind fun x S => match x with
    | .int i => .ok (.int (-i)) S
    | _ => .stuck
  | .cmp op a b, e, S => (evE G a e S).bind fun x S => (evE G b e S).bind fun y S => Res.of ((cmp op (peek S x) (peek S y)).map .bl) S
  | .chain op op' a b c, e, S => (evE G a e S).bind fun x S => (evE G b e S).bind fun y S => (Res.of (cmp op (peek S x) (peek S y)) S).bind fun k S =>
      if k then (evE G c e S).bind fun z S => Res.of ((cmp op' (peek S y) (peek S z)).map .bl) S else .ok (.bl false) S
  | .isN a, e, S => (evE G a e S).bind fun x S => .ok (.bl (decide (x = .non))) S
  | .notN a, e, S => (evE G a e S).bind fun x S => .ok (.bl (!decide (x = .non))) S
  | .and a b, e, S => (evE G a e S).bind fun x S => asBl x fun k => if k then evE G b e S else .ok (.bl false) S
  | .or a b, e, S => (evE G a e S).bind fun x S => asBl x fun k => if k then .ok (.bl true) S else evE G b e S
  | .not a, e, S => (evE G a e S).bind fun x S => asBl x fun k => .ok (.bl (!k)) S
  | .ite c a b, e, S => (evE G c e S).bind fun x S => asBl x fun k => if k then evE G a e S else evE G b e S
  | .idx a i, e, S => (evE G a e S).bind fun x S => (evE G i e S).bind fun y S => Res.of (idx (peek S x) y) S
  | .slc a lo hi, e, S => (evE G a e S).bind fun x S => (evEs G lo e S).bind fun l S => (Res.of (part l) S).bind fun l S => (evEs G hi e S).bind fun h S =>
      (Res.of (part h) S).bind fun h S => Res.of (slc (peek S x) l h) S
  | .rev a, e, S => (evE G a e S).bind fun x S => (match peek S x with
    | .lst xs => .ok (.lst xs.reverse) S
    | _ => .stuck)
  | .call k es, e, S => (evEs G es e S).bind fun ds S => match G.fs[k]? with
    | some f => f G.base ds S
    | none => .stuck
  | .blt f es, e, S => (evEs G es e S).bind fun ds S => Res.of (blt f (ds.map (peek S))) S
  | .meth f o es, e, S => (evE G o e S).bind fun x S => match kindOf (peek S x) with
    | some k => if mok f k then (evEs G es e S).bind fun ds S => meth G.base f k x ds S else .stuck
    | none => .stuck
  | .comp elt tg src ses cnd own, e, S => (evEs G ses e S).bind fun as S1 => match srcOf src (srcArg src S1 as) with
    | some items => (compL (fun d S => match bindTo tg d (wipe e own) with
      | some e1 => noExc ((evC G cnd e1 S).bind fun k S => if k then (evE G elt e1 S).bind fun v S => .ok (some v) S else .ok none S)
      | none => .stuck) (isLive as S1) items S1).bind fun r S => .ok (.lst r) S
    | none => .stuck
  | .new a, e, S => (evE G a e S).bind lay
def evEs (G : Ctx) : List ME → Env → Store → Res (List DV)
  | [], _, S => .ok [] S
  | m :: ms, e, S => (evE G m e S).bind fun d S => (evEs G ms e S).bind fun ds S => .ok (d :: ds) S
/-- the tests of a comprehension: none, or one -/
def evC (G : Ctx) : List ME → Env → Store → Res Bool
  | [], _, S => .ok true S
  | m :: _, e, S => (evE G m e S).bind fun d S => asBl d fun k => .ok k S
end

def whileL (c : Env → Store → Res DV) (b : Env → Store → Out) : Nat → Env → Store → Out
  | 0, _, _ => .stuck
  | n + 1, e, S => (c e S).then e fun d S => asBlO d fun k => if k then (b e S).bind (whileL c b n) else .nx e S
def forL (tg : MT) (b : Env → Store → Out) (chk : Store → Bool) : List DV → Env → Store → Out
  | [], e, S => if chk S then .nx e S else .stuck
  | d :: ds, e, S => if chk S then (match bindTo tg d e with
    | some e1 => (b e1 S).bind (forL tg b chk ds)
    | none => .stuck) else .stuck

mutual
def evS (G : Ctx) : MS → Env → Store → Out
  | .asg i a, e, S => (evE G a e S).then e fun d S => .nx (e.set i (some d)) S
  | .asgT is a, e, S => (evE G a e S).then e fun d S => (match bindTo (.tp is) d e with
    | some e1 => .nx e1 S
    | none => .stuck)
  | .par i j a b, e, S => (evE G a e S).then e fun x S => (evE G b e S).then e fun y S => .nx ((e.set i (some x)).set j (some y)) S
  | .sub o i a, e, S => (evE G a e S).then e fun v S => (evE G o e S).then e fun x S => (evE G i e S).then e fun y S => (subSet G.base x y v S).then e fun _ S => .nx e S
  | .expr a, e, S => (evE G a e S).then e fun _ S => .nx e S
  | .ret a, e, S => (evE G a e S).then e fun d S => .rt d S
  | .retN, _, S => .rt .non S
  | .ifs c a b, e, S => (evE G c e S).then e fun d S => asBlO d fun k => if k then evB G a e S else evB G b e S
  | .whl n c body, e, S => whileL (evE G c) (evB G body) n e S
  | .fors tg src ses body, e, S => (evEs G ses e S).then e fun as S1 => match srcOf src (srcArg src S1 as) with
    | some items => forL tg (evB G body) (isLive as S1) items e S1
    | none => .stuck
def evB (G : Ctx) : List MS → Env → Store → Out
  | [], e, S => .nx e S
  | s :: ss, e, S => (evS G s e S).bind (evB G ss)
end

/-! ### a def -/
/-- how a def hands back: what it made is dropped, or kept -/
inductive Mode where | drop | fresh | keep
  deriving DecidableEq
mutual
/-- what lies at n or above read into the value, to a depth -/
def freeze (n : Nat) (S : Store) : Nat → DV → DV
  | 0, d => d
  | f + 1, .loc i => if i < n then .loc i else (match S[i]? with
    | some (.lst xs) => .lst (freezes n S f xs)
    | some (.dic kvs) => .dic (freezed n S f kvs)
    | _ => .loc i)
  | f + 1, .tup xs => .tup (freezes n S f xs)
  | _, d => d
def freezes (n : Nat) (S : Store) : Nat → List DV → List DV
  | 0, ds => ds
  | f + 1, ds => ds.map (freeze n S f)
def freezed (n : Nat) (S : Store) : Nat → List (DV × DV) → List (DV × DV)
  | 0, ds => ds
  | f + 1, ds => ds.map fun p => (p.1, freeze n S f p.2)
end
def finish (m : Mode) (S0 S : Store) (v : DV) : Res DV := match m with
  | .drop => let u := freeze S0.length S 6 v; if below S0.length u then .ok u (S.take S0.length) else .stuck
  | .fresh => let u := freeze S0.length S 6 v; if below S0.length u then lay u (S.take S0.length) else .stuck
  | .keep => .ok v S
structure Def where
  nargs : Nat
  nslots : Nat
  body : List MS
  mode : Mode
def entry (n : Nat) (args : List DV) : Env := args.map some ++ List.replicate (n - args.length) none
def finishX (m : Mode) (S0 S : Store) (c : Nat) (as : List DV) : Res DV := match m with
  | .keep => .exc c as S
  | _ => if DV.pures as then .exc c as (S.take S0.length) else .stuck
def runDef (fs : List Fn) (cs : List DV) (d : Def) : Fn := fun b args S =>
  if args.length = d.nargs then
    match evB { fs := fs, cs := cs, base := if d.mode = .keep then b else S.length } d.body (entry d.nslots args) S with
    | .rt v S1 => finish d.mode S S1 v
    | .nx _ S1 => finish d.mode S S1 .non
    | .exc c as _ S1 => finishX d.mode S S1 c as
    | .stuck => .stuck
  else .stuck
end DP

namespace DP
open PySem PySem.Spec PyProof.Rows L2

/-- a tuple that is read -/
def TpR (K : PySem.W.Frag) (H : Hp) (a : Addr) (xs : List V) : Prop :=
  (∃ o : Obj, H a = some (.frz o (.tup xs)) ∧ o.dict = none) ∨ ∃ (o : Obj) (its : Array Value) (n : Nat), K.lookup a = some o ∧ o.cls = .type "tuple" ∧ o.dict = none ∧ o.data = .seq its n ∧ its.size ≤ sizeLine ∧ Vals xs its.toList
theorem TpR.sq {K : PySem.W.Frag} {H : Hp} {a : Addr} {xs : List V} (h : TpR K H a xs) : SqT K H a xs := by
  rcases h with ⟨o, h, _⟩ | ⟨o, its, n, h1, h2, _, h3⟩
  · exact .inl (.inr ⟨o, h⟩)
  · exact .inr ⟨o, its, n, h1, h2, h3⟩
/-- a dict with nested keys: its very object -/
def dHo (a : Addr) (o : Obj) : HO := .ext fun h => h.get? a = some o
def sGood (x : Str) : Prop := x.length ≤ sizeLine ∧ PyData.strOk x = true
/-- the script: a list of ints that is locked, or written -/
def ScR (K : PySem.W.Frag) (H : Hp) (a : Addr) (ns : List Int) : Prop :=
  (∃ o, H a = some (.frz o (.lst (ns.map V.int)))) ∨ ∃ (o : Obj) (its : Array Value) (n : Nat), K.lookup a = some o ∧ o.cls = .type "list" ∧ o.dict = none ∧ o.data = .seq its n ∧ its.size ≤ sizeLine ∧ Vals (ns.map V.int) its.toList
theorem ScR.sq {K : PySem.W.Frag} {H : Hp} {a : Addr} {ns : List Int} (h : ScR K H a ns) : SqL K H a (ns.map V.int) := by
  rcases h with h | h
  · exact .inl (.inr h)
  · exact .inr h
structure RC where
  P : Program
  w : World
  K : PySem.W.Frag
  /-- lists that are being made: no value -/
  ER : List Addr
/-- neither a place nor being made -/
def Ap (c : RC) (φ : Nat → Addr) (n : Nat) (a : Addr) : Prop := (∀ i, i < n → φ i ≠ a) ∧ a ∉ c.ER

mutual
/-- H holds the value d as v: the store's places lie at φ, n of them, those below b may stand within -/
def DR (c : RC) (H : Hp) (φ : Nat → Addr) (n b : Nat) : DV → V → Prop
  | .non, v => v = .non
  | .bl k, v => v = .bl k
  | .int i, v => v = .int i
  | .str x, v => v = .str x ∧ sGood x
  | .tup xs, v => ∃ a vs, v = .ref a ∧ TpR c.K H a vs ∧ xs.length ≤ sizeLine ∧ DRs c H φ n b xs vs
  | .lst xs, v => ∃ a vs, v = .ref a ∧ H a = some (.lst vs) ∧ Ap c φ n a ∧ xs.length ≤ sizeLine ∧ DRs c H φ n b xs vs
  | .dic kvs, v => ∃ a, v = .ref a ∧ Ap c φ n a ∧ kvs.length ≤ sizeLine ∧ (a == sysModules) = false ∧
      ((∃ ks, H a = some (.dK ks) ∧ DRk c H φ n b kvs ks) ∨
       (∃ o es ep xs, H a = some (dHo a o) ∧ o.ExactDict ∧ o.data = .dict es ep ∧ es.toList = xs.map (entryOfKey (nestedKind c.P c.w)) ∧ (xs.map (·.1)).Nodup ∧ DRx c H φ n b kvs xs))
  | .loc i, v => i < b ∧ v = .ref (φ i)
  | .scr ns, v => ∃ a, v = .ref a ∧ ScR c.K H a ns
def DRs (c : RC) (H : Hp) (φ : Nat → Addr) (n b : Nat) : List DV → List V → Prop
  | [], vs => vs = []
  | x :: xs, vs => ∃ v r, vs = v :: r ∧ DR c H φ n b x v ∧ DRs c H φ n b xs r
/-- keys that are texts -/
def DRk (c : RC) (H : Hp) (φ : Nat → Addr) (n b : Nat) : List (DV × DV) → List (Key × V) → Prop
  | [], ks => ks = []
  | (k, v) :: r, ks => ∃ x u q, ks = (.inr x, u) :: q ∧ (k = .str x ∧ sGood x) ∧ DR c H φ n b v u ∧ DRk c H φ n b r q
/-- keys that are tuples -/
def DRx (c : RC) (H : Hp) (φ : Nat → Addr) (n b : Nat) : List (DV × DV) → List (NestedKey × Addr × Value) → Prop
  | [], xs => xs = []
  | (k, v) :: r, xs => ∃ nk a u vv q, xs = (nk, a, u) :: q ∧ DV.key k = some nk ∧ DV.depth k ≤ 8 ∧ DR c H φ n b k (.ref a) ∧ RelV vv u ∧ DR c H φ n b v vv ∧ DRx c H φ n b r q
end

/-- a dict's body at a -/
def DB (c : RC) (H : Hp) (φ : Nat → Addr) (n b : Nat) (a : Addr) (kvs : List (DV × DV)) : Prop :=
  kvs.length ≤ sizeLine ∧ (a == sysModules) = false ∧
      ((∃ ks, H a = some (.dK ks) ∧ DRk c H φ n b kvs ks) ∨
       (∃ o es ep xs, H a = some (dHo a o) ∧ o.ExactDict ∧ o.data = .dict es ep ∧ es.toList = xs.map (entryOfKey (nestedKind c.P c.w)) ∧ (xs.map (·.1)).Nodup ∧ DRx c H φ n b kvs xs))
theorem DR_dic {c : RC} {H : Hp} {φ : Nat → Addr} {n b : Nat} {kvs : List (DV × DV)} {v : V} : DR c H φ n b (.dic kvs) v ↔ ∃ a, v = .ref a ∧ Ap c φ n a ∧ DB c H φ n b a kvs := by
  unfold DR DB; exact Iff.rfl

/-- what a place of the store is at its address -/
def MOk (c : RC) (H : Hp) (φ : Nat → Addr) (n : Nat) : MO → Addr → Prop
  | .lst xs, a => ∃ vs, H a = some (.lst vs) ∧ xs.length ≤ sizeLine ∧ DRs c H φ n n xs vs
  | .dic kvs, a => DB c H φ n n a kvs
  | .ins _ _, _ => False

/-- later: places are only added, and lie at new addresses; what isn't a place stands -/
structure Fut (H : Hp) (φ : Nat → Addr) (n : Nat) (H' : Hp) (φ' : Nat → Addr) (n' : Nat) : Prop where
  le : n ≤ n'
  old : ∀ i, i < n → φ' i = φ i
  new : ∀ i, n ≤ i → i < n' → H (φ' i) = none
  keep : ∀ a o, H a = some o → (∀ i, i < n → φ i ≠ a) → H' a = some o
  tups : ∀ a vs, H a = some (.tup vs) → H' a = some (.tup vs)
  frzs : ∀ a o u, H a = some (.frz o u) → H' a = some (.frz o u)
  there : ∀ a, H a ≠ none → H' a ≠ none
theorem Fut.refl (H : Hp) (φ : Nat → Addr) (n : Nat) : Fut H φ n H φ n :=
  ⟨Nat.le_refl _, fun _ _ => rfl, fun i h1 h2 => absurd h2 (Nat.not_lt.mpr h1), fun _ _ h _ => h, fun _ _ h => h, fun _ _ _ h => h, fun _ h => h⟩
theorem Fut.trans {H H1 H2 : Hp} {φ φ1 φ2 : Nat → Addr} {n n1 n2 : Nat} (f : Fut H φ n H1 φ1 n1) (g : Fut H1 φ1 n1 H2 φ2 n2) : Fut H φ n H2 φ2 n2 where
  le := Nat.le_trans f.le g.le
  old := fun i h => (g.old i (Nat.lt_of_lt_of_le h f.le)).trans (f.old i h)
  new := fun i h1 h2 => by
    by_cases h : i < n1
    · rw [g.old i h]; exact f.new i h1 h
    · have q := g.new i (Nat.not_lt.mp h) h2
      cases e : H (φ2 i) with
      | none => rfl
      | some o => exact absurd q (f.there _ (by rw [e]; exact fun z => nomatch z))
  keep := fun a o h ha => by
    refine g.keep a o (f.keep a o h ha) fun i hi e => ?_
    by_cases h' : i < n
    · exact ha i h' ((f.old i h').symm.trans e)
    · have q := f.new i (Nat.not_lt.mp h') hi
      rw [e, h] at q; cases q
  tups := fun a vs h => g.tups a vs (f.tups a vs h)
  frzs := fun a o u h => g.frzs a o u (f.frzs a o u h)
  there := fun a h => g.there a (f.there a h)
/-- a new object that isn't a place -/
theorem Fut.laid {H : Hp} {φ : Nat → Addr} {n : Nat} {p : Addr} {o : HO} (h : H p = none) : Fut H φ n (upd H p o) φ n where
  le := Nat.le_refl _
  old := fun _ _ => rfl
  new := fun i h1 h2 => absurd h2 (Nat.not_lt.mpr h1)
  keep := fun a u e _ => by rw [upd_ne (ne_of_none e h)]; exact e
  tups := fun a u e => by rw [upd_ne (ne_of_none e h)]; exact e
  frzs := fun a u w e => by rw [upd_ne (ne_of_none e h)]; exact e
  there := fun a e => by
    cases q : H a with
    | none => exact absurd q e
    | some u => rw [upd_ne (ne_of_none q h), q]; exact fun z => nomatch z
theorem Fut.ne {H H' : Hp} {φ φ' : Nat → Addr} {n n' : Nat} (f : Fut H φ n H' φ' n') {a : Addr} {o : HO} (h : H a = some o) (ha : ∀ i, i < n → φ i ≠ a) : ∀ i, i < n' → φ' i ≠ a := fun i hi e => by
  by_cases h' : i < n
  · exact ha i h' ((f.old i h').symm.trans e)
  · have q := f.new i (Nat.not_lt.mp h') hi
    rw [e, h] at q; cases q
theorem TpR.mono {K : PySem.W.Frag} {H H' : Hp} {φ φ' : Nat → Addr} {n n' : Nat} {a : Addr} {vs : List V} (h : TpR K H a vs) (f : Fut H φ n H' φ' n') : TpR K H' a vs := by
  rcases h with ⟨o, h, hd⟩ | h
  · exact .inl ⟨o, f.frzs a o _ h, hd⟩
  · exact .inr h
theorem Rd_some {H : Hp} {a : Addr} {u : HO} (h : Rd H a u) : ∃ o, H a = some o := by
  rcases h with h | ⟨o, h⟩
  · exact ⟨_, h⟩
  · exact ⟨_, h⟩

section
variable {c : RC} {H H' : Hp} {φ φ' : Nat → Addr} {n n' : Nat}
mutual
theorem DR.mono (f : Fut H φ n H' φ' n') {b b' : Nat} (hb : b ≤ b') (hn : b ≤ n) : ∀ (d : DV) (v : V), DR c H φ n b d v → DR c H' φ' n' b' d v
  | .non, _, h => h
  | .bl _, _, h => h
  | .int _, _, h => h
  | .str _, _, h => h
  | .tup xs, v, h => by
    unfold DR at h ⊢
    obtain ⟨a, vs, e, t, z, r⟩ := h
    exact ⟨a, vs, e, t.mono f, z, DRs.mono f hb hn xs vs r⟩
  | .lst xs, v, h => by
    unfold DR at h ⊢
    obtain ⟨a, vs, e, t, hp, z, r⟩ := h
    have r' := DRs.mono f hb hn xs vs r
    exact ⟨a, vs, e, f.keep a _ t hp.1, ⟨f.ne t hp.1, hp.2⟩, z, r'⟩
  | .dic kvs, v, h => by
    unfold DR at h ⊢
    obtain ⟨a, e, hp, z, hs, r⟩ := h
    rcases r with ⟨ks, t, r⟩ | ⟨o, es, ep, xs, t, h1, h2, h3, h4, r⟩
    · exact ⟨a, e, ⟨f.ne t hp.1, hp.2⟩, z, hs, .inl ⟨ks, f.keep a _ t hp.1, DRk.mono f hb hn kvs ks r⟩⟩
    · exact ⟨a, e, ⟨f.ne t hp.1, hp.2⟩, z, hs, .inr ⟨o, es, ep, xs, f.keep a _ t hp.1, h1, h2, h3, h4, DRx.mono f hb hn kvs xs r⟩⟩
  | .loc i, v, h => by
    unfold DR at h ⊢
    exact ⟨Nat.lt_of_lt_of_le h.1 hb, by rw [f.old i (Nat.lt_of_lt_of_le h.1 hn)]; exact h.2⟩
  | .scr ns, v, h => by
    unfold DR at h ⊢
    obtain ⟨a, e, t⟩ := h
    refine ⟨a, e, ?_⟩
    rcases t with ⟨o, t⟩ | t
    · exact .inl ⟨o, f.frzs a o _ t⟩
    · exact .inr t
theorem DRs.mono (f : Fut H φ n H' φ' n') {b b' : Nat} (hb : b ≤ b') (hn : b ≤ n) : ∀ (ds : List DV) (vs : List V), DRs c H φ n b ds vs → DRs c H' φ' n' b' ds vs
  | [], _, h => h
  | d :: ds, vs, h => by
    unfold DRs at h ⊢
    obtain ⟨v, r, e, h1, h2⟩ := h
    exact ⟨v, r, e, DR.mono f hb hn d v h1, DRs.mono f hb hn ds r h2⟩
theorem DRk.mono (f : Fut H φ n H' φ' n') {b b' : Nat} (hb : b ≤ b') (hn : b ≤ n) : ∀ (ds : List (DV × DV)) (vs : List (Key × V)), DRk c H φ n b ds vs → DRk c H' φ' n' b' ds vs
  | [], _, h => h
  | (k, v) :: ds, vs, h => by
    unfold DRk at h ⊢
    obtain ⟨x, u, q, e, hk, h1, h2⟩ := h
    exact ⟨x, u, q, e, hk, DR.mono f hb hn v u h1, DRk.mono f hb hn ds q h2⟩
theorem DRx.mono (f : Fut H φ n H' φ' n') {b b' : Nat} (hb : b ≤ b') (hn : b ≤ n) : ∀ (ds : List (DV × DV)) (vs : List (NestedKey × Addr × Value)), DRx c H φ n b ds vs → DRx c H' φ' n' b' ds vs
  | [], _, h => h
  | (k, v) :: ds, vs, h => by
    unfold DRx at h ⊢
    obtain ⟨nk, a, u, vv, q, e, hk, hd, h0, r, h1, h2⟩ := h
    exact ⟨nk, a, u, vv, q, e, hk, hd, DR.mono f hb hn k _ h0, r, DR.mono f hb hn v vv h1, DRx.mono f hb hn ds q h2⟩
end
end

/-- the store stands in the heap; B: the bases: what lies below one has nothing above it within -/
structure Rel (c : RC) (B : Nat → Prop) (H : Hp) (φ : Nat → Addr) (S : Store) : Prop where
  at_ : ∀ i mo, S[i]? = some mo → MOk c H φ S.length mo (φ i)
  low : ∀ b, B b → ∀ i mo, i < b → S[i]? = some mo → mo.below b = true
  ble : ∀ b, B b → b ≤ S.length
  inj : ∀ i j, i < S.length → j < S.length → φ i = φ j → i = j
  exh : ∀ a, a ∈ c.ER → H a ≠ none
  exp : ∀ i, i < S.length → φ i ∉ c.ER
/-- the names' values -/
def EnvR (c : RC) (H : Hp) (φ : Nat → Addr) (n : Nat) (e : Env) (σ : L2.St) : Prop :=
  e.length = σ.length ∧ ∀ (i : Nat) (d : DV), e[i]? = some (some d) → ∃ v, σ[i]? = some (some v) ∧ DR c H φ n n d v
theorem EnvR.mono {c : RC} {H H' : Hp} {φ φ' : Nat → Addr} {n n' : Nat} {e : Env} {σ : L2.St} (h : EnvR c H φ n e σ) (f : Fut H φ n H' φ' n') : EnvR c H' φ' n' e σ :=
  ⟨h.1, fun i d q => let ⟨v, q1, q2⟩ := h.2 i d q; ⟨v, q1, DR.mono f f.le (Nat.le_refl _) d v q2⟩⟩
theorem EnvR.set {c : RC} {H : Hp} {φ : Nat → Addr} {n : Nat} {e : Env} {σ : L2.St} (h : EnvR c H φ n e σ) {d : DV} {v : V} (r : DR c H φ n n d v) (i : Nat) : EnvR c H φ n (e.set i (some d)) (σ.set i (some v)) := by
  refine ⟨by simp [h.1], fun j d' q => ?_⟩
  by_cases hj : i = j
  · subst hj
    by_cases hl : i < e.length
    · rw [List.getElem?_set_self hl] at q
      cases q
      exact ⟨v, List.getElem?_set_self (by rw [← h.1]; exact hl), r⟩
    · rw [List.getElem?_eq_none (by simpa using hl)] at q; cases q
  · rw [List.getElem?_set_ne hj] at q ⊢
    exact h.2 j d' q
theorem EnvR.unset {c : RC} {H : Hp} {φ : Nat → Addr} {n : Nat} {e : Env} {σ : L2.St} (h : EnvR c H φ n e σ) (i : Nat) : EnvR c H φ n (e.set i none) (σ.set i none) := by
  refine ⟨by simp [h.1], fun j d' q => ?_⟩
  by_cases hj : i = j
  · subst hj
    by_cases hl : i < e.length
    · rw [List.getElem?_set_self hl] at q; cases q
    · rw [List.getElem?_eq_none (by simpa using hl)] at q; cases q
  · rw [List.getElem?_set_ne hj] at q ⊢
    exact h.2 j d' q
theorem EnvR.wipe {c : RC} {H : Hp} {φ : Nat → Addr} {n : Nat} {e : Env} {σ : L2.St} (h : EnvR c H φ n e σ) : ∀ own : List Nat, EnvR c H φ n (DP.wipe e own) (L2.wipe σ own)
  | [] => h
  | i :: r => by
    show EnvR c H φ n ((DP.wipe e r).set i none) ((L2.wipe σ r).set i none)
    exact (EnvR.wipe h r).unset i

/-- behind: whatever the heap is then -/
def After (c : RC) (B : Nat → Prop) (H : Hp) (φ : Nat → Addr) (n : Nat) (S' : Store) (k : Hp → (Nat → Addr) → Prop) : Prop :=
  ∀ H' φ', Fut H φ n H' φ' S'.length → Rel c B H' φ' S' → k H' φ'
/-- what r gives is wanted -/
def Post {α : Type} (c : RC) (B : Nat → Prop) (H : Hp) (φ : Nat → Addr) (n : Nat) (r : Res α) (k : α → Store → Hp → (Nat → Addr) → Prop) (E : Nat → List DV → Store → Hp → (Nat → Addr) → Prop) : Prop :=
  match r with
  | .ok d S' => After c B H φ n S' (k d S')
  | .exc cl as S' => After c B H φ n S' (E cl as S')
  | .stuck => False
section
variable {c : RC} {B : Nat → Prop} {H H1 : Hp} {φ φ1 : Nat → Addr} {n : Nat} {E : Nat → List DV → Store → Hp → (Nat → Addr) → Prop}
theorem After.from {n1 : Nat} {S' : Store} {k : Hp → (Nat → Addr) → Prop} (h : After c B H φ n S' k) (f : Fut H φ n H1 φ1 n1) : After c B H1 φ1 n1 S' k := fun H' φ' g r => h H' φ' (f.trans g) r
theorem Post.from {α : Type} {n1 : Nat} {r : Res α} {k : α → Store → Hp → (Nat → Addr) → Prop} (h : Post c B H φ n r k E) (f : Fut H φ n H1 φ1 n1) : Post c B H1 φ1 n1 r k E := by
  cases r with
  | ok d S => exact After.from h f
  | exc cl as S => exact After.from h f
  | stuck => exact h
theorem Post.unbind {α β : Type} {r : Res α} {g : α → Store → Res β} {k : β → Store → Hp → (Nat → Addr) → Prop} (h : Post c B H φ n (r.bind g) k E) :
    Post c B H φ n r (fun d S1 H1 φ1 => Post c B H1 φ1 S1.length (g d S1) k E) E := by
  cases r with
  | ok d S => intro H1 φ1 f _; exact Post.from h f
  | exc cl as S => exact h
  | stuck => exact h
theorem Post.imp {α : Type} {r : Res α} {k k' : α → Store → Hp → (Nat → Addr) → Prop} (h : Post c B H φ n r k E) (i : ∀ d S' H' φ', Fut H φ n H' φ' S'.length → Rel c B H' φ' S' → k d S' H' φ' → k' d S' H' φ') : Post c B H φ n r k' E := by
  cases r with
  | ok d S => intro H' φ' f r; exact i d S H' φ' f r (h H' φ' f r)
  | exc cl as S => exact h
  | stuck => exact h
end
end DP

namespace DP
open PySem PySem.Spec PyProof.Rows L2

section
variable {c : RC} {B : Nat → Prop} {H H' : Hp} {φ φ' : Nat → Addr} {S : Store} {n b : Nat}

/-- the place's own object stands, all else only grows -/
theorem MOk.mono {n' : Nat} (f : Fut H φ n H' φ' n') {mo : MO} {a : Addr} (h : MOk c H φ n mo a) (ha : ∀ o, H a = some o → H' a = some o) : MOk c H' φ' n' mo a := by
  have hb := f.le
  have hn := Nat.le_refl n
  cases mo with
  | lst xs =>
    obtain ⟨vs, e, z, r⟩ := h
    exact ⟨vs, ha _ e, z, DRs.mono f hb hn xs vs r⟩
  | dic kvs =>
    obtain ⟨z, hs, r⟩ := h
    refine ⟨z, hs, ?_⟩
    rcases r with ⟨ks, t, r⟩ | ⟨o, es, ep, xs, t, h1, h2, h3, h4, r⟩
    · exact .inl ⟨ks, ha _ t, DRk.mono f hb hn kvs ks r⟩
    · exact .inr ⟨o, es, ep, xs, ha _ t, h1, h2, h3, h4, DRx.mono f hb hn kvs xs r⟩
  | ins C fs => exact h
theorem MOk.there {mo : MO} {a : Addr} (h : MOk c H φ n mo a) : ∃ o, H a = some o ∧ Mut (some o) ∧ (∀ vs, o ≠ .tup vs) ∧ ∀ w u, o ≠ .frz w u := by
  cases mo with
  | lst xs => obtain ⟨vs, e, _⟩ := h; exact ⟨_, e, trivial, (fun _ z => nomatch z), fun _ _ z => nomatch z⟩
  | dic kvs =>
    obtain ⟨_, _, r⟩ := h
    rcases r with ⟨ks, t, r⟩ | ⟨o, es, ep, xs, t, r⟩
    · exact ⟨_, t, trivial, (fun _ z => nomatch z), fun _ _ z => nomatch z⟩
    · exact ⟨_, t, trivial, (fun _ z => nomatch z), fun _ _ z => nomatch z⟩
  | ins C fs => exact h.elim
theorem Rel.there (R : Rel c B H φ S) {i : Nat} (hi : i < S.length) : ∃ o, H (φ i) = some o ∧ Mut (some o) ∧ (∀ vs, o ≠ .tup vs) ∧ ∀ w u, o ≠ .frz w u :=
  (R.at_ i S[i] (by simp [hi])).there
theorem Rel.ne (R : Rel c B H φ S) {p : Addr} (hp : H p = none) {i : Nat} (hi : i < S.length) : φ i ≠ p := fun e => by
  obtain ⟨o, q, _⟩ := R.there hi
  rw [e, hp] at q; cases q
/-- a new object that is no place -/
theorem Rel.laid (R : Rel c B H φ S) {p : Addr} {o : HO} (hp : H p = none) : Rel c B (upd H p o) φ S := by
  have st : ∀ i, i < S.length → ∀ u, H (φ i) = some u → upd H p o (φ i) = some u := fun i hi u e => by rw [upd_ne (R.ne hp hi)]; exact e
  have lt : ∀ {i : Nat} {mo : MO}, S[i]? = some mo → i < S.length := fun q => (List.getElem?_eq_some_iff.mp q).1
  exact ⟨fun i mo q => MOk.mono (Fut.laid hp) (R.at_ i mo q) (st i (lt q)), R.low, R.ble, R.inj, fun a ha => (Fut.laid (φ := φ) (n := S.length) hp).there a (R.exh a ha), R.exp⟩
/-- a place written -/
theorem Fut.write (R : Rel c B H φ S) {i : Nat} (hi : i < S.length) {o : HO} : Fut H φ S.length (upd H (φ i) o) φ S.length where
  le := Nat.le_refl _
  old := fun _ _ => rfl
  new := fun j h1 h2 => absurd h2 (Nat.not_lt.mpr h1)
  keep := fun a u e ha => by rw [upd_ne (fun q => ha i hi q.symm)]; exact e
  tups := fun a vs e => by
    obtain ⟨u, q, _, nt, _⟩ := R.there hi
    rw [upd_ne (fun z => by rw [z, q] at e; exact nt vs (Option.some.inj e))]; exact e
  frzs := fun a w y e => by
    obtain ⟨u, q, _, _, nf⟩ := R.there hi
    rw [upd_ne (fun z => by rw [z, q] at e; exact nf w y (Option.some.inj e))]; exact e
  there := fun a e => by
    by_cases h : a = φ i
    · rw [h, upd_same]; exact fun z => nomatch z
    · rw [upd_ne h]; exact e
theorem Rel.write (R : Rel c B H φ S) {i : Nat} (hi : i < S.length) {o : HO} {mo : MO} (h1 : MOk c (upd H (φ i) o) φ S.length mo (φ i))
    (h2 : ∀ b, B b → i < b → mo.below b = true) : Rel c B (upd H (φ i) o) φ (S.set i mo) := by
  have hl : (S.set i mo).length = S.length := List.length_set
  have st : ∀ j, j ≠ i → j < S.length → ∀ u, H (φ j) = some u → upd H (φ i) o (φ j) = some u := fun j hj hl u e => by
    rw [upd_ne (fun z => hj (R.inj j i hl hi z))]; exact e
  have lt : ∀ {i : Nat} {mo : MO}, S[i]? = some mo → i < S.length := fun q => (List.getElem?_eq_some_iff.mp q).1
  refine ⟨fun j m q => ?_, fun b hb j m hj q => ?_, by rw [hl]; exact R.ble, by rw [hl]; exact R.inj, fun a ha => (Fut.write R hi).there a (R.exh a ha), by rw [hl]; exact R.exp⟩
  · rw [hl]
    by_cases hj : i = j
    · subst hj
      rw [List.getElem?_set_self hi] at q; cases q
      exact h1
    · rw [List.getElem?_set_ne hj] at q
      exact MOk.mono (Fut.write R hi) (R.at_ j m q) (st j (Ne.symm hj) (lt q))
  · by_cases hi' : i = j
    · subst hi'
      rw [List.getElem?_set_self hi] at q; cases q
      exact h2 b hb hj
    · rw [List.getElem?_set_ne hi'] at q
      exact R.low b hb j m hj q
/-- a new place -/
def phi (φ : Nat → Addr) (n : Nat) (p : Addr) : Nat → Addr := fun i => if i = n then p else φ i
theorem phi_old {φ : Nat → Addr} {n i : Nat} {p : Addr} (h : i < n) : phi φ n p i = φ i := by unfold phi; rw [if_neg (Nat.ne_of_lt h)]
theorem phi_new {φ : Nat → Addr} {n : Nat} {p : Addr} : phi φ n p n = p := by unfold phi; rw [if_pos rfl]
theorem Fut.push {n : Nat} {p : Addr} {o : HO} (hp : H p = none) : Fut H φ n (upd H p o) (phi φ n p) (n + 1) where
  le := Nat.le_succ n
  old := fun i h => phi_old h
  new := fun i h1 h2 => by
    have e : i = n := by omega
    subst e
    rw [phi_new]; exact hp
  keep := fun a u e _ => by rw [upd_ne (ne_of_none e hp)]; exact e
  tups := fun a vs e => by rw [upd_ne (ne_of_none e hp)]; exact e
  frzs := fun a w y e => by rw [upd_ne (ne_of_none e hp)]; exact e
  there := (Fut.laid (φ := φ) (n := n) hp).there
theorem Rel.push (R : Rel c B H φ S) {p : Addr} {o : HO} (hp : H p = none) {mo : MO} (h : MOk c (upd H p o) (phi φ S.length p) (S.length + 1) mo p) : Rel c B (upd H p o) (phi φ S.length p) (S ++ [mo]) := by
  have hl : (S ++ [mo]).length = S.length + 1 := by simp
  have lt : ∀ {i : Nat} {mo : MO}, S[i]? = some mo → i < S.length := fun q => (List.getElem?_eq_some_iff.mp q).1
  have old : ∀ j, j < S.length → ∀ u, H (φ j) = some u → upd H p o (φ j) = some u := fun j hj u e => by rw [upd_ne (R.ne hp hj)]; exact e
  refine ⟨fun j m q => ?_, fun b hb j m hj q => ?_, fun b hb => by rw [hl]; exact Nat.le_succ_of_le (R.ble b hb), fun i j hi hj e => ?_, fun a ha => (Fut.laid (φ := φ) (n := S.length) hp).there a (R.exh a ha), fun i hi => ?_⟩
  · rw [hl]
    by_cases hj : j < S.length
    · rw [List.getElem?_append_left hj] at q
      rw [phi_old hj]
      exact MOk.mono (Fut.push hp) (R.at_ j m q) (old j hj)
    · rw [List.getElem?_append_right (Nat.not_lt.mp hj)] at q
      have e0 : j - S.length = 0 := by
        have := (List.getElem?_eq_some_iff.mp q).1
        simp at this; omega
      have ej : j = S.length := by omega
      subst ej
      simp at q
      subst q
      rw [phi_new]
      exact h
  · have hj' : j < S.length := Nat.lt_of_lt_of_le hj (R.ble b hb)
    rw [List.getElem?_append_left hj'] at q
    exact R.low b hb j m hj q
  · rw [hl] at hi hj
    by_cases h1 : i < S.length <;> by_cases h2 : j < S.length
    · rw [phi_old h1, phi_old h2] at e; exact R.inj i j h1 h2 e
    · have ej : j = S.length := by omega
      subst ej
      rw [phi_old h1, phi_new] at e
      exact absurd e (R.ne hp h1)
    · have ei : i = S.length := by omega
      subst ei
      rw [phi_old h2, phi_new] at e
      exact absurd e.symm (R.ne hp h2)
    · omega
  · rw [hl] at hi
    by_cases h1 : i < S.length
    · rw [phi_old h1]; exact R.exp i h1
    · have ei : i = S.length := by omega
      subst ei
      rw [phi_new]; exact fun m => R.exh p m hp

/-! ### what a value is, looked at through the store -/
theorem peek_lst (R : Rel c B H φ S) {d : DV} {x : V} {xs : List DV} (h : DR c H φ S.length S.length d x) (e : peek S d = .lst xs) :
    ∃ a vs, x = .ref a ∧ H a = some (.lst vs) ∧ xs.length ≤ sizeLine ∧ DRs c H φ S.length S.length xs vs := by
  cases d with
  | lst ys =>
    have e' : DV.lst ys = .lst xs := e
    cases e'
    unfold DR at h
    obtain ⟨a, vs, e1, t, _, z, r⟩ := h
    exact ⟨a, vs, e1, t, z, r⟩
  | loc i =>
    unfold DR at h
    obtain ⟨hi, e1⟩ := h
    have e' : (match S[i]? with | some (.lst xs) => DV.lst xs | some (.dic kvs) => .dic kvs | _ => .loc i) = .lst xs := e
    cases q : S[i]? with
    | none => rw [q] at e'; cases e'
    | some mo =>
      rw [q] at e'
      cases mo with
      | lst ys =>
        cases e'
        obtain ⟨vs, e2, z, r⟩ := R.at_ i _ q
        exact ⟨φ i, vs, e1, e2, z, r⟩
      | dic kvs => cases e'
      | ins C fs => cases e'
  | _ => cases e
theorem peek_dic (R : Rel c B H φ S) {d : DV} {x : V} {kvs : List (DV × DV)} (h : DR c H φ S.length S.length d x) (e : peek S d = .dic kvs) :
    ∃ a, x = .ref a ∧ DB c H φ S.length S.length a kvs := by
  cases d with
  | dic ys =>
    have e' : DV.dic ys = .dic kvs := e
    cases e'
    obtain ⟨a, e1, _, t⟩ := DR_dic.mp h
    exact ⟨a, e1, t⟩
  | loc i =>
    unfold DR at h
    obtain ⟨hi, e1⟩ := h
    have e' : (match S[i]? with | some (.lst xs) => DV.lst xs | some (.dic kvs) => .dic kvs | _ => .loc i) = .dic kvs := e
    cases q : S[i]? with
    | none => rw [q] at e'; cases e'
    | some mo =>
      rw [q] at e'
      cases mo with
      | lst ys => cases e'
      | dic ys =>
        cases e'
        exact ⟨φ i, e1, R.at_ i _ q⟩
      | ins C fs => cases e'
  | _ => cases e
/-- what is neither list, dict nor place is looked at as it is -/
theorem peek_eq {d u : DV} (e : peek S d = u) (h1 : ∀ xs, u ≠ .lst xs) (h2 : ∀ kvs, u ≠ .dic kvs) : d = u := by
  cases d with
  | loc i =>
    have e' : (match S[i]? with | some (.lst xs) => DV.lst xs | some (.dic kvs) => .dic kvs | _ => .loc i) = u := e
    cases q : S[i]? with
    | none => rw [q] at e'; exact e'
    | some mo =>
      rw [q] at e'
      cases mo with
      | lst ys => exact absurd e'.symm (h1 ys)
      | dic ys => exact absurd e'.symm (h2 ys)
      | ins C fs => exact e'
  | _ => exact e
theorem peek_tup {d : DV} {x : V} {xs : List DV} {m : Nat} (h : DR c H φ m m d x) (e : peek S d = .tup xs) :
    ∃ a vs, x = .ref a ∧ TpR c.K H a vs ∧ xs.length ≤ sizeLine ∧ DRs c H φ m m xs vs := by
  have e' := peek_eq e (fun _ z => nomatch z) (fun _ z => nomatch z)
  subst e'
  unfold DR at h
  exact h
theorem peek_int {d : DV} {x : V} {i : Int} {m : Nat} (h : DR c H φ m m d x) (e : peek S d = .int i) : x = .int i := by
  have e' := peek_eq e (fun _ z => nomatch z) (fun _ z => nomatch z)
  subst e'
  exact h
theorem peek_str {d : DV} {x : V} {z : Str} {m : Nat} (h : DR c H φ m m d x) (e : peek S d = .str z) : x = .str z ∧ sGood z := by
  have e' := peek_eq e (fun _ z => nomatch z) (fun _ z => nomatch z)
  subst e'
  exact h
theorem peek_bl {d : DV} {x : V} {k : Bool} {m : Nat} (h : DR c H φ m m d x) (e : peek S d = .bl k) : x = .bl k := by
  have e' := peek_eq e (fun _ z => nomatch z) (fun _ z => nomatch z)
  subst e'
  exact h
theorem DRs.length {m b : Nat} : ∀ {ds : List DV} {vs : List V}, DRs c H φ m b ds vs → ds.length = vs.length
  | [], vs, h => by unfold DRs at h; subst h; rfl
  | d :: ds, vs, h => by
    unfold DRs at h
    obtain ⟨v, r, e, _, h2⟩ := h
    subst e
    rw [List.length_cons, List.length_cons, DRs.length h2]
theorem DRs.get {m b : Nat} : ∀ {ds : List DV} {vs : List V} {i : Nat} {d : DV}, DRs c H φ m b ds vs → ds[i]? = some d → ∃ v, vs[i]? = some v ∧ DR c H φ m b d v
  | [], _, _, _, _, q => by cases q
  | d :: ds, vs, i, d', h, q => by
    unfold DRs at h
    obtain ⟨v, r, e, h1, h2⟩ := h
    subst e
    cases i with
    | zero => simp at q; subst q; exact ⟨v, rfl, h1⟩
    | succ i =>
      obtain ⟨u, q1, q2⟩ := DRs.get (i := i) h2 (by simpa using q)
      exact ⟨u, by simpa using q1, q2⟩
theorem DRs.got {m b : Nat} {ds : List DV} {vs : List V} {i : Nat} {v : V} (h : DRs c H φ m b ds vs) (q : vs[i]? = some v) : ∃ d, ds[i]? = some d ∧ DR c H φ m b d v := by
  have hi : i < ds.length := by rw [DRs.length h]; exact (List.getElem?_eq_some_iff.mp q).1
  obtain ⟨u, q1, q2⟩ := DRs.get (i := i) (d := ds[i]) h (List.getElem?_eq_getElem hi)
  rw [q] at q1; cases q1
  exact ⟨ds[i], List.getElem?_eq_getElem hi, q2⟩
theorem DRs.append {m b : Nat} : ∀ {ds es : List DV} {vs us : List V}, DRs c H φ m b ds vs → DRs c H φ m b es us → DRs c H φ m b (ds ++ es) (vs ++ us)
  | [], _, _, _, h, h' => by unfold DRs at h; subst h; exact h'
  | d :: ds, es, vs, us, h, h' => by
    unfold DRs at h
    obtain ⟨v, r, e, h1, h2⟩ := h
    subst e
    show DRs c H φ m b (d :: (ds ++ es)) _
    unfold DRs
    exact ⟨v, r ++ us, rfl, h1, DRs.append h2 h'⟩
theorem DRs.of_get {m b : Nat} : ∀ {ds : List DV} {vs : List V}, ds.length = vs.length → (∀ (i : Nat) (d : DV) (v : V), ds[i]? = some d → vs[i]? = some v → DR c H φ m b d v) → DRs c H φ m b ds vs
  | [], [], _, _ => by unfold DRs; rfl
  | [], _ :: _, h, _ => by simp at h
  | _ :: _, [], h, _ => by simp at h
  | d :: ds, v :: vs, h, g => by
    unfold DRs
    exact ⟨v, vs, rfl, g 0 d v rfl rfl, DRs.of_get (by simpa using h) fun i d' v' q1 q2 => g (i + 1) d' v' (by simpa using q1) (by simpa using q2)⟩
theorem DRs.take {m b : Nat} {ds : List DV} {vs : List V} (h : DRs c H φ m b ds vs) (k : Nat) : DRs c H φ m b (ds.take k) (vs.take k) := by
  refine DRs.of_get (by simp [DRs.length h]) fun i d v q1 q2 => ?_
  rw [List.getElem?_take] at q1 q2
  split at q1
  · rename_i hi
    rw [if_pos hi] at q2
    obtain ⟨u, e1, e2⟩ := DRs.get h q1
    rw [q2] at e1; cases e1; exact e2
  · cases q1
theorem DRs.drop {m b : Nat} {ds : List DV} {vs : List V} (h : DRs c H φ m b ds vs) (k : Nat) : DRs c H φ m b (ds.drop k) (vs.drop k) := by
  refine DRs.of_get (by simp [DRs.length h]) fun i d v q1 q2 => ?_
  rw [List.getElem?_drop] at q1 q2
  obtain ⟨u, e1, e2⟩ := DRs.get h q1
  rw [q2] at e1; cases e1; exact e2
theorem DRs.cut {m b : Nat} {ds : List DV} {vs : List V} (h : DRs c H φ m b ds vs) (lo hi : Option Int) : DRs c H φ m b (DP.cut ds lo hi) (cutV vs lo hi) := by
  unfold DP.cut cutV
  rw [← DRs.length h]
  exact (DRs.drop h _).take _
theorem cut_length {α : Type} (xs : List α) (lo hi : Option Int) : (cut xs lo hi).length ≤ xs.length := by
  unfold cut
  rw [List.length_take, List.length_drop]
  omega
theorem DRs.reverse {m b : Nat} {ds : List DV} {vs : List V} (h : DRs c H φ m b ds vs) : DRs c H φ m b ds.reverse vs.reverse := by
  have hl := DRs.length h
  refine DRs.of_get (by simp [hl]) fun i d v q1 q2 => ?_
  have hi : i < ds.length := by simpa using (List.getElem?_eq_some_iff.mp q1).1
  rw [List.getElem?_reverse hi] at q1
  rw [List.getElem?_reverse (by rw [← hl]; exact hi)] at q2
  rw [← hl] at q2
  obtain ⟨u, e1, e2⟩ := DRs.get h q1
  rw [q2] at e1; cases e1; exact e2
theorem DRs.rep {m b : Nat} {ds : List DV} {vs : List V} (h : DRs c H φ m b ds vs) : ∀ k : Nat, DRs c H φ m b (List.replicate k ds).flatten (List.replicate k vs).flatten
  | 0 => by unfold DRs; rfl
  | k + 1 => by
    rw [List.replicate_succ, List.flatten_cons, List.replicate_succ, List.flatten_cons]
    exact DRs.append h (DRs.rep h k)

/-! ### flat data -/
theorem dp_ints : ∀ ns : List Int, DpAll c.K H (ns.map V.int) (ns.map PyData.int)
  | [] => .nil
  | n :: ns => .cons (.int n) (dp_ints ns)
mutual
theorem DR.dp {m b : Nat} : ∀ (d : DV) (v : V), d.flat = true → DR c H φ m b d v → Dp c.K H v d.toP
  | .non, _, _, h => by cases h; exact .non
  | .bl k, _, _, h => by cases h; exact .bl k
  | .int i, _, _, h => by cases h; exact .int i
  | .str x, _, _, h => by cases h.1; exact .str x
  | .tup xs, v, f, h => by
    unfold DR at h
    obtain ⟨a, vs, e, t, z, r⟩ := h
    subst e
    simp only [DV.toP]
    exact .tup t.sq (DRs.dp xs vs (by simpa [DV.flat] using f) r)
  | .lst xs, v, f, h => by
    unfold DR at h
    obtain ⟨a, vs, e, t, _, z, r⟩ := h
    subst e
    simp only [DV.toP]
    exact .lst (.inl (.inl t)) (DRs.dp xs vs (by simpa [DV.flat] using f) r)
  | .dic _, _, f, _ => by simp [DV.flat] at f
  | .loc _, _, f, _ => by simp [DV.flat] at f
  | .scr ns, v, f, h => by
    unfold DR at h
    obtain ⟨a, e, t⟩ := h
    subst e
    simp only [DV.toP]
    exact .lst t.sq (dp_ints ns)
theorem DRs.dp {m b : Nat} : ∀ (ds : List DV) (vs : List V), DV.flats ds = true → DRs c H φ m b ds vs → DpAll c.K H vs (DV.toPs ds)
  | [], vs, _, h => by unfold DRs at h; subst h; exact .nil
  | d :: ds, vs, f, h => by
    unfold DRs at h
    obtain ⟨v, r, e, h1, h2⟩ := h
    subst e
    simp only [DV.flats, Bool.and_eq_true] at f
    exact .cons (DR.dp d v f.1 h1) (DRs.dp ds r f.2 h2)
end
theorem peek_dp (R : Rel c B H φ S) {d : DV} {x : V} (h : DR c H φ S.length S.length d x) (f : (peek S d).flat = true) : Dp c.K H x (peek S d).toP := by
  cases q : peek S d with
  | lst xs =>
    obtain ⟨a, vs, e, t, z, r⟩ := peek_lst R h q
    subst e
    rw [q] at f
    simp only [DV.toP]
    exact .lst (.inl (.inl t)) (DRs.dp xs vs (by simpa [DV.flat] using f) r)
  | dic kvs => rw [q] at f; simp [DV.flat] at f
  | loc i => rw [q] at f; simp [DV.flat] at f
  | _ =>
    have e' := peek_eq q (fun _ z => nomatch z) (fun _ z => nomatch z)
    subst e'
    rw [q] at f
    exact DR.dp _ _ f h
theorem lay_ints : ∀ ns : List Int, PyData.canLayAll0 (ns.map PyData.int) = true
  | [] => by simp [PyData.canLayAll0]
  | n :: ns => by simp only [List.map_cons, PyData.canLayAll0, PyData.canLay0, lay_ints ns, Bool.and_self]
mutual
theorem good_lay {m b : Nat} : ∀ (d : DV) (v : V), d.flat = true → DR c H φ m b d v → d.toP.canLay0 = true
  | .non, _, _, h => by simp [DV.toP, PyData.canLay0]
  | .bl k, _, _, h => by simp [DV.toP, PyData.canLay0]
  | .int i, _, _, h => by simp [DV.toP, PyData.canLay0]
  | .str x, _, _, h => by simp only [DV.toP, PyData.canLay0]; exact h.2.2
  | .tup xs, v, f, h => by
    unfold DR at h
    obtain ⟨a, vs, e, t, z, r⟩ := h
    simp only [DV.toP, PyData.canLay0]
    exact good_lays xs vs (by simpa [DV.flat] using f) r
  | .lst xs, v, f, h => by
    unfold DR at h
    obtain ⟨a, vs, e, t, _, z, r⟩ := h
    simp only [DV.toP, PyData.canLay0]
    exact good_lays xs vs (by simpa [DV.flat] using f) r
  | .dic _, _, f, _ => by simp [DV.flat] at f
  | .loc _, _, f, _ => by simp [DV.flat] at f
  | .scr ns, v, f, h => by simp only [DV.toP, PyData.canLay0]; exact lay_ints ns
theorem good_lays {m b : Nat} : ∀ (ds : List DV) (vs : List V), DV.flats ds = true → DRs c H φ m b ds vs → PyData.canLayAll0 (DV.toPs ds) = true
  | [], vs, _, h => by simp [DV.toPs, PyData.canLayAll0]
  | d :: ds, vs, f, h => by
    unfold DRs at h
    obtain ⟨v, r, e, h1, h2⟩ := h
    simp only [DV.flats, Bool.and_eq_true] at f
    simp only [DV.toPs, PyData.canLayAll0, Bool.and_eq_true]
    exact ⟨good_lay d v f.1 h1, good_lays ds r f.2 h2⟩
end
theorem peek_lay (R : Rel c B H φ S) {d : DV} {x : V} (h : DR c H φ S.length S.length d x) (f : (peek S d).flat = true) : (peek S d).toP.canLay0 = true := by
  cases q : peek S d with
  | lst xs =>
    obtain ⟨a, vs, e, t, z, r⟩ := peek_lst R h q
    rw [q] at f
    simp only [DV.toP, PyData.canLay0]
    exact good_lays xs vs (by simpa [DV.flat] using f) r
  | dic kvs => rw [q] at f; simp [DV.flat] at f
  | loc i => rw [q] at f; simp [DV.flat] at f
  | _ =>
    have e' := peek_eq q (fun _ z => nomatch z) (fun _ z => nomatch z)
    subst e'
    rw [q] at f
    rw [← q]; rw [q]
    exact good_lay _ _ f h
end
mutual
theorem depth_toP : ∀ d : DV, d.flat = true → d.toP.depth = d.depth
  | .non, _ => by simp [DV.toP, PyData.depth, DV.depth]
  | .bl _, _ => by simp [DV.toP, PyData.depth, DV.depth]
  | .int _, _ => by simp [DV.toP, PyData.depth, DV.depth]
  | .str _, _ => by simp [DV.toP, PyData.depth, DV.depth]
  | .tup xs, f => by simp only [DV.toP, PyData.depth, DV.depth, depths_toP xs (by simpa [DV.flat] using f)]
  | .lst xs, f => by simp only [DV.toP, PyData.depth, DV.depth, depths_toP xs (by simpa [DV.flat] using f)]
  | .dic _, f => by simp [DV.flat] at f
  | .loc _, f => by simp [DV.flat] at f
  | .scr ns, _ => by simp only [DV.toP, PyData.depth, DV.depth, PySem.W.depth_ints]
theorem depths_toP : ∀ ds : List DV, DV.flats ds = true → PyData.depthAll (DV.toPs ds) = DV.depths ds
  | [], _ => by simp [DV.toPs, PyData.depthAll, DV.depths]
  | d :: ds, f => by
    simp only [DV.flats, Bool.and_eq_true] at f
    simp only [DV.toPs, PyData.depthAll, DV.depths, depth_toP d f.1, depths_toP ds f.2]
end
end DP

namespace DP
open PySem PySem.Spec PyProof.Rows L2

theorem sGood_append {x y : Str} (hx : sGood x) (hy : sGood y) (h : x.length + y.length ≤ sizeLine) : sGood (x ++ y) := by
  refine ⟨?_, ?_⟩
  · show (x.cps ++ y.cps).size ≤ sizeLine
    rw [Array.size_append]; exact h
  · show ((x.cps ++ y.cps).all (· < 0x110000)) = true
    rw [Array.all_append]
    have h1 : x.cps.all (· < 0x110000) = true := hx.2
    have h2 : y.cps.all (· < 0x110000) = true := hy.2
    rw [h1, h2]; rfl
theorem sGood_one {z : Str} (h : sGood z) {i : Nat} {k : Nat} (q : z.cps.toList[i]? = some k) : sGood ⟨#[k]⟩ := by
  refine ⟨by show 1 ≤ sizeLine; decide, ?_⟩
  have h2 : z.cps.all (· < 0x110000) = true := h.2
  have hk : k ∈ z.cps := by
    have := List.mem_of_getElem? q
    simpa using this
  have h3 := (Array.all_eq_true_iff_forall_mem.mp h2) k hk
  show (#[k] : Array Nat).all (· < 0x110000) = true
  simpa using h3

abbrev rcx (X : Cx) (ER : List Addr) : RC := ⟨X.prog, X.w, X.K, ER⟩
/-- two values in, one out -/
def rV2 (c : RC) (f : Store → DV → DV → Option DV) : R2 := fun x y H Q => ∃ B φ S dx dy d, Rel c B H φ S ∧ DR c H φ S.length S.length dx x ∧ DR c H φ S.length S.length dy y ∧ f S dx dy = some d ∧
  After c B H φ S.length S fun H' φ' => ∀ v, DR c H' φ' S.length S.length d v → Q v H'
/-- a fresh object ho, laid at p, is the value d -/
def Bod (c : RC) (H : Hp) (φ : Nat → Addr) (n : Nat) (d : DV) (p : Addr) (ho : HO) : Prop := match d with
  | .lst xs => ∃ vs, ho = .lst vs ∧ xs.length ≤ sizeLine ∧ DRs c H φ n n xs vs
  | .dic kvs => kvs.length ≤ sizeLine ∧ (p == sysModules) = false ∧
      ((∃ ks, ho = .dK ks ∧ DRk c H φ n n kvs ks) ∨
       (∃ o es ep xs, ho = dHo p o ∧ o.ExactDict ∧ o.data = .dict es ep ∧ es.toList = xs.map (entryOfKey (nestedKind c.P c.w)) ∧ (xs.map (·.1)).Nodup ∧ DRx c H φ n n kvs xs))
  | _ => False
section
variable {c : RC} {B : Nat → Prop} {H : Hp} {φ : Nat → Addr} {S : Store}
theorem Rel.ap (R : Rel c B H φ S) {p : Addr} (hp : H p = none) : Ap c φ S.length p := ⟨fun i hi => R.ne hp hi, fun m => R.exh p m hp⟩
theorem Bod.dr (R : Rel c B H φ S) {d : DV} {p : Addr} {ho : HO} (hp : H p = none) (h : Bod c H φ S.length d p ho) : DR c (upd H p ho) φ S.length S.length d (.ref p) := by
  have f : Fut H φ S.length (upd H p ho) φ S.length := Fut.laid hp
  cases d with
  | lst xs =>
    obtain ⟨vs, e, z, r⟩ := h
    subst e
    unfold DR
    exact ⟨p, vs, rfl, upd_same, R.ap hp, z, DRs.mono f (Nat.le_refl _) (Nat.le_refl _) xs vs r⟩
  | dic kvs =>
    obtain ⟨z, hs, r⟩ := h
    rw [DR_dic]
    refine ⟨p, rfl, R.ap hp, z, hs, ?_⟩
    rcases r with ⟨ks, e, r⟩ | ⟨o, es, ep, xs, e, h1, h2, h3, h4, r⟩
    · subst e; exact .inl ⟨ks, upd_same, DRk.mono f (Nat.le_refl _) (Nat.le_refl _) kvs ks r⟩
    · subst e; exact .inr ⟨o, es, ep, xs, upd_same, h1, h2, h3, h4, DRx.mono f (Nat.le_refl _) (Nat.le_refl _) kvs xs r⟩
  | _ => exact h.elim
theorem Bod.mok {d : DV} {p : Addr} {ho : HO} (hp : H p = none) (h : Bod c H φ S.length d p ho) :
    (∃ xs, d = .lst xs ∧ MOk c (upd H p ho) (phi φ S.length p) (S.length + 1) (.lst xs) p) ∨ (∃ kvs, d = .dic kvs ∧ MOk c (upd H p ho) (phi φ S.length p) (S.length + 1) (.dic kvs) p) := by
  have f : Fut H φ S.length (upd H p ho) (phi φ S.length p) (S.length + 1) := Fut.push hp
  cases d with
  | lst xs =>
    obtain ⟨vs, e, z, r⟩ := h
    subst e
    exact .inl ⟨xs, rfl, vs, upd_same, z, DRs.mono f (Nat.le_succ _) (Nat.le_refl _) xs vs r⟩
  | dic kvs =>
    obtain ⟨z, hs, r⟩ := h
    refine .inr ⟨kvs, rfl, z, hs, ?_⟩
    rcases r with ⟨ks, e, r⟩ | ⟨o, es, ep, xs, e, h1, h2, h3, h4, r⟩
    · subst e; exact .inl ⟨ks, upd_same, DRk.mono f (Nat.le_succ _) (Nat.le_refl _) kvs ks r⟩
    · subst e; exact .inr ⟨o, es, ep, xs, upd_same, h1, h2, h3, h4, DRx.mono f (Nat.le_succ _) (Nat.le_refl _) kvs xs r⟩
  | _ => exact h.elim
/-- a fresh thing is wanted -/
def KF (c : RC) (Q : VK) (n : Nat) (d : DV) (H' : Hp) (φ' : Nat → Addr) : Prop := ∀ p ho, H' p = none → Bod c H' φ' n d p ho → Q (.ref p) (upd H' p ho)
theorem KF.of {Q : VK} {d : DV} (h : After c B H φ S.length S fun H' φ' => ∀ v, DR c H' φ' S.length S.length d v → Q v H') :
    After c B H φ S.length S fun H' φ' => KF c Q S.length d H' φ' := fun H' φ' f R p ho hp hb =>
  h _ φ' (f.trans (Fut.laid hp)) (R.laid hp) _ (hb.dr R hp)
/-- a new tuple is wanted, its object known -/
def NewT (Q : VK) (H : Hp) (vs : List V) : Prop := ∀ (p : Addr) (o : Obj), H p = none → o.dict = none → Q (.ref p) (upd H p (.frz o (.tup vs)))
/-- a new tuple -/
theorem new_tup {Q : VK} {d : List DV} {vs : List V} (R : Rel c B H φ S) (h : After c B H φ S.length S fun H' φ' => ∀ v, DR c H' φ' S.length S.length (.tup d) v → Q v H') (z : d.length ≤ sizeLine) (r : DRs c H φ S.length S.length d vs) :
    NewT Q H vs := fun p o hp hd =>
  h _ φ (Fut.laid hp) (R.laid hp) _ (by unfold DR; exact ⟨p, vs, rfl, .inl ⟨o, upd_same, hd⟩, z, DRs.mono (Fut.laid hp) (Nat.le_refl _) (Nat.le_refl _) d vs r⟩)
/-- a tuple that is there -/
theorem old_tup {Q : VK} {d : List DV} {vs : List V} {a : Addr} (R : Rel c B H φ S) (h : After c B H φ S.length S fun H' φ' => ∀ v, DR c H' φ' S.length S.length (.tup d) v → Q v H') (z : d.length ≤ sizeLine) (t : TpR c.K H a vs) (r : DRs c H φ S.length S.length d vs) : Q (.ref a) H :=
  h H φ (Fut.refl _ _ _) R _ (by unfold DR; exact ⟨a, vs, rfl, t, z, r⟩)
theorem same {Q : VK} {d : DV} {v : V} (R : Rel c B H φ S) (h : After c B H φ S.length S fun H' φ' => ∀ v, DR c H' φ' S.length S.length d v → Q v H') (r : DR c H φ S.length S.length d v) : Q v H :=
  h H φ (Fut.refl _ _ _) R v r
end

section
variable {X : Cx} {pins : List (Addr × Obj)} {σ : L2.St} {H : Hp} {s : Shared} {Q : VK}
theorem NewT.push {vs : List V} {us : List Value} {t : Nat} (I : L2.Inv X pins σ H s) (q : NewT Q H vs) (r : Vals vs us) (z : vs.length ≤ sizeLine) :
    EP X pins σ Q (.ref s.heap.objs.size) { s with heap := s.heap.push { cls := .type "tuple", data := .seq us.toArray }, toks := t } := by
  have fr : H s.heap.objs.size = none := I.hok.fresh (Nat.le_refl _)
  have at_ : (s.heap.push { cls := .type "tuple", data := .seq us.toArray }).get? s.heap.objs.size = some { cls := .type "tuple", data := .seq us.toArray } := Heap.get?_push_size _ rfl
  refine ⟨.ref s.heap.objs.size, _, I.laid (t' := t) (o := .frz { cls := .type "tuple", data := .seq us.toArray } (.tup vs)) (fun b u e => Heap.get?_push_of_some _ e) (Nat.le_refl _) ?_, rfl, q _ _ fr rfl⟩
  exact ⟨at_, z, us, r, _, at_, rfl, _, rfl⟩
/-- two tuples in a row -/
theorem op_catF : OpR X (binaryOp .Add) fun x y H Q => ∃ a b xs ys, x = .ref a ∧ y = .ref b ∧ SqT X.K H a xs ∧ SqT X.K H b ys ∧ xs.length + ys.length ≤ sizeLine ∧ (xs = [] → Q (.ref b) H) ∧ (xs ≠ [] → ys = [] → Q (.ref a) H) ∧ (xs ≠ [] → ys ≠ [] → NewT Q H (xs ++ ys)) := by
  intro pins s σ H x y v u Q I rx ry h
  obtain ⟨a, b, xs, ys, e1, e2, ha, hb, hz, q0, q1, q2⟩ := h
  subst e1 e2
  by_cases hx : xs = []
  · exact op_catA pins s σ H _ _ v u Q I rx ry ⟨a, b, xs, ys, rfl, rfl, ha, hb, hz, q0, q1, fun n => absurd hx n⟩
  · by_cases hy : ys = []
    · exact op_catA pins s σ H _ _ v u Q I rx ry ⟨a, b, xs, ys, rfl, rfl, ha, hb, hz, q0, q1, fun _ n => absurd hy n⟩
    · cases rx; cases ry
      obtain ⟨us, r1, p1, _⟩ := I.tuple ha
      obtain ⟨ws, r2, p2, _⟩ := I.tuple hb
      have ne1 : us ≠ [] := fun z => hx (r1.nil_iff.mp z)
      have ne2 : ws ≠ [] := fun z => hy (r2.nil_iff.mp z)
      exact HT.cat_tup p1 p2 ne1 (fun z => absurd z ne2) (fun _ => NewT.push (t := s.toks) I (q2 hx hy) (r1.append r2) (by rw [List.length_append]; exact hz)) (by rw [← r1.length, ← r2.length]; exact hz)
end

section
variable {X : Cx} {ER : List Addr}
def BO.py : BO → Operator
  | .add => .Add | .sub => .Sub | .mul => .Mult | .fdiv => .FloorDiv | .mod => .Mod | .pow => .Pow
theorem new_lst {c : RC} {B : Nat → Prop} {H : Hp} {φ : Nat → Addr} {S : Store} {Q : VK} {d : List DV} {vs : List V} (R : Rel c B H φ S) (h : After c B H φ S.length S fun H' φ' => KF c Q S.length (.lst d) H' φ') (z : d.length ≤ sizeLine) (r : DRs c H φ S.length S.length d vs) :
    ∀ p, H p = none → Q (.ref p) (upd H p (.lst vs)) := fun p hp => h H φ (Fut.refl _ _ _) R p (.lst vs) hp ⟨vs, rfl, z, r⟩
/-- what a fresh thing of two values is wanted for -/
def rF2 (c : RC) (f : Store → DV → DV → Option DV) : R2 := fun x y H Q => ∃ B φ S dx dy xs, Rel c B H φ S ∧ DR c H φ S.length S.length dx x ∧ DR c H φ S.length S.length dy y ∧ f S dx dy = some (.lst xs) ∧
  After c B H φ S.length S fun H' φ' => KF c Q S.length (.lst xs) H' φ'
theorem op_binF (op : BO) : OpR X (binaryOp op.py) (rF2 (rcx X ER) fun S x y => bin op (peek S x) (peek S y)) := by
  intro pins s σ H x y v u Q I rx ry h
  obtain ⟨B, φ, S, dx, dy, zs, R, hx, hy, hf, hQ⟩ := h
  replace hf : bin op (peek S dx) (peek S dy) = some (.lst zs) := hf
  generalize ex : peek S dx = px at hf
  generalize ey : peek S dy = py at hf
  unfold bin at hf
  split at hf
  case h_4 xs ys =>
    split at hf
    · rename_i hz
      cases hf
      obtain ⟨a, vs, e1, t1, z1, r1⟩ := peek_lst R hx ex
      obtain ⟨b, us, e2, t2, z2, r2⟩ := peek_lst R hy ey
      have k1 := DRs.length r1
      have k2 := DRs.length r2
      exact op_cat pins s σ H x y v u Q I rx ry ⟨a, b, vs, us, e1, e2, t1, t2, by omega, new_lst R hQ (by rw [List.length_append]; exact hz) (DRs.append r1 r2)⟩
    · cases hf
  case h_7 xs k =>
    split at hf
    · rename_i hz
      cases hf
      obtain ⟨a, vs, e1, t1, z1, r1⟩ := peek_lst R hx ex
      have e2 := peek_int hy ey
      have k1 := DRs.length r1
      refine op_rep pins s σ H x y v u Q I rx ry ⟨a, k, vs, e1, e2, t1, hz.1, hz.2.1, by rw [← k1]; exact hz.2.2, ?_⟩
      refine new_lst R hQ ?_ (DRs.rep r1 _)
      rw [List.length_flatten, List.map_replicate, List.sum_replicate_nat, Nat.mul_comm]; exact hz.2.2
    · cases hf
  all_goals first
    | (cases hf; done)
    | (split at hf <;> cases hf; done)
theorem op_bin (op : BO) : OpR X (binaryOp op.py) (rV2 (rcx X ER) fun S x y => bin op (peek S x) (peek S y)) := by
  intro pins s σ H x y v u Q I rx ry h
  obtain ⟨B, φ, S, dx, dy, d, R, hx, hy, hf, hQ⟩ := h
  replace hf : bin op (peek S dx) (peek S dy) = some d := hf
  have fresh : ∀ xs, d = .lst xs → wpAny (model X.prog X.w) X.A (binaryOp op.py v u) (EP X pins σ Q) X.xe s := fun xs e =>
    op_binF (ER := ER) op pins s σ H x y v u Q I rx ry ⟨B, φ, S, dx, dy, xs, R, hx, hy, hf.trans (by rw [e]), e ▸ KF.of hQ⟩
  generalize ex : peek S dx = px at hf
  generalize ey : peek S dy = py at hf
  unfold bin at hf
  split at hf
  case h_1 i j =>
    cases hf
    exact op_add pins s σ H x y v u Q I rx ry ⟨i, j, peek_int hx ex, peek_int hy ey, same R hQ rfl⟩
  case h_2 a b =>
    split at hf
    · rename_i hz
      cases hf
      obtain ⟨e1, g1⟩ := peek_str hx ex
      obtain ⟨e2, g2⟩ := peek_str hy ey
      exact op_add_str pins s σ H x y v u Q I rx ry ⟨a, b, e1, e2, hz, same R hQ ⟨rfl, sGood_append g1 g2 hz⟩⟩
    · cases hf
  case h_3 xs ys =>
    split at hf
    · rename_i hz
      cases hf
      obtain ⟨a, vs, e1, t1, z1, r1⟩ := peek_tup hx ex
      obtain ⟨b, us, e2, t2, z2, r2⟩ := peek_tup hy ey
      have k1 := DRs.length r1
      have k2 := DRs.length r2
      have r12 := DRs.append r1 r2
      refine op_catF pins s σ H x y v u Q I rx ry ⟨a, b, vs, us, e1, e2, t1.sq, t2.sq, by omega, fun e => ?_, fun _ e => ?_, fun _ _ => ?_⟩
      · subst e
        exact old_tup R hQ (by rw [List.length_append]; exact hz) t2 (by simpa using r12)
      · subst e
        exact old_tup R hQ (by rw [List.length_append]; exact hz) t1 (by simpa using r12)
      · exact new_tup R hQ (by rw [List.length_append]; exact hz) r12
    · cases hf
  case h_4 xs ys =>
    split at hf
    · cases hf; exact fresh _ rfl
    · cases hf
  case h_5 i j =>
    cases hf
    exact op_sub pins s σ H x y v u Q I rx ry ⟨i, j, peek_int hx ex, peek_int hy ey, same R hQ rfl⟩
  case h_6 i j =>
    split at hf
    · rename_i hz
      cases hf
      exact op_mul pins s σ H x y v u Q I rx ry ⟨i, j, peek_int hx ex, peek_int hy ey, hz, same R hQ rfl⟩
    · cases hf
  case h_7 xs k =>
    split at hf
    · cases hf; exact fresh _ rfl
    · cases hf
  case h_8 i j =>
    split at hf
    · rename_i hz
      cases hf
      exact op_fdiv pins s σ H x y v u Q I rx ry ⟨i, j, peek_int hx ex, peek_int hy ey, hz, same R hQ rfl⟩
    · cases hf
  case h_9 i j =>
    split at hf
    · rename_i hz
      cases hf
      exact op_mod pins s σ H x y v u Q I rx ry ⟨i, j, peek_int hx ex, peek_int hy ey, hz, same R hQ rfl⟩
    · cases hf
  case h_10 i j =>
    split at hf
    · rename_i hz
      cases hf
      exact op_pow pins s σ H x y v u Q I rx ry ⟨i, j, peek_int hx ex, peek_int hy ey, hz, same R hQ rfl⟩
    · cases hf
  case h_11 => cases hf
end
end DP

namespace DP
open PySem PySem.Spec PyProof.Rows L2

mutual
theorem alike_toP : ∀ a b : DV, DV.alike a b = true → W.alike a.toP b.toP = true
  | .non, b, h => by cases b <;> simp_all [DV.alike, DV.toP, W.alike]
  | .bl _, b, h => by cases b <;> simp_all [DV.alike, DV.toP, W.alike]
  | .int _, b, h => by cases b <;> simp_all [DV.alike, DV.toP, W.alike]
  | .str _, b, h => by cases b <;> simp_all [DV.alike, DV.toP, W.alike]
  | .loc _, b, h => by cases b <;> simp [DV.alike] at h
  | .scr _, b, h => by cases b <;> simp [DV.alike] at h
  | .dic _, b, h => by cases b <;> simp [DV.alike] at h
  | .tup xs, .tup ys, h => by
    simp only [DV.alike] at h
    simp only [DV.toP, W.alike]
    exact alikes_toP xs ys h
  | .lst xs, .lst ys, h => by
    simp only [DV.alike] at h
    simp only [DV.toP, W.alike]
    exact alikes_toP xs ys h
  | .tup _, .non, h | .tup _, .bl _, h | .tup _, .int _, h | .tup _, .str _, h | .tup _, .lst _, h | .tup _, .dic _, h | .tup _, .loc _, h | .tup _, .scr _, h => by simp [DV.alike] at h
  | .lst _, .non, h | .lst _, .bl _, h | .lst _, .int _, h | .lst _, .str _, h | .lst _, .tup _, h | .lst _, .dic _, h | .lst _, .loc _, h | .lst _, .scr _, h => by simp [DV.alike] at h
theorem alikes_toP : ∀ a b : List DV, DV.alikes a b = true → W.alikeAll (DV.toPs a) (DV.toPs b) = true
  | [], _, _ => by simp [DV.toPs, W.alikeAll]
  | _ :: _, [], _ => by simp [DV.toPs, W.alikeAll]
  | a :: as, b :: bs, h => by
    simp only [DV.alikes, Bool.and_eq_true] at h
    simp only [DV.toPs, W.alikeAll, Bool.and_eq_true]
    exact ⟨alike_toP a b h.1, alikes_toP as bs h.2⟩
end
theorem toPs_map : ∀ xs : List DV, DV.toPs xs = xs.map DV.toP
  | [] => rfl
  | x :: xs => by rw [DV.toPs, toPs_map xs]; rfl
theorem toP_none {d : DV} (f : d.flat = true) (h : d ≠ .non) : d.toP ≠ .none := by
  cases d with
  | non => exact absurd rfl h
  | loc _ => simp [DV.flat] at f
  | _ => simp [DV.toP]
theorem shaped_of {d : DV} (f : d.flat = true) (hl : d.toP.canLay0 = true) (hd : d.depth ≤ 64) : SeqAt.shaped d.toP = true := by
  unfold SeqAt.shaped
  rw [hl, depth_toP d f, decide_eq_true hd]; rfl

def CO.py : CO → CmpOp
  | .eq => .Eq | .ne => .NotEq | .lt => .Lt | .le => .LtE | .gt => .Gt | .ge => .GtE | .isin => .In | .notin => .NotIn
def cmpV (op : CO) : Store → DV → DV → Option DV := fun S x y => (cmp op (peek S x) (peek S y)).map .bl
section
variable {X : Cx} {ER : List Addr}
theorem op_cmpEq (hu : X.A.units + 64 < cLine) : OpR X (compareOp .Eq) (rV2 (rcx X ER) (cmpV .eq)) := by
  intro pins s σ H x y v u Q I rx ry h
  obtain ⟨B, φ, S, dx, dy, d, R, hx, hy, hf, hQ⟩ := h
  replace hf : (deq (peek S dx) (peek S dy)).map DV.bl = some d := hf
  unfold deq at hf
  split at hf
  · rename_i hz
    simp only [Bool.and_eq_true, decide_eq_true_eq] at hz
    obtain ⟨⟨⟨f1, f2⟩, d1⟩, d2⟩ := hz
    cases hf
    exact op_eqD hu pins s σ H x y v u Q I rx ry ⟨_, _, peek_dp R hx f1, peek_dp R hy f2, shaped_of f1 (peek_lay R hx f1) d1, shaped_of f2 (peek_lay R hy f2) d2, same R hQ rfl⟩
  · cases hf
theorem op_cmpNe (hu : X.A.units + 64 < cLine) : OpR X (compareOp .NotEq) (rV2 (rcx X ER) (cmpV .ne)) := by
  intro pins s σ H x y v u Q I rx ry h
  obtain ⟨B, φ, S, dx, dy, d, R, hx, hy, hf, hQ⟩ := h
  replace hf : ((deq (peek S dx) (peek S dy)).map (!·)).map DV.bl = some d := hf
  unfold deq at hf
  split at hf
  · rename_i hz
    simp only [Bool.and_eq_true, decide_eq_true_eq] at hz
    obtain ⟨⟨⟨f1, f2⟩, d1⟩, d2⟩ := hz
    cases hf
    exact op_neD hu pins s σ H x y v u Q I rx ry ⟨_, _, peek_dp R hx f1, peek_dp R hy f2, shaped_of f1 (peek_lay R hx f1) d1, shaped_of f2 (peek_lay R hy f2) d2, same R hQ rfl⟩
  · cases hf
/-- the four orders -/
theorem op_ord (hu : X.A.units + 64 < cLine) {op : CO} {f : DV → DV → Bool} (hop : ∀ a b, cmp op a b = if a.flat && b.flat && a.alike b && decide (a ≠ .non) && decide (a.depth ≤ 64) then some (f a b) else none)
    (rule : ∀ (s : Shared) (a b : Value) (da db : DV) (as bs : List Addr) (Q : Value → Shared → Prop), Reads s.heap a da.toP as → Reads s.heap b db.toP bs → W.alike da.toP db.toP = true → da.toP ≠ .none → X.A.units + min da.toP.depth db.toP.depth < cLine → Q (.bool (f da db)) s →
      wpAny (model X.prog X.w) X.A (compareOp op.py a b) Q X.xe s) : OpR X (compareOp op.py) (rV2 (rcx X ER) (cmpV op)) := by
  intro pins s σ H x y v u Q I rx ry h
  obtain ⟨B, φ, S, dx, dy, d, R, hx, hy, hf, hQ⟩ := h
  replace hf : (cmp op (peek S dx) (peek S dy)).map DV.bl = some d := hf
  rw [hop] at hf
  split at hf
  · rename_i hz
    simp only [Bool.and_eq_true, decide_eq_true_eq] at hz
    obtain ⟨⟨⟨⟨f1, f2⟩, ha⟩, hn⟩, d1⟩ := hz
    cases hf
    obtain ⟨as, r1⟩ := Dp.reads I _ x v (peek_dp R hx f1) rx
    obtain ⟨bs, r2⟩ := Dp.reads I _ y u (peek_dp R hy f2) ry
    refine rule s v u _ _ as bs _ r1 r2 (alike_toP _ _ ha) (toP_none f1 hn) ?_ ⟨.bl _, H, I, rfl, same R hQ rfl⟩
    have := Nat.min_le_left (peek S dx).toP.depth (peek S dy).toP.depth
    rw [depth_toP _ f1] at this ⊢
    omega
  · cases hf
theorem op_cmpLt (hu : X.A.units + 64 < cLine) : OpR X (compareOp .Lt) (rV2 (rcx X ER) (cmpV .lt)) :=
  op_ord (op := .lt) (f := DV.ltb) hu (fun _ _ => rfl) fun s a b da db as bs Q r1 r2 h hn hu hq => PySem.W.lt_data r1 r2 h hn hu hq
theorem op_cmpGt (hu : X.A.units + 64 < cLine) : OpR X (compareOp .Gt) (rV2 (rcx X ER) (cmpV .gt)) :=
  op_ord (op := .gt) (f := fun a b => DV.ltb b a) hu (fun _ _ => rfl) fun s a b da db as bs Q r1 r2 h hn hu hq => PySem.W.gt_data r1 r2 h hn hu hq
theorem op_cmpLe (hu : X.A.units + 64 < cLine) : OpR X (compareOp .LtE) (rV2 (rcx X ER) (cmpV .le)) :=
  op_ord (op := .le) (f := fun a b => !DV.ltb b a) hu (fun _ _ => rfl) fun s a b da db as bs Q r1 r2 h hn hu hq => PySem.W.le_data r1 r2 h hn hu hq
theorem op_cmpGe (hu : X.A.units + 64 < cLine) : OpR X (compareOp .GtE) (rV2 (rcx X ER) (cmpV .ge)) :=
  op_ord (op := .ge) (f := fun a b => !DV.ltb a b) hu (fun _ _ => rfl) fun s a b da db as bs Q r1 r2 h hn hu hq => PySem.W.ge_data r1 r2 h hn hu hq
/-- x in a list -/
theorem in_facts {c : RC} {B : Nat → Prop} {H : Hp} {φ : Nat → Addr} {S : Store} (R : Rel c B H φ S) {dx dy : DV} {x y : V} {ys : List DV} (hx : DR c H φ S.length S.length dx x) (hy : DR c H φ S.length S.length dy y) (ey : peek S dy = .lst ys)
    (hz : ((peek S dx).flat && DV.flats ys && decide ((peek S dx).depth ≤ 64) && decide (DV.depths ys < 64)) = true) :
    Dp c.K H x (peek S dx).toP ∧ Dp c.K H y (.list (ys.map DV.toP)) ∧ SeqAt.shaped (peek S dx).toP = true ∧ SeqAt.shaped (.list (ys.map DV.toP)) = true := by
  simp only [Bool.and_eq_true, decide_eq_true_eq] at hz
  obtain ⟨⟨⟨f1, f2⟩, d1⟩, d2⟩ := hz
  have fy : (peek S dy).flat = true := by rw [ey]; simpa [DV.flat] using f2
  have p2 := peek_dp R hy fy
  have l2 := peek_lay R hy fy
  rw [ey] at p2 l2
  simp only [DV.toP, toPs_map] at p2 l2
  refine ⟨peek_dp R hx f1, p2, shaped_of f1 (peek_lay R hx f1) d1, ?_⟩
  unfold SeqAt.shaped
  rw [l2]
  simp only [PyData.depth, ← toPs_map, depths_toP ys f2, Bool.true_and, decide_eq_true_eq]
  omega
end
end DP

namespace DP
open PySem PySem.Spec PyProof.Rows L2

mutual
theorem key_inj : ∀ (a b : DV) (k : NestedKey), DV.key a = some k → DV.key b = some k → a = b
  | .non, b, k, h1, h2 => by simp only [DV.key] at h1; cases h1; cases b <;> simp_all [DV.key]
  | .int _, b, k, h1, h2 => by simp only [DV.key] at h1; cases h1; cases b <;> simp_all [DV.key]
  | .str _, b, k, h1, h2 => by simp only [DV.key] at h1; cases h1; cases b <;> simp_all [DV.key]
  | .bl _, _, _, h1, _ | .lst _, _, _, h1, _ | .dic _, _, _, h1, _ | .loc _, _, _, h1, _ | .scr _, _, _, h1, _ => by simp [DV.key] at h1
  | .tup xs, b, k, h1, h2 => by
    simp only [DV.key] at h1
    cases e1 : DV.keys xs with
    | none => rw [e1] at h1; cases h1
    | some ks =>
      rw [e1] at h1; cases h1
      cases b with
      | tup ys =>
        simp only [DV.key] at h2
        cases e2 : DV.keys ys with
        | none => rw [e2] at h2; cases h2
        | some ls =>
          rw [e2] at h2
          have q : ls = ks := by simpa using h2
          subst q
          rw [keys_inj xs ys ls e1 e2]
      | _ => simp [DV.key] at h2
theorem keys_inj : ∀ (a b : List DV) (k : List NestedKey), DV.keys a = some k → DV.keys b = some k → a = b
  | [], b, k, h1, h2 => by
    simp only [DV.keys] at h1; cases h1
    cases b with
    | nil => rfl
    | cons y ys =>
      simp only [DV.keys] at h2
      split at h2 <;> cases h2
  | x :: xs, b, k, h1, h2 => by
    simp only [DV.keys] at h1
    split at h1
    · rename_i k0 ks0 e1 e2
      cases h1
      cases b with
      | nil => simp [DV.keys] at h2
      | cons y ys =>
        simp only [DV.keys] at h2
        split at h2
        · rename_i k1 ks1 e3 e4
          injection h2 with h2
          injection h2 with h3 h4
          subst h3 h4
          rw [key_inj x y _ e1 e3, keys_inj xs ys _ e2 e4]
        · cases h2
    · cases h1
end
theorem tkey_key {k : DV} (h : tkey k = true) : ∃ nk, DV.key k = some nk ∧ DV.depth k ≤ 8 := by
  cases k with
  | tup xs =>
    simp only [tkey, Bool.and_eq_true, decide_eq_true_eq] at h
    obtain ⟨h1, h2⟩ := h
    obtain ⟨ks, e⟩ := Option.isSome_iff_exists.mp h1
    exact ⟨.tup ks, by simp only [DV.key, e]; rfl, by simp only [DV.depth]; omega⟩
  | _ => simp [tkey] at h
mutual
theorem key_depth : ∀ (d : DV) (k : NestedKey), DV.key d = some k → k.depth ≤ DV.depth d
  | .non, _, h => by simp only [DV.key] at h; cases h; simp [NestedKey.depth]
  | .int _, _, h => by simp only [DV.key] at h; cases h; simp [NestedKey.depth]
  | .str _, _, h => by simp only [DV.key] at h; cases h; simp [NestedKey.depth]
  | .bl _, _, h | .lst _, _, h | .dic _, _, h | .loc _, _, h | .scr _, _, h => by simp [DV.key] at h
  | .tup xs, k, h => by
    simp only [DV.key] at h
    cases e : DV.keys xs with
    | none => rw [e] at h; cases h
    | some ks =>
      rw [e] at h; cases h
      simp only [NestedKey.depth, DV.depth]
      have := keys_depth xs ks e
      omega
theorem keys_depth : ∀ (d : List DV) (k : List NestedKey), DV.keys d = some k → NestedKey.depthAll k ≤ DV.depths d
  | [], _, h => by simp only [DV.keys] at h; cases h; simp [NestedKey.depthAll]
  | x :: xs, k, h => by
    simp only [DV.keys] at h
    split at h
    · rename_i k0 ks0 e1 e2
      cases h
      simp only [NestedKey.depthAll, DV.depths]
      have h1 := key_depth x k0 e1
      have h2 := keys_depth xs ks0 e2
      omega
    · cases h
end

section
variable {X : Cx} {ER : List Addr} {pins : List (Addr × Obj)} {σ : L2.St} {H : Hp} {s : Shared} {φ : Nat → Addr} {m b : Nat}
mutual
/-- a key's value in the heap -/
theorem key_is (I : Inv X pins σ H s) : ∀ (d : DV) (k : NestedKey) (v : V) (u : Value), DV.key d = some k → DR (rcx X ER) H φ m b d v → RelV v u → NestedIs s.heap k u
  | .non, _, v, u, h, r, ru => by
    simp only [DV.key] at h; cases h
    unfold DR at r; subst r; cases ru
    exact .none
  | .int i, _, v, u, h, r, ru => by
    simp only [DV.key] at h; cases h
    unfold DR at r; subst r
    obtain ⟨t, rfl⟩ := ru
    exact .int _ _
  | .str x, _, v, u, h, r, ru => by
    simp only [DV.key] at h; cases h
    unfold DR at r
    obtain ⟨e, _⟩ := r
    subst e
    obtain ⟨t, rfl⟩ := ru
    exact .text _ _
  | .bl _, _, _, _, h, _, _ | .lst _, _, _, _, h, _, _ | .dic _, _, _, _, h, _, _ | .loc _, _, _, _, h, _, _ | .scr _, _, _, _, h, _, _ => by simp [DV.key] at h
  | .tup xs, k, v, u, h, r, ru => by
    simp only [DV.key] at h
    cases e : DV.keys xs with
    | none => rw [e] at h; cases h
    | some ks =>
      rw [e] at h; cases h
      unfold DR at r
      obtain ⟨a, vs, ev, t, z, r⟩ := r
      subst ev
      cases ru
      obtain ⟨its, rv, ⟨o, ho, hc, n, hd⟩, _⟩ := I.tuple t.sq
      exact .tup ho hc hd (keys_are I xs ks vs its e r rv)
theorem keys_are (I : Inv X pins σ H s) : ∀ (ds : List DV) (ks : List NestedKey) (vs : List V) (us : List Value), DV.keys ds = some ks → DRs (rcx X ER) H φ m b ds vs → Vals vs us → NestedAll s.heap ks us
  | [], _, vs, us, h, r, rv => by
    simp only [DV.keys] at h; cases h
    unfold DRs at r; subst r; cases rv
    exact .nil
  | d :: ds, _, vs, us, h, r, rv => by
    simp only [DV.keys] at h
    split at h
    · rename_i k0 ks0 e1 e2
      cases h
      unfold DRs at r
      obtain ⟨v, vr, ev, r1, r2⟩ := r
      subst ev
      cases rv with
      | cons q1 q2 => exact .cons (key_is I d k0 v _ e1 r1 q1) (keys_are I ds ks0 vr _ e2 r2 q2)
    · cases h
end
theorem tk_is (I : Inv X pins σ H s) {d : DV} {k : NestedKey} {a : Addr} (h : DV.key d = some k) (hd : DV.depth d ≤ 8) (r : DR (rcx X ER) H φ m b d (.ref a)) : (nestedKind X.prog X.w).is s.heap k a :=
  ⟨key_is I d k _ _ h r rfl, Nat.le_trans (key_depth d k h) hd⟩
end

section
variable {c : RC} {H : Hp} {φ : Nat → Addr} {n b : Nat}
/-! ### tuple keys: look, put, drop -/
theorem DRx.at_ : ∀ {kvs : List (DV × DV)} {xs : List (NestedKey × Addr × Value)} {k : DV} {nk : NestedKey}, DRx c H φ n b kvs xs → DV.key k = some nk →
    (dget kvs k = none ∧ atKey xs nk = none) ∨ ∃ d a u vv, dget kvs k = some d ∧ atKey xs nk = some (a, u) ∧ RelV vv u ∧ DR c H φ n b d vv
  | [], xs, k, nk, h, hk => by
    unfold DRx at h; subst h
    exact .inl ⟨rfl, rfl⟩
  | (k0, v0) :: kvs, xs, k, nk, h, hk => by
    unfold DRx at h
    obtain ⟨nk0, a, u, vv, q, e, h1, h2, h3, h4, h5, h6⟩ := h
    subst e
    by_cases e : k0 = k
    · subst e
      rw [hk] at h1; cases h1
      exact .inr ⟨v0, a, u, vv, by simp [dget], by simp [atKey], h4, h5⟩
    · have ne : nk0 ≠ nk := fun z => e (key_inj _ _ _ h1 (z ▸ hk))
      have g1 : dget ((k0, v0) :: kvs) k = dget kvs k := by unfold dget; rw [List.find?_cons, decide_eq_false e]
      have g2 : atKey ((nk0, a, u) :: q) nk = atKey q nk := by unfold atKey; rw [List.find?_cons]; simp [ne]
      rw [g1, g2]
      exact DRx.at_ h6 hk
theorem dhas_get (kvs : List (DV × DV)) (k : DV) : dhas kvs k = (dget kvs k).isSome := by
  induction kvs with
  | nil => rfl
  | cons p r ih =>
    unfold dhas dget at *
    rw [List.any_cons, List.find?_cons]
    by_cases e : p.1 = k
    · simp [e]
    · simp only [decide_eq_false e, Bool.false_or]
      exact ih
theorem DRx.length : ∀ {kvs : List (DV × DV)} {xs : List (NestedKey × Addr × Value)}, DRx c H φ n b kvs xs → kvs.length = xs.length
  | [], xs, h => by unfold DRx at h; subst h; rfl
  | (k0, v0) :: kvs, xs, h => by
    unfold DRx at h
    obtain ⟨nk0, a, u, vv, q, e, h1, h2, h3, h4, h5, h6⟩ := h
    subst e
    rw [List.length_cons, List.length_cons, DRx.length h6]
theorem DRx.map : ∀ {kvs : List (DV × DV)} {xs : List (NestedKey × Addr × Value)} {k d : DV} {nk : NestedKey} {vv : V} {u : Value}, DRx c H φ n b kvs xs → DV.key k = some nk → RelV vv u → DR c H φ n b d vv →
    DRx c H φ n b (kvs.map fun p => if p.1 = k then (p.1, d) else p) (xs.map (putAt nk u))
  | [], xs, k, d, nk, vv, u, h, hk, r, hd => by unfold DRx at h; subst h; unfold DRx; rfl
  | (k0, v0) :: kvs, xs, k, d, nk, vv, u, h, hk, r, hd => by
    unfold DRx at h
    obtain ⟨nk0, a, u0, vv0, q, e, h1, h2, h3, h4, h5, h6⟩ := h
    subst e
    have ih := DRx.map h6 hk r hd
    by_cases e : k0 = k
    · subst e
      rw [hk] at h1; cases h1
      simp only [List.map_cons, if_pos, putAt]
      unfold DRx
      exact ⟨nk, a, u, vv, _, rfl, hk, h2, h3, r, hd, ih⟩
    · have ne : nk0 ≠ nk := fun z => e (key_inj _ _ _ h1 (z ▸ hk))
      simp only [List.map_cons, if_neg e, putAt, if_neg ne]
      unfold DRx
      exact ⟨nk0, a, u0, vv0, _, rfl, h1, h2, h3, h4, h5, ih⟩
theorem DRx.snoc : ∀ {kvs : List (DV × DV)} {xs : List (NestedKey × Addr × Value)} {k d : DV} {nk : NestedKey} {a : Addr} {vv : V} {u : Value}, DRx c H φ n b kvs xs → DV.key k = some nk → DV.depth k ≤ 8 → DR c H φ n b k (.ref a) → RelV vv u → DR c H φ n b d vv →
    DRx c H φ n b (kvs ++ [(k, d)]) (xs ++ [(nk, a, u)])
  | [], xs, k, d, nk, a, vv, u, h, hk, hd8, ha, r, hd => by
    unfold DRx at h; subst h
    show DRx c H φ n b [(k, d)] [(nk, a, u)]
    unfold DRx
    exact ⟨nk, a, u, vv, [], rfl, hk, hd8, ha, r, hd, by unfold DRx; rfl⟩
  | (k0, v0) :: kvs, xs, k, d, nk, a, vv, u, h, hk, hd8, ha, r, hd => by
    unfold DRx at h
    obtain ⟨nk0, a0, u0, vv0, q, e, h1, h2, h3, h4, h5, h6⟩ := h
    subst e
    show DRx c H φ n b ((k0, v0) :: (kvs ++ [(k, d)])) _
    unfold DRx
    exact ⟨nk0, a0, u0, vv0, _, rfl, h1, h2, h3, h4, h5, DRx.snoc h6 hk hd8 ha r hd⟩
theorem DRx.put {kvs : List (DV × DV)} {xs : List (NestedKey × Addr × Value)} {k d : DV} {nk : NestedKey} {a : Addr} {vv : V} {u : Value} (h : DRx c H φ n b kvs xs) (hk : DV.key k = some nk) (hd8 : DV.depth k ≤ 8) (ha : DR c H φ n b k (.ref a)) (r : RelV vv u) (hd : DR c H φ n b d vv) :
    DRx c H φ n b (dput kvs k d) (storedH xs nk a u) := by
  unfold dput storedH
  rw [dhas_get]
  rcases DRx.at_ h hk with ⟨e1, e2⟩ | ⟨d0, a0, u0, vv0, e1, e2, _, _⟩
  · rw [e1, e2]
    simp only [Option.isSome_none, Bool.false_eq_true, if_false]
    exact DRx.snoc h hk hd8 ha r hd
  · rw [e1, e2]
    simp only [Option.isSome_some, if_true]
    exact DRx.map h hk r hd
theorem DRx.del : ∀ {kvs : List (DV × DV)} {xs : List (NestedKey × Addr × Value)} {k : DV} {nk : NestedKey}, DRx c H φ n b kvs xs → DV.key k = some nk → DRx c H φ n b (ddel kvs k) (withoutH xs nk)
  | [], xs, k, nk, h, hk => by unfold DRx at h; subst h; unfold ddel withoutH; simp [DRx]
  | (k0, v0) :: kvs, xs, k, nk, h, hk => by
    unfold DRx at h
    obtain ⟨nk0, a, u0, vv0, q, e, h1, h2, h3, h4, h5, h6⟩ := h
    subst e
    have ih := DRx.del h6 hk
    unfold ddel withoutH at ih ⊢
    by_cases e : k0 = k
    · subst e
      rw [hk] at h1; cases h1
      rw [List.filter_cons, List.filter_cons]
      simp only [decide_true, Bool.not_true, Bool.false_eq_true, if_false, ne_eq, not_true_eq_false, decide_false]
      exact ih
    · have ne : nk0 ≠ nk := fun z => e (key_inj _ _ _ h1 (z ▸ hk))
      rw [List.filter_cons, List.filter_cons]
      simp only [decide_eq_false e, Bool.not_false, if_true, ne_eq, ne, not_false_eq_true, decide_true]
      unfold DRx
      exact ⟨nk0, a, u0, vv0, _, rfl, h1, h2, h3, h4, h5, ih⟩
theorem dput_length (kvs : List (DV × DV)) (k v : DV) : (dput kvs k v).length ≤ kvs.length + 1 := by
  unfold dput
  split <;> simp
theorem ddel_length (kvs : List (DV × DV)) (k : DV) : (ddel kvs k).length ≤ kvs.length := List.length_filter_le _ _
end
end DP

namespace DP
open PySem PySem.Spec PyProof.Rows L2
section
variable {X : Cx} {ER : List Addr} {pins : List (Addr × Obj)} {σ : L2.St} {H : Hp} {s : Shared} {φ : Nat → Addr} {m b : Nat} {a : Addr} {kvs : List (DV × DV)}
theorem DRx.mem {c : RC} : ∀ {kvs : List (DV × DV)} {xs : List (NestedKey × Addr × Value)}, DRx c H φ m b kvs xs → ∀ x ∈ xs, ∃ k, DV.key k = some x.1 ∧ DV.depth k ≤ 8 ∧ DR c H φ m b k (.ref x.2.1)
  | [], xs, h, x, hx => by unfold DRx at h; subst h; exact nomatch hx
  | (k0, v0) :: kvs, xs, h, x, hx => by
    unfold DRx at h
    obtain ⟨nk0, a, u, vv, q, e, h1, h2, h3, h4, h5, h6⟩ := h
    subst e
    rcases List.mem_cons.mp hx with e | hx
    · subst e; exact ⟨k0, h1, h2, h3⟩
    · exact DRx.mem h6 x hx
theorem DRk.skeys {c : RC} : ∀ {kvs : List (DV × DV)} {ks : List (Key × V)}, DRk c H φ m b kvs ks → ∀ p ∈ kvs, skey p.1 = true
  | [], ks, h, p, hp => nomatch hp
  | (k, v) :: r, ks, h, p, hp => by
    unfold DRk at h
    obtain ⟨x, u, q, e, ⟨hk, hg⟩, h1, h2⟩ := h
    rcases List.mem_cons.mp hp with e' | hp
    · subst e'; subst hk; rfl
    · exact DRk.skeys h2 p hp
theorem tkey_not {k : DV} (h : tkey k = true) : skey k = false := by cases k <;> simp_all [tkey, skey]
theorem DRx.tkeys {c : RC} : ∀ {kvs : List (DV × DV)} {xs : List (NestedKey × Addr × Value)}, DRx c H φ m b kvs xs → ∀ p ∈ kvs, skey p.1 = false
  | [], xs, h, p, hp => nomatch hp
  | (k0, v0) :: kvs, xs, h, p, hp => by
    unfold DRx at h
    obtain ⟨nk0, a, u, vv, q, e, h1, h2, h3, h4, h5, h6⟩ := h
    rcases List.mem_cons.mp hp with e' | hp
    · subst e'
      unfold DR at h3
      cases k0 with
      | str x => exact nomatch h3.1
      | _ => rfl
    · exact DRx.tkeys h6 p hp
/-- a dict whose keys are tuples -/
theorem dictN (I : L2.Inv X pins σ H s) (h : DB (rcx X ER) H φ m b a kvs) (hk : ∀ p ∈ kvs, tkey p.1 = true) :
    ∃ xs, s.heap.DictOfH (nestedKind X.prog X.w) a xs ∧ DRx (rcx X ER) H φ m b kvs xs := by
  obtain ⟨z, hs, r⟩ := h
  rcases r with ⟨ks, t, r⟩ | ⟨o, es, ep, xs, t, h1, h2, h3, h4, r⟩
  · cases kvs with
    | nil =>
      unfold DRk at r; subst r
      obtain ⟨_, _, vs, rel, o, es, ep, g1, g2, g3, g4, g5, g6⟩ := dk_of I.hok t
      cases rel
      refine ⟨[], ⟨o, es, ep, g1, g2, g3, ?_, (fun _ z => nomatch z), List.nodup_nil⟩, by unfold DRx; rfl⟩
      generalize he : es.toList = l at g5
      cases g5; rfl
    | cons p q =>
      have := DRk.skeys r p List.mem_cons_self
      rw [tkey_not (hk p List.mem_cons_self)] at this; cases this
  · have g : s.heap.get? a = some o := (I.hok a _ t).1
    exact ⟨xs, ⟨o, es, ep, g, h1, h2, h3, fun x hx => let ⟨k, e1, e2, e3⟩ := DRx.mem r x hx; tk_is I e1 e2 e3, h4⟩, r⟩
/-- a dict whose keys are texts -/
theorem dictS (I : L2.Inv X pins σ H s) (h : DB (rcx X ER) H φ m b a kvs) (hk : ∀ p ∈ kvs, skey p.1 = true) :
    ∃ ks vs, s.heap.DictOf (mixKind X.prog X.w) a vs ∧ KV ks vs ∧ DRk (rcx X ER) H φ m b kvs ks := by
  obtain ⟨z, hs, r⟩ := h
  rcases r with ⟨ks, t, r⟩ | ⟨o, es, ep, xs, t, h1, h2, h3, h4, r⟩
  · obtain ⟨_, _, vs, rel, dd⟩ := dk_of I.hok t
    exact ⟨ks, vs, dd, rel, r⟩
  · cases kvs with
    | nil =>
      unfold DRx at r; subst r
      have g : s.heap.get? a = some o := (I.hok a _ t).1
      have e : es = #[] := by
        have : es.toList = [] := h3
        simpa using this
      subst e
      exact ⟨[], [], ⟨o, #[], ep, g, h1, h2, (by intro x hx; simp at hx), .nil, List.nodup_nil⟩, .nil, by unfold DRk; rfl⟩
    | cons p q =>
      have := DRx.tkeys r p List.mem_cons_self
      rw [hk p List.mem_cons_self] at this; cases this
theorem DB.typeIs (I : L2.Inv X pins σ H s) (h : DB (rcx X ER) H φ m b a kvs) : ∃ o, s.heap.get? a = some o ∧ o.ExactDict := by
  obtain ⟨z, hs, r⟩ := h
  rcases r with ⟨ks, t, r⟩ | ⟨o, es, ep, xs, t, h1, h2, h3, h4, r⟩
  · obtain ⟨_, _, vs, rel, o, es, ep, g1, g2, _⟩ := dk_of I.hok t
    exact ⟨o, g1, g2⟩
  · exact ⟨o, (I.hok a _ t).1, h1⟩
theorem DRk.get {c : RC} : ∀ {kvs : List (DV × DV)} {ks : List (Key × V)} {x : Str}, DRk c H φ m b kvs ks →
    (dget kvs (.str x) = none ∧ valV ks (.inr x : Key) = none) ∨ ∃ d v, dget kvs (.str x) = some d ∧ valV ks (.inr x : Key) = some v ∧ DR c H φ m b d v
  | [], ks, x, h => by unfold DRk at h; subst h; exact .inl ⟨rfl, rfl⟩
  | (k, v) :: r, ks, x, h => by
    unfold DRk at h
    obtain ⟨y, u, q, e, ⟨hk, hg⟩, h1, h2⟩ := h
    subst e hk
    by_cases e : y = x
    · subst e
      exact .inr ⟨v, u, by simp [dget], by simp [valV], h1⟩
    · have g1 : dget ((.str y, v) :: r) (.str x) = dget r (.str x) := by unfold dget; rw [List.find?_cons, decide_eq_false (by intro z; cases z; exact e rfl)]
      have g2 : valV ((.inr y, u) :: q) (.inr x : Key) = valV q (.inr x) := valV_neg (by intro z; cases z; exact e rfl)
      rw [g1, g2]
      exact DRk.get h2
theorem DRk.length {c : RC} : ∀ {kvs : List (DV × DV)} {ks : List (Key × V)}, DRk c H φ m b kvs ks → kvs.length = ks.length
  | [], ks, h => by unfold DRk at h; subst h; rfl
  | (k, v) :: r, ks, h => by
    unfold DRk at h
    obtain ⟨y, u, q, e, ⟨hk, hg⟩, h1, h2⟩ := h
    subst e
    rw [List.length_cons, List.length_cons, DRk.length h2]
theorem DRk.map {c : RC} : ∀ {kvs : List (DV × DV)} {ks : List (Key × V)} {x : Str} {d : DV} {v : V}, DRk c H φ m b kvs ks → DR c H φ m b d v →
    DRk c H φ m b (kvs.map fun p => if p.1 = .str x then (p.1, d) else p) (ks.map fun kv => if kv.1 = (.inr x : Key) then (kv.1, v) else kv)
  | [], ks, x, d, v, h, hd => by unfold DRk at h; subst h; unfold DRk; rfl
  | (k, v0) :: r, ks, x, d, v, h, hd => by
    unfold DRk at h
    obtain ⟨y, u, q, e, ⟨hk, hg⟩, h1, h2⟩ := h
    subst e hk
    have ih := DRk.map (x := x) h2 hd
    by_cases e : y = x
    · subst e
      simp only [List.map_cons, if_pos]
      unfold DRk
      exact ⟨y, v, _, rfl, ⟨rfl, hg⟩, hd, ih⟩
    · have n1 : ¬ (DV.str y = .str x) := by intro z; cases z; exact e rfl
      have n2 : ¬ ((.inr y : Key) = .inr x) := by intro z; cases z; exact e rfl
      simp only [List.map_cons, if_neg n1, if_neg n2]
      unfold DRk
      exact ⟨y, u, _, rfl, ⟨rfl, hg⟩, h1, ih⟩
theorem DRk.snoc {c : RC} : ∀ {kvs : List (DV × DV)} {ks : List (Key × V)} {x : Str} {d : DV} {v : V}, DRk c H φ m b kvs ks → DR c H φ m b d v → sGood x → DRk c H φ m b (kvs ++ [(.str x, d)]) (ks ++ [(.inr x, v)])
  | [], ks, x, d, v, h, hd, hx => by
    unfold DRk at h; subst h
    show DRk c H φ m b [(.str x, d)] [(.inr x, v)]
    unfold DRk
    exact ⟨x, v, [], rfl, ⟨rfl, hx⟩, hd, by unfold DRk; rfl⟩
  | (k, v0) :: r, ks, x, d, v, h, hd, hx => by
    unfold DRk at h
    obtain ⟨y, u, q, e, ⟨hk, hg⟩, h1, h2⟩ := h
    subst e
    show DRk c H φ m b ((k, v0) :: (r ++ [(.str x, d)])) _
    unfold DRk
    exact ⟨y, u, _, rfl, ⟨hk, hg⟩, h1, DRk.snoc h2 hd hx⟩
theorem DRk.put {c : RC} {kvs : List (DV × DV)} {ks : List (Key × V)} {x : Str} {d : DV} {v : V} (h : DRk c H φ m b kvs ks) (hd : DR c H φ m b d v) (hx : sGood x) : DRk c H φ m b (dput kvs (.str x) d) (putK ks (.inr x) v) := by
  unfold dput putK
  rw [dhas_get, valV_any]
  rcases DRk.get (x := x) h with ⟨e1, e2⟩ | ⟨d0, v0, e1, e2, _⟩
  · rw [e1, e2]
    simp only [Option.isSome_none, Bool.false_eq_true, if_false]
    exact DRk.snoc h hd hx
  · rw [e1, e2]
    simp only [Option.isSome_some, if_true]
    exact DRk.map h hd
theorem DRk.del {c : RC} : ∀ {kvs : List (DV × DV)} {ks : List (Key × V)} {x : Str}, DRk c H φ m b kvs ks → DRk c H φ m b (ddel kvs (.str x)) (dropK ks (.inr x))
  | [], ks, x, h => by unfold DRk at h; subst h; simp [ddel, dropK, DRk]
  | (k, v0) :: r, ks, x, h => by
    unfold DRk at h
    obtain ⟨y, u, q, e, ⟨hk, hg⟩, h1, h2⟩ := h
    subst e hk
    have ih := DRk.del (x := x) h2
    unfold ddel dropK at ih ⊢
    by_cases e : y = x
    · subst e
      rw [List.filter_cons, List.filter_cons]
      simp only [decide_true, Bool.not_true, Bool.false_eq_true, if_false, ne_eq, not_true_eq_false, decide_false]
      exact ih
    · have n1 : ¬ (DV.str y = .str x) := by intro z; cases z; exact e rfl
      have n2 : ¬ ((.inr y : Key) = .inr x) := by intro z; cases z; exact e rfl
      rw [List.filter_cons, List.filter_cons]
      simp only [decide_eq_false n1, Bool.not_false, if_true, ne_eq, n2, not_false_eq_true, decide_true]
      unfold DRk
      exact ⟨y, u, _, rfl, ⟨rfl, hg⟩, h1, ih⟩
end
end DP

namespace DP
open PySem PySem.Spec PyProof.Rows L2
theorem cmp_in_dic (x : DV) (kvs : List (DV × DV)) : cmp .isin x (.dic kvs) = if dok kvs x then some (dhas kvs x) else none := by cases x <;> rfl
theorem cmp_notin_dic (x : DV) (kvs : List (DV × DV)) : cmp .notin x (.dic kvs) = if dok kvs x then some (!dhas kvs x) else none := by cases x <;> rfl
theorem cmp_in_lst (x : DV) (ys : List DV) : cmp .isin x (.lst ys) = if (x.flat && DV.flats ys && decide (x.depth ≤ 64) && decide (DV.depths ys < 64)) = true then some (ys.any fun y => PyData.eqv y.toP x.toP) else none := by cases x <;> rfl
theorem cmp_notin_lst (x : DV) (ys : List DV) : cmp .notin x (.lst ys) = if (x.flat && DV.flats ys && decide (x.depth ≤ 64) && decide (DV.depths ys < 64)) = true then some (!ys.any fun y => PyData.eqv y.toP x.toP) else none := by cases x <;> rfl
theorem dok_or {kvs : List (DV × DV)} {k : DV} (h : dok kvs k = true) : (∃ x, k = .str x ∧ ∀ p ∈ kvs, skey p.1 = true) ∨ (tkey k = true ∧ ∀ p ∈ kvs, tkey p.1 = true) := by
  unfold dok at h
  rw [Bool.or_eq_true, Bool.and_eq_true, Bool.and_eq_true, List.all_eq_true, List.all_eq_true] at h
  rcases h with ⟨h1, h2⟩ | h
  · cases k with
    | str x => exact .inl ⟨x, rfl, h2⟩
    | _ => simp [skey] at h1
  · exact .inr h
theorem room8 {A : Around} (hu : A.units + 64 < cLine) : A.in1.units + 8 < cLine := by show A.units + 1 + 8 < cLine; omega
theorem tk_ref {c : RC} {H : Hp} {φ : Nat → Addr} {m b : Nat} {k : DV} {y : V} (h : tkey k = true) (r : DR c H φ m b k y) : ∃ a, y = .ref a := by
  cases k with
  | tup xs => unfold DR at r; obtain ⟨a, _, e, _⟩ := r; exact ⟨a, e⟩
  | _ => simp [tkey] at h
section
variable {X : Cx} {ER : List Addr}
/-- y in d -/
theorem dic_in (hu : X.A.units + 64 < cLine) {pins : List (Addr × Obj)} {σ : L2.St} {H : Hp} {s : Shared} {φ : Nat → Addr} {m b : Nat} {a : Addr} {kvs : List (DV × DV)} {k : DV} {y : V} {u : Value} {Q : Value → Shared → Prop} {E : Value → Shared → Prop}
    (I : L2.Inv X pins σ H s) (h : DB (rcx X ER) H φ m b a kvs) (hk : DR (rcx X ER) H φ m b k y) (ry : RelV y u) (ok : dok kvs k = true) (neg : Bool) (q : ∀ s', L2.Inv X pins σ H s' → Q (.bool (neg ^^ dhas kvs k)) s') :
    wpAny (model X.prog X.w) X.A (compareOp (if neg then .NotIn else .In) u (.ref a)) Q E s := by
  have hs := h.2.1
  rcases dok_or ok with ⟨x, e, hall⟩ | ⟨ht, hall⟩
  · subst e
    obtain ⟨ks, vs, dd, rel, r⟩ := dictS I h hall
    unfold DR at hk
    obtain ⟨ey, _⟩ := hk
    subst ey
    have q2 := (rel.val (.inr x : Key)).isSome_eq
    have q3 : (dget kvs (.str x)).isSome = (valV ks (.inr x : Key)).isSome := by
      rcases DRk.get (x := x) r with ⟨e1, e2⟩ | ⟨d, v, e1, e2, _⟩ <;> rw [e1, e2] <;> rfl
    have q' := q _ (I.tok (s.toks + 1))
    rw [dhas_get, q3, q2] at q'
    cases neg with
    | false => exact wpAny_in_of (kV_is (k := .inr x) ry) hs dd.mapOf (by simpa using q')
    | true => exact wpAny_notIn_of (kV_is (k := .inr x) ry) hs dd.mapOf (by simpa using q')
  · obtain ⟨xs, dd, r⟩ := dictN I h hall
    obtain ⟨nk, e1, e2⟩ := tkey_key ht
    obtain ⟨c, ec⟩ := tk_ref ht hk
    subst ec
    cases ry
    have q3 : (dget kvs k).isSome = (atKey xs nk).isSome := by
      rcases DRx.at_ r e1 with ⟨f1, f2⟩ | ⟨d, a', u', vv, f1, f2, _⟩ <;> rw [f1, f2] <;> rfl
    have q' := q _ (I.tok (s.toks + (nestedKind X.prog X.w).draws nk))
    rw [dhas_get, q3] at q'
    cases neg with
    | false => exact wpAny_in_heap (knd := nestedKind X.prog X.w) (room8 hu) (tk_is I e1 e2 hk) hs dd (by simpa using q')
    | true => exact wpAny_notIn_heap (knd := nestedKind X.prog X.w) (room8 hu) (tk_is I e1 e2 hk) hs dd (by simpa using q')
theorem op_cmpIn (hu : X.A.units + 65 < cLine) : OpR X (compareOp .In) (rV2 (rcx X ER) (cmpV .isin)) := by
  intro pins s σ H x y v u Q I rx ry h
  obtain ⟨B, φ, S, dx, dy, d, R, hx, hy, hf, hQ⟩ := h
  replace hf : (cmp .isin (peek S dx) (peek S dy)).map DV.bl = some d := hf
  generalize ey : peek S dy = py at hf
  cases py with
  | dic kvs =>
    rw [cmp_in_dic] at hf
    split at hf
    · rename_i ok
      cases hf
      obtain ⟨a, e, hb⟩ := peek_dic R hy ey
      subst e
      cases ry
      have ex : peek S dx = dx := by
        rcases dok_or ok with ⟨z, e, _⟩ | ⟨ht, _⟩
        · exact e.trans (peek_eq e (fun _ z => nomatch z) (fun _ z => nomatch z)).symm
        · cases e : peek S dx with
          | tup xs => exact (peek_eq e (fun _ z => nomatch z) (fun _ z => nomatch z)).symm
          | _ => rw [e] at ht; simp [tkey] at ht
      rw [ex] at ok hQ
      exact dic_in (by omega) I hb hx rx ok false fun s' I' => ⟨.bl _, H, I', rfl, same R hQ (by simp; rfl)⟩
    · cases hf
  | lst ys =>
    rw [cmp_in_lst] at hf
    split at hf
    · rename_i hz
      cases hf
      obtain ⟨p1, p2, s1, s2⟩ := in_facts R hx hy ey hz
      exact op_inD hu pins s σ H x y v u Q I rx ry ⟨_, _, p1, p2, s1, s2, same R hQ (by rw [List.any_map]; rfl)⟩
    · cases hf
  | _ => exfalso; revert hf; generalize peek S dx = px; intro hf; cases px <;> cases hf
theorem op_cmpNotIn (hu : X.A.units + 65 < cLine) : OpR X (compareOp .NotIn) (rV2 (rcx X ER) (cmpV .notin)) := by
  intro pins s σ H x y v u Q I rx ry h
  obtain ⟨B, φ, S, dx, dy, d, R, hx, hy, hf, hQ⟩ := h
  replace hf : (cmp .notin (peek S dx) (peek S dy)).map DV.bl = some d := hf
  generalize ey : peek S dy = py at hf
  cases py with
  | dic kvs =>
    rw [cmp_notin_dic] at hf
    split at hf
    · rename_i ok
      cases hf
      obtain ⟨a, e, hb⟩ := peek_dic R hy ey
      subst e
      cases ry
      have ex : peek S dx = dx := by
        rcases dok_or ok with ⟨z, e, _⟩ | ⟨ht, _⟩
        · exact e.trans (peek_eq e (fun _ z => nomatch z) (fun _ z => nomatch z)).symm
        · cases e : peek S dx with
          | tup xs => exact (peek_eq e (fun _ z => nomatch z) (fun _ z => nomatch z)).symm
          | _ => rw [e] at ht; simp [tkey] at ht
      rw [ex] at ok hQ
      exact dic_in (by omega) I hb hx rx ok true fun s' I' => ⟨.bl _, H, I', rfl, same R hQ (by simp; rfl)⟩
    · cases hf
  | lst ys =>
    rw [cmp_notin_lst] at hf
    split at hf
    · rename_i hz
      cases hf
      obtain ⟨p1, p2, s1, s2⟩ := in_facts R hx hy ey hz
      exact op_notInD hu pins s σ H x y v u Q I rx ry ⟨_, _, p1, p2, s1, s2, same R hQ (by rw [List.any_map]; rfl)⟩
    · cases hf
  | _ => exfalso; revert hf; generalize peek S dx = px; intro hf; cases px <;> cases hf
theorem op_cmp (hu : X.A.units + 65 < cLine) (op : CO) : OpR X (compareOp op.py) (rV2 (rcx X ER) (cmpV op)) := by
  have h64 : X.A.units + 64 < cLine := by omega
  cases op with
  | eq => exact op_cmpEq h64
  | ne => exact op_cmpNe h64
  | lt => exact op_cmpLt h64
  | le => exact op_cmpLe h64
  | gt => exact op_cmpGt h64
  | ge => exact op_cmpGe h64
  | isin => exact op_cmpIn hu
  | notin => exact op_cmpNotIn hu

/-! ### items -/
theorem atI_map {α β : Type} (f : α → β) (xs : List α) (i : Int) : atI (xs.map f) i = (atI xs i).map f := by
  unfold atI
  rw [List.length_map]
  cases ixN xs.length i with
  | none => rfl
  | some j => simp
theorem DRs.atI {c : RC} {H : Hp} {φ : Nat → Addr} {m b : Nat} {ds : List DV} {vs : List V} {i : Int} {d : DV} (h : DRs c H φ m b ds vs) (q : L2.atI ds i = some d) : ∃ v, L2.atI vs i = some v ∧ DR c H φ m b d v := by
  unfold L2.atI at q ⊢
  rw [← DRs.length h]
  cases e : ixN ds.length i with
  | none => rw [e] at q; cases q
  | some j =>
    rw [e] at q
    obtain ⟨v, h1, h2⟩ := DRs.get (i := j) h q
    exact ⟨v, h1, h2⟩
/-- d[k], there -/
theorem dic_get (hu : X.A.units + 64 < cLine) {pins : List (Addr × Obj)} {σ : L2.St} {H : Hp} {s : Shared} {φ : Nat → Addr} {m b : Nat} {a : Addr} {kvs : List (DV × DV)} {k d : DV} {y : V} {u : Value}
    (I : L2.Inv X pins σ H s) (h : DB (rcx X ER) H φ m b a kvs) (hk : DR (rcx X ER) H φ m b k y) (ry : RelV y u) (ok : dok kvs k = true) (hd : dget kvs k = some d) :
    ∃ w' v, RelV v w' ∧ DR (rcx X ER) H φ m b d v ∧ ∀ {Q : Value → Shared → Prop} {E : Value → Shared → Prop}, (∀ s', L2.Inv X pins σ H s' → Q w' s') → wpAny (model X.prog X.w) X.A (getItem (.ref a) u) Q E s := by
  rcases dok_or ok with ⟨x, e, hall⟩ | ⟨ht, hall⟩
  · subst e
    obtain ⟨ks, vs, dd, rel, r⟩ := dictS I h hall
    unfold DR at hk
    obtain ⟨ey, _⟩ := hk
    subst ey
    rcases DRk.get (x := x) r with ⟨e1, _⟩ | ⟨d', v, e1, e2, e3⟩
    · rw [hd] at e1; cases e1
    · rw [hd] at e1; cases e1
      obtain ⟨w', hw, rw'⟩ := RelO.some_of (v := v) (o := valueAt vs (.inr x)) (by rw [← e2]; exact rel.val _)
      exact ⟨w', v, rw', e3, fun q => wpAny_getItem_of (kV_is (k := .inr x) ry) dd.mapOf hw (q _ (I.tok _))⟩
  · obtain ⟨xs, dd, r⟩ := dictN I h hall
    obtain ⟨nk, e1, e2⟩ := tkey_key ht
    obtain ⟨c, ec⟩ := tk_ref ht hk
    subst ec
    cases ry
    rcases DRx.at_ r e1 with ⟨f1, _⟩ | ⟨d', a', u', vv, f1, f2, f3, f4⟩
    · rw [hd] at f1; cases f1
    · rw [hd] at f1; cases f1
      exact ⟨u', vv, f3, f4, fun q => wpAny_getItem_heap (knd := nestedKind X.prog X.w) (room8 hu) (tk_is I e1 e2 hk) dd f2 (q _ (I.tok _))⟩
theorem sub_int {i : Int} {t : Tok} {d : DV} {S : Store} : True := trivial
theorem op_idx (hu : X.A.units + 64 < cLine) : IxR X (rV2 (rcx X ER) fun S x y => idx (peek S x) y) := by
  intro value slice pins s σ H x y v u Q I rx ry h hsl
  obtain ⟨B, φ, S, dx, dy, d, R, hx, hy, hf, hQ⟩ := h
  replace hf : idx (peek S dx) dy = some d := hf
  generalize ex : peek S dx = px at hf
  unfold idx at hf
  split at hf
  case h_1 xs i =>
    obtain ⟨a, vs, e, t, z, r⟩ := peek_tup hx ex
    unfold DR at hy
    obtain ⟨w, q1, q2⟩ := DRs.atI r hf
    exact ix_tup value slice pins s σ H x y v u Q I rx ry ⟨a, vs, i, w, e, hy, t.sq, q1, same R hQ q2⟩ hsl
  case h_2 xs i =>
    obtain ⟨a, vs, e, t, z, r⟩ := peek_lst R hx ex
    unfold DR at hy
    obtain ⟨w, q1, q2⟩ := DRs.atI r hf
    exact ix_list value slice pins s σ H x y v u Q I rx ry ⟨a, vs, i, w, e, hy, .inl (.inl t), q1, same R hQ q2⟩ hsl
  case h_3 z i =>
    obtain ⟨e, g⟩ := peek_str hx ex
    unfold DR at hy
    cases q : L2.atI z.cps.toList i with
    | none => rw [q] at hf; cases hf
    | some k =>
      rw [q] at hf; cases hf
      obtain ⟨j, _, hj, _⟩ := atI_get q
      exact ix_str value slice pins s σ H x y v u Q I rx ry ⟨z, i, k, e, hy, g.1, q, same R hQ ⟨rfl, sGood_one g hj⟩⟩ hsl
  case h_4 kvs k =>
    split at hf
    · rename_i ok
      obtain ⟨a, e, hb⟩ := peek_dic R hx ex
      subst e
      cases rx
      obtain ⟨w', vv, r1, r2, g⟩ := dic_get hu I hb hy ry ok hf
      obtain ⟨o, ho, hex⟩ := DB.typeIs I hb
      refine subscriptTail_builtinR (x := w') ⟨o, ho, hex.1⟩ PySem.F.slot_dict_getitem.lookup (g fun s' I' => ⟨rfl, vv, H, I', r1, same R hQ r2⟩) hsl
    · cases hf
  all_goals cases hf
end
end DP

namespace DP
open PySem PySem.Spec PyProof.Rows L2

theorem pure_dr {c : RC} {H : Hp} {φ : Nat → Addr} {n b b' : Nat} : True := trivial
section
variable {c : RC} {H : Hp} {φ : Nat → Addr} {n b b' : Nat}
mutual
/-- what has no place within is held at any level -/
theorem DR.level : ∀ (d : DV) (v : V), d.pure = true → DR c H φ n b d v → DR c H φ n b' d v
  | .non, _, _, h => h
  | .bl _, _, _, h => h
  | .int _, _, _, h => h
  | .str _, _, _, h => h
  | .scr _, _, _, h => by unfold DR at h ⊢; exact h
  | .loc _, _, p, _ => by simp [DV.pure] at p
  | .tup xs, v, p, h => by
    unfold DR at h ⊢
    obtain ⟨a, vs, e, t, z, r⟩ := h
    exact ⟨a, vs, e, t, z, DRs.level xs vs (by simpa [DV.pure] using p) r⟩
  | .lst xs, v, p, h => by
    unfold DR at h ⊢
    obtain ⟨a, vs, e, t, hp, z, r⟩ := h
    exact ⟨a, vs, e, t, hp, z, DRs.level xs vs (by simpa [DV.pure] using p) r⟩
  | .dic kvs, v, p, h => by
    unfold DR at h ⊢
    have p' : DV.pured kvs = true := by simpa [DV.pure] using p
    obtain ⟨a, e, hp, z, hs, r⟩ := h
    rcases r with ⟨ks, t, r⟩ | ⟨o, es, ep, xs, t, h1, h2, h3, h4, r⟩
    · exact ⟨a, e, hp, z, hs, .inl ⟨ks, t, DRk.level kvs ks p' r⟩⟩
    · exact ⟨a, e, hp, z, hs, .inr ⟨o, es, ep, xs, t, h1, h2, h3, h4, DRx.level kvs xs p' r⟩⟩
theorem DRs.level : ∀ (ds : List DV) (vs : List V), DV.pures ds = true → DRs c H φ n b ds vs → DRs c H φ n b' ds vs
  | [], _, _, h => h
  | d :: ds, vs, p, h => by
    unfold DRs at h ⊢
    simp only [DV.pures, Bool.and_eq_true] at p
    obtain ⟨v, r, e, h1, h2⟩ := h
    exact ⟨v, r, e, DR.level d v p.1 h1, DRs.level ds r p.2 h2⟩
theorem DRk.level : ∀ (ds : List (DV × DV)) (vs : List (Key × V)), DV.pured ds = true → DRk c H φ n b ds vs → DRk c H φ n b' ds vs
  | [], _, _, h => h
  | (k, v) :: ds, vs, p, h => by
    unfold DRk at h ⊢
    simp only [DV.pured, Bool.and_eq_true] at p
    obtain ⟨x, u, q, e, hk, h1, h2⟩ := h
    exact ⟨x, u, q, e, hk, DR.level v u p.1.2 h1, DRk.level ds q p.2 h2⟩
theorem DRx.level : ∀ (ds : List (DV × DV)) (vs : List (NestedKey × Addr × Value)), DV.pured ds = true → DRx c H φ n b ds vs → DRx c H φ n b' ds vs
  | [], _, _, h => h
  | (k, v) :: ds, vs, p, h => by
    unfold DRx at h ⊢
    simp only [DV.pured, Bool.and_eq_true] at p
    obtain ⟨nk, a, u, vv, q, e, hk, hd, h0, r, h1, h2⟩ := h
    exact ⟨nk, a, u, vv, q, e, hk, hd, DR.level k _ p.1.1 h0, r, DR.level v vv p.1.2 h1, DRx.level ds q p.2 h2⟩
end
end
mutual
theorem below_pure (n : Nat) : ∀ d : DV, d.pure = true → below n d = true
  | .non, _ => rfl
  | .bl _, _ => rfl
  | .int _, _ => rfl
  | .str _, _ => rfl
  | .scr _, _ => rfl
  | .loc _, p => by simp [DV.pure] at p
  | .tup xs, p => by simp only [below]; exact belows_pure n xs (by simpa [DV.pure] using p)
  | .lst xs, p => by simp only [below]; exact belows_pure n xs (by simpa [DV.pure] using p)
  | .dic kvs, p => by simp only [below]; exact belowd_pure n kvs (by simpa [DV.pure] using p)
theorem belows_pure (n : Nat) : ∀ d : List DV, DV.pures d = true → belows n d = true
  | [], _ => rfl
  | x :: xs, p => by
    simp only [DV.pures, Bool.and_eq_true] at p
    simp only [belows, below_pure n x p.1, belows_pure n xs p.2, Bool.and_self]
theorem belowd_pure (n : Nat) : ∀ d : List (DV × DV), DV.pured d = true → belowd n d = true
  | [], _ => rfl
  | (k, v) :: xs, p => by
    simp only [DV.pured, Bool.and_eq_true] at p
    simp only [belowd, below_pure n k p.1.1, below_pure n v p.1.2, belowd_pure n xs p.2, Bool.and_self]
end
/-- a value that fits -/
theorem fits_below {b0 i b : Nat} {d : DV} (f : fits b0 i d = true) (hb : b ≤ b0) (hi : i < b) : below b d = true := by
  unfold fits at f
  rw [Bool.or_eq_true, decide_eq_true_eq] at f
  rcases f with f | f
  · omega
  · exact below_pure b d f
theorem belows_append (n : Nat) : ∀ xs ys : List DV, belows n (xs ++ ys) = (belows n xs && belows n ys)
  | [], ys => rfl
  | x :: xs, ys => by rw [List.cons_append, belows, belows, belows_append n xs ys, Bool.and_assoc]
theorem belows_all (n : Nat) : ∀ xs : List DV, belows n xs = xs.all (below n)
  | [] => rfl
  | x :: xs => by rw [belows, belows_all n xs]; rfl
theorem belowd_all (n : Nat) : ∀ xs : List (DV × DV), belowd n xs = xs.all fun p => below n p.1 && below n p.2
  | [] => rfl
  | (k, v) :: xs => by rw [belowd, belowd_all n xs]; rfl
theorem belowd_put {n : Nat} {kvs : List (DV × DV)} {k v : DV} (h : belowd n kvs = true) (hk : below n k = true) (hv : below n v = true) : belowd n (dput kvs k v) = true := by
  rw [belowd_all, List.all_eq_true] at h ⊢
  unfold dput
  split
  · intro p hp
    obtain ⟨q, hq, e⟩ := List.mem_map.mp hp
    have := h q hq
    rw [Bool.and_eq_true] at this
    subst e
    split
    · rw [this.1, hv]; rfl
    · rw [this.1, this.2]; rfl
  · intro p hp
    rcases List.mem_append.mp hp with hp | hp
    · exact h p hp
    · have e : p = (k, v) := by simpa using hp
      subst e
      rw [hk, hv]; rfl
theorem belowd_del {n : Nat} {kvs : List (DV × DV)} {k : DV} (h : belowd n kvs = true) : belowd n (ddel kvs k) = true := by
  rw [belowd_all, List.all_eq_true] at h ⊢
  exact fun p hp => h p (List.mem_filter.mp hp).1
theorem key_pure : ∀ (d : DV) (k : NestedKey), DV.key d = some k → True := fun _ _ _ => trivial
mutual
theorem pure_of_key : ∀ (d : DV) (k : NestedKey), DV.key d = some k → d.pure = true
  | .non, _, _ => rfl
  | .int _, _, _ => rfl
  | .str _, _, _ => rfl
  | .bl _, _, h | .lst _, _, h | .dic _, _, h | .loc _, _, h | .scr _, _, h => by simp [DV.key] at h
  | .tup xs, k, h => by
    simp only [DV.key] at h
    cases e : DV.keys xs with
    | none => rw [e] at h; cases h
    | some ks => simp only [DV.pure]; exact pures_of_keys xs ks e
theorem pures_of_keys : ∀ (d : List DV) (k : List NestedKey), DV.keys d = some k → DV.pures d = true
  | [], _, _ => rfl
  | x :: xs, k, h => by
    simp only [DV.keys] at h
    split at h
    · rename_i k0 ks0 e1 e2
      simp only [DV.pures, pure_of_key x k0 e1, pures_of_keys xs ks0 e2, Bool.and_self]
    · cases h
end
theorem tkey_pure {k : DV} (h : tkey k = true) : k.pure = true := by
  obtain ⟨nk, e, _⟩ := tkey_key h
  exact pure_of_key k nk e

theorem dok_pure {kvs : List (DV × DV)} {k : DV} (h : dok kvs k = true) : k.pure = true := by
  rcases dok_or h with ⟨x, e, _⟩ | ⟨ht, _⟩
  · subst e; rfl
  · exact tkey_pure ht
section
variable {X : Cx} {ER : List Addr} {pins : List (Addr × Obj)} {σ : L2.St} {s : Shared} {B : Nat → Prop} {H : Hp} {φ : Nat → Addr} {S : Store}
theorem dHo_ok {P : Program} {w : World} {H' : Hp} {h : Heap} {a : Addr} {o : Obj} (e : h.get? a = some o) : ObjOk P w H' h a (dHo a o) := ⟨e, ⟨o, e⟩, fun h1 h2 q k => k o q⟩
/-- the dict at place i is put kvs[k] = v -/
theorem dic_put (hu : X.A.units + 64 < cLine) {b0 : Nat} (hB : ∀ b, B b → b ≤ b0) (I : L2.Inv X pins σ H s) (R : Rel (rcx X ER) B H φ S) {i : Nat} {kvs : List (DV × DV)} (hi : S[i]? = some (.dic kvs)) {k d : DV} {y v : V} {u w : Value}
    (hk : DR (rcx X ER) H φ S.length S.length k y) (hv : DR (rcx X ER) H φ S.length S.length d v) (ry : RelV y u) (rv : RelV v w) (ok : dok kvs k = true) (hf : fits b0 i d = true) (hz : kvs.length < sizeLine) {Q : Unit → Shared → Prop} {E : Value → Shared → Prop}
    (q : ∀ s' H', L2.Inv X pins σ H' s' → Fut H φ S.length H' φ S.length → Rel (rcx X ER) B H' φ (S.set i (.dic (dput kvs k d))) → Q () s') :
    wpAny (model X.prog X.w) X.A (setItem (.ref (φ i)) u w) Q E s := by
  have hl := (List.getElem?_eq_some_iff.mp hi).1
  have h0 : DB (rcx X ER) H φ S.length S.length (φ i) kvs := R.at_ i _ hi
  have hlow : ∀ b, B b → i < b → (MO.dic (dput kvs k d)).below b = true := fun b hb h => belowd_put (R.low b hb i _ h hi) (below_pure b k (dok_pure ok)) (fits_below hf (hB b hb) h)
  have hs := h0.2.1
  have hz' : (dput kvs k d).length ≤ sizeLine := by have := dput_length kvs k d; omega
  have mu : Mut (H (φ i)) := by obtain ⟨o, e, m, _⟩ := R.there hl; rw [e]; exact m
  have fw : ∀ o, Fut H φ S.length (upd H (φ i) o) φ S.length := fun o => Fut.write R hl
  rcases dok_or ok with ⟨x, e, hall⟩ | ⟨ht, hall⟩
  · subst e
    obtain ⟨ks, vs, dd, rel, r⟩ := dictS I h0 hall
    have ey : y = .str x := by unfold DR at hk; exact hk.1
    subst ey
    have hvz : vs.length ≤ sizeLine := by rw [← rel.length, ← DRk.length r]; omega
    refine wpAny_setItem_pairs (hsz := hvz) (kV_is (k := .inr x) ry) dd fun h' dd' hsb => ?_
    have he : ∃ q, h'.get? (φ i) = some q := let ⟨q, _, _, hq, _⟩ := dd'; ⟨q, hq⟩
    have hpl : (putK ks (.inr x : Key) v).length ≤ sizeLine := by
      have h1 := length_putK ks (.inr x : Key) v
      have h2 := DRk.length r
      omega
    refine q _ (upd H (φ i) (.dK (putK ks (.inr x) v))) (d_write I mu hsb he (dk_new hpl hs (rel.put _ rv) dd')) (fw _) (R.write hl ?_ hlow)
    exact ⟨hz', hs, .inl ⟨_, upd_same, DRk.mono (fw _) (Nat.le_refl _) (Nat.le_refl _) _ _ (DRk.put r hv (by unfold DR at hk; exact hk.2))⟩⟩
  · obtain ⟨xs, dd, r⟩ := dictN I h0 hall
    obtain ⟨nk, e1, e2⟩ := tkey_key ht
    obtain ⟨c, ec⟩ := tk_ref ht hk
    subst ec
    cases ry
    have hxz : xs.length ≤ sizeLine := by rw [← DRx.length r]; omega
    refine wpAny_setItem_heap (knd := nestedKind X.prog X.w) (hsz := hxz) (room8 hu) (tk_is I e1 e2 hk) dd fun h' dd' hsb => ?_
    obtain ⟨o, es, ep, g1, g2, g3, g4, _, g6⟩ := dd'
    refine q _ (upd H (φ i) (dHo (φ i) o)) (d_write I mu hsb ⟨o, g1⟩ (dHo_ok g1)) (fw _) (R.write hl ?_ hlow)
    exact ⟨hz', hs, .inr ⟨o, es, ep, _, upd_same, g2, g3, g4, g6, DRx.mono (fw _) (Nat.le_refl _) (Nat.le_refl _) _ _ (DRx.put r e1 e2 hk rv hv)⟩⟩
/-- k of the dict at place i popped, there -/
theorem dic_pop (hu : X.A.units + 64 < cLine) (I : L2.Inv X pins σ H s) (R : Rel (rcx X ER) B H φ S) {i : Nat} {kvs : List (DV × DV)} (hi : S[i]? = some (.dic kvs)) {k d : DV} {y : V} {u : Value} {more : List Value}
    (hk : DR (rcx X ER) H φ S.length S.length k y) (ry : RelV y u) (ok : dok kvs k = true) (hd : dget kvs k = some d) (hm : more = [] ∨ ∃ x, more = [x]) {Q : Value → Shared → Prop} {E : Value → Shared → Prop}
    (q : ∀ s' H' w v, L2.Inv X pins σ H' s' → Fut H φ S.length H' φ S.length → Rel (rcx X ER) B H' φ (S.set i (.dic (ddel kvs k))) → RelV v w → DR (rcx X ER) H' φ S.length S.length d v → Q w s') :
    wpAny (model X.prog X.w) X.A (call (.builtin "dict.pop") (.ref (φ i) :: u :: more)) Q E s := by
  have hl := (List.getElem?_eq_some_iff.mp hi).1
  have h0 : DB (rcx X ER) H φ S.length S.length (φ i) kvs := R.at_ i _ hi
  have hlow : ∀ b, B b → i < b → (MO.dic (ddel kvs k)).below b = true := fun b hb h => belowd_del (R.low b hb i _ h hi)
  have hs := h0.2.1
  have hz := h0.1
  have hz' : (ddel kvs k).length ≤ sizeLine := Nat.le_trans (ddel_length kvs k) hz
  have mu : Mut (H (φ i)) := by obtain ⟨o, e, m, _⟩ := R.there hl; rw [e]; exact m
  have fw : ∀ o, Fut H φ S.length (upd H (φ i) o) φ S.length := fun o => Fut.write R hl
  have ha : argsOk "dict.pop" ⟨.ref (φ i) :: u :: more, []⟩ := by
    rcases hm with q | ⟨x, q⟩
    · subst q; exact PySem.F.args_dict_pop_2 _ _
    · subst q; exact PySem.F.args_dict_pop_3 _ _ _
  rcases dok_or ok with ⟨x, e, hall⟩ | ⟨ht, hall⟩
  · subst e
    obtain ⟨ks, vs, dd, rel, r⟩ := dictS I h0 hall
    have ey : y = .str x := by unfold DR at hk; exact hk.1
    subst ey
    have hvz : vs.length ≤ sizeLine := by rw [← rel.length, ← DRk.length r]; exact hz
    rcases DRk.get (x := x) r with ⟨f1, _⟩ | ⟨d', v, f1, f2, f3⟩
    · rw [hd] at f1; cases f1
    rw [hd] at f1; cases f1
    obtain ⟨w', hw, rw'⟩ := RelO.some_of (v := v) (o := valueAt vs (.inr x)) (by rw [← f2]; exact rel.val _)
    have hp : (keyPart u).isSome = true := by obtain ⟨t, rfl⟩ := ry; rfl
    refine call_meetsIn PySem.F.slot_dict_pop dd.typeIs PySem.F.entry_dict_pop ha (meets_dict_pop_there (mixKind X.prog X.w) (φ i) (kV_is (k := .inr x) ry) more hm hp) ⟨vs, w', dd, hvz, hw, fun h' dd' hsb => ?_⟩
    have he : ∃ q, h'.get? (φ i) = some q := let ⟨q, _, _, hq, _⟩ := dd'; ⟨q, hq⟩
    have hpl : (dropK ks (.inr x : Key)).length ≤ sizeLine := by
      have h1 := dropK_le ks (.inr x : Key)
      have h2 := DRk.length r
      omega
    refine q _ (upd H (φ i) (.dK (dropK ks (.inr x)))) w' v (d_write I mu hsb he (dk_new hpl hs (rel.drop _) dd')) (fw _) (R.write hl ?_ hlow) rw' (DR.mono (fw _) (Nat.le_refl _) (Nat.le_refl _) _ _ f3)
    exact ⟨hz', hs, .inl ⟨_, upd_same, DRk.mono (fw _) (Nat.le_refl _) (Nat.le_refl _) _ _ (DRk.del r)⟩⟩
  · obtain ⟨xs, dd, r⟩ := dictN I h0 hall
    obtain ⟨nk, e1, e2⟩ := tkey_key ht
    obtain ⟨c, ec⟩ := tk_ref ht hk
    subst ec
    cases ry
    have hxz : xs.length ≤ sizeLine := by rw [← DRx.length r]; exact hz
    rcases DRx.at_ r e1 with ⟨f1, _⟩ | ⟨d', a', u', vv, f1, f2, f3, f4⟩
    · rw [hd] at f1; cases f1
    rw [hd] at f1; cases f1
    refine call_pop_heap (knd := nestedKind X.prog X.w) (hsz := hxz) hm ha (room8 hu) (tk_is I e1 e2 hk) hs dd f2 fun h' dd' hsb => ?_
    obtain ⟨o, es, ep, g1, g2, g3, g4, _, g6⟩ := dd'
    refine q _ (upd H (φ i) (dHo (φ i) o)) u' vv (d_write I mu hsb ⟨o, g1⟩ (dHo_ok g1)) (fw _) (R.write hl ?_ hlow) f3 (DR.mono (fw _) (Nat.le_refl _) (Nat.le_refl _) _ _ f4)
    exact ⟨hz', hs, .inr ⟨o, es, ep, _, upd_same, g2, g3, g4, g6, DRx.mono (fw _) (Nat.le_refl _) (Nat.le_refl _) _ _ (DRx.del r e1)⟩⟩
/-- k isn't there -/
theorem dic_popD (hu : X.A.units + 64 < cLine) {m b : Nat} {a : Addr} (I : L2.Inv X pins σ H s) {kvs : List (DV × DV)} (h0 : DB (rcx X ER) H φ m b a kvs) {k : DV} {y : V} {u r : Value}
    (hk : DR (rcx X ER) H φ m b k y) (ry : RelV y u) (ok : dok kvs k = true) (hd : dget kvs k = none) {Q : Value → Shared → Prop} {E : Value → Shared → Prop} (q : ∀ s', L2.Inv X pins σ H s' → Q r s') :
    wpAny (model X.prog X.w) X.A (call (.builtin "dict.pop") [.ref a, u, r]) Q E s := by
  have hs := h0.2.1
  have hz := h0.1
  rcases dok_or ok with ⟨x, e, hall⟩ | ⟨ht, hall⟩
  · subst e
    obtain ⟨ks, vs, dd, rel, rr⟩ := dictS I h0 hall
    have ey : y = .str x := by unfold DR at hk; exact hk.1
    subst ey
    rcases DRk.get (x := x) rr with ⟨f1, f2⟩ | ⟨d', v, f1, f2, f3⟩
    · have hn : valueAt vs (.inr x : Key) = none := RelO.none_of (by rw [← f2]; exact rel.val _)
      have hp : (keyPart u).isSome = true := by obtain ⟨t, rfl⟩ := ry; rfl
      exact call_meetsIn PySem.F.slot_dict_pop dd.typeIs PySem.F.entry_dict_pop (PySem.F.args_dict_pop_3 _ _ _) (meets_dict_pop_default (mixKind X.prog X.w) a (kV_is (k := .inr x) ry) hs hp r) ⟨vs, dd, hn, q _ (I.tok _)⟩
    · rw [hd] at f1; cases f1
  · obtain ⟨xs, dd, rr⟩ := dictN I h0 hall
    obtain ⟨nk, e1, e2⟩ := tkey_key ht
    obtain ⟨c, ec⟩ := tk_ref ht hk
    subst ec
    cases ry
    have hxz : xs.length ≤ sizeLine := by rw [← DRx.length rr]; exact hz
    rcases DRx.at_ rr e1 with ⟨f1, f2⟩ | ⟨d', a', u', vv, f1, f2, f3, f4⟩
    · exact call_pop_default_heap (knd := nestedKind X.prog X.w) (hsz := hxz) (room8 hu) (tk_is I e1 e2 hk) hs dd f2 fun tk => q _ (I.tok tk)
    · rw [hd] at f1; cases f1
/-- d.get(k), d.get(k, x) -/
theorem dic_get1 (hu : X.A.units + 64 < cLine) {m b : Nat} {a : Addr} (I : L2.Inv X pins σ H s) {kvs : List (DV × DV)} (h0 : DB (rcx X ER) H φ m b a kvs) {k : DV} {y : V} {u : Value}
    (hk : DR (rcx X ER) H φ m b k y) (ry : RelV y u) (ok : dok kvs k = true) (df : Option (DV × V × Value)) (hdf : ∀ p, df = some p → DR (rcx X ER) H φ m b p.1 p.2.1 ∧ RelV p.2.1 p.2.2) {Q : Value → Shared → Prop} {E : Value → Shared → Prop}
    (q : ∀ s' w v, L2.Inv X pins σ H s' → RelV v w → DR (rcx X ER) H φ m b ((dget kvs k).getD ((df.map (·.1)).getD .non)) v → Q w s') :
    wpAny (model X.prog X.w) X.A (call (.builtin "dict.get") (.ref a :: u :: (df.map (·.2.2)).toList)) Q E s := by
  have hs := h0.2.1
  have hz := h0.1
  have fin : ∀ (o : Option Value), (dget kvs k = none ∧ o = none ∨ ∃ d v w, dget kvs k = some d ∧ o = some w ∧ RelV v w ∧ DR (rcx X ER) H φ m b d v) → ∀ s', L2.Inv X pins σ H s' → Q (o.getD ((df.map (·.2.2)).getD .none)) s' := by
    intro o ho s' I'
    rcases ho with ⟨e1, e2⟩ | ⟨d, v, w, e1, e2, e3, e4⟩
    · subst e2
      cases df with
      | none => exact q s' _ .non I' rfl (by rw [e1]; rfl)
      | some p => obtain ⟨g1, g2⟩ := hdf p rfl; exact q s' _ p.2.1 I' g2 (by rw [e1]; exact g1)
    · subst e2
      exact q s' w v I' e3 (by rw [e1]; exact e4)
  rcases dok_or ok with ⟨x, e, hall⟩ | ⟨ht, hall⟩
  · subst e
    obtain ⟨ks, vs, dd, rel, rr⟩ := dictS I h0 hall
    have ey : y = .str x := by unfold DR at hk; exact hk.1
    subst ey
    have ho : (dget kvs (.str x) = none ∧ valueAt vs (.inr x : Key) = none) ∨ ∃ d v w, dget kvs (.str x) = some d ∧ valueAt vs (.inr x : Key) = some w ∧ RelV v w ∧ DR (rcx X ER) H φ m b d v := by
      rcases DRk.get (x := x) rr with ⟨f1, f2⟩ | ⟨d', v, f1, f2, f3⟩
      · exact .inl ⟨f1, RelO.none_of (by rw [← f2]; exact rel.val _)⟩
      · obtain ⟨w', hw, rw'⟩ := RelO.some_of (v := v) (o := valueAt vs (.inr x)) (by rw [← f2]; exact rel.val _)
        exact .inr ⟨d', v, w', f1, hw, rw', f3⟩
    have f := fin _ ho _ (I.tok (s.toks + 1))
    cases df with
    | none => exact call_meetsIn PySem.F.slot_dict_get dd.typeIs PySem.F.entry_dict_get (PySem.F.args_dict_get_2 _ _) (meets_dict_get (mixKind X.prog X.w) a (kV_is (k := .inr x) ry) hs) ⟨_, dd.mapOf, f⟩
    | some p => exact call_meetsIn PySem.F.slot_dict_get dd.typeIs PySem.F.entry_dict_get (PySem.F.args_dict_get_3 _ _ _) (meets_dict_get_default (mixKind X.prog X.w) a (kV_is (k := .inr x) ry) hs p.2.2) ⟨_, dd.mapOf, f⟩
  · obtain ⟨xs, dd, rr⟩ := dictN I h0 hall
    obtain ⟨nk, e1, e2⟩ := tkey_key ht
    obtain ⟨c, ec⟩ := tk_ref ht hk
    subst ec
    cases ry
    have ho : (dget kvs k = none ∧ (atKey xs nk).map (·.2) = none) ∨ ∃ d v w, dget kvs k = some d ∧ (atKey xs nk).map (·.2) = some w ∧ RelV v w ∧ DR (rcx X ER) H φ m b d v := by
      rcases DRx.at_ rr e1 with ⟨f1, f2⟩ | ⟨d', a', u', vv, f1, f2, f3, f4⟩
      · exact .inl ⟨f1, by rw [f2]; rfl⟩
      · exact .inr ⟨d', vv, u', f1, by rw [f2]; rfl, f3, f4⟩
    have f := fin _ ho _ (I.tok (s.toks + (nestedKind X.prog X.w).draws nk))
    cases df with
    | none => exact call_meetsIn PySem.F.slot_dict_get dd.typeIs PySem.F.entry_dict_get (PySem.F.args_dict_get_2 _ _) (meetsH_dict_get (nestedKind X.prog X.w) a _ hs) ⟨room8 hu, nk, xs, tk_is I e1 e2 hk, dd, f⟩
    | some p => exact call_meetsIn PySem.F.slot_dict_get dd.typeIs PySem.F.entry_dict_get (PySem.F.args_dict_get_3 _ _ _) (meetsH_dict_get_default (nestedKind X.prog X.w) a _ hs p.2.2) ⟨room8 hu, nk, xs, tk_is I e1 e2 hk, dd, f⟩
end
end DP

namespace DP
open PySem PySem.Spec PyProof.Rows L2

theorem belows_set {n : Nat} {xs : List DV} {j : Nat} {v : DV} (h : belows n xs = true) (hv : below n v = true) : belows n (xs.set j v) = true := by
  rw [belows_all, List.all_eq_true] at h ⊢
  intro x hx
  rcases List.mem_or_eq_of_mem_set hx with q | q
  · exact h x q
  · subst q; exact hv
theorem belows_erase {n : Nat} {xs : List DV} {j : Nat} (h : belows n xs = true) : belows n (xs.eraseIdx j) = true := by
  rw [belows_all, List.all_eq_true] at h ⊢
  exact fun x hx => h x (List.mem_of_mem_eraseIdx hx)
theorem belows_fits {b0 i b : Nat} {ds : List DV} (f : ds.all (fits b0 i) = true) (hb : b ≤ b0) (hi : i < b) : belows b ds = true := by
  rw [belows_all, List.all_eq_true]
  exact fun x hx => fits_below (List.all_eq_true.mp f x hx) hb hi
theorem ixN_seq {n : Nat} {i : Int} {j : Nat} (h : L2.ixN n i = some j) (hn : n ≤ sizeLine) : seqIndex? i n = some j ∧ j < n ∧ -(2 ^ 63) ≤ i ∧ i < 2 ^ 63 := by
  have q : L2.atI (List.range n) i = some j := by
    unfold L2.atI
    rw [List.length_range, h]
    have : j < n := by
      unfold L2.ixN at h
      split at h
      · split at h
        · cases h; omega
        · cases h
      · split at h
        · cases h; omega
        · cases h
    simp [this]
  obtain ⟨k, h1, h2, h3, h4, h5⟩ := atI_get q
  rw [List.length_range] at h1 h3 h4 h5
  have e : k = j := by
    have := List.getElem?_range (n := n) (i := k) (by first | exact h3 | omega)
    rw [h2] at this
    exact (Option.some.inj this).symm
  subst e
  have hl := line63
  exact ⟨h1, by first | exact h3 | omega, by omega, by omega⟩

section
variable {c : RC} {B : Nat → Prop} {H H' : Hp} {φ : Nat → Addr} {S : Store}
theorem DRs.one {m b : Nat} {d : DV} {vs : List V} (h : DRs c H φ m b [d] vs) : ∃ v, vs = [v] ∧ DR c H φ m b d v := by
  unfold DRs at h
  obtain ⟨v, r, e, h1, h2⟩ := h
  unfold DRs at h2
  subst h2
  exact ⟨v, e, h1⟩
theorem DRs.two {m b : Nat} {d d' : DV} {vs : List V} (h : DRs c H φ m b [d, d'] vs) : ∃ v v', vs = [v, v'] ∧ DR c H φ m b d v ∧ DR c H φ m b d' v' := by
  unfold DRs at h
  obtain ⟨v, r, e, h1, h2⟩ := h
  obtain ⟨v', e', h3⟩ := DRs.one h2
  subst e'
  exact ⟨v, v', e, h1, h3⟩
theorem DRs.set {m b : Nat} : ∀ {ds : List DV} {vs : List V} {d : DV} {v : V}, DRs c H φ m b ds vs → DR c H φ m b d v → ∀ j, DRs c H φ m b (ds.set j d) (vs.set j v)
  | [], vs, d, v, h, r, j => by unfold DRs at h; subst h; exact rfl
  | x :: xs, vs, d, v, h, r, j => by
    unfold DRs at h
    obtain ⟨u, q, e, h1, h2⟩ := h
    subst e
    cases j with
    | zero => exact ⟨v, q, rfl, r, h2⟩
    | succ j => exact ⟨u, q.set j v, rfl, h1, DRs.set h2 r j⟩
theorem DRs.erase {m b : Nat} : ∀ {ds : List DV} {vs : List V}, DRs c H φ m b ds vs → ∀ j, DRs c H φ m b (ds.eraseIdx j) (vs.eraseIdx j)
  | [], vs, h, j => by unfold DRs at h; subst h; exact rfl
  | x :: xs, vs, h, j => by
    unfold DRs at h
    obtain ⟨u, q, e, h1, h2⟩ := h
    subst e
    cases j with
    | zero => exact h2
    | succ j => exact ⟨u, q.eraseIdx j, rfl, h1, DRs.erase h2 j⟩
theorem After.set {i : Nat} {mo : MO} {k : Hp → (Nat → Addr) → Prop} (h : After c B H φ S.length (S.set i mo) k) (f : Fut H φ S.length H' φ S.length) (R : Rel c B H' φ (S.set i mo)) : k H' φ :=
  h H' φ (by rw [List.length_set]; exact f) R
theorem Rel.lstAt (R : Rel c B H φ S) {n : Nat} {xs : List DV} (hi : S[n]? = some (.lst xs)) : n < S.length ∧ xs.length ≤ sizeLine ∧ ∃ vs, H (φ n) = some (.lst vs) ∧ DRs c H φ S.length S.length xs vs := by
  obtain ⟨vs, e, z, r⟩ := R.at_ n _ hi
  exact ⟨(List.getElem?_eq_some_iff.mp hi).1, z, vs, e, r⟩
/-- the list at n becomes ys -/
theorem Rel.putL (R : Rel c B H φ S) {n : Nat} {xs ys : List DV} {us : List V} (hi : S[n]? = some (.lst xs)) (hz : ys.length ≤ sizeLine) (r : DRs c H φ S.length S.length ys us) (hl : ∀ b, B b → n < b → belows b ys = true) :
    Fut H φ S.length (upd H (φ n) (.lst us)) φ S.length ∧ Rel c B (upd H (φ n) (.lst us)) φ (S.set n (.lst ys)) := by
  have h := (List.getElem?_eq_some_iff.mp hi).1
  exact ⟨Fut.write R h, R.write h ⟨us, upd_same, hz, DRs.mono (Fut.write R h) (Nat.le_refl _) (Nat.le_refl _) _ _ r⟩ hl⟩
theorem Rel.lowL (R : Rel c B H φ S) {n : Nat} {xs : List DV} (hi : S[n]? = some (.lst xs)) {b : Nat} (hb : B b) (hn : n < b) : belows b xs = true := R.low b hb n _ hn hi
end

def rM (c : RC) (b0 : Nat) (f : MF) (k : Kd) : V → List V → Hp → VK → Prop := fun x vs H Q =>
  ∃ B φ S o as d S', (∀ b, B b → b ≤ b0) ∧ Rel c B H φ S ∧ DR c H φ S.length S.length o x ∧ DRs c H φ S.length S.length as vs ∧ meth b0 f k o as S = .ok d S' ∧
    After c B H φ S.length S' fun H' φ' => ∀ v, DR c H' φ' S'.length S'.length d v → Q v H'
def Kd.ty : Kd → String
  | .lst => "list" | .dic => "dict" | .str => "str"
section
variable {X : Cx} {ER : List Addr} {b0 : Nat}
theorem meth_app {o d : DV} {as : List DV} {S S' : Store} (h : meth b0 .append .lst o as S = .ok d S') : ∃ v n xs, as = [v] ∧ o = .loc n ∧ S[n]? = some (.lst xs) ∧ fits b0 n v = true ∧ xs.length < sizeLine ∧ d = .non ∧ S' = S.set n (.lst (xs ++ [v])) := by
  rcases as with _ | ⟨v, _ | ⟨w, r⟩⟩
  · cases h
  · simp only [meth] at h
    split at h
    · rename_i n
      split at h
      · rename_i xs hn
        split at h
        · rename_i hz
          simp only [Bool.and_eq_true, decide_eq_true_eq] at hz
          cases h
          exact ⟨v, n, xs, rfl, rfl, hn, hz.1, hz.2, rfl, rfl⟩
        · cases h
      · cases h
    · cases h
  · cases h
theorem meth_ext {o d : DV} {as : List DV} {S S' : Store} (h : meth b0 .extend .lst o as S = .ok d S') : ∃ v n xs ys, as = [v] ∧ o = .loc n ∧ S[n]? = some (.lst xs) ∧ peek S v = .lst ys ∧ ys.all (fits b0 n) = true ∧ xs.length + ys.length ≤ sizeLine ∧ d = .non ∧ S' = S.set n (.lst (xs ++ ys)) := by
  rcases as with _ | ⟨v, _ | ⟨w, r⟩⟩
  · cases h
  · simp only [meth] at h
    split at h
    · rename_i n
      split at h
      · rename_i xs ys hn hv
        split at h
        · rename_i hz
          simp only [Bool.and_eq_true, decide_eq_true_eq] at hz
          cases h
          exact ⟨v, n, xs, ys, rfl, rfl, hn, hv, hz.1, hz.2, rfl, rfl⟩
        · cases h
      · cases h
    · cases h
  · cases h
theorem meth_popL {o d : DV} {as : List DV} {S S' : Store} (h : meth b0 .pop1 .lst o as S = .ok d S') : ∃ i n xs j, as = [.int i] ∧ o = .loc n ∧ S[n]? = some (.lst xs) ∧ L2.ixN xs.length i = some j ∧ L2.atI xs i = some d ∧ S' = S.set n (.lst (xs.eraseIdx j)) := by
  rcases as with _ | ⟨v, _ | ⟨w, r⟩⟩
  · cases h
  · cases v with
    | int i =>
      simp only [meth] at h
      split at h
      · rename_i n
        split at h
        · rename_i xs hn
          split at h
          · rename_i j v hj hv
            split at h
            · cases h
              exact ⟨i, n, xs, j, rfl, rfl, hn, hj, hv, rfl⟩
            · cases h
          · cases h
        · cases h
      · cases h
    | _ => cases h
  · cases v <;> cases h
theorem meth_popD {o d : DV} {as : List DV} {S S' : Store} (h : meth b0 .pop1 .dic o as S = .ok d S') : ∃ k n kvs, as = [k] ∧ o = .loc n ∧ S[n]? = some (.dic kvs) ∧ dok kvs k = true ∧ dget kvs k = some d ∧ S' = S.set n (.dic (ddel kvs k)) := by
  rcases as with _ | ⟨v, _ | ⟨w, r⟩⟩
  · cases h
  · simp only [meth] at h
    split at h
    · rename_i n
      split at h
      · rename_i kvs hn
        split at h
        · rename_i j hj hv
          cases h
          exact ⟨v, n, kvs, rfl, rfl, hn, hj, hv, rfl⟩
        · cases h
      · cases h
    · cases h
  · cases h
theorem meth_popD2 {o d : DV} {as : List DV} {S S' : Store} (h : meth b0 .pop2 .dic o as S = .ok d S') : ∃ k z n kvs, as = [k, z] ∧ o = .loc n ∧ S[n]? = some (.dic kvs) ∧ dok kvs k = true ∧ ((dget kvs k = some d ∧ S' = S.set n (.dic (ddel kvs k))) ∨ (dget kvs k = none ∧ d = z ∧ S' = S)) := by
  rcases as with _ | ⟨v, _ | ⟨w, _ | ⟨u, r⟩⟩⟩
  · cases h
  · cases h
  · simp only [meth] at h
    split at h
    · rename_i n
      split at h
      · rename_i kvs hn
        split at h
        · rename_i ok
          split at h
          · rename_i j hj
            cases h
            exact ⟨v, w, n, kvs, rfl, rfl, hn, ok, .inl ⟨hj, rfl⟩⟩
          · rename_i hj
            cases h
            exact ⟨v, _, n, kvs, rfl, rfl, hn, ok, .inr ⟨hj, rfl, rfl⟩⟩
        · cases h
      · cases h
    · cases h
  · cases h
theorem meth_get1 {o d : DV} {as : List DV} {S S' : Store} (h : meth b0 .get1 .dic o as S = .ok d S') : ∃ k kvs, as = [k] ∧ peek S o = .dic kvs ∧ dok kvs k = true ∧ d = (dget kvs k).getD .non ∧ S' = S := by
  rcases as with _ | ⟨v, _ | ⟨w, r⟩⟩
  · cases h
  · simp only [meth] at h
    split at h
    · rename_i kvs hn
      split at h
      · rename_i ok
        cases h
        exact ⟨v, kvs, rfl, hn, ok, rfl, rfl⟩
      · cases h
    · cases h
  · cases h
theorem meth_get2 {o d : DV} {as : List DV} {S S' : Store} (h : meth b0 .get2 .dic o as S = .ok d S') : ∃ k z kvs, as = [k, z] ∧ peek S o = .dic kvs ∧ dok kvs k = true ∧ d = (dget kvs k).getD z ∧ S' = S := by
  rcases as with _ | ⟨v, _ | ⟨w, _ | ⟨u, r⟩⟩⟩
  · cases h
  · cases h
  · simp only [meth] at h
    split at h
    · rename_i kvs hn
      split at h
      · rename_i ok
        cases h
        exact ⟨v, w, kvs, rfl, hn, ok, rfl, rfl⟩
      · cases h
    · cases h
  · cases h
theorem mt_app : MtR X "list.append" (rM (rcx X ER) b0 .append .lst) := by
  intro pins s σ H x vs v us Q I rx rv h
  obtain ⟨B, φ, S, o, as, d, S', hB, R, ho, ha, hm, hQ⟩ := h
  obtain ⟨v0, n, xs, rfl, rfl, hn, hf, hz, rfl, rfl⟩ := meth_app hm
  obtain ⟨y, rfl, hy⟩ := DRs.one ha
  obtain ⟨hl, hz1, ws, e, r⟩ := R.lstAt hn
  unfold DR at ho
  obtain ⟨ho1, ho2⟩ := ho
  subst ho2
  obtain ⟨f, R'⟩ := R.putL hn (ys := xs ++ [v0]) (us := ws ++ [y]) (by rw [List.length_append]; simp; omega) (DRs.append r ⟨y, [], rfl, hy, rfl⟩)
    (fun b hb h => by rw [belows_append, R.lowL hn hb h, belows, fits_below hf (hB b hb) h]; rfl)
  exact mt_append pins s σ H _ _ v us Q I rx rv ⟨φ n, ws, y, rfl, rfl, e, by rw [← DRs.length r]; exact hz, hQ.set f R' _ rfl⟩
theorem mt_ext : MtR X "list.extend" (rM (rcx X ER) b0 .extend .lst) := by
  intro pins s σ H x vs v us Q I rx rv h
  obtain ⟨B, φ, S, o, as, d, S', hB, R, ho, ha, hm, hQ⟩ := h
  obtain ⟨v0, n, xs, ys, rfl, rfl, hn, hv, hf, hz, rfl, rfl⟩ := meth_ext hm
  obtain ⟨y, rfl, hy⟩ := DRs.one ha
  obtain ⟨hl, hz1, ws, e, r⟩ := R.lstAt hn
  obtain ⟨a, zs, e2, t2, z2, r2⟩ := peek_lst R hy hv
  subst e2
  unfold DR at ho
  obtain ⟨ho1, ho2⟩ := ho
  subst ho2
  obtain ⟨f, R'⟩ := R.putL hn (ys := xs ++ ys) (us := ws ++ zs) (by rw [List.length_append]; exact hz) (DRs.append r r2)
    (fun b hb h => by rw [belows_append, R.lowL hn hb h, belows_fits hf (hB b hb) h]; rfl)
  exact mt_extend pins s σ H _ _ v us Q I rx rv ⟨φ n, a, ws, zs, rfl, rfl, e, t2, by rw [← DRs.length r, ← DRs.length r2]; exact hz, hQ.set f R' _ rfl⟩
theorem mt_popL : MtR X "list.pop" (rM (rcx X ER) b0 .pop1 .lst) := by
  intro pins s σ H x vs v us Q I rx rv h
  obtain ⟨B, φ, S, o, as, d, S', hB, R, ho, ha, hm, hQ⟩ := h
  obtain ⟨i, n, xs, j, rfl, rfl, hn, hj, hd, rfl⟩ := meth_popL hm
  obtain ⟨y, rfl, hy⟩ := DRs.one ha
  unfold DR at hy
  subst hy
  obtain ⟨hl, hz1, ws, e, r⟩ := R.lstAt hn
  unfold DR at ho
  obtain ⟨ho1, ho2⟩ := ho
  subst ho2
  obtain ⟨k1, k2, k3, k4⟩ := ixN_seq hj hz1
  have hd' : xs[j]? = some d := by unfold L2.atI at hd; rw [hj] at hd; exact hd
  obtain ⟨w, hw, rw'⟩ := DRs.get r hd'
  obtain ⟨f, R'⟩ := R.putL hn (ys := xs.eraseIdx j) (us := ws.eraseIdx j) (Nat.le_trans (len_erase xs j) hz1) (DRs.erase r j)
    (fun b hb h => belows_erase (R.lowL hn hb h))
  exact mt_popAt pins s σ H _ _ v us Q I rx rv ⟨φ n, ws, i, j, w, rfl, rfl, e, k3, k4, by rw [← DRs.length r]; exact k1, hw, hQ.set f R' _ (by rw [List.length_set]; exact DR.mono f (Nat.le_refl _) (Nat.le_refl _) _ _ rw')⟩
theorem mt_popD (hu : X.A.units + 64 < cLine) : MtR X "dict.pop" (rM (rcx X ER) b0 .pop1 .dic) := by
  intro pins s σ H x vs v us Q I rx rv h
  obtain ⟨B, φ, S, o, as, d, S', hB, R, ho, ha, hm, hQ⟩ := h
  obtain ⟨k, n, kvs, rfl, rfl, hn, ok, hd, rfl⟩ := meth_popD hm
  obtain ⟨y, rfl, hy⟩ := DRs.one ha
  obtain ⟨u, rfl, ru⟩ := rv.one
  unfold DR at ho
  obtain ⟨ho1, ho2⟩ := ho
  subst ho2
  cases rx
  exact dic_pop hu I R hn hy ru ok hd (.inl rfl) fun s' H' w v I' f R' r1 r2 => ⟨v, H', I', r1, hQ.set f R' _ (by rw [List.length_set]; exact r2)⟩
theorem mt_popD2 (hu : X.A.units + 64 < cLine) : MtR X "dict.pop" (rM (rcx X ER) b0 .pop2 .dic) := by
  intro pins s σ H x vs v us Q I rx rv h
  obtain ⟨B, φ, S, o, as, d, S', hB, R, ho, ha, hm, hQ⟩ := h
  obtain ⟨k, z, n, kvs, rfl, rfl, hn, ok, hd⟩ := meth_popD2 hm
  obtain ⟨y, y2, rfl, hy, hy2⟩ := DRs.two ha
  obtain ⟨u, u2, rfl, ru, ru2⟩ := rv.two
  unfold DR at ho
  obtain ⟨ho1, ho2⟩ := ho
  subst ho2
  cases rx
  rcases hd with ⟨hd, rfl⟩ | ⟨hd, rfl, rfl⟩
  · exact dic_pop hu I R hn hy ru ok hd (.inr ⟨_, rfl⟩) fun s' H' w v I' f R' r1 r2 => ⟨v, H', I', r1, hQ.set f R' _ (by rw [List.length_set]; exact r2)⟩
  · exact dic_popD hu I (R.at_ n _ hn) hy ru ok hd fun s' I' => ⟨y2, H, I', ru2, hQ H φ (Fut.refl _ _ _) R _ hy2⟩
theorem mt_get1 (hu : X.A.units + 64 < cLine) : MtR X "dict.get" (rM (rcx X ER) b0 .get1 .dic) := by
  intro pins s σ H x vs v us Q I rx rv h
  obtain ⟨B, φ, S, o, as, d, S', hB, R, ho, ha, hm, hQ⟩ := h
  obtain ⟨k, kvs, rfl, hp, ok, rfl, rfl⟩ := meth_get1 hm
  obtain ⟨y, rfl, hy⟩ := DRs.one ha
  obtain ⟨u, rfl, ru⟩ := rv.one
  obtain ⟨a, e, hb⟩ := peek_dic R ho hp
  subst e
  cases rx
  exact dic_get1 hu I hb hy ru ok none (fun p h => nomatch h) fun s' w v I' r1 r2 => ⟨v, H, I', r1, hQ H φ (Fut.refl _ _ _) R _ r2⟩
theorem mt_get2 (hu : X.A.units + 64 < cLine) : MtR X "dict.get" (rM (rcx X ER) b0 .get2 .dic) := by
  intro pins s σ H x vs v us Q I rx rv h
  obtain ⟨B, φ, S, o, as, d, S', hB, R, ho, ha, hm, hQ⟩ := h
  obtain ⟨k, z, kvs, rfl, hp, ok, rfl, rfl⟩ := meth_get2 hm
  obtain ⟨y, y2, rfl, hy, hy2⟩ := DRs.two ha
  obtain ⟨u, u2, rfl, ru, ru2⟩ := rv.two
  obtain ⟨a, e, hb⟩ := peek_dic R ho hp
  subst e
  cases rx
  exact dic_get1 hu I hb hy ru ok (some (z, y2, u2)) (fun p h => by cases h; exact ⟨hy2, ru2⟩) fun s' w v I' r1 r2 => ⟨v, H, I', r1, hQ H φ (Fut.refl _ _ _) R _ r2⟩
/-- the built-in's name -/
def mid : MF → Kd → String
  | .append, .lst => "list.append" | .extend, .lst => "list.extend" | .pop1, .lst => "list.pop"
  | .pop1, .dic => "dict.pop" | .pop2, .dic => "dict.pop" | .get1, .dic => "dict.get" | .get2, .dic => "dict.get"
  | _, _ => ""
def MF.name : MF → Str
  | .append => "append" | .extend => "extend" | .pop0 => "pop" | .pop1 => "pop" | .pop2 => "pop" | .get1 => "get" | .get2 => "get"
theorem meth_mok {f : MF} {k : Kd} {o d : DV} {as : List DV} {S S' : Store} (h : meth b0 f k o as S = .ok d S') : mok f k = true := by
  cases f <;> cases k <;> first | rfl | (exfalso; rcases as with _ | ⟨v, _ | ⟨w, _ | ⟨u, r⟩⟩⟩ <;> first | (cases h; done) | (cases v <;> cases h; done))
theorem mt_all (hu : X.A.units + 64 < cLine) {f : MF} {k : Kd} (h : mok f k = true) : MtR X (mid f k) (rM (rcx X ER) b0 f k) := by
  cases f <;> cases k <;> first | (cases h; done) | exact mt_app | exact mt_ext | exact mt_popL | exact mt_popD hu | exact mt_popD2 hu | exact mt_get1 hu | exact mt_get2 hu
theorem mt_slot {f : MF} {k : Kd} (h : mok f k = true) : Slot k.ty f.name (mid f k) := by
  cases f <;> cases k <;> first | (cases h; done) | exact F.slot_list_append | exact F.slot_list_extend | exact F.slot_list_pop | exact F.slot_dict_pop | exact F.slot_dict_get
theorem mt_md {f : MF} {k : Kd} (h : mok f k = true) : typeOf (.builtin (mid f k)) = pure (.type "method_descriptor") := by
  cases f <;> cases k <;> first | (cases h; done) | rfl

/-- o[i] = v -/
def rSet (c : RC) (b0 : Nat) : TSet := fun x y v H Q =>
  ∃ B φ S o i d S', (∀ b, B b → b ≤ b0) ∧ Rel c B H φ S ∧ DR c H φ S.length S.length o x ∧ DR c H φ S.length S.length i y ∧ DR c H φ S.length S.length d v ∧ subSet b0 o i d S = .ok () S' ∧
    After c B H φ S.length S' fun H' φ' => Q H'
theorem sub_or {o i d : DV} {S S' : Store} (h : subSet b0 o i d S = .ok () S') : ∃ n, o = .loc n ∧
    ((∃ xs k j, S[n]? = some (.lst xs) ∧ i = .int k ∧ L2.ixN xs.length k = some j ∧ fits b0 n d = true ∧ S' = S.set n (.lst (xs.set j d))) ∨
     (∃ kvs, S[n]? = some (.dic kvs) ∧ dok kvs i = true ∧ fits b0 n d = true ∧ kvs.length < sizeLine ∧ S' = S.set n (.dic (dput kvs i d)))) := by
  cases o with
  | loc n =>
    refine ⟨n, rfl, ?_⟩
    simp only [subSet] at h
    cases hn : S[n]? with
    | none => rw [hn] at h; cases h
    | some mo =>
      rw [hn] at h
      cases mo with
      | lst xs =>
        cases i with
        | int k =>
          simp only at h
          cases hj : L2.ixN xs.length k with
          | none => rw [hj] at h; cases h
          | some j =>
            rw [hj] at h
            simp only at h
            split at h
            · rename_i hf
              cases h
              exact .inl ⟨xs, k, j, rfl, rfl, hj, hf, rfl⟩
            · cases h
        | _ => cases h
      | dic kvs =>
        simp only at h
        split at h
        · rename_i hz
          simp only [Bool.and_eq_true, decide_eq_true_eq] at hz
          cases h
          exact .inr ⟨kvs, rfl, hz.1.1, hz.1.2, hz.2, rfl⟩
        · cases h
      | ins C fs => cases h
  | _ => cases h
theorem set_all (hu : X.A.units + 64 < cLine) : PSet X (rSet (rcx X ER) b0) := by
  intro pins s σ H x y v ov iv u Q I rx ry rv h
  obtain ⟨B, φ, S, o, i, d, S', hB, R, ho, hi, hd, hs, hQ⟩ := h
  obtain ⟨n, e0, hs2⟩ := sub_or hs
  clear hs
  subst e0
  unfold DR at ho
  obtain ⟨ho1, ho2⟩ := ho
  subst ho2
  rcases hs2 with ⟨xs, k, j, hn, rfl, hj, hf, rfl⟩ | ⟨kvs, hn, ok, hf, hz, rfl⟩
  · unfold DR at hi
    subst hi
    obtain ⟨hl, hz1, ws, e, r⟩ := R.lstAt hn
    obtain ⟨f, R'⟩ := R.putL hn (ys := xs.set j d) (us := ws.set j v) (by rw [List.length_set]; exact hz1) (DRs.set r hd j)
      (fun b hb h => belows_set (R.lowL hn hb h) (fits_below hf (hB b hb) h))
    exact set_list pins s σ H _ _ v ov iv u Q I rx ry rv ⟨φ n, ws, k, j, rfl, rfl, e, by rw [← DRs.length r]; exact hj, hQ.set f R'⟩
  · cases rx
    exact dic_put hu hB I R hn hi hd ry rv ok hf hz fun s' H' I' f R' => ⟨H', I', hQ.set f R'⟩
end
end DP

namespace DP
open PySem PySem.Spec PyProof.Rows L2

section
variable {X : Cx} {ER : List Addr} {pins : List (Addr × Obj)} {σ : L2.St} {H : Hp} {s : Shared} {φ : Nat → Addr} {m b : Nat}
theorem DRk.keys {c : RC} : ∀ {kvs : List (DV × DV)} {ks : List (Key × V)}, DRk c H φ m b kvs ks → DRs c H φ m b (kvs.map (·.1)) (ks.map fun p => kV p.1)
  | [], _, r => by unfold DRk at r; subst r; exact rfl
  | (k, v) :: kvs, _, r => by
    unfold DRk at r
    obtain ⟨x, u, q', e, ⟨hk, hg⟩, h1, h2⟩ := r
    subst e hk
    exact ⟨_, _, rfl, ⟨rfl, hg⟩, DRk.keys h2⟩
theorem DRx.keys {c : RC} : ∀ {kvs : List (DV × DV)} {xs : List (NestedKey × Addr × Value)}, DRx c H φ m b kvs xs → DRs c H φ m b (kvs.map (·.1)) (xs.map fun x => .ref x.2.1)
  | [], _, r => by unfold DRx at r; subst r; exact rfl
  | (k, v) :: kvs, _, r => by
    unfold DRx at r
    obtain ⟨nk, a, u, vv, q', e, hk, hd, g0, rr, g1, g2⟩ := r
    subst e
    exact ⟨_, _, rfl, g0, DRx.keys g2⟩
/-- a dict's keys, as they stand, as a source -/
theorem dic_src (I : L2.Inv X pins σ H s) {a : Addr} {kvs : List (DV × DV)} (h : DB (rcx X ER) H φ m b a kvs) :
    ∃ (P : Nat → Value → Prop) (OK : Heap → Prop), PySem.W.KdlSrc X.prog X.w "dict" a a kvs.length P OK ∧ OK s.heap ∧
      ∀ us : List Value, us.length = kvs.length → (∀ j u, us[j]? = some u → P j u) → ∃ vs, Vals vs us ∧ DRs (rcx X ER) H φ m b (kvs.map (·.1)) vs := by
  obtain ⟨z, hs, r⟩ := h
  rcases r with ⟨ks, t, r⟩ | ⟨o, es, ep, xs, t, h1, h2, h3, h4, r⟩
  · obtain ⟨_, lo, vs, rel, dd⟩ := dk_of I.hok t
    obtain ⟨ep, hat⟩ := dd.dictAt
    have hl : kvs.length = vs.length := by rw [DRk.length r, rel.length]
    rw [hl]
    refine ⟨_, _, PySem.W.kdl_dict (knd := mixKind X.prog X.w) (kvs := vs) (ep := ep) lo, hat, fun us hu hp => ?_⟩
    refine ⟨ks.map fun p => kV p.1, vals_of_at (by rw [List.length_map, rel.length, hu]) fun j x u q1 q2 => ?_, ?_⟩
    · obtain ⟨k, w, g1, g2⟩ := hp j u q2
      have g3 : (ks.map (·.1))[j]? = some k := by rw [KV.keys rel, List.getElem?_map, g1]; rfl
      rw [List.getElem?_map] at q1 g3
      cases hk : ks[j]? with
      | none => rw [hk] at g3; cases g3
      | some p =>
        rw [hk] at g3 q1
        have g4 : p.1 = k := Option.some.inj g3
        have g5 : kV p.1 = x := Option.some.inj q1
        rw [← g5, g4]
        exact keyIs_rel g2
    · exact DRk.keys r
  · have hl : es.size = kvs.length := by rw [size_of_entries h3, DRx.length r]
    rw [← hl]
    refine ⟨_, _, kdl_raw hs h1 h2, (I.hok a _ t).1, fun us hu hp => ?_⟩
    refine ⟨xs.map fun x => .ref x.2.1, vals_of_at (by rw [List.length_map, hu, size_of_entries h3]) fun j x u q1 q2 => ?_, ?_⟩
    · obtain ⟨en, g1, g2⟩ := hp j u q2
      have g3 := entry_at h3 j
      rw [g1] at g3
      rw [List.getElem?_map] at q1
      cases hk : xs[j]? with
      | none => rw [hk] at q1; cases q1
      | some p =>
        rw [hk] at g3 q1
        have g4 : en = entryOfKey (nestedKind X.prog X.w) p := Option.some.inj g3
        have g5 : V.ref p.2.1 = x := Option.some.inj q1
        rw [← g5, g2, g4]
        exact rfl
    · exact DRx.keys r
theorem dic_hd (I : L2.Inv X pins σ H s) (hc : X.calm = true) : X.A.handled = none := I.ok.hd hc
/-- list.sort of the list that lies last -/
theorem sort_last {β : Type} {vs : List Value} {bs : List β} {enc : β → PyData} {R : Value → β → Prop} {A : Around} {E : Value → Shared → Prop} {Q : Value → Shared → Prop}
    (e : PySem.W.EachIs R vs bs) (er : PySem.W.EachIs (fun v b => ∃ as, Reads s.heap v (enc b) as) vs bs) (hal : PySem.W.AllAlike (bs.map enc)) (hk : PySem.W.Sortable (bs.map enc)) (hL : bs.length ≤ sizeLine)
    (hu : ∀ b, b ∈ bs → A.units + 1 + (enc b).depth < cLine)
    (h : ∀ (out : List Value) (h' : Heap) (c : Nat), out.length = bs.length → PySem.W.EachIs R out (bs.mergeSort (PySem.W.dataLe false enc)) → (∀ b o, s.heap.get? b = some o → h'.get? b = some o) → h'.get? s.heap.objs.size = some { cls := .type "list", data := .seq out.toArray c } → Q .none { s with heap := h' }) :
    wpAny (model X.prog X.w) A (call (.builtin "list.sort") [.ref s.heap.objs.size]) Q E { s with heap := s.heap.push (seqObj "list" vs.toArray 0) } := by
  have ho : (s.heap.push (seqObj "list" vs.toArray 0)).get? s.heap.objs.size = some (seqObj "list" vs.toArray 0) := Heap.get?_push_size _ rfl
  have hold : ∀ b o, s.heap.get? b = some o → b ≠ s.heap.objs.size := fun b o q => Nat.ne_of_lt (Heap.lt_size q)
  have er' : PySem.W.EachIs (fun v b => ∃ as, Reads (PySem.W.sortingHeap (s.heap.push (seqObj "list" vs.toArray 0)) s.heap.objs.size vs) v (enc b) as) vs bs :=
    er.mono fun _ _ ⟨as, r⟩ => ⟨as, PyProof.Rows.Reads.keeps (fun b o q => PySem.W.sortingHeap_old (hold b o q) (Heap.get?_push_of_some _ q)) r⟩
  refine wpAny_call_entry PyProof.Rows.slot_list_sort ⟨_, ho, rfl⟩ PyProof.Rows.entry_list_sort (PySem.W.list_sort_vals (s := { s with heap := s.heap.push (seqObj "list" vs.toArray 0) }) ho
    (PySem.W.SortsAt.data (PySem.W.each_map (R := fun v d => ∃ as, Reads (PySem.W.sortingHeap (s.heap.push (seqObj "list" vs.toArray 0)) s.heap.objs.size vs) v d as) enc er') hal hk (PySem.W.bound_map hu)) (by rw [e.length]; exact hL) ⟨.none, rfl, ?_⟩) (PyProof.Rows.args_list_sort _)
  obtain ⟨c, hc⟩ := PyProof.Rows.sortedHeap_at (vs := vs) (out := (PySem.W.sortVals (PySem.W.dataKind (PySem.W.sortingHeap (s.heap.push (seqObj "list" vs.toArray 0)) s.heap.objs.size vs) (bs.map enc)) false vs vs).toArray) ho
  exact h _ _ c (by rw [PySem.W.sortVals_length false rfl]; exact e.length) (PySem.W.sortVals_data false e er' hal) (fun b o q => by
    rw [PyProof.Rows.sortedHeap_old (hold b o q) (by rw [size_push']; exact Nat.lt_succ_of_lt (Heap.lt_size q))]
    exact Heap.get?_push_of_some _ q) hc
end

/-! ### the order of what is sorted -/
theorem each_of {α β : Type} {R : α → β → Prop} : ∀ {as : List α} {bs : List β}, as.length = bs.length → (∀ (i : Nat) (a : α) (b : β), as[i]? = some a → bs[i]? = some b → R a b) → PySem.W.EachIs R as bs
  | [], [], _, _ => .nil
  | [], _ :: _, h, _ => by simp at h
  | _ :: _, [], h, _ => by simp at h
  | a :: as, b :: bs, h, f => .cons (f 0 a b rfl rfl) (each_of (by simpa using h) fun i x y h1 h2 => f (i + 1) x y (by simpa using h1) (by simpa using h2))
theorem each_vals : ∀ {us : List Value} {ps : List (DV × V)}, PySem.W.EachIs (fun u (p : DV × V) => RelV p.2 u) us ps → Vals (ps.map (·.2)) us
  | _, _, .nil => .nil
  | _, _, .cons h t => .cons h (each_vals t)
section
variable {c : RC} {H : Hp} {φ : Nat → Addr} {m b : Nat}
theorem DRs.zip {xs : List DV} {vs : List V} (h : DRs c H φ m b xs vs) : (xs.zip vs).map (·.1) = xs ∧ (xs.zip vs).map (·.2) = vs ∧ ∀ p ∈ xs.zip vs, DR c H φ m b p.1 p.2 := by
  have hl := DRs.length h
  refine ⟨List.map_fst_zip (Nat.le_of_eq hl), List.map_snd_zip (Nat.le_of_eq hl.symm), fun p hp => ?_⟩
  obtain ⟨i, hi, e⟩ := List.getElem_of_mem hp
  have e1 : (xs.zip vs)[i]? = some p := by rw [List.getElem?_eq_getElem hi, e]
  rw [List.getElem?_zip_eq_some] at e1
  obtain ⟨v, h1, h2⟩ := DRs.get h e1.1
  rw [e1.2] at h1
  cases h1
  exact h2
theorem DRs.of_pairs : ∀ {ps : List (DV × V)}, (∀ p ∈ ps, DR c H φ m b p.1 p.2) → DRs c H φ m b (ps.map (·.1)) (ps.map (·.2))
  | [], _ => rfl
  | p :: ps, h => ⟨_, _, rfl, h p List.mem_cons_self, DRs.of_pairs fun q hq => h q (List.mem_cons_of_mem _ hq)⟩
theorem sort_fst (ps : List (DV × V)) : (ps.mergeSort (PySem.W.dataLe false fun p => p.1.toP)).map (·.1) = (ps.map (·.1)).mergeSort DV.leb :=
  List.map_mergeSort fun a _ b _ => rfl
end
end DP

namespace DP
open PySem PySem.Spec PyProof.Rows L2

theorem depths_mem : ∀ {xs : List DV} {d : DV}, d ∈ xs → d.depth ≤ DV.depths xs
  | x :: xs, d, h => by
    rcases List.mem_cons.mp h with e | h
    · subst e; simp only [DV.depths]; omega
    · have := depths_mem h; simp only [DV.depths]; omega
theorem flats_mem : ∀ {xs : List DV} {d : DV}, DV.flats xs = true → d ∈ xs → d.flat = true
  | x :: xs, d, f, h => by
    simp only [DV.flats, Bool.and_eq_true] at f
    rcases List.mem_cons.mp h with e | h
    · subst e; exact f.1
    · exact flats_mem f.2 h
theorem sorted_facts {xs : List DV} {d : DV} (h : sorted xs = some d) : d = .lst (xs.mergeSort DV.leb) ∧ DV.allAlike xs = true ∧ DV.sortable xs = true ∧ DV.flats xs = true ∧ DV.depths xs ≤ 64 := by
  unfold sorted at h
  split at h
  · rename_i hz
    simp only [Bool.and_eq_true, decide_eq_true_eq] at hz
    exact ⟨(Option.some.inj h).symm, hz.1.1.1, hz.1.1.2, hz.1.2, hz.2⟩
  · cases h
theorem allAlike_of {xs : List DV} (h : DV.allAlike xs = true) : PySem.W.AllAlike (xs.map DV.toP) := by
  unfold DV.allAlike at h
  rw [List.all_eq_true] at h
  intro d hd d' hd'
  obtain ⟨a, ha, rfl⟩ := List.mem_map.mp hd
  obtain ⟨b, hb, rfl⟩ := List.mem_map.mp hd'
  exact alike_toP a b (List.all_eq_true.mp (h a ha) b hb)
theorem sortable_of {xs : List DV} (h : DV.sortable xs = true) (f : DV.flats xs = true) : PySem.W.Sortable (xs.map DV.toP) := by
  unfold DV.sortable at h
  rw [Bool.or_eq_true, List.all_eq_true, List.all_eq_true] at h
  rcases h with h | h
  · refine .inl fun d hd => ?_
    obtain ⟨a, ha, rfl⟩ := List.mem_map.mp hd
    have q := h a ha
    cases a with
    | tup ys =>
      cases ys with
      | nil => cases q
      | cons y ys => exact ⟨y.toP, DV.toPs ys, by simp only [DV.toP, DV.toPs]⟩
    | _ => cases q
  · refine .inr fun d hd => ?_
    obtain ⟨a, ha, rfl⟩ := List.mem_map.mp hd
    have q := h a ha
    have g := flats_mem f ha
    cases a with
    | tup ys => cases q
    | non => cases q
    | loc _ => simp [DV.flat] at g
    | dic _ => simp [DV.flat] at g
    | _ => simp [DV.toP]

section
variable {X : Cx} {ER : List Addr} {pins : List (Addr × Obj)} {σ : L2.St} {H : Hp} {s : Shared} {φ : Nat → Addr} {m b : Nat}
theorem sort_ready (I : L2.Inv X pins σ H s) {xs : List DV} {ws : List V} {us : List Value} (r : DRs (rcx X ER) H φ m b xs ws) (rv : Vals ws us) (f : DV.flats xs = true) :
    PySem.W.EachIs (fun u (p : DV × V) => RelV p.2 u) us (xs.zip ws) ∧ PySem.W.EachIs (fun u (p : DV × V) => ∃ as, Reads s.heap u p.1.toP as) us (xs.zip ws) ∧ ((xs.zip ws).map fun p => p.1.toP) = xs.map DV.toP ∧ (xs.zip ws).length = xs.length := by
  obtain ⟨z1, z2, z3⟩ := DRs.zip r
  have hl := DRs.length r
  have hl2 := rv.length
  have zl : (xs.zip ws).length = xs.length := by rw [List.length_zip]; omega
  have at_ : ∀ (i : Nat) (u : Value) (p : DV × V), us[i]? = some u → (xs.zip ws)[i]? = some p → RelV p.2 u ∧ DR (rcx X ER) H φ m b p.1 p.2 ∧ p.1 ∈ xs := by
    intro i u p h1 h2
    have hm := z3 p (List.mem_of_getElem? h2)
    rw [List.getElem?_zip_eq_some] at h2
    obtain ⟨u', g1, g2⟩ := rv.get h2.2
    rw [h1] at g1; cases g1
    exact ⟨g2, hm, List.mem_of_getElem? h2.1⟩
  refine ⟨each_of (by omega) fun i u p h1 h2 => (at_ i u p h1 h2).1, each_of (by omega) fun i u p h1 h2 => ?_, ?_, zl⟩
  · obtain ⟨g1, g2, g3⟩ := at_ i u p h1 h2
    exact Dp.reads I _ _ _ (DR.dp p.1 p.2 (flats_mem f g3) g2) g1
  · conv => rhs; rw [← z1]
    rw [List.map_map]; rfl
/-- what a fresh thing is wanted for -/
def rBF (c : RC) (f : BF) : List V → Hp → VK → Prop := fun vs H Q => ∃ B φ S as d, Rel c B H φ S ∧ DRs c H φ S.length S.length as vs ∧ blt f (as.map (peek S)) = some d ∧
  After c B H φ S.length S fun H' φ' => KF c Q S.length d H' φ'
def rB (c : RC) (f : BF) : List V → Hp → VK → Prop := fun vs H Q => ∃ B φ S as d, Rel c B H φ S ∧ DRs c H φ S.length S.length as vs ∧ blt f (as.map (peek S)) = some d ∧
  After c B H φ S.length S fun H' φ' => ∀ v, DR c H' φ' S.length S.length d v → Q v H'
theorem blt_one {f : BF} {as : List DV} {d : DV} (h : blt f as = some d) : ∃ a, as = [a] := by
  rcases as with _ | ⟨a, _ | ⟨a', r⟩⟩
  · cases f <;> cases h
  · exact ⟨a, rfl⟩
  · cases f <;> cases a <;> cases h
theorem peek_dicAt {c : RC} {B : Nat → Prop} {S : Store} (R : Rel c B H φ S) {d : DV} {x : V} {kvs : List (DV × DV)} (h : DR c H φ S.length S.length d x) (e : peek S d = .dic kvs) : ∃ a, x = .ref a ∧ DB c H φ S.length S.length a kvs := peek_dic R h e
/-- the list behind a sort is the value -/
theorem sorted_fin {B : Nat → Prop} {S : Store} {Q : VK} {xs : List DV} {ws : List V} {out : List Value} {h' : Heap} {c : Nat} {t : Nat} {p : Addr} (I : L2.Inv X pins σ H s) (R : Rel (rcx X ER) B H φ S) (r : DRs (rcx X ER) H φ S.length S.length xs ws) (hz : xs.length ≤ sizeLine)
    (hQ : After (rcx X ER) B H φ S.length S fun H' φ' => KF (rcx X ER) Q S.length (.lst (xs.mergeSort DV.leb)) H' φ')
    (ho : PySem.W.EachIs (fun u (p : DV × V) => RelV p.2 u) out ((xs.zip ws).mergeSort (PySem.W.dataLe false fun p => p.1.toP)))
    (hk : ∀ b o, s.heap.get? b = some o → h'.get? b = some o) (hp : s.heap.objs.size ≤ p) (hat : h'.get? p = some { cls := .type "list", data := .seq out.toArray c }) :
    EP X pins σ Q (.ref p) { s with heap := h', toks := t } := by
  have fr : H p = none := I.hok.fresh hp
  obtain ⟨z1, z2, z3⟩ := DRs.zip r
  have mem : ∀ q ∈ (xs.zip ws).mergeSort (PySem.W.dataLe false fun p => p.1.toP), DR (rcx X ER) H φ S.length S.length q.1 q.2 := fun q hq => z3 q (List.mem_mergeSort.mp hq)
  have rr := DRs.of_pairs mem
  rw [sort_fst, z1] at rr
  have zz : (xs.mergeSort DV.leb).length ≤ sizeLine := by rw [List.length_mergeSort]; exact hz
  refine ⟨.ref p, _, I.laid (t' := t) (o := .lst (((xs.zip ws).mergeSort (PySem.W.dataLe false fun p => p.1.toP)).map (·.2))) hk hp ⟨?_, out, c, each_vals ho, hat⟩, rfl, new_lst R hQ zz rr p fr⟩
  rw [← DRs.length rr]; exact zz
theorem call_sorted (hc : X.calm = true) (hu : X.A.units + 96 < cLine) : CallR X (.builtin "sorted") (rBF (rcx X ER) .sorted) := by
  intro pins s σ H vs us Q I rv h
  obtain ⟨B, φ, S, as, d, R, ha, hb, hQ⟩ := h
  obtain ⟨a, e⟩ := blt_one hb
  obtain ⟨x0, rfl⟩ : ∃ x0, as = [x0] := by
    rcases as with _ | ⟨x0, _ | ⟨x1, r⟩⟩
    · cases e
    · exact ⟨x0, rfl⟩
    · cases e
  obtain ⟨v, rfl, hv⟩ := DRs.one ha
  obtain ⟨u, rfl, ru⟩ := rv.one
  cases ep : peek S x0 with
  | lst xs =>
    rw [List.map_cons, ep] at hb
    obtain ⟨rfl, g1, g2, g3, g4⟩ := sorted_facts (xs := xs) hb
    obtain ⟨l, ws, rfl, t, z, r⟩ := peek_lst R hv ep
    cases ru
    obtain ⟨its, r', pl, hz⟩ := I.list (.inl (.inl t))
    obtain ⟨k1, k2, k3, k4⟩ := sort_ready I r r' g3
    refine PySem.W.sorted_data (enc := fun p : DV × V => p.1.toP) pl.isList k1 k2 (by rw [k3]; exact allAlike_of g1) (by rw [k3]; exact sortable_of g2 g3) (by rw [k4]; exact z) (fun q hq => ?_) fun out hl ho => ?_
    · have hm : q.1 ∈ xs := (List.of_mem_zip hq).1
      rw [depth_toP _ (flats_mem g3 hm)]
      have := depths_mem hm
      omega
    · obtain ⟨e', he'⟩ := PyProof.Rows.sortedAll_at s.heap its out.toArray
      exact sorted_fin (t := s.toks) I R r z hQ ho (fun _ _ => PyProof.Rows.sortedAll_old) (Nat.le_succ _) he'
  | dic kvs =>
    rw [List.map_cons, ep] at hb
    have hb' : sorted (kvs.map fun p => p.1) = some d := hb
    obtain ⟨rfl, g1, g2, g3, g4⟩ := sorted_facts hb'
    obtain ⟨l, rfl, hd⟩ := peek_dic R hv ep
    cases ru
    obtain ⟨P, OK, hK, hOK, hkeys⟩ := dic_src I hd
    refine Calls.call_function_entry PyProof.Rows.kind_sorted PyProof.Rows.plain_sorted PyProof.Rows.entry_sorted (PyProof.Rows.args_sorted1 _) ?_
    unfold Builtin.«sorted»
    refine wpAny_bind (m := checkCount "sorted" 1 1 _) (wpAny_pure ?_)
    refine wpAny_bind (PySem.W.kdu_collect (A := X.A.in1) hK (I.ok.hd hc) hOK hd.1 fun h' tk acc hk hacc => ?_)
    have hal : acc.toList.length = kvs.length := by rw [Array.length_toList]; exact hacc.1
    obtain ⟨ws, rw', r⟩ := hkeys acc.toList hal fun j u q => hacc.2 j u (by rw [← Array.getElem?_toList]; exact q)
    have I1 : L2.Inv X pins σ H { s with heap := h', toks := tk } := I.kept hk
    refine wpAny_bind (wpAny_newList ?_ (by rw [hal]; exact hd.1))
    obtain ⟨k1, k2, k3, k4⟩ := sort_ready I1 r rw' g3
    refine wpAny_bind (wpAny_holding (wpAny_mono (sort_last (s := { s with heap := h', toks := tk }) (enc := fun p : DV × V => p.1.toP) k1 k2 (by rw [k3]; exact allAlike_of g1) (by rw [k3]; exact sortable_of g2 g3) (by rw [k4, List.length_map]; exact hd.1) (fun q hq => ?_)
      (Q := fun _ s' => EP X pins σ Q (.ref h'.objs.size) s') fun out h2 c hl ho hk2 hat => ?_) (fun _ s' q => wpAny_pure ⟨_, rfl, q⟩) fun _ _ z => z))
    · have hm : q.1 ∈ kvs.map (·.1) := (List.of_mem_zip hq).1
      rw [depth_toP _ (flats_mem g3 hm)]
      have := depths_mem hm
      show X.A.units + 1 + 1 + _ < cLine
      omega
    · exact sorted_fin (t := tk) I1 R r (by rw [List.length_map]; exact hd.1) hQ ho hk2 (Nat.le_refl _) hat
  | _ => rw [List.map_cons, ep] at hb; cases hb
end
end DP

namespace DP
open PySem PySem.Spec PyProof.Rows L2

mutual
theorem noDict : ∀ d : DV, d.flat = true → d.toP.hasDict = false
  | .non, _ => by simp [DV.toP, PyData.hasDict]
  | .bl _, _ => by simp [DV.toP, PyData.hasDict]
  | .int _, _ => by simp [DV.toP, PyData.hasDict]
  | .str _, _ => by simp [DV.toP, PyData.hasDict]
  | .tup xs, f => by simp only [DV.toP, PyData.hasDict]; exact noDicts xs (by simpa [DV.flat] using f)
  | .lst xs, f => by simp only [DV.toP, PyData.hasDict]; exact noDicts xs (by simpa [DV.flat] using f)
  | .dic _, f => by simp [DV.flat] at f
  | .loc _, f => by simp [DV.flat] at f
  | .scr ns, _ => by simp only [DV.toP, PyData.hasDict]; exact noDictI ns
theorem noDicts : ∀ ds : List DV, DV.flats ds = true → PyData.hasDictAll (DV.toPs ds) = false
  | [], _ => by simp [DV.toPs, PyData.hasDictAll]
  | d :: ds, f => by
    simp only [DV.flats, Bool.and_eq_true] at f
    simp only [DV.toPs, PyData.hasDictAll, noDict d f.1, noDicts ds f.2, Bool.or_self]
theorem noDictI : ∀ ns : List Int, PyData.hasDictAll (ns.map PyData.int) = false
  | [] => by simp [PyData.hasDictAll]
  | n :: ns => by simp only [List.map_cons, PyData.hasDictAll, PyData.hasDict, noDictI ns, Bool.or_self]
end
section
variable {X : Cx} {ER : List Addr} {pins : List (Addr × Obj)} {σ : L2.St} {H : Hp} {s : Shared} {φ : Nat → Addr} {m b : Nat}
theorem arg_one {c : RC} {f : BF} {S : Store} {as : List DV} {vs : List V} {us : List Value} {d : DV} (ha : DRs c H φ S.length S.length as vs) (rv : Vals vs us) (hb : blt f (as.map (peek S)) = some d) :
    ∃ x v u, vs = [v] ∧ us = [u] ∧ DR c H φ S.length S.length x v ∧ RelV v u ∧ blt f [peek S x] = some d := by
  obtain ⟨a, e⟩ := blt_one hb
  rcases as with _ | ⟨x0, _ | ⟨x1, r⟩⟩
  · cases e
  · obtain ⟨v, rfl, hv⟩ := DRs.one ha
    obtain ⟨u, rfl, ru⟩ := rv.one
    exact ⟨x0, v, u, rfl, rfl, hv, ru, hb⟩
  · cases e
theorem call_lenB : CallR X (.builtin "len") (rB (rcx X ER) .len) := by
  intro pins s σ H vs us Q I rv h
  obtain ⟨B, φ, S, as, d, R, ha, hb, hQ⟩ := h
  obtain ⟨x, v, u, rfl, rfl, hv, ru, hb⟩ := arg_one ha rv hb
  cases ep : peek S x with
  | lst xs =>
    rw [ep] at hb; cases hb
    obtain ⟨a, ws, rfl, t, z, r⟩ := peek_lst R hv ep
    exact call_len_seq pins s σ H _ _ Q I rv ⟨a, ws, rfl, .inl (.inl (.inl t)), by rw [← DRs.length r]; exact same R hQ rfl⟩
  | tup xs =>
    rw [ep] at hb; cases hb
    obtain ⟨a, ws, rfl, t, z, r⟩ := peek_tup hv ep
    exact call_len_seq pins s σ H _ _ Q I rv ⟨a, ws, rfl, .inr t.sq, by rw [← DRs.length r]; exact same R hQ rfl⟩
  | str z =>
    rw [ep] at hb; cases hb
    obtain ⟨rfl, g⟩ := peek_str hv ep
    exact call_len_str pins s σ H _ _ Q I rv ⟨z, rfl, g.1, same R hQ rfl⟩
  | dic kvs =>
    rw [ep] at hb; cases hb
    obtain ⟨a, rfl, hd⟩ := peek_dic R hv ep
    cases ru
    obtain ⟨z, hs, r⟩ := hd
    rcases r with ⟨ks, t, r⟩ | ⟨o, es, ep', xs, t, h1, h2, h3, h4, r⟩
    · exact d_len I (.inl t) fun t s' I' => ⟨.int ks.length, H, I', ⟨t, rfl⟩, by rw [← DRk.length r]; exact same R hQ rfl⟩
    · have hl : es.size = kvs.length := by rw [size_of_entries h3, DRx.length r]
      have h63 := line63
      refine PyProof.Rows.call_len_slot (n := (es.size : Nat)) ⟨o, (I.hok a _ t).1, h1.1⟩ PySem.F.slot_dict_len (fun Q' hq => PySem.call_len_raw hs ⟨o, (I.hok a _ t).1, h1, h2⟩ hq) (by omega) (by omega) ?_
      refine ⟨.int kvs.length, H, I.tok _, ⟨_, by rw [hl]⟩, same R hQ rfl⟩
  | _ => rw [ep] at hb; cases hb
theorem call_tupleB : CallR X (.type "tuple") (rB (rcx X ER) .tuple) := by
  intro pins s σ H vs us Q I rv h
  obtain ⟨B, φ, S, as, d, R, ha, hb, hQ⟩ := h
  obtain ⟨x, v, u, rfl, rfl, hv, ru, hb⟩ := arg_one ha rv hb
  cases ep : peek S x with
  | lst xs =>
    rw [ep] at hb; cases hb
    obtain ⟨a, ws, rfl, t, z, r⟩ := peek_lst R hv ep
    cases ru
    obtain ⟨its, r', pl, hz⟩ := I.list (.inl (.inl t))
    have hlen := r'.length
    refine call_tuple_list pl.isList (fun h' kp => ?_) (by rw [List.size_toArray]; omega)
    exact NewT.push (s := { s with heap := h' }) (t := s.toks) (I.kept (t' := s.toks) kp) (new_tup R hQ z r) r' hz
  | tup xs =>
    rw [ep] at hb; cases hb
    obtain ⟨a, ws, rfl, t, z, r⟩ := peek_tup hv ep
    exact call_tuple_of pins s σ H _ _ Q I rv ⟨a, ws, rfl, .inr ⟨t.sq, old_tup R hQ z t r⟩⟩
  | _ => rw [ep] at hb; cases hb
theorem call_listB (hc : X.calm = true) : CallR X (.type "list") (rBF (rcx X ER) .list) := by
  intro pins s σ H vs us Q I rv h
  obtain ⟨B, φ, S, as, d, R, ha, hb, hQ⟩ := h
  obtain ⟨x, v, u, rfl, rfl, hv, ru, hb⟩ := arg_one ha rv hb
  cases ep : peek S x with
  | lst xs =>
    rw [ep] at hb; cases hb
    obtain ⟨a, ws, rfl, t, z, r⟩ := peek_lst R hv ep
    exact call_list_of pins s σ H _ _ Q I rv ⟨a, ws, rfl, .inl (.inl (.inl t)), new_lst R hQ z r⟩
  | tup xs =>
    rw [ep] at hb; cases hb
    obtain ⟨a, ws, rfl, t, z, r⟩ := peek_tup hv ep
    exact call_list_of pins s σ H _ _ Q I rv ⟨a, ws, rfl, .inr t.sq, new_lst R hQ z r⟩
  | dic kvs =>
    rw [ep] at hb
    have hb' : some (DV.lst (kvs.map fun p => p.1)) = some d := hb
    cases hb'
    obtain ⟨a, rfl, hd⟩ := peek_dic R hv ep
    cases ru
    obtain ⟨P, OK, hK, hOK, hkeys⟩ := dic_src I hd
    refine PySem.W.kdl_call hK (I.ok.hd hc) hOK hd.1 fun h' tk acc c hk hat hacc => ?_
    have hal : acc.toList.length = kvs.length := by rw [Array.length_toList]; exact hacc.1
    obtain ⟨ws, rw', r⟩ := hkeys acc.toList hal fun j u q => hacc.2 j u (by rw [← Array.getElem?_toList]; exact q)
    have zz : (kvs.map fun p => p.1).length ≤ sizeLine := by rw [List.length_map]; exact hd.1
    refine ⟨.ref s.heap.objs.size, _, I.laid (t' := tk) (o := .lst ws) hk (Nat.le_refl _) ⟨?_, acc.toList, c, rw', by rw [Array.toArray_toList]; exact hat⟩, rfl, new_lst R hQ zz r _ (I.hok.fresh (Nat.le_refl _))⟩
    rw [← DRs.length r]; exact zz
  | _ => rw [ep] at hb; cases hb
theorem call_intB : CallR X (.type "int") (rB (rcx X ER) .int) := by
  intro pins s σ H vs us Q I rv h
  obtain ⟨B, φ, S, as, d, R, ha, hb, hQ⟩ := h
  obtain ⟨x, v, u, rfl, rfl, hv, ru, hb⟩ := arg_one ha rv hb
  cases ep : peek S x with
  | int i =>
    rw [ep] at hb; cases hb
    have e := peek_int hv ep
    subst e
    exact call_int1 pins s σ H _ _ Q I rv (.inl ⟨i, rfl, same R hQ rfl⟩)
  | bl k =>
    rw [ep] at hb; cases hb
    have e := peek_bl hv ep
    subst e
    exact call_int1 pins s σ H _ _ Q I rv (.inr ⟨k, rfl, same R hQ rfl⟩)
  | _ => rw [ep] at hb; cases hb
theorem call_reprB (hu : X.A.units + 96 < cLine) (hg : X.A.guards = some []) : CallR X (.builtin "repr") (rB (rcx X ER) .repr) := by
  intro pins s σ H vs us Q I rv h
  obtain ⟨B, φ, S, as, d, R, ha, hb, hQ⟩ := h
  obtain ⟨x, v, u, rfl, rfl, hv, ru, hb⟩ := arg_one ha rv hb
  have hb' : (if (isSeq (peek S x) && (peek S x).flat && (peek S x).toP.showable && decide ((peek S x).depth ≤ 64) && decide ((peek S x).toP.shown.length ≤ sizeLine) && PyData.strOk (peek S x).toP.shown) = true then some (DV.str (peek S x).toP.shown) else none) = some d := by
    rw [← hb]; cases peek S x <;> rfl
  split at hb'
  · rename_i hz
    simp only [Bool.and_eq_true, decide_eq_true_eq] at hz
    obtain ⟨⟨⟨⟨⟨f0, f1⟩, f2⟩, f3⟩, f4⟩, f5⟩ := hz
    cases hb'
    obtain ⟨bs, rd⟩ := Dp.reads I _ _ _ (peek_dp R hv f1) ru
    obtain ⟨a, rfl⟩ : ∃ a, v = .ref a := by
      cases ep : peek S x with
      | lst xs => obtain ⟨a, _, e, _⟩ := peek_lst R hv ep; exact ⟨a, e⟩
      | tup xs => obtain ⟨a, _, e, _⟩ := peek_tup hv ep; exact ⟨a, e⟩
      | _ => rw [ep] at f0; cases f0
    cases ru
    refine repr_of_reads' rd f2 (fun e => by rw [noDict _ f1] at e; cases e) hg (by rw [depth_toP _ f1]; omega) (fun _ _ e => e) (fun h' t tk hk => ?_) f4
    exact ⟨.str _, H, I.kept (t' := tk) hk, ⟨t, rfl⟩, same R hQ ⟨rfl, f4, f5⟩⟩
  · cases hb'
/-- the pairs of a list -/
theorem pairs_ready (I : L2.Inv X pins σ H s) : ∀ {xs : List DV} {kvs : List (DV × DV)} {ws : List V} {its : List Value}, pairs xs = some kvs → (∀ p ∈ kvs, tkey p.1 = true) → DRs (rcx X ER) H φ m b xs ws → Vals ws its →
    ∃ ks : List (NestedKey × Addr × Value), DRx (rcx X ER) H φ m b kvs ks ∧ its.length = ks.length ∧ ∀ (j : Nat) k a u, ks[j]? = some (k, a, u) → ∃ T, its[j]? = some (.ref T) ∧ IsTup s.heap T #[.ref a, u]
  | [], kvs, ws, its, hp, hk, r, rv => by
    simp only [pairs] at hp; cases hp
    unfold DRs at r; subst r; cases rv
    exact ⟨[], rfl, rfl, fun j k a u h => by simp at h⟩
  | x :: xs, kvs, ws, its, hp, hk, r, rv => by
    unfold DRs at r
    obtain ⟨v, wr, ev, r1, r2⟩ := r
    subst ev
    cases rv with
    | cons q1 q2 =>
      unfold pairs at hp
      split at hp
      · rename_i h; cases h
      · rename_i k d xs' h
        cases h
        cases hq : pairs xs with
        | none => rw [hq] at hp; cases hp
        | some kvs' =>
          rw [hq] at hp; cases hp
          obtain ⟨ks, g1, g2, g3⟩ := pairs_ready I hq (fun p hp => hk p (List.mem_cons_of_mem _ hp)) r2 q2
          unfold DR at r1
          obtain ⟨a, vs, e, t, z, rr⟩ := r1
          subst e
          obtain ⟨y, y2, e2, d1, d2⟩ := DRs.two rr
          subst e2
          have tk := hk (k, d) List.mem_cons_self
          obtain ⟨nk, e3, e4⟩ := tkey_key tk
          obtain ⟨c, e5⟩ := tk_ref tk d1
          subst e5
          obtain ⟨us, ru, ht, _⟩ := I.tuple t.sq
          obtain ⟨u1, u2, e6, k1, k2⟩ := ru.two
          subst e6
          cases k1
          cases q1
          refine ⟨(nk, c, u2) :: ks, ⟨nk, c, u2, y2, ks, rfl, e3, e4, d1, k2, d2, g1⟩, by simp [g2], fun j k' a' u' h => ?_⟩
          cases j with
          | zero =>
            simp only [List.getElem?_cons_zero, Option.some.injEq, Prod.mk.injEq] at h
            obtain ⟨rfl, rfl, rfl⟩ := h
            exact ⟨a, rfl, ht⟩
          | succ j => exact g3 j k' a' u' (by simpa using h)
      · cases hp
theorem DRx.putAll {c : RC} : ∀ {kvs acc : List (DV × DV)} {ks xs : List (NestedKey × Addr × Value)}, DRx c H φ m b kvs ks → DRx c H φ m b acc xs → DRx c H φ m b (kvs.foldl (fun d p => dput d p.1 p.2) acc) (PySem.storedAllH xs ks)
  | [], acc, ks, xs, h, g => by unfold DRx at h; subst h; exact g
  | (k, v) :: kvs, acc, ks, xs, h, g => by
    unfold DRx at h
    obtain ⟨nk, a, u, vv, q, e, h1, h2, h3, h4, h5, h6⟩ := h
    subst e
    show DRx c H φ m b (kvs.foldl (fun d p => dput d p.1 p.2) (dput acc k v)) (PySem.storedAllH (storedH xs nk a u) q)
    exact DRx.putAll h6 (DRx.put g h1 h2 h3 h4 h5)
theorem putAll_length : ∀ (kvs acc : List (DV × DV)), (kvs.foldl (fun d p => dput d p.1 p.2) acc).length ≤ acc.length + kvs.length
  | [], acc => by simp
  | p :: kvs, acc => by
    have h1 := putAll_length kvs (dput acc p.1 p.2)
    have h2 := dput_length acc p.1 p.2
    simp only [List.foldl_cons, List.length_cons]
    omega
theorem pairs_length : ∀ {xs : List DV} {kvs : List (DV × DV)}, pairs xs = some kvs → kvs.length = xs.length
  | [], kvs, h => by simp only [pairs] at h; cases h; rfl
  | x :: xs, kvs, h => by
    unfold pairs at h
    split at h
    · rename_i e; cases e
    · rename_i k d xs' e
      cases e
      cases hq : pairs xs with
      | none => rw [hq] at h; cases h
      | some kvs' => rw [hq] at h; cases h; simp [pairs_length hq]
    · cases h
theorem dict_arg {B : Nat → Prop} {S : Store} {Q : VK} {T : String} {a : Addr} {xs : List DV} {kvs : List (DV × DV)} {ws : List V} {its : List Value} (hT : T = "list" ∨ T = "tuple") (hc : X.calm = true) (hu : X.A.units + 96 < cLine) (I : L2.Inv X pins σ H s) (R : Rel (rcx X ER) B H φ S)
    (hp : pairs xs = some kvs) (hk : ∀ p ∈ kvs, tkey p.1 = true) (r : DRs (rcx X ER) H φ S.length S.length xs ws) (rv : Vals ws its) (hz : xs.length ≤ sizeLine) (hseq : PySem.PlainSeq T s.heap a its.toArray)
    (hQ : After (rcx X ER) B H φ S.length S fun H' φ' => KF (rcx X ER) Q S.length (.dic (kvs.foldl (fun d p => dput d p.1 p.2) [])) H' φ') :
    wpAny (model X.prog X.w) X.A (call (.type "dict") [.ref a]) (EP X pins σ Q) X.xe s := by
  obtain ⟨ks, g1, g2, g3⟩ := pairs_ready I hp hk r rv
  have hkl := DRx.length g1
  have hpl := pairs_length hp
  have fin : ∀ h' tk, h'.DictOfH (nestedKind X.prog X.w) s.heap.objs.size (PySem.storedAllH [] ks) → (∀ b o, b ∉ ([] : List Addr) → s.heap.get? b = some o → h'.get? b = some o) → EP X pins σ Q (.ref s.heap.objs.size) { s with heap := h', toks := tk } := by
    intro h' tk hd kp
    obtain ⟨o, es, ep, q1, q2, q3, q4, _, q6⟩ := hd
    have fr : H s.heap.objs.size = none := I.hok.fresh (Nat.le_refl _)
    refine ⟨.ref s.heap.objs.size, _, I.laid (t' := tk) (o := dHo s.heap.objs.size o) (fun b u e => kp b u (by simp) e) (Nat.le_refl _) (dHo_ok q1), rfl, hQ H φ (Fut.refl _ _ _) R _ _ fr ⟨?_, ?_, .inr ⟨o, es, ep, _, rfl, q2, q3, q4, q6, DRx.putAll g1 (by unfold DRx; rfl)⟩⟩⟩
    · have := putAll_length kvs []
      simp only [List.length_nil] at this
      omega
    · exact beq_eq_false_iff_ne.mpr (Nat.ne_of_gt I.big)
  have items : PySem.PairItems s.heap its.toArray (fun j => match its[j]? with | some (.ref T) => T | _ => 0) (ks.map fun x => (Value.ref x.2.1, x.2.2)) := by
    refine ⟨by rw [List.size_toArray, List.length_map]; exact g2, fun j k v h => ?_⟩
    rw [List.getElem?_map] at h
    cases hj : ks[j]? with
    | none => rw [hj] at h; cases h
    | some x =>
      rw [hj] at h
      obtain ⟨nk, a', u'⟩ := x
      cases h
      obtain ⟨T', e1, e2⟩ := g3 j nk a' u' hj
      have e3 : its.toArray[j]? = some (.ref T') := by rw [← Array.getElem?_toList]; exact e1
      simp only [e1]
      exact ⟨e3, .inl e2⟩
  have have_ : PySem.PairsHaveH (nestedKind X.prog X.w) (ks.map fun x => (Value.ref x.2.1, x.2.2)).length (PySem.PairRel (ks.map fun x => (Value.ref x.2.1, x.2.2))) ks := by
    refine ⟨by rw [List.length_map], fun i key v h => ?_⟩
    have h : (ks.map fun x => (Value.ref x.2.1, x.2.2))[i]? = some (key, v) := h
    rw [List.getElem?_map] at h
    cases hj : ks[i]? with
    | none => rw [hj] at h; cases h
    | some x =>
      rw [hj] at h
      cases h
      exact ⟨x.1, x.2.1, rfl, rfl⟩
  have stay : PySem.KeysStay (nestedKind X.prog X.w) s.heap s.heap.objs.size [] ks := by
    intro h' kp x hx
    obtain ⟨k, e1, e2, e3⟩ := DRx.mem g1 x hx
    exact tk_is (I.kept (h' := h') (t' := s.toks) fun b o e => kp b o (Nat.ne_of_lt (Heap.lt_size e)) (by simp) e) e1 e2 e3
  have room : (nestedKind X.prog X.w).room X.A.in1.in1 := by show X.A.units + 1 + 1 + 8 < cLine; omega
  have hz2 : (ks.map fun x => (Value.ref x.2.1, x.2.2)).length ≤ sizeLine := by rw [List.length_map]; omega
  rcases hT with rfl | rfl
  · exact PySem.call_dict_pairsH (PySem.PairArg.list a its.toArray _ _) (I.ok.hd hc) room ⟨hseq, items⟩ have_ stay hz2 fin
  · exact PySem.call_dict_pairsH (PySem.PairArg.tuple a its.toArray _ _) (I.ok.hd hc) room ⟨hseq, items⟩ have_ stay hz2 fin
theorem call_dictB (hc : X.calm = true) (hu : X.A.units + 96 < cLine) : CallR X (.type "dict") (rBF (rcx X ER) .dict) := by
  intro pins s σ H vs us Q I rv h
  obtain ⟨B, φ, S, as, d, R, ha, hb, hQ⟩ := h
  obtain ⟨x, v, u, rfl, rfl, hv, ru, hb⟩ := arg_one ha rv hb
  have bnd : ∀ {xs : List DV}, ((pairs xs).bind fun kvs => if (kvs.all fun p => tkey p.1) = true then some (DV.dic (kvs.foldl (fun d p => dput d p.1 p.2) [])) else none) = some d → ∃ kvs, pairs xs = some kvs ∧ (∀ p ∈ kvs, tkey p.1 = true) ∧ d = .dic (kvs.foldl (fun d p => dput d p.1 p.2) []) := by
    intro xs h
    cases hp : pairs xs with
    | none => rw [hp] at h; cases h
    | some kvs =>
      rw [hp] at h
      simp only [Option.bind_some] at h
      split at h
      · rename_i hk
        exact ⟨kvs, rfl, fun p hm => List.all_eq_true.mp hk p hm, (Option.some.inj h).symm⟩
      · cases h
  cases ep : peek S x with
  | lst xs =>
    rw [ep] at hb
    obtain ⟨kvs, h1, h2, rfl⟩ := bnd hb
    obtain ⟨a, ws, rfl, t, z, r⟩ := peek_lst R hv ep
    cases ru
    obtain ⟨its, r', pl, hz⟩ := I.list (.inl (.inl t))
    exact dict_arg (.inl rfl) hc hu I R h1 h2 r r' z (let ⟨o, n, p1, p2, p3, p4⟩ := pl; ⟨o, n, p1, p2, p3, p4⟩) hQ
  | tup xs =>
    rw [ep] at hb
    obtain ⟨kvs, h1, h2, rfl⟩ := bnd hb
    obtain ⟨a, ws, rfl, t, z, r⟩ := peek_tup hv ep
    cases ru
    obtain ⟨its, r', pl, hz⟩ := I.tuple t.sq
    refine dict_arg (.inr rfl) hc hu I R h1 h2 r r' z ?_ hQ
    rcases t with ⟨o, t, hd⟩ | ⟨o, its', n, k1, k2, k3, k4, _⟩
    · obtain ⟨q1, _⟩ := (I.hok a _ t : ObjOk X.prog X.w H s.heap a (.frz o (.tup ws)))
      obtain ⟨o', p1, p2, n, p3⟩ := pl
      rw [q1] at p1; cases p1
      exact ⟨o, n, q1, p2, hd, p3⟩
    · have q1 := I.kIn a _ k1
      obtain ⟨o', p1, p2, n', p3⟩ := pl
      rw [q1] at p1; cases p1
      exact ⟨o, n', q1, p2, k3, p3⟩
  | _ => rw [ep] at hb; cases hb
end
end DP

namespace DP
open PySem PySem.Spec PyProof.Rows L2

theorem cut_map {α β : Type} (f : α → β) (xs : List α) (lo hi : Option Int) : cut (xs.map f) lo hi = (cut xs lo hi).map f := by
  unfold cut
  rw [List.length_map, List.map_take, List.map_drop]
theorem DRs_ints {c : RC} {H : Hp} {φ : Nat → Addr} {m b : Nat} : ∀ ns : List Int, DRs c H φ m b (ns.map .int) (ns.map .int)
  | [] => rfl
  | n :: ns => ⟨_, _, rfl, rfl, DRs_ints ns⟩
def rSl (c : RC) : V → Option Int → Option Int → Hp → VK → Prop := fun x lo hi H Q => ∃ B φ S dx d, Rel c B H φ S ∧ DR c H φ S.length S.length dx x ∧ slc (peek S dx) lo hi = some d ∧
  After c B H φ S.length S fun H' φ' => ∀ v, DR c H' φ' S.length S.length d v → Q v H'
section
variable {X : Cx} {ER : List Addr}
theorem sl_any : SlR X (rSl (rcx X ER)) := by
  intro pins s σ H x v vl vu lo hi sl Q I rx hs pl pu h
  obtain ⟨B, φ, S, dx, d, R, hx, hd, hQ⟩ := h
  cases ep : peek S dx with
  | lst xs =>
    rw [ep] at hd; cases hd
    obtain ⟨a, ws, rfl, t, z, r⟩ := peek_lst R hx ep
    exact sl_list pins s σ H _ v vl vu lo hi sl Q I rx hs pl pu ⟨a, ws, rfl, .inl (.inl t), new_lst R (KF.of hQ) (Nat.le_trans (cut_length xs lo hi) z) (DRs.cut r lo hi)⟩
  | scr ns =>
    rw [ep] at hd; cases hd
    have e := peek_eq ep (fun _ z => nomatch z) (fun _ z => nomatch z)
    subst e
    unfold DR at hx
    obtain ⟨a, rfl, t⟩ := hx
    obtain ⟨its, rv, _, hz⟩ := I.list t.sq
    refine sl_list pins s σ H _ v vl vu lo hi sl Q I rx hs pl pu ⟨a, _, rfl, t.sq, new_lst R (KF.of hQ) ?_ ?_⟩
    · rw [List.length_map]
      rw [List.length_map] at hz
      exact Nat.le_trans (cut_length ns lo hi) hz
    · show DRs _ _ _ _ _ _ (cutV (ns.map V.int) lo hi)
      have e : cutV (ns.map V.int) lo hi = (cut ns lo hi).map V.int := cut_map V.int ns lo hi
      rw [e]
      exact DRs_ints _
  | tup xs =>
    rw [ep] at hd; cases hd
    obtain ⟨a, ws, rfl, t, z, r⟩ := peek_tup hx ep
    have zc := Nat.le_trans (cut_length xs lo hi) z
    have rc := DRs.cut r lo hi
    by_cases hw : HT.sIx ws.length 0 lo = 0 ∧ HT.sIx ws.length ws.length hi = ws.length
    · refine sl_tupA pins s σ H _ v vl vu lo hi sl Q I rx hs pl pu ⟨a, ws, rfl, t.sq, fun _ => ?_, fun n => absurd hw n⟩
      refine old_tup R hQ zc t ?_
      have e : cutV ws lo hi = ws := by unfold cutV; rw [hw.1, hw.2]; simp
      rw [e] at rc; exact rc
    · cases rx
      obtain ⟨its, rv, ht, hz⟩ := I.tuple t.sq
      have hlen : its.toArray.size = ws.length := by rw [List.size_toArray]; exact rv.length.symm
      refine ⟨"tuple", _, PyProof.Rows.slot_tuple_getitem.lookup, ht.typeIs, HT.getItem_tuple_cut ht hs pl pu (by rw [hlen]; exact hw) ?_ (by rw [hlen]; exact hz)⟩
      rw [hlen]
      have rv2 : Vals (cutV ws lo hi) ((its.drop (HT.sIx ws.length 0 lo)).take (HT.sIx ws.length ws.length hi - HT.sIx ws.length 0 lo)) := (rv.drop _).take _
      exact NewT.push (t := s.toks) I (new_tup R hQ zc rc) rv2 (by rw [← DRs.length rc]; exact zc)
  | _ => rw [ep] at hd; cases hd
/-- a tuple display -/
theorem pe_tupF {es : List Expr} {t : TA} {x1 : Nat} {pos : Pos} (h : PA X es t) : PE X (.Tuple es x1 pos) (fun σ H Q => t σ H fun xs H1 => xs.length ≤ sizeLine ∧ NewT Q H1 xs) := by
  refine ⟨fun pins s σ H Q I hq => ?_⟩
  exact wpAny_Tuple_spliced (thn (h.run pos pins s σ H _ I hq) fun us s1 ⟨xs, H1, I1, r, z, q⟩ => ⟨by rw [← r.length]; exact z, NewT.push (t := s1.toks) I1 q r z⟩)
end

/-! ### readings -/
abbrev EX := Nat → List DV → Store → Hp → (Nat → Addr) → Prop
def noE : EX := fun _ _ _ _ _ => False
/-- the state at a term -/
structure At (c : RC) (G : Ctx) (B : Nat → Prop) (σ : L2.St) (H : Hp) (φ : Nat → Addr) (e : Env) (S : Store) : Prop where
  base : ∀ b, B b → b ≤ G.base
  rel : Rel c B H φ S
  env : EnvR c H φ S.length e σ
def kD (c : RC) (Q : VK) : DV → Store → Hp → (Nat → Addr) → Prop := fun d S' H' φ' => ∀ v, DR c H' φ' S'.length S'.length d v → Q v H'
/-- a list or a dict -/
def isFr : DV → Bool
  | .lst _ => true
  | .dic _ => true
  | _ => false
def kFr (c : RC) (Q : VK) : DV → Store → Hp → (Nat → Addr) → Prop := fun d S' H' φ' => isFr d = true ∧ KF c Q S'.length d H' φ'
def kDs (c : RC) (Q : List V → Hp → Prop) : List DV → Store → Hp → (Nat → Addr) → Prop := fun ds S' H' φ' => ∀ vs, DRs c H' φ' S'.length S'.length ds vs → Q vs H'
def kB (Q : Bool → Hp → Prop) : DV → Store → Hp → (Nat → Addr) → Prop := fun d S' H' φ' => ∃ k, d = .bl k ∧ Q k H'
def tD (c : RC) (G : Ctx) (E : EX) (m : ME) : TE := fun σ H Q => ∃ B φ e S, At c G B σ H φ e S ∧ Post c B H φ S.length (evE G m e S) (kD c Q) E
def tF (c : RC) (G : Ctx) (E : EX) (m : ME) : TE := fun σ H Q => ∃ B φ e S, At c G B σ H φ e S ∧ Post c B H φ S.length (evE G m e S) (kFr c Q) E
def tT (c : RC) (G : Ctx) (E : EX) (m : ME) : TT := fun σ H Q => ∃ B φ e S, At c G B σ H φ e S ∧ Post c B H φ S.length (evE G m e S) (kB Q) E
def tDs (c : RC) (G : Ctx) (E : EX) (ms : List ME) : TA := fun σ H Q => ∃ B φ e S, At c G B σ H φ e S ∧ Post c B H φ S.length (evEs G ms e S) (kDs c Q) E

section
variable {c : RC} {G : Ctx} {E : EX} {B : Nat → Prop} {σ : L2.St} {H H1 : Hp} {φ φ1 : Nat → Addr} {e : Env} {S S1 : Store}
theorem At.next (a : At c G B σ H φ e S) (f : Fut H φ S.length H1 φ1 S1.length) (r : Rel c B H1 φ1 S1) : At c G B σ H1 φ1 e S1 := ⟨a.base, r, a.env.mono f⟩
/-- a term, then what follows -/
theorem At.step {α : Type} {m : ME} {g : DV → Store → Res α} {k : α → Store → Hp → (Nat → Addr) → Prop} {R : VK} (a : At c G B σ H φ e S) (h : Post c B H φ S.length ((evE G m e S).bind g) k E)
    (hK : ∀ d S1 H1 φ1 v, Fut H φ S.length H1 φ1 S1.length → At c G B σ H1 φ1 e S1 → DR c H1 φ1 S1.length S1.length d v → Post c B H1 φ1 S1.length (g d S1) k E → R v H1) : tD c G E m σ H R :=
  ⟨B, φ, e, S, a, h.unbind.imp fun d S1 H1 φ1 f r q v hv => hK d S1 H1 φ1 v f (a.next f r) hv q⟩
theorem At.steps {α : Type} {ms : List ME} {g : List DV → Store → Res α} {k : α → Store → Hp → (Nat → Addr) → Prop} {R : List V → Hp → Prop} (a : At c G B σ H φ e S) (h : Post c B H φ S.length ((evEs G ms e S).bind g) k E)
    (hK : ∀ ds S1 H1 φ1 vs, Fut H φ S.length H1 φ1 S1.length → At c G B σ H1 φ1 e S1 → DRs c H1 φ1 S1.length S1.length ds vs → Post c B H1 φ1 S1.length (g ds S1) k E → R vs H1) : tDs c G E ms σ H R :=
  ⟨B, φ, e, S, a, h.unbind.imp fun ds S1 H1 φ1 f r q vs hv => hK ds S1 H1 φ1 vs f (a.next f r) hv q⟩
theorem At.stepT {α : Type} {m : ME} {g : Bool → Store → Res α} {k : α → Store → Hp → (Nat → Addr) → Prop} {R : Bool → Hp → Prop} (a : At c G B σ H φ e S) (h : Post c B H φ S.length ((evE G m e S).bind fun x S => asBl x fun b => g b S) k E)
    (hK : ∀ b S1 H1 φ1, Fut H φ S.length H1 φ1 S1.length → At c G B σ H1 φ1 e S1 → Post c B H1 φ1 S1.length (g b S1) k E → R b H1) : tT c G E m σ H R :=
  ⟨B, φ, e, S, a, h.unbind.imp fun d S1 H1 φ1 f r q => by
    cases d with
    | bl b => exact ⟨b, rfl, hK b S1 H1 φ1 f (a.next f r) q⟩
    | _ => exact q.elim⟩
theorem Post.of {o : Option DV} {Q : DV → Store → Hp → (Nat → Addr) → Prop} (h : Post c B H φ S.length (Res.of o S) Q E) : ∃ d, o = some d ∧ After c B H φ S.length S (Q d S) := by
  cases o with
  | none => exact h.elim
  | some d => exact ⟨d, rfl, h⟩
theorem Post.okN {α : Type} {n : Nat} {d : α} {Q : α → Store → Hp → (Nat → Addr) → Prop} (h : Post c B H φ n (.ok d S) Q E) : After c B H φ n S (Q d S) := h
/-- what is given at once -/
theorem Post.ok {Q : VK} {d : DV} {v : V} (R : Rel c B H φ S) (h : Post c B H φ S.length (.ok d S) (kD c Q) E) (hv : DR c H φ S.length S.length d v) : Q v H := h H φ (Fut.refl _ _ _) R v hv
theorem tF.tD {m : ME} {Q : VK} (hf : ∀ e S d S', evE G m e S = .ok d S' → isFr d = true) (h : tD c G E m σ H Q) : tF c G E m σ H Q := by
  obtain ⟨B, φ, e, S, a, h⟩ := h
  refine ⟨B, φ, e, S, a, ?_⟩
  cases q : evE G m e S with
  | ok d S' =>
    rw [q] at h
    exact fun H' φ' f r => ⟨hf _ _ _ _ q, fun p ho hp hb => h _ φ' (f.trans (Fut.laid hp)) (r.laid hp) _ (hb.dr r hp)⟩
  | exc cl as S' => rw [q] at h; exact h
  | stuck => rw [q] at h; exact h
end
end DP

namespace DP
open PySem PySem.Spec PyProof.Rows L2

def BF.name : BF → Str
  | .len => "len" | .tuple => "tuple" | .list => "list" | .sorted => "sorted" | .dict => "dict" | .int => "int" | .str => "str" | .repr => "repr" | .min => "min" | .max => "max" | .sum => "sum" | .any => "any" | .all => "all"
/-- those that are shown -/
def BF.has : BF → Bool
  | .len => true | .tuple => true | .list => true | .sorted => true | .dict => true | .int => true | .repr => true
  | _ => false
def BF.isF : BF → Bool
  | .list => true | .sorted => true | .dict => true
  | _ => false
instance : BEq BF := ⟨fun a b => decide (a = b)⟩
structure Nm where
  N : List Str
  sc : Scope
  fn : Str → Bool
  fs : List Str
  cs : List Str
  bs : List BF
  rng : Bool
def visB (n : Nm) (x : Str) : Bool := match n.sc.names.lookup x with
  | some .local => true
  | some .cell => true
  | some .free => true
  | _ => false
def glB (n : Nm) (x : Str) : Bool := match n.sc.names.lookup x with
  | some .globalImplicit => true
  | _ => false
/-- a name that is stored -/
def stB (n : Nm) (i : Nat) (x : Str) : Bool := decide (n.N[i]? = some x) && (match n.sc.names.lookup x with
  | some .local => true
  | some .cell => n.fn x
  | _ => false)
def nameOk (x : Str) : Bool := !(x == ("__debug__" : Str)) && !(x == ("__classdict__" : Str)) && !(x == ("__name__" : Str))
def sgB (x : Str) : Bool := decide (x.length ≤ 1000000) && PyData.strOk x
def opB : BO → Operator → Bool
  | .add, .Add => true | .sub, .Sub => true | .mul, .Mult => true | .fdiv, .FloorDiv => true | .mod, .Mod => true | .pow, .Pow => true
  | _, _ => false
def coB : CO → CmpOp → Bool
  | .eq, .Eq => true | .ne, .NotEq => true | .lt, .Lt => true | .le, .LtE => true | .gt, .Gt => true | .ge, .GtE => true | .isin, .In => true | .notin, .NotIn => true
  | _, _ => false
theorem opB_eq {a : BO} {o : Operator} (h : opB a o = true) : o = a.py := by cases a <;> cases o <;> first | rfl | cases h
theorem coB_eq {a : CO} {o : CmpOp} (h : coB a o = true) : o = a.py := by cases a <;> cases o <;> first | rfl | cases h
def noCall : Expr → Bool
  | .Call _ _ _ _ => false
  | _ => true
def tgB (n : Nm) : MT → Expr → Bool
  | .nm i, .Name x _ => stB n i x
  | .tp is, .Tuple ts _ _ => go n is ts
  | _, _ => false
where go (n : Nm) : List Nat → List Expr → Bool
  | [], [] => true
  | i :: is, .Name x _ :: ts => stB n i x && go n is ts
  | _, _ => false
def ownOf (N : List Str) (own : List Nat) : List (Str × Nat) := own.map fun i => (N[i]?.getD "", i)
def MT.slots : MT → List Nat
  | .nm i => [i]
  | .tp is => is
/-- a fresh thing -/
def isF : ME → Bool
  | .newD => true
  | .lst _ => true
  | .comp _ _ _ _ _ _ => true
  | .bin _ _ _ => true
  | .blt f _ => f.isF
  | _ => false
def blkN (n : Nm) (scope : Scope) : Nm := { n with sc := relS scope n.sc, fn := fun x => scope.names.lookup x == some .cell }

mutual
def cpE (n : Nm) : ME → Expr → Bool
  | .non, ex => (match ex with
    | .Constant .none _ _ => true
    | _ => false)
  | .bl b, ex => (match ex with
    | .Constant (.bool k) _ _ => b == k
    | _ => false)
  | .int i, ex => (match ex with
    | .Constant (.int k) _ _ => decide (i = k)
    | _ => false)
  | .str x, ex => (match ex with
    | .Constant (.str y) _ _ => decide (x = y) && sgB x
    | _ => false)
  | .var i, ex => (match ex with
    | .Name x _ => decide (n.N[i]? = some x) && visB n x && nameOk x
    | _ => false)
  | .con k, ex => (match ex with
    | .Name x _ => decide (n.cs[k]? = some x) && glB n x && nameOk x
    | _ => false)
  | .tup es, ex => (match ex with
    | .Tuple xs _ _ => cpEs n es xs && decide (es.length ≤ 1000000)
    | _ => false)
  | .lst es, ex => (match ex with
    | .List xs _ => cpEs n es xs && decide (es.length ≤ 1000000)
    | _ => false)
  | .newD, ex => (match ex with
    | .Dict [] [] _ => true
    | _ => false)
  | .bin op a b, ex => (match ex with
    | .BinOp l o r _ => opB op o && cpE n a l && cpE n b r
    | _ => false)
  | .neg a, ex => (match ex with
    | .UnaryOp .USub l _ => cpE n a l
    | _ => false)
  | .cmp op a b, ex => (match ex with
    | .Compare l [o] [r] _ => coB op o && cpE n a l && cpE n b r
    | _ => false)
  | .chain op op' a b c, ex => (match ex with
    | .Compare l [o, o'] [r, t] _ => coB op o && coB op' o' && cpE n a l && cpE n b r && cpE n c t
    | _ => false)
  | .isN a, ex => (match ex with
    | .Compare l [.Is] [.Constant .none _ _] _ => cpE n a l
    | _ => false)
  | .notN a, ex => (match ex with
    | .Compare l [.IsNot] [.Constant .none _ _] _ => cpE n a l
    | _ => false)
  | .and a b, ex => (match ex with
    | .BoolOp .And (x :: y :: r) pos => cpE n a x && (match r with
      | [] => cpE n b y
      | _ :: _ => cpE n b (.BoolOp .And (y :: r) pos))
    | _ => false)
  | .or a b, ex => (match ex with
    | .BoolOp .Or (x :: y :: r) pos => cpE n a x && (match r with
      | [] => cpE n b y
      | _ :: _ => cpE n b (.BoolOp .Or (y :: r) pos))
    | _ => false)
  | .not a, ex => (match ex with
    | .UnaryOp .Not l _ => cpE n a l
    | _ => false)
  | .ite c a b, ex => (match ex with
    | .IfExp t x y _ => cpE n c t && cpE n a x && cpE n b y
    | _ => false)
  | .idx a i, ex => (match ex with
    | .Subscript l r _ => cpE n a l && cpE n i r
    | _ => false)
  | .slc a lo hi, ex => (match ex with
    | .Subscript l (.Slice x y none _) _ => cpE n a l && cpO n lo x && cpO n hi y
    | _ => false)
  | .rev a, ex => (match ex with
    | .Subscript l (.Slice none none (some (.UnaryOp .USub (.Constant (.int k) _ _) _)) _) _ => decide (k = 1) && cpE n a l
    | _ => false)
  | .call k es, ex => (match ex with
    | .Call (.Name x _) args [] _ => decide (n.fs[k]? = some x) && glB n x && nameOk x && cpEs n es args
    | _ => false)
  | .blt f es, ex => (match ex with
    | .Call (.Name x _) args [] _ => decide (x = f.name) && n.bs.contains f && f.has && glB n x && cpEs n es args && decide (args.length = 1)
    | _ => false)
  | .meth f o es, ex => (match ex with
    | .Call (.Attribute l x apos) args [] pos => decide (x = f.name) && noCall l && (apos.endLine == pos.line) && cpE n o l && cpEs n es args && decide (0 < args.length ∧ args.length < 20)
    | _ => false)
  | .comp elt tg src ses cnd own, ex => (match ex with
    | .ListComp x [⟨t, it, ifs, a⟩] scope _ => decide (a = 0) && cpI n src ses it && blkC n.N n.sc scope (ownOf n.N own) && tgB (blkN n scope) tg t && (tg.slots.all fun i => own.contains i) && cpC (blkN n scope) cnd ifs && cpE (blkN n scope) elt x
    | _ => false)
  | .new a, ex => isF a && cpE n a ex
def cpEs (n : Nm) : List ME → List Expr → Bool
  | [], xs => (match xs with
    | [] => true
    | _ => false)
  | m :: ms, xs => (match xs with
    | x :: xs => cpE n m x && cpEs n ms xs
    | _ => false)
def cpO (n : Nm) : List ME → Option Expr → Bool
  | [], x => (match x with
    | none => true
    | _ => false)
  | m :: ms, x => (match ms, x with
    | [], some e => cpE n m e
    | _, _ => false)
def cpC (n : Nm) : List ME → List Expr → Bool
  | [], x => (match x with
    | [] => true
    | _ => false)
  | m :: ms, x => (match ms, x with
    | [], [e] => cpE n m e
    | _, _ => false)
/-- what a loop goes over -/
def cpI (n : Nm) (k : SK) : List ME → Expr → Bool
  | [], _ => false
  | m :: ms, ex => (match k with
    | .seq => ms.isEmpty && cpE n m ex
    | .keys => ms.isEmpty && cpE n m ex
    | .rng1 => (match ex with
      | .Call (.Name x _) args [] _ => decide (x = "range") && n.rng && glB n x && ms.isEmpty && (match args with
        | [e] => cpE n m e
        | _ => false)
      | _ => false)
    | .rng2 => (match ex with
      | .Call (.Name x _) args [] _ => decide (x = "range") && n.rng && glB n x && decide (args.length = 2) && (match args with
        | e :: r => cpE n m e && cpEs n ms r
        | _ => false)
      | _ => false)
    | _ => false)
end
def noLc : Expr → Bool
  | .ListComp _ _ _ _ => false
  | .SetComp _ _ _ _ => false
  | .DictComp _ _ _ _ _ => false
  | _ => true
def noTup : Expr → Bool
  | .Tuple _ _ _ => false
  | _ => true
/-- a comprehension that is stored under a name at once -/
def lcSwap (n : Nm) (y : Str) (py : Pos) : Expr → Bool
  | .ListComp _ _ scope pos => (match n.sc.names.lookup y with
    | some .local => true
    | _ => false) && (py.line == pos.line) && !(scope.names.any fun (n, k) => n == y && (k == .local || k == .cell))
  | e => noLc e
mutual
def cpS (n : Nm) : MS → Stmt → Bool
  | .asg i a, st => (match st with
    | .Assign [.Name x py] v _ => stB n i x && cpE n a v && lcSwap n x py v
    | _ => false)
  | .asgT is a, st => (match st with
    | .Assign [.Tuple ts _ _] v _ => tgB.go n is ts && cpE n a v && noLc v && noTup v
    | _ => false)
  | .par _ _ _ _, _ => false
  | .sub o i a, st => (match st with
    | .Assign [.Subscript l r _] v _ => cpE n o l && cpE n i r && cpE n a v && noLc v
    | _ => false)
  | .expr a, st => (match st with
    | .Expr v _ => cpE n a v && noLc v
    | _ => false)
  | .ret a, st => (match st with
    | .Return (some v) _ => cpE n a v
    | _ => false)
  | .retN, st => (match st with
    | .Return none _ => true
    | _ => false)
  | .ifs c a b, st => (match st with
    | .If t x y _ => cpE n c t && cpB n a x && cpB n b y
    | _ => false)
  | .whl _ c b, st => (match st with
    | .While t x [] _ => cpE n c t && cpB n b x
    | _ => false)
  | .fors tg src ses b, st => (match st with
    | .For t it x [] _ => cpI n src ses it && tgB n tg t && cpB n b x
    | _ => false)
def cpB (n : Nm) : List MS → List Stmt → Bool
  | [], xs => (match xs with
    | [] => true
    | _ => false)
  | m :: ms, xs => (match xs with
    | x :: xs => cpS n m x && cpB n ms xs
    | _ => false)
end
/-! what cpE says of the expression's form -/
theorem cp_star {n : Nm} {m : ME} {ex : Expr} (h : cpE n m ex = true) : ∀ (es : List Expr) (env : PySem.Env), starEach (ex :: es) env = (false, eval ex env) :: starEach es env := by
  cases ex with
  | Starred v pos =>
    exfalso
    induction m using ME.rec (motive_2 := fun _ => True) with
    | new a ih => simp only [cpE, Bool.and_eq_true] at h; exact ih h.2
    | nil => trivial
    | cons _ _ _ _ => trivial
    | _ => simp [cpE] at h
  | _ => intro es env; rfl
end DP

namespace DP
open PySem PySem.Spec PyProof.Rows L2

section
variable {n : Nm} {m : ME} {ex : Expr}
theorem cp_ix (h : cpE n m ex = true) : PlainIx ex := by
  cases ex with
  | Slice a b c pos =>
    exfalso
    induction m using ME.rec (motive_2 := fun _ => True) with
    | new a ih => simp only [cpE, Bool.and_eq_true] at h; exact ih h.2
    | nil => trivial
    | cons _ _ _ _ => trivial
    | _ => simp [cpE] at h
  | _ => intro o i; rfl
theorem cp_mark (h : cpE n m ex = true) (op : CmpOp) : behindInMarks op ex = false := by
  cases ex with
  | Set a b pos =>
    exfalso
    induction m using ME.rec (motive_2 := fun _ => True) with
    | new a ih => simp only [cpE, Bool.and_eq_true] at h; exact ih h.2
    | nil => trivial
    | cons _ _ _ _ => trivial
    | _ => simp [cpE] at h
  | _ => rfl
theorem cp_fold (h : cpE n m ex = true) (env : PySem.Env) (x : Value) : foldedSetIterable ex env x = pure x := by
  cases ex with
  | Set a b pos =>
    exfalso
    induction m using ME.rec (motive_2 := fun _ => True) with
    | new a ih => simp only [cpE, Bool.and_eq_true] at h; exact ih h.2
    | nil => trivial
    | cons _ _ _ _ => trivial
    | _ => simp [cpE] at h
  | _ => rfl
theorem base_of {env : PySem.Env} {x : Str} (h : noCall ex = true) : attributeBase ex x env (eval ex env) = eval ex env := by
  cases ex <;> first | rfl | cases h
theorem sub_assign {o i : Expr} {pos : Pos} {env : PySem.Env} (h : PlainIx i) (hs : cpE n m i = true) (v : Value) : assign (.Subscript o i pos) env v = (do
      let ov ← holding [v] (eval o env)
      let iv ← holding [v, ov] (eval i env)
      standAt pos
      holding [v, ov, iv] (setItem ov iv v)
      release [v, ov, iv] []) := by
  cases i with
  | Slice a b c pos =>
    exfalso
    induction m using ME.rec (motive_2 := fun _ => True) with
    | new a ih => simp only [cpE, Bool.and_eq_true] at hs; exact ih hs.2
    | nil => trivial
    | cons _ _ _ _ => trivial
    | _ => simp [cpE] at hs
  | _ => rfl
theorem noLc_swap {e : Expr} (h : noLc e = true) (t : Option Expr) (l : Nat) (env : PySem.Env) : swapsWith e t l env = pure false := by
  cases e <;> first | rfl | cases h
end

/-! ### a callee -/
structure FnG (P : Program) (w : World) (K : PySem.W.Frag) (mg : Str → Option Value) (base : Heap) (k : Nat) (f : Addr) (fd : FuncData) (ps : List Str) (sp : List V → Hp → VK → Prop) : Prop where
  len : ∀ vs H Q, sp vs H Q → vs.length = ps.length
  run : ∀ (A : Around) (outer : List PySem.Env) (s : Shared) (H : Hp) (args : Args) (us : List Value) (vs : List V) (Q : VK), Room k A → A.guards = some [] → Env0 P w K mg base A outer s H → BindsTo s fd args (ps.zip us) → Vals vs us → sp vs H Q →
    codeAny (model P w) A (.call (.ref f) args) (fun r s' => match r with
      | .ok (.ret u) => CE outer P w H s Q u s'
      | _ => False) s
theorem FnG.mono {P : Program} {w : World} {K : PySem.W.Frag} {mg : Str → Option Value} {base : Heap} {k k' : Nat} {f : Addr} {fd : FuncData} {ps : List Str} {sp : List V → Hp → VK → Prop} (F : FnG P w K mg base k f fd ps sp) (h : k ≤ k') : FnG P w K mg base k' f fd ps sp :=
  ⟨F.len, fun A outer s H args us vs Q hr => F.run A outer s H args us vs Q (hr.mono h)⟩
/-- what a def of the small language promises -/
def spD (P : Program) (w : World) (K : PySem.W.Frag) (f : Fn) : List V → Hp → VK → Prop := fun vs H Q => ∃ ER b B φ S as, (∀ b', B b' → b' ≤ b) ∧ Rel ⟨P, w, K, ER⟩ B H φ S ∧ DRs ⟨P, w, K, ER⟩ H φ S.length S.length as vs ∧
  Post ⟨P, w, K, ER⟩ B H φ S.length (f b as S) (kD ⟨P, w, K, ER⟩ Q) noE
def Callee (X : Cx) (f : Fn) (x : Str) : Prop := ∃ fa fd ps k, FnG X.prog X.w X.K X.mg X.base k fa fd ps (spD X.prog X.w X.K f) ∧ Room k X.A ∧ X.mg x = some (.ref fa) ∧ PySem.W.keepIn X.K (.ref fa) = true ∧ Binds X.K fd ps []
structure Cok (n : Nm) (G : Ctx) (X : Cx) : Prop where
  calm : X.calm = true
  N : X.N = n.N
  nd : n.N.Nodup
  sc : X.env.scope = n.sc
  fn : ∀ x, n.fn x = true → X.fn x = true
  un : X.A.units + 96 < cLine
  gd : X.A.guards = some []
  bs : ∀ f : BF, n.bs.contains f = true → X.mg f.name = none
  rg : n.rng = true → X.mg "range" = none
  cs : ∀ (k : Nat) (d : DV), G.cs[k]? = some d → ∃ x v u, n.cs[k]? = some x ∧ X.mg x = some u ∧ RelV v u ∧ ∀ ER H φ m b, DR (rcx X ER) H φ m b d v
  fs : ∀ (k : Nat) (x : Str), n.fs[k]? = some x → ∃ f, G.fs[k]? = some f ∧ Callee X f x
section
variable {X : Cx} {n : Nm} {G : Ctx}
theorem Cok.vis (C : Cok n G X) {x : Str} (h : visB n x = true) : Vis X.env.scope x := by
  unfold visB at h
  unfold Vis
  rw [C.sc]
  split at h
  · rename_i e; exact .inl e
  · rename_i e; exact .inr (.inl e)
  · rename_i e; exact .inr (.inr e)
  · cases h
theorem Cok.gl (C : Cok n G X) {x : Str} (h : glB n x = true) : Gl X x := by
  unfold glB at h
  split at h
  · rename_i e
    show X.env.scope.names.lookup x = some .globalImplicit
    rw [C.sc]; exact e
  · cases h
theorem nameOk_d {x : Str} (h : nameOk x = true) : (x == ("__debug__" : Str)) = false := by
  unfold nameOk at h
  simp only [Bool.and_eq_true, Bool.not_eq_true'] at h
  exact h.1.1
theorem nameOk_c {x : Str} (h : nameOk x = true) : (x == ("__classdict__" : Str)) = false := by
  unfold nameOk at h
  simp only [Bool.and_eq_true, Bool.not_eq_true'] at h
  exact h.1.2
theorem run_G {f : Fn} {fa : Addr} {fd : FuncData} {ps : List Str} {k : Nat} (C : Cok n G X) (F : FnG X.prog X.w X.K X.mg X.base k fa fd ps (spD X.prog X.w X.K f)) (hr : Room k X.A) (hb : Binds X.K fd ps [])
    {pins : List (Addr × Obj)} {σ : L2.St} {H : Hp} {s : Shared} {Q : VK} {us : List Value} {vs : List V} (I : L2.Inv X pins σ H s) (r : Vals vs us) (h : spD X.prog X.w X.K f vs H Q) :
      wpAny (model X.prog X.w) X.A (call (.ref fa) us) (EP X pins σ Q) X.xe s := by
  have hl : us.length = ps.length := by rw [← r.length]; exact F.len _ _ _ h
  refine wpAny_call (codeAny_mono (F.run X.A X.stack s H ⟨us, []⟩ us vs Q hr C.gd I.env0 (by have := hb s us I.kIn (by rw [List.append_nil]; exact hl); rw [List.append_nil] at this; exact this) r h) fun q s' hq => ?_)
  cases q with
  | error e => exact hq.elim
  | ok fl =>
    cases fl with
    | ret u => exact I.after hq
    | _ => exact hq.elim
/-- a call of a def -/
theorem pe_fnG {f : Fn} {x : Str} {p pos : Pos} {e : Expr} {es : List Expr} {t : TA} (C : Cok n G X) (hf : Callee X f x) (hg : Gl X x) (hd : (x == ("__debug__" : Str)) = false) (ha : PA X (e :: es) t)
    (h1 : starEach (e :: es) X.env = (false, eval e X.env) :: starEach es X.env) (h2 : (backTo pos (starEach es X.env)).any (·.1) = false) :
    PE X (.Call (.Name x p) (e :: es) [] pos) (fun σ H Q => t σ H fun vs H1 => spD X.prog X.w X.K f vs H1 Q) := by
  obtain ⟨fa, fd, ps, k, F, hr, hm, hk, hb⟩ := hf
  refine ⟨fun pins s σ H Q I h => wpAny_Call_Name_kw (ld_glob I hg hm ?_ hd)⟩
  exact PySem.W.callWith_K (h₀ := X.base) I.ok.mod.kin hk (thn (ha.run pos pins s σ H _ I h) fun us s1 ⟨vs, H1, I1, r1, q⟩ => ⟨I1.kIn, run_G C F hr hb I1 r1 q⟩) h1 h2
theorem pe_fnG0 {f : Fn} {x : Str} {p pos : Pos} (C : Cok n G X) (hf : Callee X f x) (hg : Gl X x) (hd : (x == ("__debug__" : Str)) = false) :
    PE X (.Call (.Name x p) [] [] pos) (fun σ H Q => spD X.prog X.w X.K f [] H Q) := by
  obtain ⟨fa, fd, ps, k, F, hr, hm, hk, hb⟩ := hf
  refine ⟨fun pins s σ H Q I h => wpAny_Call_Name_kw (ld_glob I hg hm ?_ hd)⟩
  exact PySem.W.callWith_K0 I.kIn hk (run_G (us := []) C F hr hb I .nil h)
end
end DP

namespace DP
open PySem PySem.Spec PyProof.Rows L2

section
variable {X : Cx} {e : Expr} {es : List Expr}
theorem imE {t t' : TE} (h : PE X e t) (w : ∀ σ H Q, t' σ H Q → t σ H Q) : PE X e t' := ⟨fun pins s σ H Q I q => h.run pins s σ H Q I (w σ H Q q)⟩
theorem imT {t t' : TT} (h : PT X e t) (w : ∀ σ H Q, t' σ H Q → t σ H Q) : PT X e t' := ⟨fun pins s σ H Q I q => h.run pins s σ H Q I (w σ H Q q)⟩
theorem imA {t t' : TA} (h : PA X es t) (w : ∀ σ H Q, t' σ H Q → t σ H Q) : PA X es t' := ⟨fun pos pins s σ H Q I q => h.run pos pins s σ H Q I (w σ H Q q)⟩
end
def SndE (m : ME) : Prop := ∀ {n : Nm} {X : Cx} {G : Ctx} (ER : List Addr) {ex : Expr}, Cok n G X → cpE n m ex = true →
  PE X ex (tD (rcx X ER) G noE m) ∧ PT X ex (tT (rcx X ER) G noE m) ∧ (isF m = true → PE X ex (tF (rcx X ER) G noE m))
def SndEs (ms : List ME) : Prop := ∀ {n : Nm} {X : Cx} {G : Ctx} (ER : List Addr) {es : List Expr}, Cok n G X → cpEs n ms es = true → PA X es (tDs (rcx X ER) G noE ms)
section
variable {X : Cx} {c : RC} {G : Ctx} {m : ME} {ex : Expr}
/-- an expression whose value is tested -/
theorem pt_of (h : PE X ex (tD c G noE m)) (hp : ∀ whole, isTrue ex X.env whole = (do let v ← whole; standAt ex.pos; holding [v] (truthy v))) : PT X ex (tT c G noE m) := by
  refine imT (pt_val h hp) ?_
  rintro σ H Q ⟨B, φ, e, S, a, h⟩
  exact ⟨B, φ, e, S, a, h.imp fun d S' H' φ' f r ⟨k, e1, q⟩ v hv => by subst e1; exact ⟨k, hv, q⟩⟩
theorem mk3 (h : PE X ex (tD c G noE m)) (hp : ∀ whole, isTrue ex X.env whole = (do let v ← whole; standAt ex.pos; holding [v] (truthy v))) (hf : isF m = false) :
    PE X ex (tD c G noE m) ∧ PT X ex (tT c G noE m) ∧ (isF m = true → PE X ex (tF c G noE m)) := ⟨h, pt_of h hp, fun q => by rw [hf] at q; cases q⟩
/-- what is fresh, and so any -/
theorem mkF (hf : ∀ e S d S', evE G m e S = .ok d S' → isFr d = true) (h : PE X ex (tF c G noE m)) (hp : ∀ whole, isTrue ex X.env whole = (do let v ← whole; standAt ex.pos; holding [v] (truthy v))) :
    PE X ex (tD c G noE m) ∧ PT X ex (tT c G noE m) ∧ (isF m = true → PE X ex (tF c G noE m)) :=
  have hd : PE X ex (tD c G noE m) := imE h fun _ _ _ q => tF.tD hf q
  ⟨hd, pt_of hd hp, fun _ => h⟩
theorem At.const {B : Nat → Prop} {σ : L2.St} {H : Hp} {φ : Nat → Addr} {e : Env} {S : Store} {Q : VK} {d : DV} {v : V} (a : At c G B σ H φ e S) (h : Post c B H φ S.length (.ok d S) (kD c Q) noE) (hv : DR c H φ S.length S.length d v) : Q v H := Post.ok a.rel h hv
end
theorem s_non : SndE .non := by
  intro n X G ER ex C h
  simp only [cpE] at h
  split at h
  · refine mk3 (imE pe_non ?_) (fun _ => rfl) rfl
    rintro σ H Q ⟨B, φ, e, S, a, h⟩
    rw [evE] at h
    exact a.const h rfl
  · cases h
theorem s_bl {b : Bool} : SndE (.bl b) := by
  intro n X G ER ex C h
  simp only [cpE] at h
  split at h
  · rename_i k _ _
    have e1 : b = k := by simpa using h
    subst e1
    refine mk3 (imE pe_bl ?_) (fun _ => rfl) rfl
    rintro σ H Q ⟨B, φ, e, S, a, h⟩
    rw [evE] at h
    exact a.const h rfl
  · cases h
theorem s_int {i : Int} : SndE (.int i) := by
  intro n X G ER ex C h
  simp only [cpE] at h
  split at h
  · rename_i k _ _
    have e1 : i = k := by simpa using h
    subst e1
    refine mk3 (imE pe_int ?_) (fun _ => rfl) rfl
    rintro σ H Q ⟨B, φ, e, S, a, h⟩
    rw [evE] at h
    exact a.const h rfl
  · cases h
theorem s_str {x : Str} : SndE (.str x) := by
  intro n X G ER ex C h
  simp only [cpE] at h
  split at h
  · rename_i k _ _
    simp only [Bool.and_eq_true, decide_eq_true_eq] at h
    obtain ⟨e1, hg⟩ := h
    subst e1
    refine mk3 (imE pe_str ?_) (fun _ => rfl) rfl
    rintro σ H Q ⟨B, φ, e, S, a, h⟩
    rw [evE] at h
    unfold sgB at hg
    simp only [Bool.and_eq_true, decide_eq_true_eq] at hg
    exact a.const h ⟨rfl, Nat.le_trans hg.1 (by rw [sizeLine_eq]; decide), hg.2⟩
  · cases h
theorem s_var {i : Nat} : SndE (.var i) := by
  intro n X G ER ex C h
  simp only [cpE] at h
  split at h
  · rename_i x pos
    simp only [Bool.and_eq_true, decide_eq_true_eq] at h
    obtain ⟨⟨h1, h2⟩, h3⟩ := h
    refine mk3 (imE (pe_var (i := i) (by rw [C.N]; exact h1) (C.vis h2) (nameOk_d h3) (nameOk_c h3)) ?_) (fun _ => rfl) rfl
    rintro σ H Q ⟨B, φ, e, S, a, h⟩
    rw [evE] at h
    obtain ⟨d, e1, h⟩ := Post.of h
    have e2 : e[i]? = some (some d) := by
      cases q : e[i]? with
      | none => rw [q] at e1; cases e1
      | some o => rw [q] at e1; exact congrArg some e1
    obtain ⟨v, e3, hv⟩ := a.env.2 i d e2
    exact ⟨v, e3, h H φ (Fut.refl _ _ _) a.rel v hv⟩
  · cases h
theorem s_con {k : Nat} : SndE (.con k) := by
  intro n X G ER ex C h
  simp only [cpE] at h
  split at h
  · rename_i x pos
    simp only [Bool.and_eq_true, decide_eq_true_eq] at h
    obtain ⟨⟨h1, h2⟩, h3⟩ := h
    cases hk : G.cs[k]? with
    | none =>
      refine mk3 (imE (t := fun _ _ _ => False) ⟨fun _ _ _ _ _ _ z => z.elim⟩ ?_) (fun _ => rfl) rfl
      rintro σ H Q ⟨B, φ, e, S, a, h⟩
      rw [evE, hk] at h
      exact h
    | some d =>
      obtain ⟨y, v, u, e1, e2, e3, e4⟩ := C.cs k d hk
      rw [h1] at e1
      have e1 : x = y := Option.some.inj e1
      subst e1
      refine mk3 (imE (pe_glob (C.gl h2) e2 e3 (nameOk_d h3)) ?_) (fun _ => rfl) rfl
      rintro σ H Q ⟨B, φ, e, S, a, h⟩
      rw [evE, hk] at h
      exact a.const h (e4 ER H φ S.length S.length)
  · cases h
theorem Res.bind_okI {α β : Type} {r : Res α} {g : α → Store → Res β} {b : β} {S : Store} (h : r.bind g = .ok b S) : ∃ a S1, r = .ok a S1 ∧ g a S1 = .ok b S := by
  cases r with
  | ok a S1 => exact ⟨a, S1, rfl, h⟩
  | exc c as S1 => cases h
  | stuck => cases h
theorem evEs_len {G : Ctx} : ∀ {ms : List ME} {e : Env} {S S' : Store} {ds : List DV}, evEs G ms e S = .ok ds S' → ds.length = ms.length
  | [], e, S, S', ds, h => by rw [evEs] at h; cases h; rfl
  | m :: ms, e, S, S', ds, h => by
    rw [evEs] at h
    obtain ⟨d, S1, _, h⟩ := Res.bind_okI h
    obtain ⟨ds1, S2, h1, h⟩ := Res.bind_okI h
    cases h
    rw [List.length_cons, List.length_cons, evEs_len h1]
theorem At.stepsL {c : RC} {G : Ctx} {E : EX} {B : Nat → Prop} {σ : L2.St} {H : Hp} {φ : Nat → Addr} {e : Env} {S : Store} {α : Type} {ms : List ME} {g : List DV → Store → Res α} {k : α → Store → Hp → (Nat → Addr) → Prop} {R : List V → Hp → Prop} (a : At c G B σ H φ e S) (h : Post c B H φ S.length ((evEs G ms e S).bind g) k E)
    (hK : ∀ ds S1 H1 φ1 vs, ds.length = ms.length → At c G B σ H1 φ1 e S1 → DRs c H1 φ1 S1.length S1.length ds vs → Post c B H1 φ1 S1.length (g ds S1) k E → R vs H1) : tDs c G E ms σ H R := by
  refine ⟨B, φ, e, S, a, ?_⟩
  have h2 := h.unbind
  cases q : evEs G ms e S with
  | ok ds S1 =>
    rw [q] at h2
    exact fun H1 φ1 f r vs hv => hK ds S1 H1 φ1 vs (evEs_len q) (a.next f r) hv (h2 H1 φ1 f r)
  | exc cl as S1 => rw [q] at h2; exact h2
  | stuck => rw [q] at h2; exact h2
theorem line6 {k : Nat} (h : k ≤ 1000000) : k ≤ sizeLine := Nat.le_trans h (by rw [sizeLine_eq]; decide)
theorem s_tup {es : List ME} (ih : SndEs es) : SndE (.tup es) := by
  intro n X G ER ex C h
  simp only [cpE] at h
  split at h
  · rename_i xs k pos
    simp only [Bool.and_eq_true, decide_eq_true_eq] at h
    refine mk3 (imE (pe_tupF (ih ER C h.1)) ?_) (fun _ => rfl) rfl
    rintro σ H Q ⟨B, φ, e, S, a, h1⟩
    rw [evE] at h1
    refine a.stepsL h1 fun ds S1 H1 φ1 vs hl a1 r h2 => ?_
    have hz : ds.length ≤ sizeLine := by rw [hl]; exact line6 h.2
    exact ⟨by rw [← DRs.length r]; exact hz, new_tup a1.rel (Post.okN h2) hz r⟩
  · cases h
theorem s_lst {es : List ME} (ih : SndEs es) : SndE (.lst es) := by
  intro n X G ER ex C h
  simp only [cpE] at h
  split at h
  · rename_i xs pos
    simp only [Bool.and_eq_true, decide_eq_true_eq] at h
    refine mkF (fun e S d S' q => by rw [evE] at q; obtain ⟨ds, S1, _, q⟩ := Res.bind_okI q; cases q; rfl) (imE (pe_lst (ih ER C h.1)) ?_) (fun _ => rfl)
    rintro σ H Q ⟨B, φ, e, S, a, h1⟩
    rw [evE] at h1
    refine a.stepsL h1 fun ds S1 H1 φ1 vs hl a1 r h2 => ?_
    have hz : ds.length ≤ sizeLine := by rw [hl]; exact line6 h.2
    exact ⟨by rw [← DRs.length r]; exact hz, new_lst a1.rel (fun H' φ' f r => (Post.okN h2 H' φ' f r).2) hz r⟩
  · cases h
theorem pe_newD {X : Cx} {pos : Pos} : PE X (.Dict [] [] pos) (fun _ H Q => ∀ p, (p == sysModules) = false → H p = none → Q (.ref p) (upd H p (.dK []))) := by
  refine ⟨fun pins s σ H Q I h => wpAny_Dict_empty ?_⟩
  have fr := I.hok.fresh (Nat.le_refl s.heap.objs.size)
  have ok := dk_empty (P := X.prog) (w := X.w) (H := upd H s.heap.objs.size (.dK [])) s.heap I.big
  exact ⟨.ref s.heap.objs.size, _, I.laid (t' := s.toks) (fun _ _ q => Heap.get?_push_of_some _ q) (Nat.le_refl _) ok, rfl, h _ ok.2.1 fr⟩
theorem s_newD : SndE .newD := by
  intro n X G ER ex C h
  simp only [cpE] at h
  split at h
  · refine mkF (fun e S d S' q => by rw [evE] at q; cases q; rfl) (imE pe_newD ?_) (fun _ => rfl)
    rintro σ H Q ⟨B, φ, e, S, a, h1⟩
    rw [evE] at h1
    intro p hp fr
    exact (h1 H φ (Fut.refl _ _ _) a.rel).2 p _ fr ⟨Nat.zero_le _, hp, .inl ⟨[], rfl, by unfold DRk; rfl⟩⟩
  · cases h
theorem s_bin {op : BO} {x y : ME} (ix : SndE x) (iy : SndE y) : SndE (.bin op x y) := by
  intro n X G ER ex C h
  simp only [cpE] at h
  split at h
  · rename_i l o r pos
    simp only [Bool.and_eq_true] at h
    obtain ⟨⟨h1, h2⟩, h3⟩ := h
    have ho := opB_eq h1
    subst ho
    have px := (ix ER C h2).1
    have py := (iy ER C h3).1
    have hd : PE X (.BinOp l op.py r pos) (tD (rcx X ER) G noE (.bin op x y)) := by
      refine imE (pe_op (op_bin (ER := ER) op) px py) ?_
      rintro σ H Q ⟨B, φ, e, S, a, h⟩
      rw [evE] at h
      refine a.step h fun d1 S1 H1 φ1 v f1 a1 r1 h => a1.step h fun d2 S2 H2 φ2 u f2 a2 r2 h => ?_
      obtain ⟨d, e1, hQ⟩ := Post.of h
      exact ⟨B, φ2, S2, d1, d2, d, a2.rel, DR.mono f2 f2.le (Nat.le_refl _) _ _ r1, r2, e1, hQ⟩
    refine ⟨hd, pt_of hd fun _ => rfl, fun _ => ?_⟩
    refine imE (pe_op (op_binF (ER := ER) op) px py) ?_
    rintro σ H Q ⟨B, φ, e, S, a, h⟩
    rw [evE] at h
    refine a.step h fun d1 S1 H1 φ1 v f1 a1 r1 h => a1.step h fun d2 S2 H2 φ2 u f2 a2 r2 h => ?_
    obtain ⟨d, e1, hQ⟩ := Post.of h
    cases hd : d with
    | lst xs =>
      subst hd
      exact ⟨B, φ2, S2, d1, d2, xs, a2.rel, DR.mono f2 f2.le (Nat.le_refl _) _ _ r1, r2, e1, fun H' φ' f r => (hQ H' φ' f r).2⟩
    | dic kvs =>
      subst hd
      exfalso
      have e1 : bin op (peek S2 d1) (peek S2 d2) = some (.dic kvs) := e1
      unfold bin at e1
      split at e1 <;> first | (cases e1; done) | (split at e1 <;> cases e1; done)
    | _ => subst hd; exact absurd (hQ H2 φ2 (Fut.refl _ _ _) a2.rel).1 (by simp [isFr])
  · cases h
end DP

namespace DP
open PySem PySem.Spec PyProof.Rows L2

theorem s_neg {x : ME} (ix : SndE x) : SndE (.neg x) := by
  intro n X G ER ex C h
  simp only [cpE] at h
  split at h
  · rename_i l pos
    refine mk3 (imE (pe_un un_neg (ix ER C h).1) ?_) (fun _ => rfl) rfl
    rintro σ H Q ⟨B, φ, e, S, a, h⟩
    rw [evE] at h
    refine a.step h fun d1 S1 H1 φ1 v f1 a1 r1 h => ?_
    cases d1 with
    | int i => unfold DR at r1; exact ⟨i, r1, a1.const h rfl⟩
    | _ => exact h.elim
  · cases h
theorem tTest_of {X : Cx} {ER : List Addr} {G : Ctx} {σ : L2.St} {H : Hp} {Q : Bool → Hp → Prop} {m : ME} {t : TE} (w : ∀ Q', tD (rcx X ER) G noE m σ H Q' → t σ H Q') (h : tT (rcx X ER) G noE m σ H Q) : tTest t σ H Q := by
  obtain ⟨B, φ, e, S, a, h⟩ := h
  exact w _ ⟨B, φ, e, S, a, h.imp fun d S' H' φ' f r ⟨k, e1, q⟩ v hv => by subst e1; exact ⟨k, hv, q⟩⟩
theorem s_cmp {op : CO} {x y : ME} (ix : SndE x) (iy : SndE y) : SndE (.cmp op x y) := by
  intro n X G ER ex C h
  simp only [cpE] at h
  split at h
  · rename_i l o r pos
    simp only [Bool.and_eq_true] at h
    obtain ⟨⟨h1, h2⟩, h3⟩ := h
    have ho := coB_eq h1
    subst ho
    have px := (ix ER C h2).1
    have py := (iy ER C h3).1
    have hu : X.A.units + 65 < cLine := by have := C.un; omega
    have w : ∀ σ H Q, tD (rcx X ER) G noE (.cmp op x y) σ H Q → tOp (rV2 (rcx X ER) (cmpV op)) (tD (rcx X ER) G noE x) (tD (rcx X ER) G noE y) σ H Q := by
      rintro σ H Q ⟨B, φ, e, S, a, h⟩
      rw [evE] at h
      refine a.step h fun d1 S1 H1 φ1 v f1 a1 r1 h => a1.step h fun d2 S2 H2 φ2 u f2 a2 r2 h => ?_
      obtain ⟨d, e1, hQ⟩ := Post.of h
      exact ⟨B, φ2, S2, d1, d2, d, a2.rel, DR.mono f2 f2.le (Nat.le_refl _) _ _ r1, r2, e1, hQ⟩
    refine ⟨imE (pe_cmpR (op_cmp (ER := ER) hu op) px py (cp_mark h3 _)) w, imT (pt_cmpR (op_cmp (ER := ER) hu op) px py (cp_mark h3 _)) fun σ H Q h => tTest_of (w σ H) h, fun q => by cases q⟩
  · cases h
theorem s_chain {op op' : CO} {x y z : ME} (ix : SndE x) (iy : SndE y) (iz : SndE z) : SndE (.chain op op' x y z) := by
  intro n X G ER ex C h
  simp only [cpE] at h
  split at h
  · rename_i l o o' r t pos
    simp only [Bool.and_eq_true] at h
    obtain ⟨⟨⟨⟨h1, h1'⟩, h2⟩, h3⟩, h4⟩ := h
    have ho := coB_eq h1
    have ho' := coB_eq h1'
    subst ho ho'
    have px := (ix ER C h2).1
    have py := (iy ER C h3).1
    have pz := (iz ER C h4).1
    have hu : X.A.units + 65 < cLine := by have := C.un; omega
    have hm : lastMarks [op.py, op'.py] [r, t] = false := cp_mark h4 op'.py
    have w : ∀ σ H Q, tD (rcx X ER) G noE (.chain op op' x y z) σ H Q → tChain (rV2 (rcx X ER) (cmpV op)) (rV2 (rcx X ER) (cmpV op')) (tD (rcx X ER) G noE x) (tD (rcx X ER) G noE y) (tD (rcx X ER) G noE z) σ H Q := by
      rintro σ H Q ⟨B, φ, e, S, a, h⟩
      rw [evE] at h
      refine a.step h fun d1 S1 H1 φ1 v f1 a1 r1 h => a1.step h fun d2 S2 H2 φ2 u f2 a2 r2 h => ?_
      have r1' := DR.mono f2 f2.le (Nat.le_refl _) _ _ r1
      cases hc : cmp op (peek S2 d1) (peek S2 d2) with
      | none => rw [hc] at h; exact h.elim
      | some k =>
        rw [hc] at h
        refine ⟨B, φ2, S2, d1, d2, .bl k, a2.rel, r1', r2, by unfold cmpV; rw [hc]; rfl, fun H' φ' f r v hv => ?_⟩
        unfold DR at hv
        refine ⟨k, hv, ?_⟩
        have a3 := a2.next f r
        have h := h.from f
        cases k with
        | true =>
          refine a3.step h fun d3 S3 H3 φ3 u3 f3 a3' r3 h => ?_
          obtain ⟨d, e1, hQ⟩ := Post.of h
          exact ⟨B, φ3, S3, d2, d3, d, a3'.rel, DR.mono f3 f3.le (Nat.le_refl _) _ _ (DR.mono f f.le (Nat.le_refl _) _ _ r2), r3, e1, hQ⟩
        | false => exact a3.const h rfl
    refine ⟨imE (pe_chain (op_cmp (ER := ER) hu op) (op_cmp (ER := ER) hu op') px py pz hm) w, imT (pt_chain (op_cmp (ER := ER) hu op) (op_cmp (ER := ER) hu op') px py pz hm) fun σ H Q h => tTest_of (w σ H) h, fun q => by cases q⟩
  · cases h
theorem dr_non {c : RC} {H : Hp} {φ : Nat → Addr} {m b : Nat} {d : DV} {v : V} (h : DR c H φ m b d v) : decide (d = .non) = decide (v = .non) := by
  cases d with
  | non => unfold DR at h; subst h; rfl
  | bl k => unfold DR at h; subst h; rfl
  | int k => unfold DR at h; subst h; rfl
  | str k => unfold DR at h; obtain ⟨e, _⟩ := h; subst e; rfl
  | tup k => unfold DR at h; obtain ⟨a, _, e, _⟩ := h; subst e; rfl
  | lst k => unfold DR at h; obtain ⟨a, _, e, _⟩ := h; subst e; rfl
  | dic k => unfold DR at h; obtain ⟨a, e, _⟩ := h; subst e; rfl
  | loc k => unfold DR at h; obtain ⟨_, e⟩ := h; subst e; rfl
  | scr k => unfold DR at h; obtain ⟨a, e, _⟩ := h; subst e; rfl
theorem s_isN {x : ME} (ix : SndE x) : SndE (.isN x) := by
  intro n X G ER ex C h
  simp only [cpE] at h
  split at h
  · rename_i l k p1 pos
    have px := (ix ER C h).1
    have w : ∀ σ H Q, tD (rcx X ER) G noE (.isN x) σ H Q → tOp (fun x y H Q => y = .non ∧ Q (.bl (decide (x = .non))) H) (tD (rcx X ER) G noE x) (tC .non) σ H Q := by
      rintro σ H Q ⟨B, φ, e, S, a, h⟩
      rw [evE] at h
      refine a.step h fun d1 S1 H1 φ1 v f1 a1 r1 h => ⟨rfl, a1.const h ?_⟩
      rw [dr_non r1]; rfl
    exact ⟨imE (pe_cmpR op_isN px pe_non rfl) w, imT (pt_cmpR op_isN px pe_non rfl) fun σ H Q h => tTest_of (w σ H) h, fun q => by cases q⟩
  · cases h
theorem s_notN {x : ME} (ix : SndE x) : SndE (.notN x) := by
  intro n X G ER ex C h
  simp only [cpE] at h
  split at h
  · rename_i l k p1 pos
    have px := (ix ER C h).1
    have w : ∀ σ H Q, tD (rcx X ER) G noE (.notN x) σ H Q → tOp (fun x y H Q => y = .non ∧ Q (.bl (!decide (x = .non))) H) (tD (rcx X ER) G noE x) (tC .non) σ H Q := by
      rintro σ H Q ⟨B, φ, e, S, a, h⟩
      rw [evE] at h
      refine a.step h fun d1 S1 H1 φ1 v f1 a1 r1 h => ⟨rfl, a1.const h ?_⟩
      rw [dr_non r1]; rfl
    exact ⟨imE (pe_cmpR op_notN px pe_non rfl) w, imT (pt_cmpR op_notN px pe_non rfl) fun σ H Q h => tTest_of (w σ H) h, fun q => by cases q⟩
  · cases h
theorem asBl_in {c : RC} {B : Nat → Prop} {H : Hp} {φ : Nat → Addr} {nn : Nat} {α : Type} {d : DV} {g : Bool → Res α} {k : α → Store → Hp → (Nat → Addr) → Prop} {E : EX} (h : Post c B H φ nn (asBl d g) k E) : ∃ b, d = .bl b ∧ Post c B H φ nn (g b) k E := by
  cases d with
  | bl b => exact ⟨b, rfl, h⟩
  | _ => exact h.elim
/-- and, or: as a value, as a test, in a row of any length -/
theorem s_and {x y : ME} (ix : SndE x) (iy : SndE y) : SndE (.and x y) := by
  intro n X G ER ex C h
  simp only [cpE] at h
  split at h
  · rename_i e1 e2 r pos
    simp only [Bool.and_eq_true] at h
    obtain ⟨h1, h2⟩ := h
    have px := ix ER C h1
    have wE : ∀ σ H Q, tD (rcx X ER) G noE (.and x y) σ H Q → tAndV (tD (rcx X ER) G noE x) (tD (rcx X ER) G noE y) σ H Q := by
      rintro σ H Q ⟨B, φ, e, S, a, h⟩
      rw [evE] at h
      refine a.step h fun d1 S1 H1 φ1 v f1 a1 r1 h => ?_
      obtain ⟨k, rfl, h⟩ := asBl_in h
      unfold DR at r1
      refine ⟨k, r1, ?_⟩
      cases k with
      | true => exact ⟨B, φ1, e, S1, a1, h⟩
      | false => exact a1.const h rfl
    have wT : ∀ σ H Q, tT (rcx X ER) G noE (.and x y) σ H Q → tAnd (tT (rcx X ER) G noE x) (tT (rcx X ER) G noE y) σ H Q := by
      rintro σ H Q ⟨B, φ, e, S, a, h⟩
      rw [evE] at h
      refine a.stepT h fun k S1 H1 φ1 f1 a1 h => ?_
      cases k with
      | true => exact ⟨B, φ1, e, S1, a1, h⟩
      | false =>
        obtain ⟨k, e1, q⟩ := (h H1 φ1 (Fut.refl _ _ _) a1.rel)
        cases e1
        exact q
    have pb : PE X (.BoolOp .And (e2 :: r) pos) (tD (rcx X ER) G noE y) ∧ PW X (.BoolOp .And (e2 :: r) pos) (tT (rcx X ER) G noE y) := by
      cases r with
      | nil => exact ⟨pe_one (iy ER C h2).1, pw_and1 (iy ER C h2).2.1⟩
      | cons e3 r =>
        have q := iy ER C h2
        exact ⟨q.1, ⟨fun wh pins s σ H Q I h => q.2.1.run pins s σ H Q I h⟩⟩
    exact ⟨imE (pe_and px.1 pb.1) wE, imT (pw_and px.2.1 pb.2).pt wT, fun q => by cases q⟩
  · cases h
theorem s_or {x y : ME} (ix : SndE x) (iy : SndE y) : SndE (.or x y) := by
  intro n X G ER ex C h
  simp only [cpE] at h
  split at h
  · rename_i e1 e2 r pos
    simp only [Bool.and_eq_true] at h
    obtain ⟨h1, h2⟩ := h
    have px := ix ER C h1
    have wE : ∀ σ H Q, tD (rcx X ER) G noE (.or x y) σ H Q → tOrV (tD (rcx X ER) G noE x) (tD (rcx X ER) G noE y) σ H Q := by
      rintro σ H Q ⟨B, φ, e, S, a, h⟩
      rw [evE] at h
      refine a.step h fun d1 S1 H1 φ1 v f1 a1 r1 h => ?_
      obtain ⟨k, rfl, h⟩ := asBl_in h
      unfold DR at r1
      refine ⟨k, r1, ?_⟩
      cases k with
      | true => exact a1.const h rfl
      | false => exact ⟨B, φ1, e, S1, a1, h⟩
    have wT : ∀ σ H Q, tT (rcx X ER) G noE (.or x y) σ H Q → tOr (tT (rcx X ER) G noE x) (tT (rcx X ER) G noE y) σ H Q := by
      rintro σ H Q ⟨B, φ, e, S, a, h⟩
      rw [evE] at h
      refine a.stepT h fun k S1 H1 φ1 f1 a1 h => ?_
      cases k with
      | true =>
        obtain ⟨k, e1, q⟩ := (h H1 φ1 (Fut.refl _ _ _) a1.rel)
        cases e1
        exact q
      | false => exact ⟨B, φ1, e, S1, a1, h⟩
    have pb : PE X (.BoolOp .Or (e2 :: r) pos) (tD (rcx X ER) G noE y) ∧ PW X (.BoolOp .Or (e2 :: r) pos) (tT (rcx X ER) G noE y) := by
      cases r with
      | nil => exact ⟨pe_one (iy ER C h2).1, pw_or1 (iy ER C h2).2.1⟩
      | cons e3 r =>
        have q := iy ER C h2
        exact ⟨q.1, ⟨fun wh pins s σ H Q I h => q.2.1.run pins s σ H Q I h⟩⟩
    exact ⟨imE (pe_or px.1 pb.1) wE, imT (pw_or px.2.1 pb.2).pt wT, fun q => by cases q⟩
  · cases h
theorem s_not {x : ME} (ix : SndE x) : SndE (.not x) := by
  intro n X G ER ex C h
  simp only [cpE] at h
  split at h
  · rename_i l pos
    have px := ix ER C h
    refine ⟨imE (pe_not px.1) ?_, imT (pt_not px.2.1) ?_, fun q => by cases q⟩
    · rintro σ H Q ⟨B, φ, e, S, a, h⟩
      rw [evE] at h
      refine a.step h fun d1 S1 H1 φ1 v f1 a1 r1 h => ?_
      obtain ⟨k, rfl, h⟩ := asBl_in h
      unfold DR at r1
      exact ⟨k, r1, a1.const h rfl⟩
    · rintro σ H Q ⟨B, φ, e, S, a, h⟩
      rw [evE] at h
      refine a.stepT h fun k S1 H1 φ1 f1 a1 h => ?_
      obtain ⟨k, e1, q⟩ := (h H1 φ1 (Fut.refl _ _ _) a1.rel)
      cases e1
      exact q
  · cases h
theorem s_ite {z x y : ME} (iz : SndE z) (ix : SndE x) (iy : SndE y) : SndE (.ite z x y) := by
  intro n X G ER ex C h
  simp only [cpE] at h
  split at h
  · rename_i t u v pos
    simp only [Bool.and_eq_true] at h
    obtain ⟨⟨h1, h2⟩, h3⟩ := h
    have pz := iz ER C h1
    have px := ix ER C h2
    have py := iy ER C h3
    refine ⟨imE (pe_ifExp pz.2.1 px.1 py.1) ?_, ⟨fun pins s σ H Q I h => ?_⟩, fun q => by cases q⟩
    · rintro σ H Q ⟨B, φ, e, S, a, h⟩
      rw [evE] at h
      refine a.stepT h fun k S1 H1 φ1 f1 a1 h => ?_
      cases k with
      | true => exact ⟨B, φ1, e, S1, a1, h⟩
      | false => exact ⟨B, φ1, e, S1, a1, h⟩
    · obtain ⟨B, φ, e, S, a, h⟩ := h
      rw [evE] at h
      refine PyProof.Rows.isTrue_IfExp (thn (pz.2.1.run pins s σ H (fun b H1 => if b = true then tT (rcx X ER) G noE x σ H1 Q else tT (rcx X ER) G noE y σ H1 Q) I (a.stepT h fun k S1 H1 φ1 f1 a1 h => ?_)) fun b s1 ⟨H1, I1, q⟩ => ?_)
      · cases k with
        | true => exact ⟨B, φ1, e, S1, a1, h⟩
        | false => exact ⟨B, φ1, e, S1, a1, h⟩
      · cases b with
        | true => exact px.2.1.run pins s1 σ H1 Q I1 q
        | false => exact py.2.1.run pins s1 σ H1 Q I1 q
  · cases h
end DP

namespace DP
open PySem PySem.Spec PyProof.Rows L2

theorem s_nil : SndEs [] := by
  intro n X G ER es C h
  cases es with
  | nil =>
    refine imA pa_nil ?_
    rintro σ H Q ⟨B, φ, e, S, a, h⟩
    rw [evEs] at h
    exact h H φ (Fut.refl _ _ _) a.rel [] rfl
  | cons x xs => simp [cpEs] at h
theorem s_cons {m : ME} {ms : List ME} (im : SndE m) (ims : SndEs ms) : SndEs (m :: ms) := by
  intro n X G ER es C h
  cases es with
  | nil => simp [cpEs] at h
  | cons x xs =>
    simp only [cpEs, Bool.and_eq_true] at h
    refine imA (pa_cons (im ER C h.1).1 (ims ER C h.2) (cp_star h.1 xs X.env)) ?_
    rintro σ H Q ⟨B, φ, e, S, a, h⟩
    rw [evEs] at h
    refine a.step h fun d1 S1 H1 φ1 v f1 a1 r1 h => a1.steps h fun ds S2 H2 φ2 vs f2 a2 r2 h => ?_
    exact h H2 φ2 (Fut.refl _ _ _) a2.rel (v :: vs) ⟨v, vs, rfl, DR.mono f2 f2.le (Nat.le_refl _) _ _ r1, r2⟩
theorem s_idx {x i : ME} (ix : SndE x) (ii : SndE i) : SndE (.idx x i) := by
  intro n X G ER ex C h
  simp only [cpE] at h
  split at h
  · rename_i l r pos
    simp only [Bool.and_eq_true] at h
    obtain ⟨h1, h2⟩ := h
    have hu : X.A.units + 64 < cLine := by have := C.un; omega
    refine mk3 (imE (pe_ix (op_idx (ER := ER) hu) (ix ER C h1).1 (ii ER C h2).1 (cp_ix h2)) ?_) (fun _ => rfl) rfl
    rintro σ H Q ⟨B, φ, e, S, a, h⟩
    rw [evE] at h
    refine a.step h fun d1 S1 H1 φ1 v f1 a1 r1 h => a1.step h fun d2 S2 H2 φ2 u f2 a2 r2 h => ?_
    obtain ⟨d, e1, hQ⟩ := Post.of h
    exact ⟨B, φ2, S2, d1, d2, d, a2.rel, DR.mono f2 f2.le (Nat.le_refl _) _ _ r1, r2, e1, hQ⟩
  · cases h
/-- an end of a cut -/
def tPr (c : RC) (G : Ctx) (ms : List ME) : TO := fun σ H Q => ∃ B φ e S, At c G B σ H φ e S ∧ Post c B H φ S.length (evEs G ms e S) (fun ds S' H' φ' => ∃ o, part ds = some o ∧ Q o H') noE
theorem po_part {ms : List ME} (ih : ∀ m, m ∈ ms → SndE m) {n : Nm} {X : Cx} {G : Ctx} (ER : List Addr) {o : Option Expr} (C : Cok n G X) (h : cpO n ms o = true) : PO X o (tPr (rcx X ER) G ms) := by
  have imP : ∀ {e : Option Expr} {t t' : TO}, PO X e t → (∀ σ H Q, t' σ H Q → t σ H Q) → PO X e t' := fun hp w => ⟨fun pins s σ H Q I q => hp.run pins s σ H Q I (w σ H Q q)⟩
  rcases ms with _ | ⟨m, _ | ⟨m', ms⟩⟩
  · cases o with
    | none =>
      refine imP po_none ?_
      rintro σ H Q ⟨B, φ, e, S, a, h⟩
      rw [evEs] at h
      obtain ⟨o, e1, q⟩ := h H φ (Fut.refl _ _ _) a.rel
      cases e1
      exact q
    | some x => simp [cpO] at h
  · cases o with
    | none => simp [cpO] at h
    | some x =>
      simp only [cpO] at h
      refine imP (po_some (ih m List.mem_cons_self ER C h).1) ?_
      rintro σ H Q ⟨B, φ, e, S, a, h⟩
      rw [evEs] at h
      refine a.step h fun d1 S1 H1 φ1 v f1 a1 r1 h => ?_
      rw [evEs] at h
      obtain ⟨o, e1, q⟩ := h H1 φ1 (Fut.refl _ _ _) a1.rel
      cases d1 with
      | int i => cases e1; unfold DR at r1; exact ⟨i, r1, q⟩
      | _ => cases e1
  · cases o <;> simp [cpO] at h
theorem s_slc {x : ME} {lo hi : List ME} (ix : SndE x) (il : ∀ m, m ∈ lo → SndE m) (ih : ∀ m, m ∈ hi → SndE m) : SndE (.slc x lo hi) := by
  intro n X G ER ex C h
  simp only [cpE] at h
  split at h
  · rename_i l y z p2 pos
    simp only [Bool.and_eq_true] at h
    obtain ⟨⟨h1, h2⟩, h3⟩ := h
    refine mk3 (imE (pe_slice (sl_any (ER := ER)) (ix ER C h1).1 (po_part il ER C h2) (po_part ih ER C h3)) ?_) (fun _ => rfl) rfl
    rintro σ H Q ⟨B, φ, e, S, a, h⟩
    rw [evE] at h
    refine a.step h fun d1 S1 H1 φ1 v f1 a1 r1 h => ?_
    refine ⟨B, φ1, e, S1, a1, h.unbind.imp fun l S2 H2 φ2 f2 R2 h => ?_⟩
    have a2 := a1.next f2 R2
    cases el : part l with
    | none => rw [el] at h; exact h.elim
    | some lo' =>
      rw [el, Res.of_some, Res.bind_ok] at h
      refine ⟨lo', rfl, B, φ2, e, S2, a2, h.unbind.imp fun hs S3 H3 φ3 f3 R3 h => ?_⟩
      cases eh : part hs with
      | none => rw [eh] at h; exact h.elim
      | some hi' =>
        rw [eh, Res.of_some, Res.bind_ok] at h
        obtain ⟨d, e1, hQ⟩ := Post.of h
        exact ⟨hi', rfl, B, φ3, S3, d1, d, R3, DR.mono (f2.trans f3) (f2.trans f3).le (Nat.le_refl _) _ _ r1, e1, hQ⟩
  · cases h
theorem s_rev {x : ME} (ix : SndE x) : SndE (.rev x) := by
  intro n X G ER ex C h
  simp only [cpE] at h
  split at h
  · rename_i l k k2 p1 p2 p3 pos
    simp only [Bool.and_eq_true, decide_eq_true_eq] at h
    obtain ⟨hk, h⟩ := h
    subst hk
    refine mk3 (imE (pe_revL (ix ER C h).1) ?_) (fun _ => rfl) rfl
    rintro σ H Q ⟨B, φ, e, S, a, h⟩
    rw [evE] at h
    refine a.step h fun d1 S1 H1 φ1 v f1 a1 r1 h => ?_
    cases ep : peek S1 d1 with
    | lst xs =>
      rw [ep] at h
      obtain ⟨b, ws, e1, t, z, r⟩ := peek_lst a1.rel r1 ep
      exact ⟨b, ws, e1, .inl (.inl t), new_lst a1.rel (KF.of h) (by rw [List.length_reverse]; exact z) (DRs.reverse r)⟩
    | _ => rw [ep] at h; exact h.elim
  · cases h
theorem any_star {n : Nm} {X : Cx} {pos : Pos} : ∀ {ms : List ME} {es : List Expr}, cpEs n ms es = true → (backTo pos (starEach es X.env)).any (·.1) = false ∧ (backTo pos (starEach es X.env)).all (fun x => !x.1) = true
  | [], [], _ => ⟨rfl, rfl⟩
  | [], _ :: _, h => by simp [cpEs] at h
  | _ :: _, [], h => by simp [cpEs] at h
  | m :: ms, x :: xs, h => by
    simp only [cpEs, Bool.and_eq_true] at h
    rw [cp_star h.1]
    exact ⟨(any_star (pos := pos) h.2).1, (any_star (pos := pos) h.2).2⟩
theorem s_call {k : Nat} {es : List ME} (ies : SndEs es) : SndE (.call k es) := by
  intro n X G ER ex C h
  simp only [cpE] at h
  split at h
  · rename_i x p args pos
    simp only [Bool.and_eq_true, decide_eq_true_eq] at h
    obtain ⟨⟨⟨h1, h2⟩, h3⟩, h4⟩ := h
    obtain ⟨f, hk, hc⟩ := C.fs k x h1
    have fin : ∀ {B φ e S} {σ : L2.St} {H : Hp} {Q : VK}, At (rcx X ER) G B σ H φ e S → Post (rcx X ER) B H φ S.length (evE G (.call k es) e S) (kD (rcx X ER) Q) noE → tDs (rcx X ER) G noE es σ H fun vs H1 => spD X.prog X.w X.K f vs H1 Q := fun {B φ e S σ H Q} a h => by
      rw [evE] at h
      refine a.steps h fun ds S1 H1 φ1 vs f1 a1 r1 h => ?_
      rw [hk] at h
      exact ⟨ER, G.base, B, φ1, S1, ds, a1.base, a1.rel, r1, h⟩
    cases args with
    | nil =>
      refine mk3 (imE (pe_fnG0 C hc (C.gl h2) (nameOk_d h3)) ?_) (fun _ => rfl) rfl
      rintro σ H Q ⟨B, φ, e, S, a, h⟩
      have q := fin a h
      cases es with
      | nil =>
        obtain ⟨B, φ, e, S, a, h⟩ := q
        rw [evEs] at h
        exact h H φ (Fut.refl _ _ _) a.rel [] rfl
      | cons m ms => simp [cpEs] at h4
    | cons y ys =>
      cases es with
      | nil => simp [cpEs] at h4
      | cons m ms =>
        have h5 := h4
        simp only [cpEs, Bool.and_eq_true] at h5
        refine mk3 (imE (pe_fnG C hc (C.gl h2) (nameOk_d h3) (ies ER C h4) (cp_star h5.1 ys X.env) (any_star h5.2).1) ?_) (fun _ => rfl) rfl
        rintro σ H Q ⟨B, φ, e, S, a, h⟩
        exact fin a h
  · cases h
end DP

namespace DP
open PySem PySem.Spec PyProof.Rows L2

theorem boot_len : bootBuiltins (BF.name .len) = some (.builtin "len") := by decide +kernel
theorem boot_sorted : bootBuiltins (BF.name .sorted) = some (.builtin "sorted") := by decide +kernel
theorem boot_repr : bootBuiltins (BF.name .repr) = some (.builtin "repr") := by decide +kernel
theorem boot_tuple : bootBuiltins (BF.name .tuple) = some (.type "tuple") := by decide +kernel
theorem boot_list : bootBuiltins (BF.name .list) = some (.type "list") := by decide +kernel
theorem boot_dict : bootBuiltins (BF.name .dict) = some (.type "dict") := by decide +kernel
theorem boot_int : bootBuiltins (BF.name .int) = some (.type "int") := by decide +kernel
theorem name_fn (f : BF) : f.name ≠ "__name__" ∧ (f.name == ("__debug__" : Str)) = false := by
  cases f <;> exact ⟨by decide +kernel, by decide +kernel⟩
theorem KF.bl {c : RC} {B : Nat → Prop} {H : Hp} {φ : Nat → Addr} {S : Store} {Q : VK} {d : DV} (h : After c B H φ S.length S (kFr c Q d S)) : After c B H φ S.length S fun H' φ' => KF c Q S.length d H' φ' := fun H' φ' f r => (h H' φ' f r).2
theorem fr_blt {f : BF} {as : List DV} {d : DV} (hf : f.isF = true) (h : blt f as = some d) : isFr d = true := by
  obtain ⟨a, rfl⟩ := blt_one h
  cases f <;> first | (cases hf; done) | skip
  · cases a <;> first | (cases h; done) | (have h := Option.some.inj h; subst h; rfl)
  · cases a <;> first | (cases h; done) | (obtain ⟨e, _⟩ := sorted_facts h; subst e; rfl)
  · have bnd : ∀ {xs : List DV}, ((pairs xs).bind fun kvs => if (kvs.all fun p => tkey p.1) = true then some (DV.dic (kvs.foldl (fun d p => dput d p.1 p.2) [])) else none) = some d → isFr d = true := by
      intro xs h
      cases hp : pairs xs with
      | none => rw [hp] at h; cases h
      | some kvs =>
        rw [hp] at h
        simp only [Option.bind_some] at h
        split at h
        · have h := Option.some.inj h; subst h; rfl
        · cases h
    cases a <;> first | (cases h; done) | exact bnd h
theorem s_blt {f : BF} {es : List ME} (ies : SndEs es) : SndE (.blt f es) := by
  intro n X G ER ex C h
  simp only [cpE] at h
  split at h
  · rename_i x p args pos
    simp only [Bool.and_eq_true, decide_eq_true_eq] at h
    obtain ⟨⟨⟨⟨⟨h1, h2⟩, h3⟩, h4⟩, h5⟩, h6⟩ := h
    subst h1
    have hm := C.bs f h2
    obtain ⟨nn, nd⟩ := name_fn f
    have hu := C.un
    cases args with
    | nil => cases h6
    | cons y ys =>
      cases es with
      | nil => simp [cpEs] at h5
      | cons m ms =>
        have h7 := h5
        simp only [cpEs, Bool.and_eq_true] at h7
        have wD : ∀ σ H Q, tD (rcx X ER) G noE (.blt f (m :: ms)) σ H Q → tCB (rB (rcx X ER) f) (tDs (rcx X ER) G noE (m :: ms)) σ H Q := by
          rintro σ H Q ⟨B, φ, e, S, a, h⟩
          rw [evE] at h
          refine a.steps h fun ds S1 H1 φ1 vs f1 a1 r1 h => ?_
          obtain ⟨d, e1, hQ⟩ := Post.of h
          exact ⟨B, φ1, S1, ds, d, a1.rel, r1, e1, hQ⟩
        have wF : ∀ σ H Q, tF (rcx X ER) G noE (.blt f (m :: ms)) σ H Q → tCB (rBF (rcx X ER) f) (tDs (rcx X ER) G noE (m :: ms)) σ H Q := by
          rintro σ H Q ⟨B, φ, e, S, a, h⟩
          rw [evE] at h
          refine a.steps h fun ds S1 H1 φ1 vs f1 a1 r1 h => ?_
          obtain ⟨d, e1, hQ⟩ := Post.of h
          exact ⟨B, φ1, S1, ds, d, a1.rel, r1, e1, KF.bl hQ⟩
        have hf : f.isF = true → ∀ e S d S', evE G (.blt f (m :: ms)) e S = .ok d S' → isFr d = true := fun hf e S d S' q => by
          rw [evE] at q
          obtain ⟨ds, S1, _, q⟩ := Res.bind_okI q
          cases hb : blt f (ds.map (peek S1)) with
          | none => rw [hb] at q; cases q
          | some u => rw [hb] at q; cases q; exact fr_blt hf hb
        have s1 := cp_star h7.1 ys X.env
        have s2 := (any_star (pos := pos) (X := X) h7.2).1
        cases f <;> first | (cases h3; done) | skip
        · exact mk3 (imE (pe_callB (call_lenB (ER := ER)) (C.gl h4) hm boot_len (ies ER C h5) nn nd s1 s2) wD) (fun _ => rfl) rfl
        · exact mk3 (imE (pe_callTy (call_tupleB (ER := ER)) (C.gl h4) hm boot_tuple (ies ER C h5) nn nd s1 s2) wD) (fun _ => rfl) rfl
        · exact mkF (hf rfl) (imE (pe_callTy (call_listB (ER := ER) C.calm) (C.gl h4) hm boot_list (ies ER C h5) nn nd s1 s2) wF) (fun _ => rfl)
        · exact mkF (hf rfl) (imE (pe_callB (call_sorted (ER := ER) C.calm hu) (C.gl h4) hm boot_sorted (ies ER C h5) nn nd s1 s2) wF) (fun _ => rfl)
        · exact mkF (hf rfl) (imE (pe_callTy (call_dictB (ER := ER) C.calm hu) (C.gl h4) hm boot_dict (ies ER C h5) nn nd s1 s2) wF) (fun _ => rfl)
        · exact mk3 (imE (pe_callTy (call_intB (ER := ER)) (C.gl h4) hm boot_int (ies ER C h5) nn nd s1 s2) wD) (fun _ => rfl) rfl
        · exact mk3 (imE (pe_callB (call_reprB (ER := ER) hu C.gd) (C.gl h4) hm boot_repr (ies ER C h5) nn nd s1 s2) wD) (fun _ => rfl) rfl
  · cases h
theorem kind_of {X : Cx} {ER : List Addr} {B : Nat → Prop} {σ : L2.St} {H : Hp} {φ : Nat → Addr} {S : Store} {pins : List (Addr × Obj)} {s : Shared} {d : DV} {v : V} {u : Value} {k : Kd} {f : MF} (I : L2.Inv X pins σ H s) (R : Rel (rcx X ER) B H φ S)
    (r : DR (rcx X ER) H φ S.length S.length d v) (ru : RelV v u) (hk : kindOf (peek S d) = some k) (hm : mok f k = true) : PlainAttrs k.ty ∧ s.TypeIs u k.ty ∧ ∀ a, u = .ref a → ∃ ob, s.heap.get? a = some ob ∧ ob.dict = none := by
  cases ep : peek S d with
  | lst xs =>
    rw [ep] at hk; cases hk
    obtain ⟨a, ws, rfl, t, z, rr⟩ := peek_lst R r ep
    cases ru
    obtain ⟨_, its, c, _, hat⟩ := (I.hok a _ t : ObjOk X.prog X.w H s.heap a (.lst ws))
    exact ⟨F.plainAttrs_list, ⟨_, hat, rfl⟩, fun b e => by cases e; exact ⟨_, hat, rfl⟩⟩
  | dic kvs =>
    rw [ep] at hk; cases hk
    obtain ⟨a, rfl, hd⟩ := peek_dic R r ep
    cases ru
    obtain ⟨o, ho, hx⟩ := DB.typeIs I hd
    exact ⟨F.plainAttrs_dict, ⟨o, ho, hx.1⟩, fun b e => by cases e; exact ⟨o, ho, hx.2.1⟩⟩
  | str z => rw [ep] at hk; cases hk; cases f <;> cases hm
  | _ => rw [ep] at hk; cases hk
theorem meth_exc {b0 : Nat} {f : MF} {k : Kd} {o : DV} {as bs : List DV} {S S' : Store} {c : Nat} (h : meth b0 f k o as S = .exc c bs S') : False := by
  unfold meth at h
  (repeat' split at h) <;> cases h
theorem s_meth {f : MF} {o : ME} {es : List ME} (io : SndE o) (ies : SndEs es) : SndE (.meth f o es) := by
  intro n X G ER ex C h
  simp only [cpE] at h
  split at h
  · rename_i l x apos args pos
    simp only [Bool.and_eq_true, decide_eq_true_eq] at h
    obtain ⟨⟨⟨⟨⟨h1, h2⟩, h3⟩, h4⟩, h5⟩, h6⟩ := h
    subst h1
    cases args with
    | nil => exact absurd h6.1 (by simp)
    | cons y ys =>
      cases es with
      | nil => simp [cpEs] at h5
      | cons m ms =>
        have h7 := h5
        simp only [cpEs, Bool.and_eq_true] at h7
        have st1 := cp_star h7.1 ys X.env
        have st2 := any_star (pos := pos) (X := X) h7.2
        have s3 := (any_star (pos := pos) (X := X) h5).2
        have hu : X.A.units + 64 < cLine := by have := C.un; omega
        have hfew : ((backTo pos (starEach (y :: ys) X.env)).all (fun x => !x.1) && (backToKw pos (keywordEach [] X.env)).all (fun x => x.1.isSome) && decide ((y :: ys).length + ([] : List Keyword).length + (if ([] : List Keyword).isEmpty then 0 else 1) < 30)) = true := by
          rw [s3]
          have : (y :: ys).length < 20 := h6.2
          simp only [Bool.true_and, Bool.and_eq_true, decide_eq_true_eq]
          refine ⟨rfl, ?_⟩
          show (y :: ys).length + 0 + 0 < 30
          omega
        refine mk3 ⟨fun pins s σ H Q I q => ?_⟩ (fun _ => rfl) rfl
        obtain ⟨B, φ, e, S, a, h⟩ := q
        rw [evE] at h
        refine wpAny_Call_method_late (base_of h2) hfew h3 rfl (thn ((io ER C h4).1.run pins s σ H (fun v H1 => ∃ d1 S1 φ1, At (rcx X ER) G B σ H1 φ1 e S1 ∧ DR (rcx X ER) H1 φ1 S1.length S1.length d1 v ∧ Post (rcx X ER) B H1 φ1 S1.length (match kindOf (peek S1 d1) with
          | some k => if mok f k then (evEs G (m :: ms) e S1).bind fun ds S => meth G.base f k d1 ds S else .stuck
          | none => .stuck) (kD (rcx X ER) Q) noE) I (a.step h fun d1 S1 H1 φ1 v f1 a1 r1 h => ⟨d1, S1, φ1, a1, r1, h⟩)) fun v s1 ⟨x, H1, I1, r1, d1, S1, φ1, a1, rd, h⟩ => ?_)
        cases hk : kindOf (peek S1 d1) with
        | none => rw [hk] at h; exact h.elim
        | some k =>
          rw [hk] at h
          simp only at h
          split at h
          · rename_i hm
            obtain ⟨k1, k2, k3⟩ := kind_of I1 a1.rel rd r1 hk hm
            refine ⟨k.ty, mid f k, k1, mt_slot hm, mt_md hm, k2, k3, ?_⟩
            have hA := (ies ER C h5).run pos pins s1 σ H1 (fun vs H2 => rM (rcx X ER) G.base f k x vs H2 Q) I1 (a1.steps h fun ds S2 H2 φ2 vs f2 a2 r2 h => ?_)
            · rw [st1] at hA ⊢
              refine Calls.callWith_builtin (by show (false || (backTo pos (starEach ys X.env)).any (·.1)) = false; rw [st2.1]; rfl) (Calls.evalArgs_plain ?_)
              exact thn hA fun us s2 ⟨vs, H2, I2, r2, q2⟩ => mt_all (b0 := G.base) hu hm pins s2 σ H2 x vs v us Q I2 r1 r2 q2
            · cases hr : meth G.base f k d1 ds S2 with
              | ok d S' =>
                rw [hr] at h
                exact ⟨B, φ2, S2, d1, ds, d, S', a2.base, a2.rel, DR.mono f2 f2.le (Nat.le_refl _) _ _ rd, r2, hr, h⟩
              | exc c as S' => exact (meth_exc hr).elim
              | stuck => rw [hr] at h; exact h.elim
          · exact h.elim
  · cases h
/-- laid into the store -/
theorem s_new {x : ME} (ix : SndE x) : SndE (.new x) := by
  intro n X G ER ex C h
  simp only [cpE, Bool.and_eq_true] at h
  have hF := (ix ER C h.2).2.2 h.1
  have hd : PE X ex (tD (rcx X ER) G noE (.new x)) := by
    refine imE hF ?_
    rintro σ H Q ⟨B, φ, e, S, a, h⟩
    rw [evE] at h
    refine ⟨B, φ, e, S, a, h.unbind.imp fun d S1 H1 φ1 f R h => ?_⟩
    have go : ∀ mo, (lay d S1 = .ok (.loc S1.length) (S1 ++ [mo])) → (∀ p ho, Bod (rcx X ER) H1 φ1 S1.length d p ho → H1 p = none → MOk (rcx X ER) (upd H1 p ho) (phi φ1 S1.length p) (S1.length + 1) mo p) → KF (rcx X ER) Q S1.length d H1 φ1 := by
      intro mo hl hm p ho hp hb
      rw [hl] at h
      have hlen : (S1 ++ [mo]).length = S1.length + 1 := by simp
      refine h (upd H1 p ho) (phi φ1 S1.length p) (by rw [hlen]; exact Fut.push hp) (R.push hp (hm p ho hb hp)) (.ref p) ?_
      unfold DR
      exact ⟨by rw [hlen]; exact Nat.lt_succ_self _, by rw [phi_new]⟩
    cases d with
    | lst xs =>
      refine ⟨rfl, go (.lst xs) rfl fun p ho hb hp => ?_⟩
      rcases hb.mok hp with ⟨ys, e, q⟩ | ⟨ys, e, q⟩
      · cases e; exact q
      · cases e
    | dic kvs =>
      refine ⟨rfl, go (.dic kvs) rfl fun p ho hb hp => ?_⟩
      rcases hb.mok hp with ⟨ys, e, q⟩ | ⟨ys, e, q⟩
      · cases e
      · cases e; exact q
    | _ => exact h.elim
  have hp : ∀ whole, isTrue ex X.env whole = (do let v ← whole; standAt ex.pos; holding [v] (truthy v)) := by
    cases x <;> first | (cases h.1; done) | skip
    all_goals (have h2 := h.2; simp only [cpE] at h2; split at h2 <;> first | (intro _; rfl) | (cases h2; done))
  exact mk3 hd hp rfl
end DP

namespace DP
open PySem PySem.Spec PyProof.Rows L2

/-- the iterator gives the items, as long as what it walks stands -/
def SrcJ (c : RC) (as : List DV) (vs : List V) (S1 : Store) (H1 : Hp) (φ1 : Nat → Addr) (items : List DV) (J : It) : Prop :=
  ∀ ER B H φ S, Rel ⟨c.P, c.w, c.K, ER⟩ B H φ S → Fut H1 φ1 S1.length H φ S.length → DRs ⟨c.P, c.w, c.K, ER⟩ H φ S.length S.length as vs → isLive as S1 S = true →
    (∀ i, i < items.length → J.go i H ∧ ∀ x H', J.yld i H x H' → H' = H ∧ ∃ d, items[i]? = some d ∧ DR ⟨c.P, c.w, c.K, ER⟩ H φ S.length S.length d x) ∧ J.stop items.length H
def wiD (c : RC) (G : Ctx) (k : SK) (ses : List ME) : TI := fun σ H R => ∃ B φ e S, At c G B σ H φ e S ∧ Post c B H φ S.length (evEs G ses e S) (fun as S1 H1 φ1 => ∃ items, srcOf k (srcArg k S1 as) = some items ∧
  ∀ vs J, items.length ≤ sizeLine → DRs c H1 φ1 S1.length S1.length as vs → Rel c B H1 φ1 S1 → Fut H φ S.length H1 φ1 S1.length → SrcJ c as vs S1 H1 φ1 items J → R J H1) noE
theorem live_one {d : DV} {S1 S : Store} (h : isLive [d] S1 S = true) : peek S d = peek S1 d := by
  cases d with
  | loc n =>
    simp only [isLive, Bool.and_true] at h
    unfold peek
    cases e1 : S1[n]? with
    | none => rw [e1] at h; cases h
    | some m1 =>
      cases e2 : S[n]? with
      | none => rw [e1, e2] at h; cases m1 <;> cases h
      | some m2 =>
        rw [e1, e2] at h
        cases m1 <;> cases m2 <;> first | (cases h; done) | (have h := of_decide_eq_true h; subst h; simp only [e1, e2])
  | _ => rfl
section
variable {X : Cx} {ER : List Addr} {G : Ctx} {tg : Expr}
theorem src_list {d : DV} {a : Addr} {xs : List DV} {S1 : Store} {H1 : Hp} {φ1 : Nat → Addr} (hp : peek S1 d = .lst xs) : SrcJ (rcx X ER) [d] [.ref a] S1 H1 φ1 xs (Itl X.K a) := by
  intro ER' B H φ S R f hd hl
  obtain ⟨v, e, hv⟩ := DRs.one hd
  cases e
  obtain ⟨a', ws, e, t, z, r⟩ := peek_lst R hv ((live_one hl).trans hp)
  cases e
  have hsq : SqL X.K H a ws := .inl (.inl t)
  have hlen := DRs.length r
  refine ⟨fun i hi => ⟨⟨ws, ws[i]'(by omega), hsq, by simp⟩, fun x H' y => ⟨y.1, DRs.got r (y.2 ws hsq)⟩⟩, ⟨ws, hsq, by omega⟩⟩
theorem src_tup {d : DV} {a : Addr} {xs : List DV} {S1 : Store} {H1 : Hp} {φ1 : Nat → Addr} (hp : peek S1 d = .tup xs) : SrcJ (rcx X ER) [d] [.ref a] S1 H1 φ1 xs (Itt X.K a) := by
  intro ER' B H φ S R f hd hl
  obtain ⟨v, e, hv⟩ := DRs.one hd
  cases e
  obtain ⟨a', ws, e, t, z, r⟩ := peek_tup hv ((live_one hl).trans hp)
  cases e
  have hsq : SqT X.K H a ws := t.sq
  have hlen := DRs.length r
  refine ⟨fun i hi => ⟨⟨ws, ws[i]'(by omega), hsq, by simp⟩, fun x H' y => ⟨y.1, DRs.got r (y.2 ws hsq)⟩⟩, ⟨ws, hsq, by omega⟩⟩
theorem pi_seqD {m : ME} {l : Expr} (hl : PE X l (tD (rcx X ER) G noE m)) : PI X tg l (wiD (rcx X ER) G .seq [m]) := by
  refine ⟨fun pins s σ H R I ⟨B, φ, e, S, a, h⟩ => ?_⟩
  rw [evEs] at h
  refine thn (hl.run pins s σ H (fun v H1 => ∃ d S1 φ1, Rel (rcx X ER) B H1 φ1 S1 ∧ DR (rcx X ER) H1 φ1 S1.length S1.length d v ∧ ∃ items, srcOf .seq [peek S1 d] = some items ∧ ∀ J, items.length ≤ sizeLine → SrcJ (rcx X ER) [d] [v] S1 H1 φ1 items J → R J H1) I (a.step h fun d1 S1 H1 φ1 v f1 a1 r1 h => ?_))
    fun u s1 ⟨x, H1, I1, r1, d, S1, φ1, R1, rd, items, hs, hJ⟩ => ?_
  · rw [evEs] at h
    obtain ⟨items, e1, q⟩ := h H1 φ1 (Fut.refl _ _ _) a1.rel
    exact ⟨d1, S1, φ1, a1.rel, r1, items, e1, fun J hz hJ => q [v] J hz ⟨v, [], rfl, r1, rfl⟩ a1.rel f1 hJ⟩
  · cases ep : peek S1 d with
    | lst xs =>
      rw [ep] at hs; cases hs
      obtain ⟨b, ws, rfl, t, z, r⟩ := peek_lst R1 rd ep
      cases r1
      obtain ⟨its, rv, pl, _⟩ := I1.list (.inl (.inl t))
      exact wpAny_pyIter_list pl.isList (pi_one (tk := s1.toks) I1 _ (turn_list b _) ⟨_, Heap.get?_push_size _ rfl, rfl, rfl⟩ (hJ _ z (src_list ep)))
    | tup xs =>
      rw [ep] at hs; cases hs
      obtain ⟨b, ws, rfl, t, z, r⟩ := peek_tup rd ep
      cases r1
      obtain ⟨its, rv, pl, _⟩ := I1.tuple t.sq
      exact wpAny_pyIter_tuple (show s1.heap.IsTuple b its.toArray from pl) (pi_one (tk := s1.toks) I1 _ (turn_tuple b _) ⟨_, Heap.get?_push_size _ rfl, rfl, rfl⟩ (hJ _ z (src_tup ep)))
    | _ => rw [ep] at hs; cases hs
theorem imI {l : Expr} {t t' : TI} (h : PI X tg l t) (w : ∀ σ H R, t' σ H R → t σ H R) : PI X tg l t' := ⟨fun pins s σ H R I q => h.run pins s σ H R I (w σ H R q)⟩
theorem src_r1 {as items : List DV} (h : srcOf .rng1 as = some items) : ∃ j : Int, as = [.int j] ∧ (-(2 ^ 62) ≤ j ∧ j ≤ sizeLine) ∧ items = (List.range j.toNat).map fun (i : Nat) => .int i := by
  rcases as with _ | ⟨a, _ | ⟨b, r⟩⟩
  · cases h
  · cases a with
    | int j =>
      simp only [srcOf] at h
      split at h
      · rename_i hj; exact ⟨j, rfl, hj, (Option.some.inj h).symm⟩
      · cases h
    | _ => cases h
  · cases a <;> cases h
theorem src_r2 {as items : List DV} (h : srcOf .rng2 as = some items) : ∃ i j : Int, as = [.int i, .int j] ∧ (-(2 ^ 62) ≤ i ∧ i < 2 ^ 62 ∧ -(2 ^ 62) ≤ j ∧ j < 2 ^ 62 ∧ j - i ≤ sizeLine) ∧ items = (List.range (j - i).toNat).map fun (k : Nat) => .int (i + k) := by
  rcases as with _ | ⟨a, _ | ⟨b, _ | ⟨d, r⟩⟩⟩
  · cases h
  · cases a <;> cases h
  · cases a with
    | int i =>
      cases b with
      | int j =>
        simp only [srcOf] at h
        split at h
        · rename_i hj; exact ⟨i, j, rfl, hj, (Option.some.inj h).symm⟩
        · cases h
      | _ => cases h
    | _ => cases h
  · cases a <;> first | (cases h; done) | (cases b <;> cases h)
theorem map_one {S : Store} {as : List DV} {x : DV} (h : as.map (peek S) = [x]) : ∃ d, as = [d] ∧ peek S d = x := by
  rcases as with _ | ⟨a, _ | ⟨b, r⟩⟩
  · cases h
  · exact ⟨a, rfl, (List.cons.inj h).1⟩
  · cases h
theorem map_two {S : Store} {as : List DV} {x y : DV} (h : as.map (peek S) = [x, y]) : ∃ d d', as = [d, d'] ∧ peek S d = x ∧ peek S d' = y := by
  rcases as with _ | ⟨a, _ | ⟨b, _ | ⟨d, r⟩⟩⟩
  · cases h
  · cases h
  · exact ⟨a, b, rfl, (List.cons.inj h).1, (List.cons.inj (List.cons.inj h).2).1⟩
  · cases h
theorem pi_rng1D {m : ME} {e : Expr} {p pos : Pos} (hg : Gl X "range") (hm : X.mg "range" = none) (ha : PA X [e] (tDs (rcx X ER) G noE [m])) (hs : starEach [e] X.env = [(false, eval e X.env)]) :
    PI X tg (.Call (.Name "range" p) [e] [] pos) (wiD (rcx X ER) G .rng1 [m]) := by
  refine imI (pi_range1 hg hm ha hs) ?_
  rintro σ H R ⟨B, φ, e, S, a, h⟩
  refine ⟨B, φ, e, S, a, h.imp fun as S1 H1 φ1 f r ⟨items, e1, q⟩ vs hv => ?_⟩
  obtain ⟨j, e2, hj, rfl⟩ := src_r1 e1
  obtain ⟨d, rfl, ep⟩ := map_one e2
  obtain ⟨v, rfl, hd⟩ := DRs.one hv
  have ev := peek_int hd ep
  subst ev
  refine ⟨j, rfl, hj.1, by have := hj.2; rw [sizeLine_eq] at this; omega, q [.int j] _ (by rw [List.length_map, List.length_range]; have := hj.2; omega) hv r f ?_⟩
  intro ER' B' H' φ' S' R' f' hd' hl'
  rw [List.length_map, List.length_range]
  refine ⟨fun i hi => ⟨hi, fun x H2 y => ⟨y.1, .int i, by simp [hi], ?_⟩⟩, Nat.le_refl _⟩
  rw [y.2]
  show V.int _ = V.int _
  congr 1; omega
theorem pi_rng2D {m m2 : ME} {e e2 : Expr} {p pos : Pos} (hg : Gl X "range") (hm : X.mg "range" = none) (ha : PA X [e, e2] (tDs (rcx X ER) G noE [m, m2])) (hs : starEach [e, e2] X.env = [(false, eval e X.env), (false, eval e2 X.env)]) (hs2 : starEach [e2] X.env = [(false, eval e2 X.env)]) :
    PI X tg (.Call (.Name "range" p) [e, e2] [] pos) (wiD (rcx X ER) G .rng2 [m, m2]) := by
  refine imI (pi_range2 hg hm ha hs hs2) ?_
  rintro σ H R ⟨B, φ, e, S, a, h⟩
  refine ⟨B, φ, e, S, a, h.imp fun as S1 H1 φ1 f r ⟨items, e1, q⟩ vs hv => ?_⟩
  obtain ⟨i, j, e2, hj, rfl⟩ := src_r2 e1
  obtain ⟨d, d', rfl, ep, ep2⟩ := map_two e2
  obtain ⟨v, v2, rfl, hd, hd2⟩ := DRs.two hv
  have ev := peek_int hd ep
  have ev2 := peek_int hd2 ep2
  subst ev ev2
  refine ⟨i, j, rfl, ⟨hj.1, hj.2.1, hj.2.2.1, hj.2.2.2.1⟩, q [.int i, .int j] _ (by rw [List.length_map, List.length_range]; have := hj.2.2.2.2; omega) hv r f ?_⟩
  intro ER' B' H' φ' S' R' f' hd' hl'
  rw [List.length_map, List.length_range]
  refine ⟨fun k hi => ⟨hi, fun x H2 y => ⟨y.1, .int (i + k), by simp [hi], ?_⟩⟩, Nat.le_refl _⟩
  rw [y.2]
  exact rfl
/-- the keys of a dict that stands -/
def JRaw (d : Addr) (o : Obj) (es : Array DictEntry) : It :=
  ⟨fun i H => i < es.size ∧ H d = some (dHo d o), fun i H x H' => H' = H ∧ ∃ en, es[i]? = some en ∧ RelV x en.key, fun i H => es.size ≤ i ∧ H d = some (dHo d o)⟩
theorem turn_raw {P : Program} {w : World} {K : PySem.W.Frag} {d it : Addr} {o : Obj} {es : Array DictEntry} {ep : Nat} (hod : o.data = .dict es ep) (hk : ∀ (i : Nat) en, es[i]? = some en → ∃ a, en.key = .ref a) :
    Turn P w K tg (JRaw d o es) [it] it (fun i h => h.IsKeyIter it d i es.size ep) where
  mem := by simp
  obj := fun i h st b hb => by
    cases (show b = it by simpa using hb)
    obtain ⟨oi, e, c, dd⟩ := st
    exact ⟨oi, e, fun v z => by rw [dd] at z; cases z⟩
  keep := fun i h h' st k => st.at fun oi e => k it (by simp) oi e
  item := fun X hP hw hK hc i pins s σ H E I hf st hg => by
    subst hP hw hK
    obtain ⟨hi, hd⟩ := hg
    obtain ⟨f0, f1, f2, f3, f4, f5⟩ := hf it (by simp)
    have hx : es[i]? = some es[i] := Array.getElem?_eq_getElem hi
    obtain ⟨a, ea⟩ := hk i _ hx
    refine next_key_item st (I.hok d _ hd).1 hod rfl hx fun h' st' sb => ?_
    obtain ⟨oi, e, c, dd⟩ := id st'
    exact ⟨_, rfl, go_of (s := { s with heap := h' }) e c dd (by decide) ⟨.ref a, H, I.turned (t' := s.toks) (fun b ob hb q => (sb.2 b hb).trans q) f0 f1 f3 f4 f5, ea, ⟨rfl, _, hx, ea⟩, st', fun b hb => (hf b hb).1⟩⟩
  done := fun X hP hw hK hc i pins s σ H E I hf st hg => by
    subst hP hw hK
    obtain ⟨hi, hd⟩ := hg
    obtain ⟨f0, f1, f2, f3, f4, f5⟩ := hf it (by simp)
    exact next_key_end (I.ok.hd hc) st (I.hok d _ hd).1 hod rfl hi fun h' eb => ⟨rfl, I.turned (t' := s.toks) (fun b ob hb q => eb b ob hb q) f0 f1 f3 f4 f5⟩
  self := fun A i s Q E st h => wpAny_pyIter_keyiter st h
theorem src_k {as items : List DV} (h : srcOf .keys as = some items) : ∃ kvs, as = [.dic kvs] ∧ kvs ≠ [] ∧ (∀ p ∈ kvs, tkey p.1 = true) ∧ items = kvs.map (·.1) := by
  rcases as with _ | ⟨a, _ | ⟨b, r⟩⟩
  · cases h
  · cases a with
    | dic kvs =>
      simp only [srcOf] at h
      split at h
      · rename_i hj
        simp only [Bool.and_eq_true, Bool.not_eq_true', List.all_eq_true] at hj
        exact ⟨kvs, rfl, (fun e => by rw [e] at hj; cases hj.1), hj.2, (Option.some.inj h).symm⟩
      · cases h
    | _ => cases h
  · cases a <;> cases h
mutual
theorem DR.erk {P : Program} {w : World} {K : PySem.W.Frag} {ER ER' : List Addr} {H : Hp} {φ : Nat → Addr} {m b : Nat} : ∀ (d : DV) (v : V), (∃ k, DV.key d = some k) → DR ⟨P, w, K, ER⟩ H φ m b d v → DR ⟨P, w, K, ER'⟩ H φ m b d v
  | .non, _, _, h => h
  | .int _, _, _, h => h
  | .str _, _, _, h => h
  | .bl _, _, k, _ | .lst _, _, k, _ | .dic _, _, k, _ | .loc _, _, k, _ | .scr _, _, k, _ => by obtain ⟨k, e⟩ := k; simp [DV.key] at e
  | .tup xs, v, k, h => by
    obtain ⟨k, e⟩ := k
    simp only [DV.key] at e
    unfold DR at h ⊢
    obtain ⟨a, vs, e1, t, z, r⟩ := h
    refine ⟨a, vs, e1, t, z, DRs.erk xs vs (fun d hd => ?_) r⟩
    cases q : DV.keys xs with
    | none => rw [q] at e; cases e
    | some ks =>
      clear r z e
      induction xs generalizing ks with
      | nil => cases hd
      | cons x xs ih =>
        simp only [DV.keys] at q
        split at q
        · rename_i k0 ks0 g1 g2
          rcases List.mem_cons.mp hd with e | hd
          · subst e; exact ⟨k0, g1⟩
          · exact ih hd ks0 g2
        · cases q
theorem DRs.erk {P : Program} {w : World} {K : PySem.W.Frag} {ER ER' : List Addr} {H : Hp} {φ : Nat → Addr} {m b : Nat} : ∀ (ds : List DV) (vs : List V), (∀ d ∈ ds, ∃ k, DV.key d = some k) → DRs ⟨P, w, K, ER⟩ H φ m b ds vs → DRs ⟨P, w, K, ER'⟩ H φ m b ds vs
  | [], _, _, h => h
  | d :: ds, vs, k, h => by
    unfold DRs at h ⊢
    obtain ⟨v, r, e, h1, h2⟩ := h
    exact ⟨v, r, e, DR.erk d v (k d List.mem_cons_self) h1, DRs.erk ds r (fun x hx => k x (List.mem_cons_of_mem _ hx)) h2⟩
end
theorem pi_keysD {m : ME} {l : Expr} (hl : PE X l (tD (rcx X ER) G noE m)) : PI X tg l (wiD (rcx X ER) G .keys [m]) := by
  refine ⟨fun pins s σ H R I ⟨B, φ, e, S, a, h⟩ => ?_⟩
  rw [evEs] at h
  refine thn (hl.run pins s σ H (fun v H1 => ∃ d S1 φ1, Rel (rcx X ER) B H1 φ1 S1 ∧ DR (rcx X ER) H1 φ1 S1.length S1.length d v ∧ ∃ items, srcOf .keys [d] = some items ∧ ∀ J, items.length ≤ sizeLine → SrcJ (rcx X ER) [d] [v] S1 H1 φ1 items J → R J H1) I (a.step h fun d1 S1 H1 φ1 v f1 a1 r1 h => ?_))
    fun u s1 ⟨x, H1, I1, r1, d, S1, φ1, R1, rd, items, hs, hJ⟩ => ?_
  · rw [evEs] at h
    obtain ⟨items, e1, q⟩ := h H1 φ1 (Fut.refl _ _ _) a1.rel
    exact ⟨d1, S1, φ1, a1.rel, r1, items, e1, fun J hz hJ => q [v] J hz ⟨v, [], rfl, r1, rfl⟩ a1.rel f1 hJ⟩
  · obtain ⟨kvs, e1, hne, htk, rfl⟩ := src_k hs
    cases e1
    obtain ⟨b, rfl, hap, hb⟩ := DR_dic.mp rd
    cases r1
    obtain ⟨z, hs2, q⟩ := hb
    rcases q with ⟨ks, t, r⟩ | ⟨o, es, ep, xs, t, h1, h2, h3, h4, r⟩
    · exfalso
      cases kvs with
      | nil => exact hne rfl
      | cons p q =>
        have k1 := DRk.skeys r p List.mem_cons_self
        rw [tkey_not (htk p List.mem_cons_self)] at k1
        cases k1
    · have hsz : es.size = kvs.length := by rw [size_of_entries h3, DRx.length r]
      have keyAt : ∀ (i : Nat) en, es[i]? = some en → ∃ x, xs[i]? = some x ∧ en.key = .ref x.2.1 := fun i en hen => by
        have g := entry_at h3 i
        rw [hen] at g
        cases hx : xs[i]? with
        | none => rw [hx] at g; cases g
        | some x => rw [hx] at g; exact ⟨x, rfl, by rw [Option.some.inj g]; exact rfl⟩
      refine iter_keys hs2 (I1.hok b _ t).1 h1 h2 (pi_one (tk := s1.toks) I1 _ (turn_raw h2 fun i en hen => let ⟨x, _, e⟩ := keyAt i en hen; ⟨_, e⟩) ⟨_, Heap.get?_push_size _ rfl, rfl, rfl⟩ (hJ (JRaw b o es) (by rw [List.length_map]; exact z) ?_))
      intro ER' B' H' φ' S' R' f' hd' hl'
      obtain ⟨v', e', hv'⟩ := DRs.one hd'
      cases e'
      have hat : H' b = some (dHo b o) := f'.keep b _ t hap.1
      have ks : DRs (rcx X ER') H' φ' S'.length S'.length (kvs.map (·.1)) (xs.map fun x => .ref x.2.1) :=
        DRs.erk _ _ (fun d hd => by obtain ⟨p, hp, rfl⟩ := List.mem_map.mp hd; obtain ⟨nk, e, _⟩ := tkey_key (htk p hp); exact ⟨nk, e⟩) (DRs.mono f' f'.le (Nat.le_refl _) _ _ (DRx.keys r))
      rw [List.length_map, ← hsz]
      refine ⟨fun i hi => ⟨⟨hi, hat⟩, fun x H2 y => ⟨y.1, ?_⟩⟩, ⟨Nat.le_refl _, hat⟩⟩
      obtain ⟨_, en, hen, rx⟩ := y
      obtain ⟨p, hp, ek⟩ := keyAt i en hen
      rw [ek] at rx
      have ex := RelV.inj rx (show RelV (.ref p.2.1) (.ref p.2.1) from rfl)
      subst ex
      exact DRs.got ks (by rw [List.getElem?_map, hp]; rfl)
end
end DP

namespace DP
open PySem PySem.Spec PyProof.Rows L2

/-! ### targets -/
def setAll (σ : L2.St) : List Nat → List V → L2.St
  | i :: is, x :: xs => setAll (σ.set i (some x)) is xs
  | _, _ => σ
def gNames (is : List Nat) : TGs := fun vs σ H Q => vs.length = is.length ∧ Q (setAll σ is vs) H
def gB (K : PySem.W.Frag) : MT → TG
  | .nm i => gName i
  | .tp is => gTup K is.length (gNames is)
def setEnv (e : Env) : List Nat → List DV → Env
  | i :: is, x :: xs => setEnv (e.set i (some x)) is xs
  | _, _ => e
theorem fold_set : ∀ (is : List Nat) (xs : List DV) (e : Env), (is.zip xs).foldl (fun e p => e.set p.1 (some p.2)) e = setEnv e is xs
  | [], _, _ => by simp [setEnv]
  | _ :: _, [], _ => by simp [setEnv]
  | i :: is, x :: xs, e => by simp only [List.zip_cons_cons, List.foldl_cons, setEnv]; exact fold_set is xs _
theorem EnvR.setAll {c : RC} {H : Hp} {φ : Nat → Addr} {n : Nat} : ∀ {is : List Nat} {xs : List DV} {vs : List V} {e : Env} {σ : L2.St}, EnvR c H φ n e σ → DRs c H φ n n xs vs → EnvR c H φ n (setEnv e is xs) (DP.setAll σ is vs)
  | [], _, _, _, _, h, _ => by simpa [setEnv, DP.setAll] using h
  | i :: is, [], vs, _, _, h, r => by unfold DRs at r; subst r; simpa [setEnv, DP.setAll] using h
  | i :: is, x :: xs, vs, e, σ, h, r => by
    unfold DRs at r
    obtain ⟨v, q, e1, h1, h2⟩ := r
    subst e1
    simp only [setEnv, DP.setAll]
    exact EnvR.setAll (h.set h1 i) h2
theorem wipe_at (σ : L2.St) (j : Nat) : ∀ vs : List Nat, (L2.wipe σ vs)[j]? = if j ∈ vs then (σ[j]?).map fun _ => none else σ[j]?
  | [] => by simp [L2.wipe]
  | v :: vs => by
    unfold L2.wipe
    rw [List.getElem?_set]
    have ih := wipe_at σ j vs
    by_cases e : v = j
    · subst e
      simp only [if_pos, List.mem_cons, true_or]
      rw [wipe_length]
      by_cases hl : v < σ.length
      · rw [if_pos hl, List.getElem?_eq_getElem hl]; rfl
      · rw [if_neg hl, List.getElem?_eq_none (Nat.not_lt.mp hl)]; rfl
    · rw [if_neg e, ih]
      have e' : ¬ j = v := fun z => e z.symm
      simp [e']
theorem wipe_set {σ : L2.St} {i : Nat} {o : Option V} {vs : List Nat} (h : i ∈ vs) : L2.wipe (σ.set i o) vs = L2.wipe σ vs := by
  apply List.ext_getElem?
  intro j
  rw [wipe_at, wipe_at]
  by_cases hj : j ∈ vs
  · rw [if_pos hj, if_pos hj, List.getElem?_set]
    split
    · rename_i e
      subst e
      split
      · rename_i hl; rw [List.getElem?_eq_getElem hl]; rfl
      · rename_i hl; rw [List.getElem?_eq_none (Nat.not_lt.mp hl)]
    · rfl
  · rw [if_neg hj, if_neg hj, List.getElem?_set_ne (fun e => hj (by rw [← e]; exact h))]
theorem wipe_setAll {vs : List Nat} : ∀ {is : List Nat} {xs : List V} {σ : L2.St}, (∀ i ∈ is, i ∈ vs) → L2.wipe (setAll σ is xs) vs = L2.wipe σ vs
  | [], _, _, _ => by simp [setAll]
  | _ :: _, [], _, _ => by simp [setAll]
  | i :: is, x :: xs, σ, h => by
    simp only [setAll]
    rw [wipe_setAll fun j hj => h j (List.mem_cons_of_mem _ hj), wipe_set (h i List.mem_cons_self)]
theorem wipe_wipe (σ : L2.St) (vs : List Nat) : L2.wipe (L2.wipe σ vs) vs = L2.wipe σ vs := by
  apply List.ext_getElem?
  intro j
  rw [wipe_at]
  by_cases hj : j ∈ vs
  · rw [if_pos hj, wipe_at, if_pos hj]; cases σ[j]? <;> rfl
  · rw [if_neg hj]
section
variable {X : Cx} {n : Nm} (hN : X.N = n.N) (nd : n.N.Nodup) (hs : X.env.scope = n.sc) (hf : ∀ x, n.fn x = true → X.fn x = true)
theorem st_in {i : Nat} {x : Str} (h : stB n i x = true) : n.N[i]? = some x ∧ (n.sc.names.lookup x = some .local ∨ (n.sc.names.lookup x = some .cell ∧ n.fn x = true)) := by
  unfold stB at h
  simp only [Bool.and_eq_true, decide_eq_true_eq] at h
  refine ⟨h.1, ?_⟩
  have h2 := h.2
  split at h2
  · rename_i e; exact .inl e
  · rename_i e; exact .inr ⟨e, h2⟩
  · cases h2
include hN nd hs hf
theorem pg_nm {i : Nat} {x : Str} {pos : Pos} (h : stB n i x = true) : PG X (.Name x pos) (gName i) := by
  obtain ⟨h1, h2⟩ := st_in h
  have hx : L2.Loc X.env.scope x := by
    unfold L2.Loc; rw [hs]
    rcases h2 with h2 | ⟨h2, _⟩
    · exact .inl h2
    · exact .inr h2
  refine pg_name (hN ▸ nd) (hN ▸ h1) hx ?_
  rcases h2 with h2 | ⟨_, h2⟩
  · exact .inr (by rw [hs]; exact h2)
  · exact .inl (hf x h2)
theorem pgs_tp : ∀ {is : List Nat} {ts : List Expr}, tgB.go n is ts = true → PGs X ts (gNames is) ∧ (assignEach ts X.env).length = is.length ∧ (assignEach ts X.env).findIdx? (·.1) = none
  | [], [], _ => ⟨⟨fun pins s σ H vs us Q I r h => by
      obtain ⟨h1, h2⟩ := h
      have e := List.length_eq_zero_iff.mp h1
      subst e
      exact (pgs_nil (X := X)).run pins s σ H [] us Q I r ⟨rfl, by simpa [setAll] using h2⟩⟩, rfl, rfl⟩
  | [], _ :: _, h => by simp [tgB.go] at h
  | _ :: _, [], h => by simp [tgB.go] at h
  | i :: is, t :: ts, h => by
    cases t with
    | Name x pos =>
      simp only [tgB.go, Bool.and_eq_true] at h
      obtain ⟨p1, p2, p3⟩ := pgs_tp h.2
      refine ⟨⟨fun pins s σ H vs us Q I r q => ?_⟩, by show _ + 1 = _ + 1; rw [p2], ?_⟩
      · obtain ⟨q1, q2⟩ := q
        cases vs with
        | nil => cases q1
        | cons v vs =>
          refine (pgs_cons (pg_nm hN nd hs hf h.1) p1).run pins s σ H (v :: vs) us Q I r ⟨v, vs, rfl, ?_⟩
          exact ⟨by simpa using q1, by simpa only [setAll] using q2⟩
      · show List.findIdx? _ ((false, assign (.Name x pos) X.env) :: assignEach ts X.env) = none
        rw [List.findIdx?_cons, p3]; rfl
    | _ => simp [tgB.go] at h
theorem pg_tg (hc : X.calm = true) {tg : MT} {t : Expr} (h : tgB n tg t = true) : PG X t (gB X.K tg) := by
  cases tg with
  | nm i =>
    cases t with
    | Name x pos => exact pg_nm hN nd hs hf (by simpa [tgB] using h)
    | _ => simp [tgB] at h
  | tp is =>
    cases t with
    | Tuple ts k pos =>
      obtain ⟨p1, p2, p3⟩ := pgs_tp hN nd hs hf (is := is) (ts := ts) (by simpa [tgB] using h)
      exact pg_tup hc p1 p2 p3
    | _ => simp [tgB] at h
end
/-- an item goes to its names -/
theorem gB_run {c : RC} {B : Nat → Prop} {H : Hp} {φ : Nat → Addr} {S : Store} {tg : MT} {d : DV} {x : V} {e e1 : Env} {σ : L2.St} {Q : L2.St → Hp → Prop} (R : Rel c B H φ S) (hb : bindTo tg d e = some e1) (hv : EnvR c H φ S.length e σ) (hd : DR c H φ S.length S.length d x)
    (q : ∀ σ', EnvR c H φ S.length e1 σ' → (∀ vs : List Nat, (∀ i ∈ tg.slots, i ∈ vs) → L2.wipe σ' vs = L2.wipe σ vs) → Q σ' H) : gB c.K tg x σ H Q := by
  cases tg with
  | nm i =>
    cases hb
    exact q _ (hv.set hd i) fun vs h => wipe_set (h i (by simp [MT.slots]))
  | tp is =>
    cases d with
    | tup xs =>
      simp only [bindTo] at hb
      split at hb
      · rename_i hl
        have hb := Option.some.inj hb
        rw [fold_set] at hb
        unfold DR at hd
        obtain ⟨a, vs, e2, t, z, r⟩ := hd
        have hl2 := DRs.length r
        refine ⟨a, vs, e2, t.sq, by omega, by omega, q _ (hb ▸ EnvR.setAll hv r) fun ws h => wipe_setAll h⟩
      · cases hb
    | _ => cases hb

/-! ### a list that is being made at D -/
section
variable {P : Program} {w : World} {K : PySem.W.Frag} {ER : List Addr} {D : Addr} {H H' : Hp} {φ : Nat → Addr} {n b : Nat} {acc : List V}
theorem Ap.leave {a : Addr} (h : Ap ⟨P, w, K, D :: ER⟩ φ n a) : Ap ⟨P, w, K, ER⟩ φ n a := ⟨h.1, fun m => h.2 (List.mem_cons_of_mem _ m)⟩
theorem Ap.ne {a : Addr} (h : Ap ⟨P, w, K, D :: ER⟩ φ n a) : a ≠ D := fun e => h.2 (by rw [e]; exact List.mem_cons_self)
theorem Ap.enter {a : Addr} (h : Ap ⟨P, w, K, ER⟩ φ n a) (e : a ≠ D) : Ap ⟨P, w, K, D :: ER⟩ φ n a := ⟨h.1, fun m => (List.mem_cons.mp m).elim e h.2⟩
mutual
theorem DR.leave : ∀ (d : DV) (v : V), DR ⟨P, w, K, D :: ER⟩ H φ n b d v → DR ⟨P, w, K, ER⟩ H φ n b d v
  | .non, _, h => h
  | .bl _, _, h => h
  | .int _, _, h => h
  | .str _, _, h => h
  | .loc _, _, h => h
  | .scr _, _, h => by unfold DR at h ⊢; exact h
  | .tup xs, v, h => by
    unfold DR at h ⊢
    obtain ⟨a, vs, e, t, z, r⟩ := h
    exact ⟨a, vs, e, t, z, DRs.leave xs vs r⟩
  | .lst xs, v, h => by
    unfold DR at h ⊢
    obtain ⟨a, vs, e, t, hp, z, r⟩ := h
    exact ⟨a, vs, e, t, hp.leave, z, DRs.leave xs vs r⟩
  | .dic kvs, v, h => by
    unfold DR at h ⊢
    obtain ⟨a, e, hp, z, hs, r⟩ := h
    rcases r with ⟨ks, t, r⟩ | ⟨o, es, ep, xs, t, h1, h2, h3, h4, r⟩
    · exact ⟨a, e, hp.leave, z, hs, .inl ⟨ks, t, DRk.leave kvs ks r⟩⟩
    · exact ⟨a, e, hp.leave, z, hs, .inr ⟨o, es, ep, xs, t, h1, h2, h3, h4, DRx.leave kvs xs r⟩⟩
theorem DRs.leave : ∀ (ds : List DV) (vs : List V), DRs ⟨P, w, K, D :: ER⟩ H φ n b ds vs → DRs ⟨P, w, K, ER⟩ H φ n b ds vs
  | [], _, h => h
  | d :: ds, vs, h => by
    unfold DRs at h ⊢
    obtain ⟨v, r, e, h1, h2⟩ := h
    exact ⟨v, r, e, DR.leave d v h1, DRs.leave ds r h2⟩
theorem DRk.leave : ∀ (ds : List (DV × DV)) (vs : List (Key × V)), DRk ⟨P, w, K, D :: ER⟩ H φ n b ds vs → DRk ⟨P, w, K, ER⟩ H φ n b ds vs
  | [], _, h => h
  | (k, v) :: ds, vs, h => by
    unfold DRk at h ⊢
    obtain ⟨x, u, q, e, hk, h1, h2⟩ := h
    exact ⟨x, u, q, e, hk, DR.leave v u h1, DRk.leave ds q h2⟩
theorem DRx.leave : ∀ (ds : List (DV × DV)) (vs : List (NestedKey × Addr × Value)), DRx ⟨P, w, K, D :: ER⟩ H φ n b ds vs → DRx ⟨P, w, K, ER⟩ H φ n b ds vs
  | [], _, h => h
  | (k, v) :: ds, vs, h => by
    unfold DRx at h ⊢
    obtain ⟨nk, a, u, vv, q, e, hk, hd, h0, r, h1, h2⟩ := h
    exact ⟨nk, a, u, vv, q, e, hk, hd, DR.leave k _ h0, r, DR.leave v vv h1, DRx.leave ds q h2⟩
end
mutual
theorem DR.enter (hD : H D = none) : ∀ (d : DV) (v : V), DR ⟨P, w, K, ER⟩ H φ n b d v → DR ⟨P, w, K, D :: ER⟩ H φ n b d v
  | .non, _, h => h
  | .bl _, _, h => h
  | .int _, _, h => h
  | .str _, _, h => h
  | .loc _, _, h => h
  | .scr _, _, h => by unfold DR at h ⊢; exact h
  | .tup xs, v, h => by
    unfold DR at h ⊢
    obtain ⟨a, vs, e, t, z, r⟩ := h
    exact ⟨a, vs, e, t, z, DRs.enter hD xs vs r⟩
  | .lst xs, v, h => by
    unfold DR at h ⊢
    obtain ⟨a, vs, e, t, hp, z, r⟩ := h
    exact ⟨a, vs, e, t, hp.enter (ne_of_none t hD), z, DRs.enter hD xs vs r⟩
  | .dic kvs, v, h => by
    unfold DR at h ⊢
    obtain ⟨a, e, hp, z, hs, r⟩ := h
    rcases r with ⟨ks, t, r⟩ | ⟨o, es, ep, xs, t, h1, h2, h3, h4, r⟩
    · exact ⟨a, e, hp.enter (ne_of_none t hD), z, hs, .inl ⟨ks, t, DRk.enter hD kvs ks r⟩⟩
    · exact ⟨a, e, hp.enter (ne_of_none t hD), z, hs, .inr ⟨o, es, ep, xs, t, h1, h2, h3, h4, DRx.enter hD kvs xs r⟩⟩
theorem DRs.enter (hD : H D = none) : ∀ (ds : List DV) (vs : List V), DRs ⟨P, w, K, ER⟩ H φ n b ds vs → DRs ⟨P, w, K, D :: ER⟩ H φ n b ds vs
  | [], _, h => h
  | d :: ds, vs, h => by
    unfold DRs at h ⊢
    obtain ⟨v, r, e, h1, h2⟩ := h
    exact ⟨v, r, e, DR.enter hD d v h1, DRs.enter hD ds r h2⟩
theorem DRk.enter (hD : H D = none) : ∀ (ds : List (DV × DV)) (vs : List (Key × V)), DRk ⟨P, w, K, ER⟩ H φ n b ds vs → DRk ⟨P, w, K, D :: ER⟩ H φ n b ds vs
  | [], _, h => h
  | (k, v) :: ds, vs, h => by
    unfold DRk at h ⊢
    obtain ⟨x, u, q, e, hk, h1, h2⟩ := h
    exact ⟨x, u, q, e, hk, DR.enter hD v u h1, DRk.enter hD ds q h2⟩
theorem DRx.enter (hD : H D = none) : ∀ (ds : List (DV × DV)) (vs : List (NestedKey × Addr × Value)), DRx ⟨P, w, K, ER⟩ H φ n b ds vs → DRx ⟨P, w, K, D :: ER⟩ H φ n b ds vs
  | [], _, h => h
  | (k, v) :: ds, vs, h => by
    unfold DRx at h ⊢
    obtain ⟨nk, a, u, vv, q, e, hk, hd, h0, r, h1, h2⟩ := h
    exact ⟨nk, a, u, vv, q, e, hk, hd, DR.enter hD k _ h0, r, DR.enter hD v vv h1, DRx.enter hD ds q h2⟩
end
theorem TpR.exw {a : Addr} {vs : List V} (hD : H D = some (.lst acc)) (hx : ∀ a, a ≠ D → H' a = H a) (h : TpR K H a vs) : TpR K H' a vs := by
  rcases h with ⟨o, h, q⟩ | h
  · refine .inl ⟨o, ?_, q⟩
    rw [hx a (fun e => by rw [e, hD] at h; cases h)]; exact h
  · exact .inr h
mutual
/-- what is no value may change -/
theorem DR.exw (hD : H D = some (.lst acc)) (hx : ∀ a, a ≠ D → H' a = H a) : ∀ (d : DV) (v : V), DR ⟨P, w, K, D :: ER⟩ H φ n b d v → DR ⟨P, w, K, D :: ER⟩ H' φ n b d v
  | .non, _, h => h
  | .bl _, _, h => h
  | .int _, _, h => h
  | .str _, _, h => h
  | .loc _, _, h => h
  | .scr ns, _, h => by
    unfold DR at h ⊢
    obtain ⟨a, e, t⟩ := h
    refine ⟨a, e, ?_⟩
    rcases t with ⟨o, t⟩ | t
    · exact .inl ⟨o, by rw [hx a (fun e => by rw [e, hD] at t; cases t)]; exact t⟩
    · exact .inr t
  | .tup xs, v, h => by
    unfold DR at h ⊢
    obtain ⟨a, vs, e, t, z, r⟩ := h
    exact ⟨a, vs, e, t.exw hD hx, z, DRs.exw hD hx xs vs r⟩
  | .lst xs, v, h => by
    unfold DR at h ⊢
    obtain ⟨a, vs, e, t, hp, z, r⟩ := h
    exact ⟨a, vs, e, by rw [hx a hp.ne]; exact t, hp, z, DRs.exw hD hx xs vs r⟩
  | .dic kvs, v, h => by
    unfold DR at h ⊢
    obtain ⟨a, e, hp, z, hs, r⟩ := h
    rcases r with ⟨ks, t, r⟩ | ⟨o, es, ep, xs, t, h1, h2, h3, h4, r⟩
    · exact ⟨a, e, hp, z, hs, .inl ⟨ks, by rw [hx a hp.ne]; exact t, DRk.exw hD hx kvs ks r⟩⟩
    · exact ⟨a, e, hp, z, hs, .inr ⟨o, es, ep, xs, by rw [hx a hp.ne]; exact t, h1, h2, h3, h4, DRx.exw hD hx kvs xs r⟩⟩
theorem DRs.exw (hD : H D = some (.lst acc)) (hx : ∀ a, a ≠ D → H' a = H a) : ∀ (ds : List DV) (vs : List V), DRs ⟨P, w, K, D :: ER⟩ H φ n b ds vs → DRs ⟨P, w, K, D :: ER⟩ H' φ n b ds vs
  | [], _, h => h
  | d :: ds, vs, h => by
    unfold DRs at h ⊢
    obtain ⟨v, r, e, h1, h2⟩ := h
    exact ⟨v, r, e, DR.exw hD hx d v h1, DRs.exw hD hx ds r h2⟩
theorem DRk.exw (hD : H D = some (.lst acc)) (hx : ∀ a, a ≠ D → H' a = H a) : ∀ (ds : List (DV × DV)) (vs : List (Key × V)), DRk ⟨P, w, K, D :: ER⟩ H φ n b ds vs → DRk ⟨P, w, K, D :: ER⟩ H' φ n b ds vs
  | [], _, h => h
  | (k, v) :: ds, vs, h => by
    unfold DRk at h ⊢
    obtain ⟨x, u, q, e, hk, h1, h2⟩ := h
    exact ⟨x, u, q, e, hk, DR.exw hD hx v u h1, DRk.exw hD hx ds q h2⟩
theorem DRx.exw (hD : H D = some (.lst acc)) (hx : ∀ a, a ≠ D → H' a = H a) : ∀ (ds : List (DV × DV)) (vs : List (NestedKey × Addr × Value)), DRx ⟨P, w, K, D :: ER⟩ H φ n b ds vs → DRx ⟨P, w, K, D :: ER⟩ H' φ n b ds vs
  | [], _, h => h
  | (k, v) :: ds, vs, h => by
    unfold DRx at h ⊢
    obtain ⟨nk, a, u, vv, q, e, hk, hd, h0, r, h1, h2⟩ := h
    exact ⟨nk, a, u, vv, q, e, hk, hd, DR.exw hD hx k _ h0, r, DR.exw hD hx v vv h1, DRx.exw hD hx ds q h2⟩
end
variable {B : Nat → Prop} {S : Store} {e : Env} {σ : L2.St}
theorem EnvR.enter (hD : H D = none) (h : EnvR ⟨P, w, K, ER⟩ H φ n e σ) : EnvR ⟨P, w, K, D :: ER⟩ H φ n e σ := ⟨h.1, fun i d q => let ⟨v, q1, q2⟩ := h.2 i d q; ⟨v, q1, DR.enter hD d v q2⟩⟩
theorem EnvR.exw (hD : H D = some (.lst acc)) (hx : ∀ a, a ≠ D → H' a = H a) (h : EnvR ⟨P, w, K, D :: ER⟩ H φ n e σ) : EnvR ⟨P, w, K, D :: ER⟩ H' φ n e σ := ⟨h.1, fun i d q => let ⟨v, q1, q2⟩ := h.2 i d q; ⟨v, q1, DR.exw hD hx d v q2⟩⟩
theorem MOk.leave {mo : MO} {a : Addr} (h : MOk ⟨P, w, K, D :: ER⟩ H φ n mo a) : MOk ⟨P, w, K, ER⟩ H φ n mo a := by
  cases mo with
  | lst xs => obtain ⟨vs, e, z, r⟩ := h; exact ⟨vs, e, z, DRs.leave xs vs r⟩
  | dic kvs =>
    obtain ⟨z, hs, r⟩ := h
    refine ⟨z, hs, ?_⟩
    rcases r with ⟨ks, t, r⟩ | ⟨o, es, ep, xs, t, h1, h2, h3, h4, r⟩
    · exact .inl ⟨ks, t, DRk.leave kvs ks r⟩
    · exact .inr ⟨o, es, ep, xs, t, h1, h2, h3, h4, DRx.leave kvs xs r⟩
  | ins C fs => exact h
theorem MOk.enter (hD : H D = none) {mo : MO} {a : Addr} (h : MOk ⟨P, w, K, ER⟩ H φ n mo a) : MOk ⟨P, w, K, D :: ER⟩ H φ n mo a := by
  cases mo with
  | lst xs => obtain ⟨vs, e, z, r⟩ := h; exact ⟨vs, e, z, DRs.enter hD xs vs r⟩
  | dic kvs =>
    obtain ⟨z, hs, r⟩ := h
    refine ⟨z, hs, ?_⟩
    rcases r with ⟨ks, t, r⟩ | ⟨o, es, ep, xs, t, h1, h2, h3, h4, r⟩
    · exact .inl ⟨ks, t, DRk.enter hD kvs ks r⟩
    · exact .inr ⟨o, es, ep, xs, t, h1, h2, h3, h4, DRx.enter hD kvs xs r⟩
  | ins C fs => exact h
theorem MOk.exw (hD : H D = some (.lst acc)) (hx : ∀ a, a ≠ D → H' a = H a) {mo : MO} {a : Addr} (ha : a ≠ D) (h : MOk ⟨P, w, K, D :: ER⟩ H φ n mo a) : MOk ⟨P, w, K, D :: ER⟩ H' φ n mo a := by
  cases mo with
  | lst xs => obtain ⟨vs, e, z, r⟩ := h; exact ⟨vs, by rw [hx a ha]; exact e, z, DRs.exw hD hx xs vs r⟩
  | dic kvs =>
    obtain ⟨z, hs, r⟩ := h
    refine ⟨z, hs, ?_⟩
    rcases r with ⟨ks, t, r⟩ | ⟨o, es, ep, xs, t, h1, h2, h3, h4, r⟩
    · exact .inl ⟨ks, by rw [hx a ha]; exact t, DRk.exw hD hx kvs ks r⟩
    · exact .inr ⟨o, es, ep, xs, by rw [hx a ha]; exact t, h1, h2, h3, h4, DRx.exw hD hx kvs xs r⟩
  | ins C fs => exact h
theorem Rel.leave (R : Rel ⟨P, w, K, D :: ER⟩ B H φ S) : Rel ⟨P, w, K, ER⟩ B H φ S :=
  ⟨fun i mo q => (R.at_ i mo q).leave, R.low, R.ble, R.inj, fun a ha => R.exh a (List.mem_cons_of_mem _ ha), fun i hi m => R.exp i hi (List.mem_cons_of_mem _ m)⟩
/-- a new list D is begun -/
theorem Rel.begin (R : Rel ⟨P, w, K, ER⟩ B H φ S) (hD : H D = none) : Rel ⟨P, w, K, D :: ER⟩ B (upd H D (.lst [])) φ S := by
  have lt : ∀ {i : Nat} {mo : MO}, S[i]? = some mo → i < S.length := fun q => (List.getElem?_eq_some_iff.mp q).1
  have f : Fut H φ S.length (upd H D (.lst [])) φ S.length := Fut.laid hD
  refine ⟨fun i mo q => MOk.mono f ((R.at_ i mo q).enter hD) fun o e => by rw [upd_ne (R.ne hD (lt q))]; exact e, R.low, R.ble, R.inj, fun a ha => ?_, fun i hi m => ?_⟩
  · rcases List.mem_cons.mp ha with e | ha
    · rw [e, upd_same]; exact fun z => nomatch z
    · exact f.there a (R.exh a ha)
  · rcases List.mem_cons.mp m with e | m
    · exact R.ne hD hi e
    · exact R.exp i hi m
/-- it has grown -/
theorem Rel.grown (R : Rel ⟨P, w, K, D :: ER⟩ B H φ S) (hD : H D = some (.lst acc)) {o : HO} : Rel ⟨P, w, K, D :: ER⟩ B (upd H D o) φ S := by
  have lt : ∀ {i : Nat} {mo : MO}, S[i]? = some mo → i < S.length := fun q => (List.getElem?_eq_some_iff.mp q).1
  have ne : ∀ {i}, i < S.length → φ i ≠ D := fun hi e => R.exp _ hi (by rw [e]; exact List.mem_cons_self)
  refine ⟨fun i mo q => MOk.exw hD (fun a ha => upd_ne ha) (ne (lt q)) (R.at_ i mo q), R.low, R.ble, R.inj, fun a ha => ?_, R.exp⟩
  by_cases e : a = D
  · rw [e, upd_same]; exact fun z => nomatch z
  · rw [upd_ne e]; exact R.exh a ha
def del (H : Hp) (D : Addr) : Hp := fun a => if a = D then none else H a
theorem del_ne {a : Addr} (h : a ≠ D) : del H D a = H a := by unfold del; rw [if_neg h]
theorem del_same : del H D D = none := by unfold del; rw [if_pos rfl]
theorem upd_del {o : HO} (h : H D = some o) : upd (del H D) D o = H := by
  funext a
  by_cases e : a = D
  · rw [e, upd_same, h]
  · rw [upd_ne e, del_ne e]
/-- it is done: without it all stands -/
theorem Rel.done (R : Rel ⟨P, w, K, D :: ER⟩ B H φ S) (hD : H D = some (.lst acc)) (hn : D ∉ ER) : Rel ⟨P, w, K, ER⟩ B (del H D) φ S := by
  have lt : ∀ {i : Nat} {mo : MO}, S[i]? = some mo → i < S.length := fun q => (List.getElem?_eq_some_iff.mp q).1
  have ne : ∀ {i}, i < S.length → φ i ≠ D := fun hi e => R.exp _ hi (by rw [e]; exact List.mem_cons_self)
  refine ⟨fun i mo q => (MOk.exw hD (fun a ha => del_ne ha) (ne (lt q)) (R.at_ i mo q)).leave, R.low, R.ble, R.inj, fun a ha => ?_, fun i hi m => R.exp i hi (List.mem_cons_of_mem _ m)⟩
  rw [del_ne (fun e => hn (by rw [← e]; exact ha))]
  exact R.exh a (List.mem_cons_of_mem _ ha)
end
theorem Fut.done {H H' : Hp} {φ φ' : Nat → Addr} {n n' : Nat} {D : Addr} (f : Fut H φ n H' φ' n') (hD : H D = none) : Fut H φ n (del H' D) φ' n' where
  le := f.le
  old := f.old
  new := f.new
  keep := fun a o h ha => by rw [del_ne (ne_of_none h hD)]; exact f.keep a o h ha
  tups := fun a o h => by rw [del_ne (ne_of_none h hD)]; exact f.tups a o h
  frzs := fun a o u h => by rw [del_ne (ne_of_none h hD)]; exact f.frzs a o u h
  there := fun a h => by rw [del_ne (fun e => h (by rw [e]; exact hD))]; exact f.there a h
theorem Fut.grown {H H' : Hp} {φ φ' : Nat → Addr} {n n' : Nat} {D : Addr} {o : HO} (f : Fut H φ n H' φ' n') (hD : H D = none) : Fut H φ n (upd H' D o) φ' n' where
  le := f.le
  old := f.old
  new := f.new
  keep := fun a o h ha => by rw [upd_ne (ne_of_none h hD)]; exact f.keep a o h ha
  tups := fun a o h => by rw [upd_ne (ne_of_none h hD)]; exact f.tups a o h
  frzs := fun a o u h => by rw [upd_ne (ne_of_none h hD)]; exact f.frzs a o u h
  there := fun a h => by rw [upd_ne (fun e => h (by rw [e]; exact hD))]; exact f.there a h
end DP

namespace DP
open PySem PySem.Spec PyProof.Rows L2

theorem Res.bind_assoc {α β γ : Type} (r : Res α) (g : α → Store → Res β) (h : β → Store → Res γ) : (r.bind g).bind h = r.bind fun a S => (g a S).bind h := by cases r <;> rfl
theorem Cok.blk {n : Nm} {G : Ctx} {X : Cx} (C : Cok n G X) (s : Shared) (H : Hp) (scope : Scope) (D : Addr) (cl : List (Str × Addr)) (fp : List Addr) : Cok (blkN n scope) G (X.blk s H scope (compEnvC scope cl D X.env) fp) where
  calm := C.calm
  N := C.N
  nd := C.nd
  sc := by
    show relS scope X.env.scope = relS scope n.sc
    rw [C.sc]
  fn := fun x h => h
  un := C.un
  gd := C.gd
  bs := C.bs
  rg := C.rg
  cs := C.cs
  fs := C.fs
/-- the tests -/
def tCd (c : RC) (G : Ctx) (cnd : List ME) : TT := fun σ H Q => ∃ B φ e S, At c G B σ H φ e S ∧ Post c B H φ S.length (evC G cnd e S) (fun b S' H' φ' => Q b H') noE
theorem pts_cd {cnd : List ME} (ih : ∀ m, m ∈ cnd → SndE m) {n : Nm} {X : Cx} {G : Ctx} (ER : List Addr) {ifs : List Expr} (C : Cok n G X) (h : cpC n cnd ifs = true) : PTs X ifs (tCd (rcx X ER) G cnd) := by
  have imP : ∀ {es : List Expr} {t t' : TT}, PTs X es t → (∀ σ H Q, t' σ H Q → t σ H Q) → PTs X es t' := fun hp w => ⟨fun pins s σ H Q I q => hp.run pins s σ H Q I (w σ H Q q)⟩
  rcases cnd with _ | ⟨m, _ | ⟨m', ms⟩⟩
  · cases ifs with
    | nil =>
      refine imP pts_nil ?_
      rintro σ H Q ⟨B, φ, e, S, a, h⟩
      rw [evC] at h
      exact h H φ (Fut.refl _ _ _) a.rel
    | cons x r => simp [cpC] at h
  · rcases ifs with _ | ⟨x, _ | ⟨y, r⟩⟩
    · simp [cpC] at h
    · simp only [cpC] at h
      refine imP (pts_one (ih m List.mem_cons_self ER C h).2.1) ?_
      rintro σ H Q ⟨B, φ, e, S, a, h⟩
      rw [evC] at h
      exact a.stepT h fun b S1 H1 φ1 f1 a1 h => h H1 φ1 (Fut.refl _ _ _) a1.rel
    · simp [cpC] at h
  · cases ifs <;> simp [cpC] at h
/-- the parts of a comprehension -/
theorem pi_src {ses : List ME} (ih : ∀ m, m ∈ ses → SndE m) {n : Nm} {X : Cx} {G : Ctx} (ER : List Addr) {k : SK} {it tg : Expr} (C : Cok n G X) (h : cpI n k ses it = true) : PI X tg it (wiD (rcx X ER) G k ses) ∧ ∀ x, foldedSetIterable it X.env x = pure x := by
  rcases ses with _ | ⟨m, ms⟩
  · simp [cpI] at h
  · have im : SndE m := ih m List.mem_cons_self
    cases k with
    | seq =>
      simp only [cpI, Bool.and_eq_true] at h
      cases ms with
      | nil => exact ⟨pi_seqD (im ER C h.2).1, fun x => cp_fold h.2 X.env x⟩
      | cons _ _ => cases h.1
    | keys =>
      simp only [cpI, Bool.and_eq_true] at h
      cases ms with
      | nil => exact ⟨pi_keysD (im ER C h.2).1, fun x => cp_fold h.2 X.env x⟩
      | cons _ _ => cases h.1
    | rng1 =>
      simp only [cpI] at h
      split at h
      · rename_i x p args pos
        simp only [Bool.and_eq_true, decide_eq_true_eq] at h
        obtain ⟨⟨⟨⟨h1, h2⟩, h3⟩, h4⟩, h5⟩ := h
        subst h1
        cases ms with
        | nil =>
          rcases args with _ | ⟨e, _ | ⟨e2, r⟩⟩
          · cases h5
          · exact ⟨pi_rng1D (C.gl h3) (C.rg h2) (s_cons im s_nil ER C (by simp only [cpEs, Bool.and_eq_true]; exact ⟨h5, trivial⟩)) (cp_star h5 [] X.env), fun _ => rfl⟩
          · cases h5
        | cons _ _ => cases h4
      · cases h
    | rng2 =>
      simp only [cpI] at h
      split at h
      · rename_i x p args pos
        simp only [Bool.and_eq_true, decide_eq_true_eq] at h
        obtain ⟨⟨⟨⟨h1, h2⟩, h3⟩, h4⟩, h5⟩ := h
        subst h1
        rcases args with _ | ⟨e, _ | ⟨e2, _ | ⟨e3, r⟩⟩⟩
        · cases h4
        · cases h4
        · simp only [Bool.and_eq_true] at h5
          rcases ms with _ | ⟨m2, _ | ⟨m3, ms⟩⟩
          · simp [cpEs] at h5
          · have h6 := h5.2
            simp only [cpEs, Bool.and_eq_true] at h6
            have st2 := cp_star h6.1 [] X.env
            refine ⟨pi_rng2D (C.gl h3) (C.rg h2) (s_cons im (s_cons (ih m2 (by simp)) s_nil) ER C (by simp only [cpEs, Bool.and_eq_true]; exact ⟨h5.1, h6.1, trivial⟩)) (by rw [cp_star h5.1 [e2] X.env, st2]; rfl) st2, fun _ => rfl⟩
          · simp [cpEs] at h5
        · cases h4
      · cases h
    | _ => simp [cpI] at h
theorem own_snd (N : List Str) (own : List Nat) : (ownOf N own).map (·.2) = own := by
  unfold ownOf
  rw [List.map_map]
  exact List.map_id _
/-- the turns -/
theorem comp_core {X : Cx} {G : Ctx} {ER : List Addr} {elt : ME} {tg : MT} {src : SK} {ses cnd : List ME} {own : List Nat} (hsl : ∀ i ∈ tg.slots, i ∈ own) {σ : L2.St} {H : Hp} {Q : VK} (h : tF (rcx X ER) G noE (.comp elt tg src ses cnd own) σ H Q) :
    tLc (wiD (rcx X ER) G src ses) (gB X.K tg) (fun σ H Q => ∃ ER, tCd (rcx X ER) G cnd σ H Q) (fun σ H Q => ∃ ER, tD (rcx X ER) G noE elt σ H Q) own σ H Q := by
  obtain ⟨B, φ, e, S, a, h⟩ := h
  rw [evE] at h
  refine ⟨B, φ, e, S, a, h.unbind.imp fun as S1 H1 φ1 f1 R1 h => ?_⟩
  have v1 := a.env.mono f1
  generalize hf : (fun d S => match bindTo tg d (wipe e own) with
      | some e1 => noExc ((evC G cnd e1 S).bind fun k S => if k then (evE G elt e1 S).bind fun v S => .ok (some v) S else .ok none S)
      | none => .stuck : DV → Store → Res (Option DV)) = f at h
  cases hs : srcOf src (srcArg src S1 as) with
  | none => rw [hs] at h; exact h.elim
  | some items =>
    rw [hs] at h
    dsimp only at h
    refine ⟨items, rfl, fun vs J hz hvs _ _ hJ => ?_⟩
    intro D hD
    have hn : D ∉ ER := fun m => R1.exh D m hD
    refine ⟨fun i m Hc => i ≤ items.length ∧ m = items.length - i ∧ ∃ φc Sc accD acc, Hc D = some (.lst acc) ∧ Fut H1 φ1 S1.length Hc φc Sc.length ∧ Rel (rcx X (D :: ER)) B Hc φc Sc ∧ accD.length ≤ i ∧ DRs (rcx X (D :: ER)) Hc φc Sc.length Sc.length accD acc ∧
      Post (rcx X ER) B H1 φ1 S1.length ((compL f (isLive as S1) (items.drop i) Sc).bind fun r S => .ok (.lst (accD ++ r)) S) (kFr (rcx X ER) Q) noE, ⟨items.length, Nat.zero_le _, by simp, φ1, S1, [], [], upd_same, Fut.laid hD, R1.begin hD, Nat.le_refl _, rfl, ?_⟩, ?_⟩
    · exact h
    rintro i m Hc ⟨hi, rfl, φc, Sc, accD, acc, hDc, fc, Rc, hl, hacc, hp⟩
    have pl : ∀ j, j < Sc.length → φc j ≠ D := fun j hj e => Rc.exp j hj (by rw [e]; exact List.mem_cons_self)
    have hvc : DRs (rcx X (D :: ER)) Hc φc Sc.length Sc.length as vs := DRs.mono fc fc.le (Nat.le_refl _) _ _ (DRs.enter hD _ _ hvs)
    have vc : EnvR (rcx X (D :: ER)) Hc φc Sc.length e σ := (EnvR.enter hD v1).mono fc
    by_cases hlt : i < items.length
    · have ed : items.drop i = items[i] :: items.drop (i + 1) := List.drop_eq_getElem_cons hlt
      rw [ed] at hp
      simp only [compL] at hp
      split at hp
      case isFalse => exact hp.elim
      rename_i hlive
      obtain ⟨turn, _⟩ := hJ (D :: ER) B Hc φc Sc Rc fc hvc hlive
      refine .inr ⟨(turn i hlt).1, fun Hn => _ , fun Hn q => ⟨items.length - (i + 1), by omega, q⟩, fun x H' y => ?_⟩
      obtain ⟨e1, d, hd, rd⟩ := (turn i hlt).2 x H' y
      subst e1
      rw [List.getElem?_eq_getElem hlt] at hd
      have hd := Option.some.inj hd
      subst hd
      rw [Res.bind_assoc] at hp
      have fd : f items[i] Sc = (match bindTo tg items[i] (wipe e own) with
        | some e1 => noExc ((evC G cnd e1 Sc).bind fun k S => if k then (evE G elt e1 S).bind fun v S => .ok (some v) S else .ok none S)
        | none => .stuck) := by rw [← hf]
      rw [fd] at hp
      cases hb : bindTo tg items[i] (wipe e own) with
      | none => rw [hb] at hp; exact hp.elim
      | some e1 =>
        rw [hb] at hp
        dsimp only at hp
        refine gB_run Rc hb (vc.wipe own) rd fun σ2 v2 hw => ⟨(hw own hsl).trans (wipe_wipe σ own), D :: ER, B, φc, e1, Sc, ⟨a.base, Rc, v2⟩, ?_⟩
        cases hc : evC G cnd e1 Sc with
        | stuck => rw [hc] at hp; exact hp.elim
        | exc cl bs S2 => rw [hc] at hp; exact hp.elim
        | ok k S2 =>
          rw [hc] at hp
          intro H3 φ3 f3 R3
          have h3 := f3.keep D _ hDc pl
          cases k with
          | false =>
            dsimp only
            rw [if_neg (by simp)]
            have hp2 : Post (rcx X ER) B H1 φ1 S1.length (((compL f (isLive as S1) (items.drop (i + 1)) S2).bind fun r S => Res.ok r S).bind fun r S => .ok (.lst (accD ++ r)) S) (kFr (rcx X ER) Q) noE := hp
            rw [Res.bind_assoc] at hp2
            exact ⟨hlt, rfl, φ3, S2, accD, acc, h3, fc.trans f3, R3, Nat.le_succ_of_le hl, DRs.mono f3 f3.le (Nat.le_refl _) _ _ hacc, hp2⟩
          | true =>
            dsimp only
            rw [if_pos rfl]
            have hp1 : Post (rcx X ER) B H1 φ1 S1.length ((noExc ((evE G elt e1 S2).bind fun v S => .ok (some v) S)).bind fun o S => (((compL f (isLive as S1) (items.drop (i + 1)) S).bind fun r S => Res.ok (match o with | some v => v :: r | none => r) S).bind fun r S => .ok (.lst (accD ++ r)) S)) (kFr (rcx X ER) Q) noE := hp
            refine ⟨D :: ER, B, φ3, e1, S2, ⟨a.base, R3, v2.mono f3⟩, ?_⟩
            cases he : evE G elt e1 S2 with
            | stuck => rw [he] at hp1; exact hp1.elim
            | exc cl bs S3 => rw [he] at hp1; exact hp1.elim
            | ok v S3 =>
              rw [he] at hp1
              intro H4 φ4 f4 R4 y hy
              have pl3 : ∀ j, j < S2.length → φ3 j ≠ D := fun j hj e => R3.exp j hj (by rw [e]; exact List.mem_cons_self)
              have h4 := f4.keep D _ h3 pl3
              have r4 : DRs (rcx X (D :: ER)) H4 φ4 S3.length S3.length (accD ++ [v]) (acc ++ [y]) := DRs.append (DRs.mono (f3.trans f4) (f3.trans f4).le (Nat.le_refl _) _ _ hacc) ⟨y, [], rfl, hy, rfl⟩
              have hp2 : Post (rcx X ER) B H1 φ1 S1.length (((compL f (isLive as S1) (items.drop (i + 1)) S3).bind fun r S => Res.ok (v :: r) S).bind fun r S => .ok (.lst (accD ++ r)) S) (kFr (rcx X ER) Q) noE := hp1
              rw [Res.bind_assoc] at hp2
              have eg : (fun (r : List DV) (S : Store) => (Res.ok (v :: r) S).bind fun r S => Res.ok (DV.lst (accD ++ r)) S) = fun r S => Res.ok (DV.lst (accD ++ [v] ++ r)) S := by
                funext r S
                rw [Res.bind_ok, List.append_assoc]; rfl
              rw [eg] at hp2
              exact ⟨acc, h4, by rw [← DRs.length hacc]; omega, hlt, rfl, φ4, S3, accD ++ [v], acc ++ [y], upd_same, (fc.trans (f3.trans f4)).grown hD, R4.grown h4, by rw [List.length_append]; simp; omega, DRs.exw h4 (fun b hb => upd_ne hb) _ _ r4, hp2⟩
    · have ei : i = items.length := by omega
      subst ei
      rw [List.drop_length] at hp
      simp only [compL] at hp
      split at hp
      case isFalse => exact hp.elim
      rename_i hlive
      obtain ⟨_, stop⟩ := hJ (D :: ER) B Hc φc Sc Rc fc hvc hlive
      refine .inl ⟨stop, ?_⟩
      have q := (hp (del Hc D) φc (fc.done hD) (Rc.done hDc hn)).2 D (.lst acc) del_same ⟨acc, rfl, by rw [List.append_nil]; omega, DRs.leave _ _ (DRs.exw hDc (fun b hb => del_ne hb) _ _ (by rw [List.append_nil]; exact hacc))⟩
      rw [upd_del hDc] at q
      exact q
theorem s_comp {elt : ME} {tg : MT} {src : SK} {ses cnd : List ME} {own : List Nat} (ie : SndE elt) (is : ∀ m, m ∈ ses → SndE m) (ic : ∀ m, m ∈ cnd → SndE m) : SndE (.comp elt tg src ses cnd own) := by
  intro n X G ER ex C h
  simp only [cpE] at h
  split at h
  · rename_i x t it ifs az scope pos
    simp only [Bool.and_eq_true, decide_eq_true_eq] at h
    obtain ⟨⟨⟨⟨⟨⟨h0, h1⟩, h2⟩, h3⟩, h4⟩, h5⟩, h6⟩ := h
    subst h0
    have ok : BlkOk X.N X.env.scope scope (ownOf n.N own) := by rw [C.N, C.sc]; exact blkOk_by h2
    have hsl : ∀ i ∈ tg.slots, i ∈ own := fun i hi => by
      have := List.all_eq_true.mp h4 i hi
      simpa using this
    have p := pi_src is ER (tg := t) C h1
    refine mkF (fun e S d S' q => ?_) (imE (pe_lc (g := gB X.K tg) (tt := fun σ H Q => ∃ ER, tCd (rcx X ER) G cnd σ H Q) (te := fun σ H Q => ∃ ER, tD (rcx X ER) G noE elt σ H Q) C.calm (C.N ▸ C.nd) p.1 ok
      (fun s H D cl fp => pg_tg (X := X.blk s H scope (compEnvC scope cl D X.env) fp) (C.blk s H scope D cl fp).N C.nd (C.blk s H scope D cl fp).sc (fun x h => h) C.calm h3)
      (fun s H D cl fp => ⟨fun pins s' σ H' Q I ⟨ER', q⟩ => (pts_cd ic ER' (C.blk s H scope D cl fp) h5).run pins s' σ H' Q I q⟩)
      (fun s H D cl fp => ⟨fun pins s' σ H' Q I ⟨ER', q⟩ => (ie ER' (C.blk s H scope D cl fp) h6).1.run pins s' σ H' Q I q⟩) p.2) ?_) (fun _ => rfl)
    · rw [evE] at q
      obtain ⟨as, S1, _, q⟩ := Res.bind_okI q
      split at q
      · obtain ⟨r, S2, _, q⟩ := Res.bind_okI q
        cases q; rfl
      · cases q
    · intro σ H Q q
      rw [own_snd]
      exact comp_core hsl q
  · cases h
end DP

namespace DP
open PySem PySem.Spec PyProof.Rows L2

theorem s_all : ∀ {ms : List ME}, (∀ m, m ∈ ms → SndE m) → SndEs ms
  | [], _ => s_nil
  | m :: ms, h => s_cons (h m List.mem_cons_self) (s_all fun x hx => h x (List.mem_cons_of_mem _ hx))
theorem sndE (m : ME) : SndE m := by
  induction m using ME.rec (motive_2 := fun ms => ∀ m, m ∈ ms → SndE m) with
  | non => exact s_non
  | bl b => exact s_bl
  | int i => exact s_int
  | str x => exact s_str
  | var i => exact s_var
  | con k => exact s_con
  | tup es ih => exact s_tup (s_all ih)
  | lst es ih => exact s_lst (s_all ih)
  | newD => exact s_newD
  | bin op a b ia ib => exact s_bin ia ib
  | neg a ia => exact s_neg ia
  | cmp op a b ia ib => exact s_cmp ia ib
  | chain op op' a b c ia ib ic => exact s_chain ia ib ic
  | isN a ia => exact s_isN ia
  | notN a ia => exact s_notN ia
  | and a b ia ib => exact s_and ia ib
  | or a b ia ib => exact s_or ia ib
  | not a ia => exact s_not ia
  | ite c a b ic ia ib => exact s_ite ic ia ib
  | idx a i ia ii => exact s_idx ia ii
  | slc a lo hi ia il ih => exact s_slc ia il ih
  | rev a ia => exact s_rev ia
  | call k es ih => exact s_call (s_all ih)
  | blt f es ih => exact s_blt (s_all ih)
  | meth f o es io ih => exact s_meth io (s_all ih)
  | comp elt tg src ses cnd own ie is ic => exact s_comp ie is ic
  | new a ia => exact s_new ia
  | nil => rename_i hm; cases hm
  | cons m ms im ims =>
    rename_i x hx
    rcases List.mem_cons.mp hx with e | hx
    · subst e; exact im
    · exact ims x hx

/-! ### statements -/
/-- what a statement's end is wanted for -/
def OutP (c : RC) (B : Nat → Prop) (H : Hp) (φ : Nat → Addr) (n : Nat) (D : Ends) : Out → Prop
  | .nx e' S' => After c B H φ n S' fun H' φ' => ∀ σ', EnvR c H' φ' S'.length e' σ' → D.nx σ' H'
  | .rt d S' => After c B H φ n S' fun H' φ' => ∀ v, DR c H' φ' S'.length S'.length d v → D.rt v H'
  | .exc _ _ _ S' => After c B H φ n S' fun _ _ => False
  | .stuck => False
def tSd (c : RC) (G : Ctx) (m : MS) : TS := fun D σ H => ∃ B φ e S, At c G B σ H φ e S ∧ OutP c B H φ S.length D (evS G m e S)
def tBd (c : RC) (G : Ctx) (ms : List MS) : TS := fun D σ H => ∃ B φ e S, At c G B σ H φ e S ∧ OutP c B H φ S.length D (evB G ms e S)
section
variable {c : RC} {B : Nat → Prop} {H H1 : Hp} {φ φ1 : Nat → Addr} {n n1 : Nat} {D : Ends}
theorem OutP.from {o : Out} (h : OutP c B H φ n D o) (f : Fut H φ n H1 φ1 n1) : OutP c B H1 φ1 n1 D o := by
  cases o with
  | nx e S => exact After.from h f
  | rt d S => exact After.from h f
  | exc _ _ _ _ => exact After.from h f
  | stuck => exact h
theorem OutP.then {α : Type} {r : Res α} {e : Env} {f : α → Store → Out} (h : OutP c B H φ n D (r.then e f)) : Post c B H φ n r (fun a S1 H1 φ1 => OutP c B H1 φ1 S1.length D (f a S1)) noE := by
  cases r with
  | ok a S => intro H1 φ1 g _; exact OutP.from h g
  | exc _ _ _ => exact h
  | stuck => exact h
theorem OutP.bind {o : Out} {f : Env → Store → Out} (h : OutP c B H φ n D (o.bind f)) : OutP c B H φ n { D with nx := fun σ' H' => ∃ φ' e' S', Fut H φ n H' φ' S'.length ∧ Rel c B H' φ' S' ∧ EnvR c H' φ' S'.length e' σ' ∧ OutP c B H φ n D (f e' S') } o := by
  cases o with
  | nx e S => intro H1 φ1 g R σ' v; exact ⟨φ1, e, S, g, R, v, h⟩
  | rt d S => exact h
  | exc _ _ _ _ => exact h
  | stuck => exact h
theorem asBlO_in {o : DV} {f : Bool → Out} (h : OutP c B H φ n D (asBlO o f)) : ∃ b, o = .bl b ∧ OutP c B H φ n D (f b) := by
  cases o with
  | bl b => exact ⟨b, rfl, h⟩
  | _ => exact h.elim
theorem At.stepO {G : Ctx} {σ : L2.St} {e : Env} {S : Store} {m : ME} {g : DV → Store → Out} {R : VK} (a : At c G B σ H φ e S) (h : OutP c B H φ S.length D ((evE G m e S).then e g))
    (hK : ∀ d S1 H1 φ1 v, Fut H φ S.length H1 φ1 S1.length → At c G B σ H1 φ1 e S1 → DR c H1 φ1 S1.length S1.length d v → OutP c B H1 φ1 S1.length D (g d S1) → R v H1) : tD c G noE m σ H R :=
  ⟨B, φ, e, S, a, h.then.imp fun d S1 H1 φ1 f r q v hv => hK d S1 H1 φ1 v f (a.next f r) hv q⟩
theorem OutP.nx {e : Env} {S : Store} {σ : L2.St} {H : Hp} (h : OutP c B H φ S.length D (.nx e S)) (R : Rel c B H φ S) (v : EnvR c H φ S.length e σ) : D.nx σ H := h H φ (Fut.refl _ _ _) R σ v
end
def SndS (m : MS) : Prop := ∀ {n : Nm} {X : Cx} {G : Ctx} (ER : List Addr) {st : Stmt}, Cok n G X → PassesOwn (model X.prog X.w) X.A X.env X.xe → X.env.scope.kind = .function → cpS n m st = true → PS X st (tSd (rcx X ER) G m)
def SndB (ms : List MS) : Prop := ∀ {n : Nm} {X : Cx} {G : Ctx} (ER : List Addr) {sts : List Stmt}, Cok n G X → PassesOwn (model X.prog X.w) X.A X.env X.xe → X.env.scope.kind = .function → cpB n ms sts = true → PSs X sts (tBd (rcx X ER) G ms)
theorem imS {X : Cx} {st : Stmt} {t t' : TS} (h : PS X st t) (w : ∀ D σ H, t' D σ H → t D σ H) : PS X st t' := ⟨fun pins s σ H D I q => h.run pins s σ H D I (w D σ H q)⟩
theorem imSs {X : Cx} {st : List Stmt} {t t' : TS} (h : PSs X st t) (w : ∀ D σ H, t' D σ H → t D σ H) : PSs X st t' := ⟨fun pins s σ H D I q => h.run pins s σ H D I (w D σ H q)⟩
theorem b_nil : SndB [] := by
  intro n X G ER sts C hp hk h
  cases sts with
  | nil =>
    refine imSs pss_nil ?_
    rintro D σ H ⟨B, φ, e, S, a, h⟩
    rw [evB] at h
    exact h.nx a.rel a.env
  | cons x xs => simp [cpB] at h
theorem b_cons {m : MS} {ms : List MS} (im : SndS m) (ims : SndB ms) : SndB (m :: ms) := by
  intro n X G ER sts C hp hk h
  cases sts with
  | nil => simp [cpB] at h
  | cons x xs =>
    simp only [cpB, Bool.and_eq_true] at h
    refine imSs (pss_cons (im ER C hp hk h.1) (ims ER C hp hk h.2)) ?_
    rintro D σ H ⟨B, φ, e, S, a, h⟩
    rw [evB] at h
    refine ⟨B, φ, e, S, a, ?_⟩
    have q := h.bind
    cases ho : evS G m e S with
    | nx e1 S1 =>
      rw [ho] at h
      intro H1 φ1 f R σ1 v1
      exact ⟨B, φ1, e1, S1, ⟨a.base, R, v1⟩, OutP.from h f⟩
    | rt d S1 => rw [ho] at h; exact h
    | exc _ _ _ _ => rw [ho] at h; exact h
    | stuck => rw [ho] at h; exact h.elim
theorem b_all : ∀ {ms : List MS}, (∀ m, m ∈ ms → SndS m) → SndB ms
  | [], _ => b_nil
  | m :: ms, h => b_cons (h m List.mem_cons_self) (b_all fun x hx => h x (List.mem_cons_of_mem _ hx))
theorem t_ret {a : ME} : SndS (.ret a) := by
  intro n X G ER st C hp hk h
  simp only [cpS] at h
  split at h
  · rename_i v pos
    refine imS (ps_ret (sndE a ER C h).1) ?_
    rintro D σ H ⟨B, φ, e, S, at_, h⟩
    rw [evS] at h
    exact at_.stepO h fun d1 S1 H1 φ1 v f1 a1 r1 h => h H1 φ1 (Fut.refl _ _ _) a1.rel v r1
  · cases h
theorem t_retN : SndS .retN := by
  intro n X G ER st C hp hk h
  simp only [cpS] at h
  split at h
  · refine imS ps_retN ?_
    rintro D σ H ⟨B, φ, e, S, at_, h⟩
    rw [evS] at h
    exact h H φ (Fut.refl _ _ _) at_.rel .non rfl
  · cases h
theorem t_expr {a : ME} : SndS (.expr a) := by
  intro n X G ER st C hp hk h
  simp only [cpS] at h
  split at h
  · rename_i v pos
    simp only [Bool.and_eq_true] at h
    refine imS (ps_expr (sndE a ER C h.1).1 (noLc_swap h.2 _ _ _)) ?_
    rintro D σ H ⟨B, φ, e, S, at_, h⟩
    rw [evS] at h
    exact at_.stepO h fun d1 S1 H1 φ1 v f1 a1 r1 h => h.nx a1.rel a1.env
  · cases h
theorem t_ifs {c : ME} {a b : List MS} (ia : ∀ m, m ∈ a → SndS m) (ib : ∀ m, m ∈ b → SndS m) : SndS (.ifs c a b) := by
  intro n X G ER st C hp hk h
  simp only [cpS] at h
  split at h
  · rename_i t x y pos
    simp only [Bool.and_eq_true] at h
    obtain ⟨⟨h1, h2⟩, h3⟩ := h
    refine imS (ps_if (sndE c ER C h1).2.1 (b_all ia ER C hp hk h2) (b_all ib ER C hp hk h3)) ?_
    rintro D σ H ⟨B, φ, e, S, at_, h⟩
    rw [evS] at h
    refine ⟨B, φ, e, S, at_, h.then.imp fun d S1 H1 φ1 f r q => ?_⟩
    obtain ⟨k, rfl, q⟩ := asBlO_in q
    refine ⟨k, rfl, ?_⟩
    cases k with
    | true => exact ⟨B, φ1, e, S1, at_.next f r, q⟩
    | false => exact ⟨B, φ1, e, S1, at_.next f r, q⟩
  · cases h
theorem t_whl {k : Nat} {c : ME} {b : List MS} (ib : ∀ m, m ∈ b → SndS m) : SndS (.whl k c b) := by
  intro n X G ER st C hp hk h
  simp only [cpS] at h
  split at h
  · rename_i t x pos
    simp only [Bool.and_eq_true] at h
    refine imS (ps_while hp (sndE c ER C h.1).2.1 (b_all ib ER C hp hk h.2)) ?_
    rintro D σ H ⟨B, φ, e, S, at_, h⟩
    rw [evS] at h
    refine ⟨fun m σ' H' => ∃ φ' e' S', At (rcx X ER) G B σ' H' φ' e' S' ∧ OutP (rcx X ER) B H' φ' S'.length D (whileL (evE G c) (evB G b) m e' S'), ⟨k, φ, e, S, at_, h⟩, ?_⟩
    rintro m σ H ⟨φ, e, S, at_, h⟩
    cases m with
    | zero => exact h.elim
    | succ m =>
      simp only [whileL] at h
      refine ⟨B, φ, e, S, at_, h.then.imp fun d S1 H1 φ1 f r q => ?_⟩
      obtain ⟨k, rfl, q⟩ := asBlO_in q
      refine ⟨k, rfl, ?_⟩
      cases k with
      | false => exact q.nx r (at_.next f r).env
      | true =>
        refine ⟨_, fun σ' H' q => ⟨m, Nat.lt_succ_self _, q⟩, B, φ1, e, S1, at_.next f r, ?_⟩
        have q : OutP (rcx X ER) B H1 φ1 S1.length D ((evB G b e S1).bind (whileL (evE G c) (evB G b) m)) := q
        cases ho : evB G b e S1 with
        | nx e1 S2 =>
          rw [ho] at q
          intro H2 φ2 f2 R2 σ2 v2
          exact ⟨φ2, e1, S2, ⟨at_.base, R2, v2⟩, OutP.from q f2⟩
        | rt d S2 => rw [ho] at q; exact q
        | exc _ _ _ _ => rw [ho] at q; exact q
        | stuck => rw [ho] at q; exact q.elim
  · cases h
end DP

namespace DP
open PySem PySem.Spec PyProof.Rows L2

theorem new_tF {c : RC} {G : Ctx} {x : ME} {σ : L2.St} {H : Hp} {Q : VK} (h : tD c G noE (.new x) σ H Q) : tF c G noE x σ H Q := by
  obtain ⟨B, φ, e, S, a, h⟩ := h
  rw [evE] at h
  refine ⟨B, φ, e, S, a, h.unbind.imp fun d S1 H1 φ1 f R h => ?_⟩
  have go : ∀ mo, (lay d S1 = .ok (.loc S1.length) (S1 ++ [mo])) → (∀ p ho, Bod c H1 φ1 S1.length d p ho → H1 p = none → MOk c (upd H1 p ho) (phi φ1 S1.length p) (S1.length + 1) mo p) → KF c Q S1.length d H1 φ1 := by
    intro mo hl hm p ho hp hb
    rw [hl] at h
    have hlen : (S1 ++ [mo]).length = S1.length + 1 := by simp
    refine h (upd H1 p ho) (phi φ1 S1.length p) (by rw [hlen]; exact Fut.push hp) (R.push hp (hm p ho hb hp)) (.ref p) ?_
    unfold DR
    exact ⟨by rw [hlen]; exact Nat.lt_succ_self _, by rw [phi_new]⟩
  cases d with
  | lst xs =>
    refine ⟨rfl, go (.lst xs) rfl fun p ho hb hp => ?_⟩
    rcases hb.mok hp with ⟨ys, e, q⟩ | ⟨ys, e, q⟩
    · cases e; exact q
    · cases e
  | dic kvs =>
    refine ⟨rfl, go (.dic kvs) rfl fun p ho hb hp => ?_⟩
    rcases hb.mok hp with ⟨ys, e, q⟩ | ⟨ys, e, q⟩
    · cases e
    · cases e; exact q
  | _ => exact h.elim
/-- a comprehension stored under a name at once -/
theorem ps_lc {n : Nm} {X : Cx} {G : Ctx} {ER : List Addr} {elt : ME} {tg : MT} {src : SK} {ses cnd : List ME} {own : List Nat} {i : Nat} {y : Str} {py pos lpos : Pos} {x : Expr} {gs : List Comprehension} {scope : Scope}
    (C : Cok n G X) (hk : X.env.scope.kind = .function) (h : cpE n (.comp elt tg src ses cnd own) (.ListComp x gs scope lpos) = true) (hi : n.N[i]? = some y) (hy : n.sc.names.lookup y = some .local) (hl : (py.line == lpos.line) = true)
    (ha : (scope.names.any fun (n, k) => n == y && (k == .local || k == .cell)) = false) :
    PS X (.Assign [.Name y py] (.ListComp x gs scope lpos) pos) (fun D σ H => tF (rcx X ER) G noE (.comp elt tg src ses cnd own) σ H fun v H1 => D.nx (σ.set i (some v)) H1) := by
  simp only [cpE] at h
  split at h
  · rename_i x t it ifs az scope' pos' e
    cases e
    simp only [Bool.and_eq_true, decide_eq_true_eq] at h
    obtain ⟨⟨⟨⟨⟨⟨h0, h1⟩, h2⟩, h3⟩, h4⟩, h5⟩, h6⟩ := h
    subst h0
    have ok : BlkOk X.N X.env.scope scope (ownOf n.N own) := by rw [C.N, C.sc]; exact blkOk_by h2
    have hsl : ∀ i ∈ tg.slots, i ∈ own := fun i hi => by
      have := List.all_eq_true.mp h4 i hi
      simpa using this
    have p := pi_src (fun m _ => sndE m) ER (tg := t) C h1
    have hyl : X.env.scope.names.lookup y = some .local := by rw [C.sc]; exact hy
    refine imS (ps_setLc (i := i) (g := gB X.K tg) (tt := fun σ H Q => ∃ ER, tCd (rcx X ER) G cnd σ H Q) (te := fun σ H Q => ∃ ER, tD (rcx X ER) G noE elt σ H Q) C.calm (C.N ▸ C.nd) (C.N ▸ hi) hyl (sw_true hk hyl hl ha) p.1 ok
      (fun s H D cl fp => pg_tg (X := X.blk s H scope (compEnvC scope cl D X.env) fp) (C.blk s H scope D cl fp).N C.nd (C.blk s H scope D cl fp).sc (fun x h => h) C.calm h3)
      (fun s H D cl fp => ⟨fun pins s' σ H' Q I ⟨ER', q⟩ => (pts_cd (fun m _ => sndE m) ER' (C.blk s H scope D cl fp) h5).run pins s' σ H' Q I q⟩)
      (fun s H D cl fp => ⟨fun pins s' σ H' Q I ⟨ER', q⟩ => (sndE elt ER' (C.blk s H scope D cl fp) h6).1.run pins s' σ H' Q I q⟩) p.2) ?_
    intro D σ H q
    show tLc _ _ _ _ _ σ H _
    rw [own_snd]
    exact comp_core hsl q
  · cases h
theorem asg_w {X : Cx} {G : Ctx} {ER : List Addr} {i : Nat} {a : ME} {D : Ends} {σ : L2.St} {H : Hp} (h : tSd (rcx X ER) G (.asg i a) D σ H) : tD (rcx X ER) G noE a σ H fun v H1 => D.nx (σ.set i (some v)) H1 := by
  obtain ⟨B, φ, e, S, at_, h⟩ := h
  rw [evS] at h
  exact at_.stepO h fun d1 S1 H1 φ1 v f1 a1 r1 h => h H1 φ1 (Fut.refl _ _ _) a1.rel _ (a1.env.set r1 i)
theorem t_asg {i : Nat} {a : ME} : SndS (.asg i a) := by
  intro n X G ER st C hp hk h
  simp only [cpS] at h
  split at h
  · rename_i x py v pos
    simp only [Bool.and_eq_true] at h
    obtain ⟨⟨h1, h2⟩, h3⟩ := h
    obtain ⟨hi, hst⟩ := st_in h1
    by_cases hlc : noLc v = true
    · have hx : L2.Loc X.env.scope x := by
        unfold L2.Loc; rw [C.sc]
        rcases hst with q | ⟨q, _⟩
        · exact .inl q
        · exact .inr q
      refine imS (ps_set (i := i) (C.N ▸ C.nd) (C.N ▸ hi) hx (sndE a ER C h2).1 (noLc_swap hlc _ _ _) ?_) fun D σ H q => asg_w q
      rcases hst with q | ⟨_, q⟩
      · exact .inr (by rw [C.sc]; exact q)
      · exact .inl (C.fn x q)
    · cases v with
      | ListComp x' gs scope lpos =>
        unfold lcSwap at h3
        simp only [Bool.and_eq_true, Bool.not_eq_true'] at h3
        obtain ⟨⟨k1, k2⟩, k3⟩ := h3
        have hy : n.sc.names.lookup x = some .local := by
          split at k1
          · assumption
          · cases k1
        cases a with
        | comp elt tg src ses cnd own =>
          refine imS (ps_lc (ER := ER) C hk h2 hi hy k2 k3) fun D σ H q => tF.tD (fun e S d S' q => ?_) (asg_w q)
          rw [evE] at q
          obtain ⟨as, S1, _, q⟩ := Res.bind_okI q
          split at q
          · obtain ⟨r, S2, _, q⟩ := Res.bind_okI q
            cases q; rfl
          · cases q
        | new b =>
          simp only [cpE, Bool.and_eq_true] at h2
          cases b with
          | comp elt tg src ses cnd own => exact imS (ps_lc (ER := ER) C hk h2.2 hi hy k2 k3) fun D σ H q => new_tF (asg_w q)
          | _ => first | (cases h2.1; done) | (have := h2.2; simp [cpE] at this)
        | _ => simp [cpE] at h2
      | _ => first | exact absurd rfl hlc | (simp [lcSwap, noLc] at h3)
  · cases h
theorem t_asgT {is : List Nat} {a : ME} : SndS (.asgT is a) := by
  intro n X G ER st C hp hk h
  simp only [cpS] at h
  split at h
  · rename_i ts k tp v pos
    simp only [Bool.and_eq_true] at h
    obtain ⟨⟨⟨h1, h2⟩, h3⟩, h4⟩ := h
    have hw : swappedStores [.Tuple ts k tp] v X.env = pure none := by cases v <;> first | rfl | cases h4
    refine imS (ps_asg (sndE a ER C h2).1 (pg_tg (n := n) (tg := .tp is) C.N C.nd C.sc C.fn C.calm (by simp only [tgB]; exact h1)) (by show swapsWith v (some (.Tuple ts k tp)) pos.line X.env = pure false; exact noLc_swap h3 _ _ _) hw) ?_
    rintro D σ H ⟨B, φ, e, S, at_, h⟩
    rw [evS] at h
    refine at_.stepO h fun d1 S1 H1 φ1 v f1 a1 r1 h => ?_
    cases hb : bindTo (.tp is) d1 e with
    | none => rw [hb] at h; exact h.elim
    | some e1 =>
      rw [hb] at h
      exact gB_run (c := rcx X ER) a1.rel hb a1.env r1 fun σ' v' _ => h H1 φ1 (Fut.refl _ _ _) a1.rel σ' v'
  · cases h
theorem sub_exc {b0 : Nat} {o i v : DV} {as : List DV} {S S' : Store} {c : Nat} (h : subSet b0 o i v S = .exc c as S') : False := by
  unfold subSet at h
  (repeat' split at h) <;> cases h
theorem t_sub {o i a : ME} : SndS (.sub o i a) := by
  intro n X G ER st C hp hk h
  simp only [cpS] at h
  split at h
  · rename_i l r tp v pos
    simp only [Bool.and_eq_true] at h
    obtain ⟨⟨⟨h1, h2⟩, h3⟩, h4⟩ := h
    have hu : X.A.units + 64 < cLine := by have := C.un; omega
    have hw : swappedStores [.Subscript l r tp] v X.env = pure none := by cases v <;> rfl
    refine imS (ps_asg (sndE a ER C h3).1 (pg_sub (sndE o ER C h1).1 (sndE i ER C h2).1 (set_all (b0 := G.base) (ER := ER) hu) (sub_assign (cp_ix h2) h2)) (by show swapsWith v (some (.Subscript l r tp)) pos.line X.env = pure false; exact noLc_swap h4 _ _ _) hw) ?_
    rintro D σ H ⟨B, φ, e, S, at_, h⟩
    rw [evS] at h
    refine at_.stepO h fun d1 S1 H1 φ1 v f1 a1 r1 h => ?_
    refine a1.stepO h fun d2 S2 H2 φ2 u f2 a2 r2 h => ?_
    refine a2.stepO h fun d3 S3 H3 φ3 w f3 a3 r3 h => ?_
    have r1' := DR.mono (f2.trans f3) (f2.trans f3).le (Nat.le_refl _) _ _ r1
    have r2' := DR.mono f3 f3.le (Nat.le_refl _) _ _ r2
    cases hs : subSet G.base d2 d3 d1 S3 with
    | ok q S4 =>
      rw [hs] at h
      exact ⟨B, φ3, S3, d2, d3, d1, S4, a3.base, a3.rel, r2', r3, r1', hs, fun H4 φ4 f4 R4 => h H4 φ4 f4 R4 σ (a3.env.mono f4)⟩
    | exc c as S4 => exact (sub_exc hs).elim
    | stuck => rw [hs] at h; exact h.elim
  · cases h
theorem t_fors {tg : MT} {src : SK} {ses : List ME} {b : List MS} (ib : ∀ m, m ∈ b → SndS m) : SndS (.fors tg src ses b) := by
  intro n X G ER st C hp hk h
  simp only [cpS] at h
  split at h
  · rename_i t it x pos
    simp only [Bool.and_eq_true] at h
    obtain ⟨⟨h1, h2⟩, h3⟩ := h
    have p := pi_src (fun m _ => sndE m) ER (tg := t) C h1
    refine imS (ps_for hp C.calm p.1 (pg_tg C.N C.nd C.sc C.fn C.calm h2) (b_all ib ER C hp hk h3) p.2) ?_
    rintro D σ H ⟨B, φ, e, S, at_, h⟩
    rw [evS] at h
    refine ⟨B, φ, e, S, at_, h.then.imp fun as S1 H1 φ1 f1 R1 h => ?_⟩
    cases hs : srcOf src (srcArg src S1 as) with
    | none => rw [hs] at h; exact h.elim
    | some items =>
      rw [hs] at h
      refine ⟨items, rfl, fun vs J hz hvs _ _ hJ => ?_⟩
      refine ⟨fun i m σ' H' => i ≤ items.length ∧ m = items.length - i ∧ ∃ φ' e' S', Fut H1 φ1 S1.length H' φ' S'.length ∧ At (rcx X ER) G B σ' H' φ' e' S' ∧ OutP (rcx X ER) B H' φ' S'.length D (forL tg (evB G b) (isLive as S1) (items.drop i) e' S'),
        ⟨items.length, Nat.zero_le _, by simp, φ1, e, S1, Fut.refl _ _ _, at_.next f1 R1, h⟩, ?_⟩
      rintro i m σ H' ⟨hi, rfl, φ', e', S', f', a', h⟩
      have hvc : DRs (rcx X ER) H' φ' S'.length S'.length as vs := DRs.mono f' f'.le (Nat.le_refl _) _ _ hvs
      by_cases hlt : i < items.length
      · rw [List.drop_eq_getElem_cons hlt] at h
        simp only [forL] at h
        split at h
        case isFalse => exact h.elim
        rename_i hlive
        obtain ⟨turn, _⟩ := hJ ER B H' φ' S' a'.rel f' hvc hlive
        refine .inr ⟨(turn i hlt).1, fun σ2 H2 => _, fun σ2 H2 q => ⟨items.length - (i + 1), by omega, q⟩, fun x H2 y => ?_⟩
        obtain ⟨e1, d, hd, rd⟩ := (turn i hlt).2 x H2 y
        subst e1
        rw [List.getElem?_eq_getElem hlt] at hd
        have hd := Option.some.inj hd
        subst hd
        cases hb : bindTo tg items[i] e' with
        | none => rw [hb] at h; exact h.elim
        | some e1 =>
          rw [hb] at h
          have h : OutP (rcx X ER) B H2 φ' S'.length D ((evB G b e1 S').bind (forL tg (evB G b) (isLive as S1) (items.drop (i + 1)))) := h
          refine gB_run (c := rcx X ER) a'.rel hb a'.env rd fun σ3 v3 _ => ⟨B, φ', e1, S', ⟨a'.base, a'.rel, v3⟩, ?_⟩
          cases ho : evB G b e1 S' with
          | nx e2 S2 =>
            rw [ho] at h
            intro H3 φ3 f3 R3 σ4 v4
            exact ⟨hlt, rfl, φ3, e2, S2, f'.trans f3, ⟨a'.base, R3, v4⟩, OutP.from h f3⟩
          | rt d S2 => rw [ho] at h; exact h
          | exc _ _ _ _ => rw [ho] at h; exact h
          | stuck => rw [ho] at h; exact h.elim
      · have ei : i = items.length := by omega
        subst ei
        rw [List.drop_length] at h
        simp only [forL] at h
        split at h
        case isFalse => exact h.elim
        rename_i hlive
        obtain ⟨_, stop⟩ := hJ ER B H' φ' S' a'.rel f' hvc hlive
        exact .inl ⟨stop, h.nx a'.rel a'.env⟩
  · cases h
theorem sndS (m : MS) : SndS m := by
  induction m using MS.rec (motive_2 := fun ms => ∀ m, m ∈ ms → SndS m) with
  | asg i a => exact t_asg
  | asgT is a => exact t_asgT
  | par i j a b => intro n X G ER st C hp hk h; simp [cpS] at h
  | sub o i a => exact t_sub
  | expr a => exact t_expr
  | ret a => exact t_ret
  | retN => exact t_retN
  | ifs c a b ia ib => exact t_ifs ia ib
  | whl k c b ib => exact t_whl ib
  | fors tg src ses b ib => exact t_fors ib
  | nil => rename_i hm; cases hm
  | cons m ms im ims =>
    rename_i x hx
    rcases List.mem_cons.mp hx with e | hx
    · subst e; exact im
    · exact ims x hx
theorem sndB (ms : List MS) : SndB ms := b_all fun m _ => sndS m
end DP

namespace DP
open PySem PySem.Spec PyProof.Rows L2

section
variable {c : RC} {H : Hp} {φ : Nat → Addr} {n b n0 : Nat}
theorem Ap.less {a : Addr} (h : Ap c φ n a) (hn : n0 ≤ n) : Ap c φ n0 a := ⟨fun i hi => h.1 i (Nat.lt_of_lt_of_le hi hn), h.2⟩
mutual
/-- fewer places -/
theorem DR.less (hn : n0 ≤ n) : ∀ (d : DV) (v : V), DR c H φ n b d v → DR c H φ n0 b d v
  | .non, _, h => h
  | .bl _, _, h => h
  | .int _, _, h => h
  | .str _, _, h => h
  | .loc _, _, h => h
  | .scr _, _, h => by unfold DR at h ⊢; exact h
  | .tup xs, v, h => by
    unfold DR at h ⊢
    obtain ⟨a, vs, e, t, z, r⟩ := h
    exact ⟨a, vs, e, t, z, DRs.less hn xs vs r⟩
  | .lst xs, v, h => by
    unfold DR at h ⊢
    obtain ⟨a, vs, e, t, hp, z, r⟩ := h
    exact ⟨a, vs, e, t, hp.less hn, z, DRs.less hn xs vs r⟩
  | .dic kvs, v, h => by
    unfold DR at h ⊢
    obtain ⟨a, e, hp, z, hs, r⟩ := h
    rcases r with ⟨ks, t, r⟩ | ⟨o, es, ep, xs, t, h1, h2, h3, h4, r⟩
    · exact ⟨a, e, hp.less hn, z, hs, .inl ⟨ks, t, DRk.less hn kvs ks r⟩⟩
    · exact ⟨a, e, hp.less hn, z, hs, .inr ⟨o, es, ep, xs, t, h1, h2, h3, h4, DRx.less hn kvs xs r⟩⟩
theorem DRs.less (hn : n0 ≤ n) : ∀ (ds : List DV) (vs : List V), DRs c H φ n b ds vs → DRs c H φ n0 b ds vs
  | [], _, h => h
  | d :: ds, vs, h => by
    unfold DRs at h ⊢
    obtain ⟨v, r, e, h1, h2⟩ := h
    exact ⟨v, r, e, DR.less hn d v h1, DRs.less hn ds r h2⟩
theorem DRk.less (hn : n0 ≤ n) : ∀ (ds : List (DV × DV)) (vs : List (Key × V)), DRk c H φ n b ds vs → DRk c H φ n0 b ds vs
  | [], _, h => h
  | (k, v) :: ds, vs, h => by
    unfold DRk at h ⊢
    obtain ⟨x, u, q, e, hk, h1, h2⟩ := h
    exact ⟨x, u, q, e, hk, DR.less hn v u h1, DRk.less hn ds q h2⟩
theorem DRx.less (hn : n0 ≤ n) : ∀ (ds : List (DV × DV)) (vs : List (NestedKey × Addr × Value)), DRx c H φ n b ds vs → DRx c H φ n0 b ds vs
  | [], _, h => h
  | (k, v) :: ds, vs, h => by
    unfold DRx at h ⊢
    obtain ⟨nk, a, u, vv, q, e, hk, hd, h0, r, h1, h2⟩ := h
    exact ⟨nk, a, u, vv, q, e, hk, hd, DR.less hn k _ h0, r, DR.less hn v vv h1, DRx.less hn ds q h2⟩
end
mutual
/-- nothing above is within -/
theorem DR.lower : ∀ (d : DV) (v : V), below n0 d = true → DR c H φ n b d v → DR c H φ n n0 d v
  | .non, _, _, h => h
  | .bl _, _, _, h => h
  | .int _, _, _, h => h
  | .str _, _, _, h => h
  | .loc i, v, hb, h => by
    unfold DR at h ⊢
    exact ⟨by simpa [below] using hb, h.2⟩
  | .scr _, _, _, h => by unfold DR at h ⊢; exact h
  | .tup xs, v, hb, h => by
    unfold DR at h ⊢
    obtain ⟨a, vs, e, t, z, r⟩ := h
    exact ⟨a, vs, e, t, z, DRs.lower xs vs (by simpa [below] using hb) r⟩
  | .lst xs, v, hb, h => by
    unfold DR at h ⊢
    obtain ⟨a, vs, e, t, hp, z, r⟩ := h
    exact ⟨a, vs, e, t, hp, z, DRs.lower xs vs (by simpa [below] using hb) r⟩
  | .dic kvs, v, hb, h => by
    unfold DR at h ⊢
    have hb' : belowd n0 kvs = true := by simpa [below] using hb
    obtain ⟨a, e, hp, z, hs, r⟩ := h
    rcases r with ⟨ks, t, r⟩ | ⟨o, es, ep, xs, t, h1, h2, h3, h4, r⟩
    · exact ⟨a, e, hp, z, hs, .inl ⟨ks, t, DRk.lower kvs ks hb' r⟩⟩
    · exact ⟨a, e, hp, z, hs, .inr ⟨o, es, ep, xs, t, h1, h2, h3, h4, DRx.lower kvs xs hb' r⟩⟩
theorem DRs.lower : ∀ (ds : List DV) (vs : List V), belows n0 ds = true → DRs c H φ n b ds vs → DRs c H φ n n0 ds vs
  | [], _, _, h => h
  | d :: ds, vs, hb, h => by
    unfold DRs at h ⊢
    simp only [belows, Bool.and_eq_true] at hb
    obtain ⟨v, r, e, h1, h2⟩ := h
    exact ⟨v, r, e, DR.lower d v hb.1 h1, DRs.lower ds r hb.2 h2⟩
theorem DRk.lower : ∀ (ds : List (DV × DV)) (vs : List (Key × V)), belowd n0 ds = true → DRk c H φ n b ds vs → DRk c H φ n n0 ds vs
  | [], _, _, h => h
  | (k, v) :: ds, vs, hb, h => by
    unfold DRk at h ⊢
    simp only [belowd, Bool.and_eq_true] at hb
    obtain ⟨x, u, q, e, hk, h1, h2⟩ := h
    exact ⟨x, u, q, e, hk, DR.lower v u hb.1.2 h1, DRk.lower ds q hb.2 h2⟩
theorem DRx.lower : ∀ (ds : List (DV × DV)) (vs : List (NestedKey × Addr × Value)), belowd n0 ds = true → DRx c H φ n b ds vs → DRx c H φ n n0 ds vs
  | [], _, _, h => h
  | (k, v) :: ds, vs, hb, h => by
    unfold DRx at h ⊢
    simp only [belowd, Bool.and_eq_true] at hb
    obtain ⟨nk, a, u, vv, q, e, hk, hd, h0, r, h1, h2⟩ := h
    exact ⟨nk, a, u, vv, q, e, hk, hd, DR.lower k _ hb.1.1 h0, r, DR.lower v vv hb.1.2 h1, DRx.lower ds q hb.2 h2⟩
end
mutual
/-- what is held at a level has nothing above it within -/
theorem DR.low : ∀ (d : DV) (v : V), DR c H φ n b d v → below b d = true
  | .non, _, _ => rfl
  | .bl _, _, _ => rfl
  | .int _, _, _ => rfl
  | .str _, _, _ => rfl
  | .scr _, _, _ => rfl
  | .loc i, v, h => by unfold DR at h; simpa [below] using h.1
  | .tup xs, v, h => by
    unfold DR at h
    obtain ⟨a, vs, e, t, z, r⟩ := h
    simp only [below]; exact DRs.low xs vs r
  | .lst xs, v, h => by
    unfold DR at h
    obtain ⟨a, vs, e, t, hp, z, r⟩ := h
    simp only [below]; exact DRs.low xs vs r
  | .dic kvs, v, h => by
    unfold DR at h
    obtain ⟨a, e, hp, z, hs, r⟩ := h
    simp only [below]
    rcases r with ⟨ks, t, r⟩ | ⟨o, es, ep, xs, t, h1, h2, h3, h4, r⟩
    · exact DRk.low kvs ks r
    · exact DRx.low kvs xs r
theorem DRs.low : ∀ (ds : List DV) (vs : List V), DRs c H φ n b ds vs → belows b ds = true
  | [], _, _ => rfl
  | d :: ds, vs, h => by
    unfold DRs at h
    obtain ⟨v, r, e, h1, h2⟩ := h
    simp only [belows, DR.low d v h1, DRs.low ds r h2, Bool.and_self]
theorem DRk.low : ∀ (ds : List (DV × DV)) (vs : List (Key × V)), DRk c H φ n b ds vs → belowd b ds = true
  | [], _, _ => rfl
  | (k, v) :: ds, vs, h => by
    unfold DRk at h
    obtain ⟨x, u, q, e, hk, h1, h2⟩ := h
    have e1 : below b k = true := by rw [hk.1]; rfl
    simp only [belowd, e1, DR.low v u h1, DRk.low ds q h2, Bool.and_self]
theorem DRx.low : ∀ (ds : List (DV × DV)) (vs : List (NestedKey × Addr × Value)), DRx c H φ n b ds vs → belowd b ds = true
  | [], _, _ => rfl
  | (k, v) :: ds, vs, h => by
    unfold DRx at h
    obtain ⟨nk, a, u, vv, q, e, hk, hd, h0, r, h1, h2⟩ := h
    simp only [belowd, DR.low k _ h0, DR.low v vv h1, DRx.low ds q h2, Bool.and_self]
end
theorem MOk.low {mo : MO} {a : Addr} (h : MOk c H φ n mo a) : mo.below n = true := by
  cases mo with
  | lst xs => obtain ⟨vs, e, z, r⟩ := h; exact DRs.low xs vs r
  | dic kvs =>
    obtain ⟨z, hs, r⟩ := h
    rcases r with ⟨ks, t, r⟩ | ⟨o, es, ep, xs, t, h1, h2, h3, h4, r⟩
    · exact DRk.low kvs ks r
    · exact DRx.low kvs xs r
  | ins C fs => exact h.elim
theorem MOk.shrink {mo : MO} {a : Addr} (h : MOk c H φ n mo a) (hn : n0 ≤ n) (hb : mo.below n0 = true) : MOk c H φ n0 mo a := by
  cases mo with
  | lst xs => obtain ⟨vs, e, z, r⟩ := h; exact ⟨vs, e, z, DRs.lower xs vs hb (DRs.less hn xs vs r)⟩
  | dic kvs =>
    obtain ⟨z, hs, r⟩ := h
    refine ⟨z, hs, ?_⟩
    rcases r with ⟨ks, t, r⟩ | ⟨o, es, ep, xs, t, h1, h2, h3, h4, r⟩
    · exact .inl ⟨ks, t, DRk.lower kvs ks hb (DRk.less hn kvs ks r)⟩
    · exact .inr ⟨o, es, ep, xs, t, h1, h2, h3, h4, DRx.lower kvs xs hb (DRx.less hn kvs xs r)⟩
  | ins C fs => exact h.elim
/-- what a def made is dropped -/
theorem Rel.drop {B B' : Nat → Prop} {S : Store} (R : Rel c B' H φ S) (hB : ∀ b, B b → B' b) (h0 : B' n0) (hle : ∀ b, B b → b ≤ n0) : Rel c B H φ (S.take n0) := by
  have hn := R.ble n0 h0
  have hl : (S.take n0).length = n0 := by rw [List.length_take]; omega
  have at_ : ∀ {i mo}, (S.take n0)[i]? = some mo → i < n0 ∧ S[i]? = some mo := fun {i mo} q => by
    have hi := (List.getElem?_eq_some_iff.mp q).1
    rw [hl] at hi
    rw [List.getElem?_take_of_lt hi] at q
    exact ⟨hi, q⟩
  refine ⟨fun i mo q => ?_, fun b hb i mo hi q => R.low b (hB b hb) i mo hi (at_ q).2, fun b hb => by rw [hl]; exact hle b hb, fun i j hi hj e => ?_, R.exh, fun i hi => ?_⟩
  · rw [hl]
    exact (R.at_ i mo (at_ q).2).shrink hn (R.low n0 h0 i mo (at_ q).1 (at_ q).2)
  · rw [hl] at hi hj
    exact R.inj i j (by omega) (by omega) e
  · rw [hl] at hi
    exact R.exp i (by omega)
variable {B : Nat → Prop} {S : Store}
theorem map_dr {g : DV → DV} : ∀ {ds : List DV} {vs : List V}, (∀ d v, DR c H φ n b d v → DR c H φ n0 b (g d) v) → DRs c H φ n b ds vs → DRs c H φ n0 b (ds.map g) vs
  | [], _, _, r => r
  | x :: xs, vs, k, r => by
    unfold DRs at r
    obtain ⟨u, q, e, h1, h2⟩ := r
    exact ⟨u, q, e, k x u h1, map_dr k h2⟩
theorem map_drk {g : DV → DV} : ∀ {ds : List (DV × DV)} {vs : List (Key × V)}, (∀ d v, DR c H φ n b d v → DR c H φ n0 b (g d) v) → DRk c H φ n b ds vs → DRk c H φ n0 b (ds.map fun p => (p.1, g p.2)) vs
  | [], _, _, r => r
  | (x, y) :: xs, vs, k, r => by
    unfold DRk at r
    obtain ⟨z, u, q, e, hk, h1, h2⟩ := r
    exact ⟨z, u, q, e, hk, k y u h1, map_drk k h2⟩
theorem map_drx {g : DV → DV} (hn : n0 ≤ n) : ∀ {ds : List (DV × DV)} {vs : List (NestedKey × Addr × Value)}, (∀ d v, DR c H φ n b d v → DR c H φ n0 b (g d) v) → DRx c H φ n b ds vs → DRx c H φ n0 b (ds.map fun p => (p.1, g p.2)) vs
  | [], _, _, r => r
  | (x, y) :: xs, vs, k, r => by
    unfold DRx at r
    obtain ⟨nk, a, u, vv, q, e, hk, hd, h0, r, h1, h2⟩ := r
    exact ⟨nk, a, u, vv, q, e, hk, hd, DR.less hn _ _ h0, r, k y vv h1, map_drx hn k h2⟩
mutual
/-- read out of the store -/
theorem freeze_dr (R : Rel c B H φ S) (hn : n0 ≤ S.length) : ∀ (f : Nat) (d : DV) (v : V), DR c H φ S.length S.length d v → DR c H φ n0 S.length (freeze n0 S f d) v
  | 0, d, v, h => by
    unfold freeze; exact DR.less hn d v h
  | f + 1, d, v, h => by
    have ihs := freezes_dr R hn f
    have ihk := freezek_dr R hn f
    have ihx := freezex_dr R hn f
    cases d with
    | loc i =>
      unfold freeze
      split
      · exact DR.less hn _ v h
      · rename_i hi
        unfold DR at h
        obtain ⟨hl, e⟩ := h
        subst e
        have ap : Ap c φ n0 (φ i) := ⟨fun j hj e => by have := R.inj j i (by omega) hl e; omega, R.exp i hl⟩
        cases q : S[i]? with
        | none => rw [List.getElem?_eq_getElem hl] at q; cases q
        | some mo =>
          have m := R.at_ i mo q
          cases mo with
          | lst xs =>
            obtain ⟨vs, e, z, r⟩ := m
            have r2 := ihs xs vs r
            unfold DR
            exact ⟨φ i, vs, rfl, e, ap, by rw [DRs.length r2, ← DRs.length r]; exact z, r2⟩
          | dic kvs =>
            obtain ⟨z, hs, r⟩ := m
            rw [DR_dic]
            rcases r with ⟨ks, t, r⟩ | ⟨o, es, ep, xs, t, h1, h2, h3, h4, r⟩
            · have r2 := ihk kvs ks r
              exact ⟨φ i, rfl, ap, by rw [DRk.length r2, ← DRk.length r]; exact z, hs, .inl ⟨ks, t, r2⟩⟩
            · have r2 := ihx kvs xs r
              exact ⟨φ i, rfl, ap, by rw [DRx.length r2, ← DRx.length r]; exact z, hs, .inr ⟨o, es, ep, xs, t, h1, h2, h3, h4, r2⟩⟩
          | ins C fs => exact m.elim
    | tup xs =>
      unfold freeze
      unfold DR at h ⊢
      obtain ⟨a, vs, e, t, z, r⟩ := h
      have r2 := ihs xs vs r
      exact ⟨a, vs, e, t, by rw [DRs.length r2, ← DRs.length r]; exact z, r2⟩
    | _ => unfold freeze; exact DR.less hn _ v h
theorem freezes_dr (R : Rel c B H φ S) (hn : n0 ≤ S.length) : ∀ (f : Nat) (ds : List DV) (vs : List V), DRs c H φ S.length S.length ds vs → DRs c H φ n0 S.length (freezes n0 S f ds) vs
  | 0, ds, vs, r => by unfold freezes; exact DRs.less hn ds vs r
  | f + 1, ds, vs, r => by unfold freezes; exact map_dr (freeze_dr R hn f) r
theorem freezek_dr (R : Rel c B H φ S) (hn : n0 ≤ S.length) : ∀ (f : Nat) (ds : List (DV × DV)) (vs : List (Key × V)), DRk c H φ S.length S.length ds vs → DRk c H φ n0 S.length (freezed n0 S f ds) vs
  | 0, ds, vs, r => by unfold freezed; exact DRk.less hn ds vs r
  | f + 1, ds, vs, r => by unfold freezed; exact map_drk (freeze_dr R hn f) r
theorem freezex_dr (R : Rel c B H φ S) (hn : n0 ≤ S.length) : ∀ (f : Nat) (ds : List (DV × DV)) (vs : List (NestedKey × Addr × Value)), DRx c H φ S.length S.length ds vs → DRx c H φ n0 S.length (freezed n0 S f ds) vs
  | 0, ds, vs, r => by unfold freezed; exact DRx.less hn ds vs r
  | f + 1, ds, vs, r => by unfold freezed; exact map_drx hn (freeze_dr R hn f) r
end
end
/-! ### the body -/
theorem entry_len {n : Nat} {as : List DV} (h : as.length ≤ n) : (entry n as).length = n := by
  unfold entry; rw [List.length_append, List.length_map, List.length_replicate]; omega
theorem entry_env {c : RC} {H : Hp} {φ : Nat → Addr} {m : Nat} {N : List Str} {as : List DV} {vs : List V} (h : DRs c H φ m m as vs) (hl : as.length ≤ N.length) : EnvR c H φ m (entry N.length as) (L2.start N vs) := by
  have e := DRs.length h
  refine ⟨?_, fun i d q => ?_⟩
  · rw [entry_len hl]
    unfold L2.start
    rw [List.length_append, List.length_map, List.length_replicate]
    omega
  · unfold entry at q
    by_cases hi : i < as.length
    · rw [List.getElem?_append_left (by simpa using hi), List.getElem?_map] at q
      cases q1 : as[i]? with
      | none => rw [q1] at q; cases q
      | some d' =>
        rw [q1] at q
        cases q
        obtain ⟨v, h1, h2⟩ := DRs.get h q1
        refine ⟨v, ?_, h2⟩
        unfold L2.start
        rw [List.getElem?_append_left (by simp; omega), List.getElem?_map, h1]
        rfl
    · rw [List.getElem?_append_right (by simpa using hi), List.getElem?_replicate] at q
      split at q <;> cases q
/-- what is wanted of the body -/
def bodyEnds (Q : VK) : Ends := { nx := fun _ H' => Q .non H', rt := Q }
theorem body_of {P : Program} {w : World} {K : PySem.W.Frag} {fs : List Fn} {cs : List DV} {d : Def} {N : List Str} {vs : List V} {H : Hp} {Q : VK} (hN : d.nslots = N.length) (hm : d.mode = .drop ∨ d.mode = .keep) (ha : d.nargs ≤ N.length)
    (h : spD P w K (runDef fs cs d) vs H Q) : vs.length = d.nargs ∧ ∃ ER base, tBd ⟨P, w, K, ER⟩ { fs := fs, cs := cs, base := base } d.body (bodyEnds Q) (L2.start N vs) H := by
  obtain ⟨ER, b, B, φ, S, as, hB, R, r, h⟩ := h
  unfold runDef at h
  split at h
  case isFalse => exact h.elim
  rename_i hl
  have hvl := DRs.length r
  refine ⟨by omega, ER, (if d.mode = .keep then b else S.length), ?_⟩
  have env := entry_env (N := N) r (by omega)
  rw [← hN] at env
  rcases hm with hm | hm
  · have hk : ¬ (d.mode = .keep) := by rw [hm]; decide
    rw [if_neg hk] at h ⊢
    have R' : Rel ⟨P, w, K, ER⟩ (fun b => B b ∨ b = S.length) H φ S := ⟨R.at_, fun b hb i mo hi q => hb.elim (fun hb => R.low b hb i mo hi q) (fun e => by subst e; exact (R.at_ i mo q).low), fun b hb => hb.elim (R.ble b) (fun e => Nat.le_of_eq e), R.inj, R.exh, R.exp⟩
    refine ⟨_, φ, _, S, ⟨fun b hb => hb.elim (R.ble b) (fun e => Nat.le_of_eq e), R', env⟩, ?_⟩
    have fin : ∀ {v : DV} {S1 : Store}, Post ⟨P, w, K, ER⟩ B H φ S.length (finish d.mode S S1 v) (kD ⟨P, w, K, ER⟩ Q) noE → ∀ H' φ', Fut H φ S.length H' φ' S1.length → Rel ⟨P, w, K, ER⟩ (fun b => B b ∨ b = S.length) H' φ' S1 → ∀ x, DR ⟨P, w, K, ER⟩ H' φ' S1.length S1.length v x → Q x H' := by
      intro v S1 h H' φ' f R1 x hx
      rw [hm] at h
      unfold finish at h
      dsimp only at h
      split at h
      case isFalse => exact h.elim
      rename_i hb
      have hn := f.le
      have hl : (S1.take S.length).length = S.length := by rw [List.length_take]; omega
      refine h H' φ' ⟨Nat.le_of_eq hl.symm, f.old, fun i h1 h2 => by rw [hl] at h2; omega, f.keep, f.tups, f.frzs, f.there⟩ (R1.drop (fun b hb => .inl hb) (.inr rfl) R.ble) x ?_
      rw [hl]
      exact DR.lower _ _ hb (freeze_dr R1 hn 6 v x hx)
    cases ho : evB { fs := fs, cs := cs, base := S.length } d.body (entry d.nslots as) S with
    | nx e1 S1 =>
      rw [ho] at h
      exact fun H' φ' f R1 σ' _ => fin h H' φ' f R1 .non rfl
    | rt v S1 =>
      rw [ho] at h
      exact fun H' φ' f R1 x hx => fin h H' φ' f R1 x hx
    | exc c as e1 S1 =>
      rw [ho, hm] at h
      unfold finishX at h
      dsimp only at h
      split at h
      · intro H' φ' f R1
        have hn := f.le
        have hl : (S1.take S.length).length = S.length := by rw [List.length_take]; omega
        exact h H' φ' ⟨Nat.le_of_eq hl.symm, f.old, fun i h1 h2 => by rw [hl] at h2; omega, f.keep, f.tups, f.frzs, f.there⟩ (R1.drop (fun b hb => .inl hb) (.inr rfl) R.ble)
      · exact h.elim
    | stuck => rw [ho] at h; exact h
  · rw [if_pos hm] at h ⊢
    refine ⟨B, φ, _, S, ⟨hB, R, env⟩, ?_⟩
    cases ho : evB { fs := fs, cs := cs, base := b } d.body (entry d.nslots as) S with
    | nx e1 S1 =>
      rw [ho, hm] at h
      exact fun H' φ' f R1 σ' _ => h H' φ' f R1 .non rfl
    | rt v S1 =>
      rw [ho, hm] at h
      exact fun H' φ' f R1 x hx => h H' φ' f R1 x hx
    | exc c as e1 S1 => rw [ho, hm] at h; exact h
    | stuck => rw [ho] at h; exact h
end DP

namespace DP
open PySem PySem.Spec PyProof.Rows L2

/-- a def whose body does t, where nothing is guarded -/
theorem fn_G {P : Program} {w : World} {K : PySem.W.Frag} {mg : Str → Option Value} {base : Heap} {k : Nat} {f : Addr} {name qual : Str} {params : Arguments} {body : List Stmt} {scope : Scope} {dV kV doc pm cdv ct oc : Value} {an od : Option Addr}
    {osl : Array (Option Value)} {N ps : List Str} {sp : List V → Hp → VK → Prop} (lk : K.lookup f = some ⟨oc, od, .func (PySem.W.fnOf name qual params body scope dV kV doc pm an cdv ct), osl⟩) (hcd : PySem.W.codeIn K cdv qual = true) (S : FnScope N ps scope)
    (len : ∀ vs H Q, sp vs H Q → vs.length = ps.length)
    (hbody : ∀ (A : Around) (outer : List PySem.Env) (s : Shared) (H : Hp) (vs : List V) (Q : VK), Room k (A.deeper (envOfC qual scope s.heap.objs.size f cdv)) → A.guards = some [] → sp vs H Q →
      ∃ t, PSs (cxOf (fun _ _ _ _ _ _ => False) P w K mg base N qual scope f cdv A outer s H fun _ _ _ => False) body t ∧ t (bodyEnds Q) (L2.start N vs) H) :
    FnG P w K mg base (k + 1) f (PySem.W.fnOf name qual params body scope dV kV doc pm an cdv ct) ps sp := by
  refine ⟨len, fun A outer s H args us vs Q hr hg e0 hb r hsp => ?_⟩
  have inK : K.In s.heap := e0.mod.kin.keeps fun b o e => (e0.bs b o e).1
  have lim := e0.mod.nolimit.keeps fun b o e => (e0.bs b o e).1
  refine codeAny_call_function hr.depth (inK _ _ lk) rfl S.co S.gen rfl (PySem.W.codeRec_of inK hcd) (hb _ _ _ _ ?_)
  have slots : ∀ y ∈ ps.zip us, scope.names.lookup y.1 = some .local ∨ (scope.names.lookup y.1 = some .cell ∧ ((cellsFrom (s.heap.objs.size + 1) scope.names []).lookup y.1).isSome = true) := fun y hy =>
    (S.par y.1 (List.of_mem_zip (show (y.1, y.2) ∈ ps.zip us from hy)).1).imp_right fun q => ⟨q, PySem.W.cellsFrom_some _ _ _ (.inl q)⟩
  refine wpAny_newFunctionEnv_cells S.kind slots fun env he s1 x => ?_
  subst he
  refine ⟨lim.keeps x.toInCall.keep, codeAny_func ?_⟩
  obtain ⟨t, ht, hq⟩ := hbody A outer s H vs Q (hr.deeper _) hg hsp
  have I := inv_start (CX := fun _ _ _ _ _ _ => False) (mg := mg) (E := fun _ _ _ => False) S hr.hd e0 (len _ _ _ hsp) r x
  refine wpAny_mono (ht.run [] s1 (L2.start N vs) H _ I hq) (fun fl s' hs => ?_) fun e s' hs => ?_
  · cases fl with
    | ret u =>
      obtain ⟨v, σ', H', J, rv, q⟩ := hs
      exact ⟨v, H', J.os, J.bare, J.base, J.hok, rv, q⟩
    | next =>
      obtain ⟨σ', H', J, q⟩ := hs
      exact ⟨V.non, H', J.os, J.bare, J.base, J.hok, rfl, q⟩
    | brk => obtain ⟨_, _, _, q⟩ := hs; exact False.elim q
    | cont => obtain ⟨_, _, _, q⟩ := hs; exact False.elim q
  · exact wpAny_mono hs (fun _ _ z => z.elim) fun _ _ z => z.elim
end DP

namespace DP
open PySem PySem.Spec PyProof.Rows L2

def CalleeK (P : Program) (w : World) (K : PySem.W.Frag) (mg : Str → Option Value) (base : Heap) (k : Nat) (f : Fn) (x : Str) : Prop :=
  ∃ fa fd ps, FnG P w K mg base k fa fd ps (spD P w K f) ∧ mg x = some (.ref fa) ∧ PySem.W.keepIn K (.ref fa) = true ∧ Binds K fd ps []
theorem CalleeK.mono {P : Program} {w : World} {K : PySem.W.Frag} {mg : Str → Option Value} {base : Heap} {k k' : Nat} {f : Fn} {x : Str} (h : CalleeK P w K mg base k f x) (hk : k ≤ k') : CalleeK P w K mg base k' f x :=
  let ⟨fa, fd, ps, h1, h2⟩ := h; ⟨fa, fd, ps, h1.mono hk, h2⟩
section
variable {P : Program} {w : World} {K : PySem.W.Frag} {mg : Str → Option Value} {base : Heap} {k : Nat} {x : Str} {params : Arguments} {body : List Stmt} {scope : Scope} {dd : Def} {ps : List Str} {fs : List Fn} {cs : List DV} {n : Nm} {fa : Addr} {fd : FuncData}
theorem dfl_none (F : FunD K x x params body scope [] [] fa fd) : ∃ (oc : Value) (od : Option Addr) (kV doc pm : Value) (an : Option Addr) (cdv ct : Value) (osl : Array (Option Value)), fd = PySem.W.fnOf x x params body scope .none kV doc pm an cdv ct ∧ K.lookup fa = some ⟨oc, od, .func fd, osl⟩ ∧ PySem.W.codeIn K cdv x = true := by
  obtain ⟨⟨oc, od, dV, kV, doc, pm, an, cdv, ct, osl, e, lk, hcd, hD, hK⟩, kp⟩ := F
  have hdV : dV = .none := by
    rcases hD with ⟨_, e⟩ | ⟨e, _⟩
    · exact e
    · exact absurd rfl e
  subst hdV
  exact ⟨oc, od, kV, doc, pm, an, cdv, ct, osl, e, lk, hcd⟩
theorem bind_F (F : FunD K x x params body scope [] [] fa fd)
    (hbind : ∀ (kV doc pm : Value) (an : Option Addr) (cdv ct : Value) (us : List Value), us.length = ps.length → bindArgs (PySem.W.fnOf x x params body scope .none kV doc pm an cdv ct) ⟨us, []⟩ = pure (ps.zip us)) (s : Shared) (us : List Value) (hu : us.length = ps.length) : BindsTo s fd ⟨us, []⟩ (ps.zip us) := by
  obtain ⟨oc, od, kV, doc, pm, an, cdv, ct, osl, rfl, lk, hcd⟩ := dfl_none F
  exact .of_eq (hbind kV doc pm an cdv ct us hu)
theorem def_F (F : FunD K x x params body scope [] [] fa fd)
    (S : FnScope n.N ps scope) (hn : n.sc = scope) (hfn : n.fn = fun _ => true) (chk : cpB n dd.body body = true) (h1 : dd.nslots = n.N.length) (h2 : dd.nargs = ps.length) (hmode : dd.mode = .drop ∨ dd.mode = .keep)
    (hbs : ∀ f : BF, n.bs.contains f = true → mg f.name = none) (hrg : n.rng = true → mg "range" = none)
    (hcs : ∀ (k : Nat) (d : DV), cs[k]? = some d → ∃ x v u, n.cs[k]? = some x ∧ mg x = some u ∧ RelV v u ∧ ∀ ER H φ m b, DR ⟨P, w, K, ER⟩ H φ m b d v)
    (hfs : ∀ (i : Nat) (x : Str), n.fs[i]? = some x → ∃ f, fs[i]? = some f ∧ CalleeK P w K mg base k f x) : FnG P w K mg base (k + 1) fa fd ps (spD P w K (runDef fs cs dd)) := by
  obtain ⟨oc, od, kV, doc, pm, an, cdv, ct, osl, rfl, lk, hcd⟩ := dfl_none F
  have hpl : ps.length ≤ n.N.length := by have := congrArg List.length S.pre; rw [List.length_take] at this; omega
  refine fn_G lk hcd S (fun vs H Q h => ?_) (fun A outer s H vs Q hr hg h => ?_)
  · rw [(body_of h1 hmode (by omega) h).1, h2]
  · obtain ⟨_, ER, b, h⟩ := body_of h1 hmode (by omega) h
    refine ⟨_, PSs.nox ?_, h⟩
    have C : Cok n { fs := fs, cs := cs, base := b } (cxOf (fun _ _ _ _ _ _ => False) P w K mg base n.N x scope fa cdv A outer s H fun _ _ _ => False).nox :=
      { calm := rfl, N := rfl, nd := S.nd, sc := hn.symm, fn := fun _ _ => rfl
        un := by have := hr.un; show (A.deeper _).units + 96 < cLine; omega
        gd := hg, bs := hbs, rg := hrg, cs := hcs
        fs := fun i y hi => let ⟨f, e, fa', fd', ps', q1, q2, q3, q4⟩ := hfs i y hi; ⟨f, e, fa', fd', ps', k, q1, hr, q2, q3, q4⟩ }
    exact sndB dd.body ER C PassesOwn.never S.kind chk
theorem def_G (F : FunD K x x params body scope [] [] fa fd) (hm : mg x = some (.ref fa))
    (hbind : ∀ (kV doc pm : Value) (an : Option Addr) (cdv ct : Value) (us : List Value), us.length = ps.length → bindArgs (PySem.W.fnOf x x params body scope .none kV doc pm an cdv ct) ⟨us, []⟩ = pure (ps.zip us))
    (S : FnScope n.N ps scope) (hn : n.sc = scope) (hfn : n.fn = fun _ => true) (chk : cpB n dd.body body = true) (h1 : dd.nslots = n.N.length) (h2 : dd.nargs = ps.length) (hmode : dd.mode = .drop ∨ dd.mode = .keep)
    (hbs : ∀ f : BF, n.bs.contains f = true → mg f.name = none) (hrg : n.rng = true → mg "range" = none)
    (hcs : ∀ (k : Nat) (d : DV), cs[k]? = some d → ∃ x v u, n.cs[k]? = some x ∧ mg x = some u ∧ RelV v u ∧ ∀ ER H φ m b, DR ⟨P, w, K, ER⟩ H φ m b d v)
    (hfs : ∀ (i : Nat) (x : Str), n.fs[i]? = some x → ∃ f, fs[i]? = some f ∧ CalleeK P w K mg base k f x) : CalleeK P w K mg base (k + 1) (runDef fs cs dd) x :=
  ⟨fa, fd, ps, def_F F S hn hfn chk h1 h2 hmode hbs hrg hcs hfs, hm, F.kp, fun s us _ hl => by rw [List.append_nil] at hl ⊢; exact bind_F F hbind s us hl⟩
/-- a def of which nothing is asked -/
theorem never_G (F : FunD K x x params body scope [] [] fa fd) (hm : mg x = some (.ref fa))
    (hbind : ∀ (kV doc pm : Value) (an : Option Addr) (cdv ct : Value) (us : List Value), us.length = ps.length → bindArgs (PySem.W.fnOf x x params body scope .none kV doc pm an cdv ct) ⟨us, []⟩ = pure (ps.zip us)) : CalleeK P w K mg base k (fun _ _ _ => .stuck) x := by
  obtain ⟨⟨oc, od, dV, kV, doc, pm, an, cdv, ct, osl, rfl, lk, hcd, hD, hK⟩, kp⟩ := F
  have hdV : dV = .none := by
    rcases hD with ⟨_, e⟩ | ⟨e, _⟩
    · exact e
    · exact absurd rfl e
  subst hdV
  have no : ∀ {vs H Q}, ¬ spD P w K (fun _ _ _ => .stuck) vs H Q := fun {vs H Q} ⟨_, _, _, _, _, _, _, _, _, h⟩ => h
  exact ⟨fa, _, ps, ⟨fun vs H Q h => (no h).elim, fun A outer s H args us vs Q _ _ _ _ _ h => (no h).elim⟩, hm, kp, .all fun us hu => hbind kV doc pm an cdv ct us hu⟩
end
/-- the script as the law's own argument -/
theorem spD_law {P : Program} {w : World} {K : PySem.W.Frag} {f : Fn} {H : Hp} {a : Addr} {ns : List Int} {S' : Store} (hs : ScR K H a ns) (hf : f 0 [.scr ns] [] = .ok (.bl true) S') : spD P w K f [.ref a] H (fun v _ => v = .bl true) := by
  refine ⟨[], 0, fun _ => False, fun _ => 0, [], [.scr ns], fun _ h => h.elim, ⟨fun i mo h => absurd h (by simp), fun _ h => h.elim, fun _ h => h.elim, fun i j h => absurd h (Nat.not_lt_zero i), fun a h => absurd (show a ∈ ([] : List Addr) from h) (by simp), fun i h => absurd h (Nat.not_lt_zero i)⟩, ⟨_, [], rfl, ?_, rfl⟩, ?_⟩
  · unfold DR
    exact ⟨a, rfl, hs⟩
  · rw [hf]
    exact fun H' φ' _ _ v hv => hv
theorem law_G {P : Program} {w : World} {K : PySem.W.Frag} {mg mb : Str → Option Value} {k : Nat} {fa a : Addr} {fd : FuncData} {x : Str} {f : Fn} {s1 : Shared} {vs : List Value} {ns : List Int} {S' : Store}
    (inK : K.In s1.heap) (hns : s1.heap.Ns mainGlobals mg) (hb : s1.heap.Ns builtinsNs mb) (hbb : ∀ x : Str, x ≠ "__name__" → mb x = bootBuiltins x) (lim : s1.heap.NoLimit) (hg : s1.gens = #[])
    (ha : s1.heap.get? a = some { cls := .type "list", data := .seq vs.toArray }) (hi : IntsAre vs ns) (hl : ns.length ≤ sizeLine) (hr : Room k callerA) (hf : f 0 [.scr ns] [] = .ok (.bl true) S')
    (F : ∀ base : Heap, K.In base → base.Ns mainGlobals mg → FnG P w K mg base k fa fd [x] (spD P w K f)) (hbind : ∀ (s : Shared) (u : Value), BindsTo s fd ⟨[u], []⟩ [(x, u)]) :
    codeAny (model P w) callerA (.call (.ref fa) ⟨[.ref a], []⟩) (fun r s' => r = .ok (.ret (.bool true)) ∧ OldK s1.heap s'.heap ∧ s'.os = s1.os ∧ AllBare s'.gens) s1 := by
  have rv := vals_ints hi
  have lv := hi.length
  have go : ∀ H : Hp, (∀ b, H b = none ∨ (b = a ∧ H b = some (.frz { cls := .type "list", data := .seq vs.toArray } (.lst (ns.map V.int))))) → ScR K H a ns → (H a ≠ none → K.lookup a = none) →
      codeAny (model P w) callerA (.call (.ref fa) ⟨[.ref a], []⟩) (fun r s' => r = .ok (.ret (.bool true)) ∧ OldK s1.heap s'.heap ∧ s'.os = s1.os ∧ AllBare s'.gens) s1 := by
    intro H hO hS hk
    have free : ∀ {b : Addr} {o : Obj}, s1.heap.get? b = some o → (∀ es : Array Value, ∀ m, o.data ≠ .seq es m) → H b = none := fun {b o} e hd => by
      rcases hO b with q | ⟨rfl, _⟩
      · exact q
      · rw [ha] at e; cases e; exact absurd rfl (hd _ _)
    have ns_ : ∀ {b : Addr} {m : Str → Option Value}, s1.heap.Ns b m → (hidT s1.heap H).Ns b m := fun {b m} q => by
      obtain ⟨o, es, ep, e, d, r⟩ := q
      exact ⟨o, es, ep, hidT_get e (free e fun es m z => by rw [d] at z; cases z), d, r⟩
    have inB : K.In (hidT s1.heap H) := fun b o e => hidT_get (inK b o e) (by
      rcases hO b with q | ⟨rfl, q⟩
      · exact q
      · rw [hk (by rw [q]; exact fun z => nomatch z)] at e; cases e)
    have hok : HOk P w H s1.heap := fun b u e => by
      rcases hO b with q | ⟨rfl, q⟩
      · rw [q] at e; cases e
      · rw [q] at e; cases e
        exact ⟨ha, by rw [List.length_map]; exact hl, vs, _, rv, ha⟩
    have md : Mod K mg (hidT s1.heap H) := ⟨inB, ns_ hns, ⟨mb, ns_ hb, hbb⟩, by obtain ⟨mc, q1, q2⟩ := lim; exact ⟨mc, ns_ q1, q2⟩⟩
    have e0 : Env0 P w K mg (hidT s1.heap H) callerA [] s1 H :=
      ⟨rfl, md, fun b o e => of_hidT e, Nat.le_of_eq (hidT_size _ _), trivial, fun b hb => (by cases (show b ∈ ([] : List Addr) from hb)), hok, .of_eq hg⟩
    refine codeAny_mono ((F _ inB (ns_ hns)).run callerA [] s1 H ⟨[.ref a], []⟩ [.ref a] [.ref a] _ hr rfl e0 (hbind s1 (.ref a)) (.cons rfl .nil) (spD_law hS hf)) fun r s' h => ?_
    cases r with
    | error e => exact h.elim
    | ok fl =>
      cases fl with
      | ret u =>
        obtain ⟨v, H', os, bare, un, hok', r', q⟩ := h
        cases (show v = V.bl true from q)
        cases (show u = Value.bool true from r')
        refine ⟨rfl, OldK.of_keep fun b o e => ?_, os, bare⟩
        rcases hO b with q | ⟨rfl, q⟩
        · exact un.keep b o e q (by simp [frs]) (by simp)
        · obtain ⟨e1, _⟩ := hok b _ q
          rw [e] at e1; cases e1
          exact (hok' b _ (un.frzs b _ _ q)).1
      | _ => exact h.elim
  cases hk : K.lookup a with
  | some o =>
    have e := inK a o hk
    rw [ha] at e; cases e
    exact go (fun _ => none) (fun _ => .inl rfl) (.inr ⟨_, vs.toArray, _, hk, rfl, rfl, rfl, by rw [List.size_toArray, lv]; exact hl, by simpa using rv⟩) fun z => absurd rfl z
  | none =>
    refine go (fun b => if b = a then some (.frz { cls := .type "list", data := .seq vs.toArray } (.lst (ns.map V.int))) else none) (fun b => ?_) (.inl ⟨_, if_pos rfl⟩) fun _ => hk
    by_cases e : b = a
    · exact .inr ⟨e, if_pos e⟩
    · exact .inl (if_neg e)
/-- the goal behind a head -/
theorem walk_G {l : PySem.W.OpenLaw} {n k : Nat} {q : Program} {loose : List Str} {XP : (Str → Option Value) → Heap → Prop} {YP : World → Heap → Prop} {d : DefRec} {f : Fn} {x : Str}
    (hn : l.most = some n) (hn2 : n ≤ sizeLine) (hdf : d.params.defaults = []) (hr : Room k callerA) (hf : ∀ ns : List Int, ns.length ≤ n → ∃ S', f 0 [.scr ns] [] = .ok (.bl true) S')
    (F : ∀ (w : World) (mg : Str → Option Value) (fa : Addr) (h : Heap), YP w h → h.Ns mainGlobals mg → mg d.name = some (.ref fa) →
      ∃ (K : PySem.W.Frag) (fd : FuncData), K.In h ∧ (∀ (s : Shared) (u : Value), BindsTo s fd ⟨[u], []⟩ [(x, u)]) ∧ ∀ base : Heap, K.In base → base.Ns mainGlobals mg → FnG l.prog w K mg base k fa fd [x] (spD l.prog w K f)) :
    PySem.W.WalkO q loose XP YP l.row.toRowW d [] (fun f vs => PySem.call f vs) :=
  Att.attach_call hn hdf fun w s0 s1 mg mb fa o pm cd doc a vs ns G Y ho hd hcd hmg hobj hints hlen hg => by
    obtain ⟨K, fd, inK, hb, hF⟩ := F w mg fa _ Y G.T.g hmg
    obtain ⟨S', e⟩ := hf ns hlen
    exact law_G inK G.T.g G.T.b G.T.builtins G.T.nolimit hg hobj hints (Nat.le_trans hlen hn2) hr e hF hb
end DP

namespace DP
open PySem
def b_shown : Def := { nargs := 1, nslots := 5, mode := .drop, body := [.asg 1 (.new (.newD)), .asg 2 (.bl true), .whl 1000000 (.var 2) [.asg 2 (.bl false), .fors (.tp [3, 4]) .seq [.idx (.var 0) (.con 0)] [.ifs (.and (.cmp .notin (.var 3) (.var 1)) (.or (.cmp .eq (.idx (.var 4) (.int (0))) (.tup [])) (.cmp .isin (.idx (.var 4) (.int (0))) (.var 1)))) [.sub (.var 1) (.var 3) (.var 4), .asg 2 (.bl true)] []]], .ret (.blt .tuple [.comp (.tup [.var 3, .idx (.var 1) (.var 3)]) (.nm 3) .seq [.blt .sorted [.var 1]] [] [3]])] }
def b_signs_of : Def := { nargs := 2, nslots := 2, mode := .drop, body := [.ret (.bin .add (.bin .add (.lst [.tup [.int (1), .idx (.var 0) (.int (1)), .idx (.var 0) (.int (2))]]) (.var 1)) (.lst [.tup [.int (0)]]))] }
def b_part_of : Def := { nargs := 2, nslots := 2, mode := .drop, body := [.ret (.tup [.idx (.var 0) (.int (1)), .idx (.var 0) (.int (2)), .var 1])] }
def b_outline_of : Def := { nargs := 2, nslots := 14, mode := .drop, body := [.asg 2 (.new (.newD)), .fors (.tp [8, 9]) .seq [.var 0] [.sub (.var 2) (.idx (.var 9) (.int (0))) (.bin .add (.meth .get2 (.var 2) [.idx (.var 9) (.int (0)), .lst []]) (.lst [.tup [.var 8, .var 9]]))], .asg 3 (.new (.lst [.var 1])), .asg 4 (.int (0)), .whl 1000000 (.cmp .lt (.var 4) (.blt .len [.var 3])) [.expr (.meth .extend (.var 3) [.comp (.var 8) (.tp [8, 9]) .seq [.meth .get2 (.var 2) [.idx (.var 3) (.var 4), .lst []]] [] [8, 9]]), .asg 4 (.bin .add (.var 4) (.int (1)))], .asg 5 (.new (.newD)), .asg 6 (.new (.newD)), .fors (.nm 7) .seq [.rev (.var 3)] [.asg 10 (.meth .get2 (.var 2) [.var 7, .lst []]), .asg 11 (.blt .sorted [.comp (.tup [.call 0 [.idx (.idx (.var 10) (.var 13)) (.int (1)), .idx (.var 6) (.idx (.idx (.var 10) (.var 13)) (.int (0)))], .var 13]) (.nm 13) .rng1 [.blt .len [.var 10]] [] [13]]), .sub (.var 5) (.var 7) (.blt .tuple [.comp (.call 1 [.idx (.idx (.var 10) (.var 13)) (.int (1)), .idx (.var 5) (.idx (.idx (.var 10) (.var 13)) (.int (0)))]) (.tp [12, 13]) .seq [.var 11] [] [12, 13]]), .sub (.var 6) (.var 7) (.new (.lst [])), .fors (.tp [12, 13]) .seq [.var 11] [.expr (.meth .extend (.idx (.var 6) (.var 7)) [.var 12])]], .ret (.idx (.var 5) (.var 1))] }
def b_outline : Def := { nargs := 2, nslots := 2, mode := .drop, body := [.ret (.call 0 [.call 1 [.var 0], .var 1])] }
def b__law_feed : Def := { nargs := 1, nslots := 1, mode := .keep, body := [.ret (.new (.lst [.bin .add (.slc (.var 0) [] [.int (63)]) (.bin .mul (.lst [.int (0)]) (.blt .int [.cmp .eq (.var 0) (.lst [])])), .int (0), .int (0)]))] }
def b__law_next : Def := { nargs := 2, nslots := 6, mode := .drop, body := [.ifs (.cmp .gt (.idx (.var 0) (.int (2))) (.int (0))) [.asg 5 (.bin .mod (.idx (.var 0) (.int (2))) (.var 1)), .sub (.var 0) (.int (2)) (.bin .fdiv (.idx (.var 0) (.int (2))) (.var 1)), .ret (.var 5)] [], .asg 2 (.idx (.var 0) (.int (1))), .sub (.var 0) (.int (1)) (.bin .add (.var 2) (.int (1))), .asg 3 (.idx (.idx (.var 0) (.int (0))) (.bin .mod (.var 2) (.blt .len [.idx (.var 0) (.int (0))]))), .ifs (.and (.cmp .ge (.var 3) (.bin .pow (.int (10)) (.int (18)))) (.cmp .lt (.var 2) (.blt .len [.idx (.var 0) (.int (0))]))) [.sub (.var 0) (.int (2)) (.bin .fdiv (.var 3) (.var 1)), .ret (.bin .mod (.var 3) (.var 1))] [], .asg 4 (.bin .mod (.bin .mul (.bin .add (.bin .add (.bin .add (.bin .mod (.var 3) (.int (1000003))) (.bin .mul (.bin .mul (.int (43)) (.var 2)) (.var 2))) (.bin .mul (.int (29)) (.var 2))) (.int (1013))) (.int (51859))) (.int (999907))), .asg 4 (.bin .mod (.bin .add (.bin .add (.bin .mul (.var 4) (.var 4)) (.bin .mul (.int (40763)) (.var 2))) (.int (131))) (.int (2097143))), .ret (.bin .mod (.bin .fdiv (.bin .mod (.bin .mul (.var 4) (.int (48271))) (.int (2147483629))) (.int (5))) (.var 1))] }
def b__law_any_thing : Def := { nargs := 2, nslots := 4, mode := .drop, body := [.asg 2 (.idx (.lst [.tup [], .tup [], .tup [.tup [.int (2)], .int (9)], .idx (.var 1) (.call 0 [.var 0, .blt .len [.var 1]]), .idx (.var 1) (.call 0 [.var 0, .blt .len [.var 1]])]) (.call 0 [.var 0, .int (5)])), .asg 3 (.idx (.lst [.str (Str.ofString "a"), .str (Str.ofString "b"), .str (Str.ofString "ab"), .str (Str.ofString "abc"), .str (Str.ofString "zzzzzzzz")]) (.call 0 [.var 0, .int (5)])), .ret (.tup [.var 2, .var 3, .idx (.lst [.int (0), .int (1), .int (2), .neg (.int (1)), .int (7), .int (999), .neg (.int (999))]) (.call 0 [.var 0, .int (7)])])] }
def b__law_any_book : Def := { nargs := 1, nslots := 8, mode := .drop, body := [.asg 1 (.lst [.tup [.int (0)], .tup [.int (1)], .tup [.int (2)], .tup [.int (0), .int (1)], .tup [.int (1), .int (7)]]), .asg 2 (.new (.newD)), .asg 3 (.new (.newD)), .fors (.nm 4) .rng1 [.bin .add (.int (1)) (.call 0 [.var 0, .int (9)])] [.asg 6 (.tup [.idx (.var 1) (.call 0 [.var 0, .int (5)]), .bin .add (.int (1)) (.call 0 [.var 0, .int (4)])]), .ifs (.cmp .eq (.call 0 [.var 0, .int (7)]) (.int (0))) [.sub (.var 3) (.var 6) (.tup [.tup [.tup [.int (0)], .call 0 [.var 0, .int (6)], .int (0)]])] [], .sub (.var 2) (.var 6) (.tup [])], .asg 5 (.blt .sorted [.var 2]), .fors (.nm 6) .seq [.var 5] [.sub (.var 2) (.var 6) (.call 1 [.var 0, .var 5])], .asg 7 (.blt .tuple [.comp (.tup [.var 6, .idx (.var 2) (.var 6)]) (.nm 6) .seq [.var 5] [.cmp .notin (.var 6) (.var 3)] [6]]), .ret (.tup [.tup [.int (0)], .int (3), .int (5), .int (9), .int (3), .var 7, .blt .tuple [.comp (.tup [.var 6, .idx (.var 3) (.var 6)]) (.nm 6) .seq [.blt .sorted [.var 3]] [] [6]], .tup [], .tup [], .tup []])] }
def b__law_shown : Def := { nargs := 1, nslots := 6, mode := .drop, body := [.asg 1 (.blt .dict [.idx (.var 0) (.int (5))]), .asg 2 (.new (.lst [])), .fors (.nm 3) .seq [.blt .sorted [.var 1]] [.asg 4 (.idx (.idx (.var 1) (.var 3)) (.int (0))), .fors (.nm 5) .rng1 [.blt .len [.var 1]] [.ifs (.cmp .isin (.var 4) (.var 1)) [.asg 4 (.idx (.idx (.var 1) (.var 4)) (.int (0)))] []], .ifs (.cmp .eq (.var 4) (.tup [])) [.expr (.meth .append (.var 2) [.tup [.var 3, .idx (.var 1) (.var 3)]])] []], .ret (.var 2)] }
def b__law_places : Def := { nargs := 1, nslots := 5, mode := .drop, body := [.asg 1 (.new (.lst [.tup [], .tup [.tup [.int (0)], .int (77)], .tup [.tup [.int (3), .int (1)], .int (1)]])), .fors (.tp [2, 3]) .seq [.idx (.var 0) (.int (5))] [.expr (.meth .extend (.var 1) [.lst [.var 2, .idx (.var 3) (.int (0))]])], .ret (.bin .add (.var 1) (.comp (.var 2) (.tp [2, 4]) .seq [.idx (.var 0) (.int (6))] [] [2, 4]))] }
def b__law_outline : Def := { nargs := 2, nslots := 4, mode := .drop, body := [.ret (.blt .tuple [.blt .sorted [.comp (.tup [.idx (.var 3) (.int (1)), .idx (.var 3) (.int (2)), .call 0 [.var 0, .var 2]]) (.tp [2, 3]) .seq [.var 0] [.cmp .eq (.idx (.var 3) (.int (0))) (.var 1)] [2, 3]]])] }
def b__law_by_others : Def := { nargs := 2, nslots := 12, mode := .drop, body := [.asg 2 (.bin .add (.comp (.var 5) (.tp [5, 9]) .seq [.idx (.var 1) (.int (5))] [] [5, 9]) (.comp (.var 5) (.tp [5, 11]) .seq [.idx (.var 1) (.int (6))] [] [5, 11])), .asg 3 (.new (.comp (.tup [.tup [.int (1)], .bin .add (.var 10) (.int (20))]) (.nm 10) .rng1 [.blt .len [.var 2]] [] [10])), .asg 4 (.new (.newD)), .fors (.nm 5) .seq [.var 2] [.sub (.var 4) (.var 5) (.meth .pop1 (.var 3) [.call 0 [.var 0, .blt .len [.var 3]]])], .asg 6 (.new (.newD)), .fors (.tp [5, 9]) .seq [.idx (.var 1) (.int (5))] [.sub (.var 6) (.idx (.var 4) (.var 5)) (.bin .add (.tup [.meth .get2 (.var 4) [.idx (.var 9) (.int (0)), .idx (.var 9) (.int (0))]]) (.slc (.var 9) [.int (1)] []))], .asg 7 (.blt .dict [.comp (.tup [.idx (.var 4) (.var 5), .var 11]) (.tp [5, 11]) .seq [.idx (.var 1) (.int (6))] [] [5, 11]]), .asg 8 (.tup [.blt .tuple [.comp (.tup [.var 5, .idx (.var 6) (.var 5)]) (.nm 5) .seq [.blt .sorted [.var 6]] [] [5]], .blt .tuple [.comp (.tup [.var 5, .idx (.var 7) (.var 5)]) (.nm 5) .seq [.blt .sorted [.var 7]] [] [5]]]), .ret (.tup [.bin .add (.bin .add (.slc (.var 1) [] [.int (5)]) (.var 8)) (.slc (.var 1) [.int (7)] []), .var 4])] }
def b__law_otherwise : Def := { nargs := 2, nslots := 11, mode := .drop, body := [.ifs (.cmp .eq (.idx (.var 1) (.int (5))) (.tup [])) [.ret (.var 1)] [], .asg 2 (.call 0 [.var 0, .blt .len [.idx (.var 1) (.int (5))]]), .asgT [7, 8] (.idx (.idx (.var 1) (.int (5))) (.var 2)), .asg 3 (.call 0 [.var 0, .int (4)]), .asg 4 (.bin .add (.lst [.tup [], .tup [.tup [.int (2)], .int (9)]]) (.comp (.var 9) (.tp [9, 10]) .seq [.idx (.var 1) (.int (5))] [] [9, 10])), .asg 5 (.lst [.bin .add (.bin .add (.slc (.var 8) [] [.int (1)]) (.tup [.str (Str.ofString "b")])) (.slc (.var 8) [.int (2)] []), .bin .add (.slc (.var 8) [] [.int (2)]) (.tup [.int (5)]), .bin .add (.tup [.idx (.var 4) (.call 0 [.var 0, .blt .len [.var 4]])]) (.slc (.var 8) [.int (1)] [])]), .asg 6 (.ite (.cmp .eq (.var 3) (.int (3))) (.tup []) (.tup [.tup [.var 7, .idx (.var 5) (.var 3)]])), .ret (.bin .add (.bin .add (.slc (.var 1) [] [.int (5)]) (.tup [.bin .add (.bin .add (.slc (.idx (.var 1) (.int (5))) [] [.var 2]) (.var 6)) (.slc (.idx (.var 1) (.int (5))) [.bin .add (.var 2) (.int (1))] [])])) (.slc (.var 1) [.int (6)] []))] }
def b__law_right : Def := { nargs := 1, nslots := 3, mode := .drop, body := [.asg 1 (.call 0 [.var 0]), .fors (.nm 2) .seq [.call 1 [.var 0]] [.ifs (.cmp .ne (.blt .repr [.call 2 [.var 0, .var 2]]) (.blt .repr [.call 3 [.var 1, .var 2]])) [.ret (.bl false)] []], .ret (.bl true)] }
def b__law_chain_book : Def := { nargs := 1, nslots := 5, mode := .drop, body := [.asg 1 (.bin .add (.int (10)) (.call 0 [.var 0, .int (14)])), .asg 2 (.bin .add (.comp (.tup [.tup [.int (0)], .bin .add (.var 4) (.int (1))]) (.nm 4) .rng1 [.var 1] [] [4]) (.lst [.idx (.lst [.tup [], .tup [], .tup [], .tup [.tup [.int (2)], .int (9)]]) (.call 0 [.var 0, .int (4)])])), .asg 3 (.blt .tuple [.comp (.tup [.idx (.var 2) (.var 4), .tup [.idx (.var 2) (.bin .add (.var 4) (.int (1))), .str (Str.ofString "a"), .bin .mod (.var 4) (.int (3))]]) (.nm 4) .rng1 [.var 1] [] [4]]), .ret (.tup [.tup [.int (0)], .int (3), .int (5), .int (40), .int (3), .var 3, .tup [], .tup [], .tup [], .tup []])] }
def b__law_all_right : Def := { nargs := 2, nslots := 6, mode := .drop, body := [.asg 2 (.blt .repr [.var 1]), .ifs (.or (.not (.call 0 [.var 1])) (.not (.call 0 [.call 1 [.var 0, .var 1]]))) [.ret (.bl false)] [], .asgT [3, 4] (.call 2 [.var 0, .var 1]), .ifs (.or (.cmp .ne (.blt .repr [.call 3 [.var 3, .tup []]]) (.blt .repr [.call 3 [.var 1, .tup []]])) (.cmp .ne (.blt .repr [.var 1]) (.var 2))) [.ret (.bl false)] [], .ret (.cmp .eq (.comp (.var 5) (.nm 5) .keys [.var 4] [.cmp .ne (.blt .repr [.call 3 [.var 3, .idx (.var 4) (.var 5)]]) (.blt .repr [.call 3 [.var 1, .var 5]])] [5]) (.lst []))] }
def b_law : Def := { nargs := 1, nslots := 3, mode := .drop, body := [.asg 1 (.call 0 [.var 0]), .fors (.nm 2) .rng1 [.int (4)] [.ifs (.not (.call 1 [.var 1, .call 2 [.var 1]])) [.ret (.bl false)] []], .ret (.or (.cmp .gt (.call 3 [.var 1, .int (8)]) (.int (0))) (.call 1 [.var 1, .call 4 [.var 1]]))] }
def F_shown : Fn := runDef [] [.int (5)] b_shown
def F_signs_of : Fn := runDef [] [] b_signs_of
def F_part_of : Fn := runDef [] [] b_part_of
def F_outline_of : Fn := runDef [F_signs_of, F_part_of] [] b_outline_of
def F_outline : Fn := runDef [F_outline_of, F_shown] [] b_outline
def F__law_feed : Fn := runDef [] [] b__law_feed
def F__law_next : Fn := runDef [] [] b__law_next
def F__law_any_thing : Fn := runDef [F__law_next] [] b__law_any_thing
def F__law_any_book : Fn := runDef [F__law_next, F__law_any_thing] [] b__law_any_book
def F__law_shown : Fn := runDef [] [] b__law_shown
def F__law_places : Fn := runDef [] [] b__law_places
def F__law_outline : Nat → Fn
  | 0 => fun _ _ _ => .stuck
  | n + 1 => runDef [F__law_outline n] [] b__law_outline
def F__law_by_others : Fn := runDef [F__law_next] [] b__law_by_others
def F__law_otherwise : Fn := runDef [F__law_next] [] b__law_otherwise
def F__law_right : Fn := runDef [F__law_shown, F__law_places, F_outline, F__law_outline 40] [] b__law_right
def F__law_chain_book : Fn := runDef [F__law_next] [] b__law_chain_book
def F__law_all_right : Fn := runDef [F__law_right, F__law_otherwise, F__law_by_others, F_outline] [] b__law_all_right
def F_law : Fn := runDef [F__law_feed, F__law_all_right, F__law_any_book, F__law_next, F__law_chain_book] [] b_law
end DP

namespace DP
open PySem

theorem peek_lstAt {S : Store} {i : Nat} {xs : List DV} (h : S[i]? = some (.lst xs)) : peek S (.loc i) = .lst xs := by simp only [peek, h]
@[simp] theorem peekI_ (S : Store) (i : Int) : peek S (.int i) = .int i := rfl
@[simp] theorem peek_bl_ (S : Store) (i : Bool) : peek S (.bl i) = .bl i := rfl
@[simp] theorem peek_str_ (S : Store) (i : Str) : peek S (.str i) = .str i := rfl
@[simp] theorem peek_tup_ (S : Store) (i : List DV) : peek S (.tup i) = .tup i := rfl
@[simp] theorem peek_lst_ (S : Store) (i : List DV) : peek S (.lst i) = .lst i := rfl
@[simp] theorem peek_dic_ (S : Store) (i : List (DV × DV)) : peek S (.dic i) = .dic i := rfl
@[simp] theorem peek_scr_ (S : Store) (i : List Int) : peek S (.scr i) = .scr i := rfl
@[simp] theorem peek_non_ (S : Store) : peek S .non = .non := rfl
/-- the feed lies at 0, so many numbers drawn at most -/
def Feed (S : Store) (n : Int) : Prop := ∃ (cells : List Int) (at_ more : Int), S[0]? = some (.lst [.lst (cells.map .int), .int at_, .int more]) ∧ cells ≠ [] ∧ 0 ≤ at_ ∧ at_ ≤ n ∧ 0 ≤ more
/-- the rest of the store stands -/
def Same (S S' : Store) : Prop := S'.length = S.length ∧ ∀ i, 0 < i → S'[i]? = S[i]?
theorem Same.refl (S : Store) : Same S S := ⟨rfl, fun _ _ => rfl⟩
theorem Same.trans {S S1 S2 : Store} (a : Same S S1) (b : Same S1 S2) : Same S S2 := ⟨b.1.trans a.1, fun i h => (b.2 i h).trans (a.2 i h)⟩
theorem Same.set (S : Store) (x : MO) : Same S (S.set 0 x) := ⟨List.length_set, fun i h => by rw [List.getElem?_set_ne (by omega)]⟩
theorem at_mod {cells : List Int} {i : Int} (h : cells ≠ []) (hi : 0 ≤ i) : ∃ c : Int, L2.atI (cells.map DV.int) (i % (cells.length : Int)) = some (.int c) := by
  have hl : 0 < cells.length := List.length_pos_iff.mpr h
  have h1 : 0 ≤ i % (cells.length : Int) := Int.emod_nonneg _ (by omega)
  have h2 : i % (cells.length : Int) < cells.length := Int.emod_lt_of_pos _ (by omega)
  generalize i % (cells.length : Int) = j at h1 h2
  obtain ⟨k, rfl⟩ := Int.eq_ofNat_of_zero_le h1
  refine ⟨cells[k]'(by omega), ?_⟩
  refine L2.atI_nat ?_
  rw [List.getElem?_map, List.getElem?_eq_getElem (by omega)]
  simp
theorem at3_0 (x y z : DV) : L2.atI [x, y, z] 0 = some x := rfl
theorem at3_1 (x y z : DV) : L2.atI [x, y, z] 1 = some y := rfl
theorem at3_2 (x y z : DV) : L2.atI [x, y, z] 2 = some z := rfl
theorem ix3_1 : L2.ixN 3 1 = some 1 := rfl
theorem ix3_2 : L2.ixN 3 2 = some 2 := rfl
theorem set0 {S : Store} {x : MO} (h : 0 < S.length) : (S.set 0 x)[0]? = some x := List.getElem?_set_self h

/-! ### the operations on numbers -/
theorem lt_ii (i j : Int) : cmp .lt (.int i) (.int j) = some (decide (i < j)) := by
  have e : PySem.W.dataLt (.int i) (.int j) = decide (i < j) := by
    unfold PySem.W.dataLt
    simp [PySem.W.keyToks, PyProof.Rows.lexLt, PyProof.Rows.itemLt]
  simp [cmp, DV.flat, DV.alike, DV.depth, DV.ltb, DV.toP, e]
theorem gt_ii (i j : Int) : cmp .gt (.int i) (.int j) = some (decide (j < i)) := by
  have h := lt_ii j i
  simp [cmp, DV.flat, DV.alike, DV.depth] at h ⊢
  exact h
theorem ge_ii (i j : Int) : cmp .ge (.int i) (.int j) = some (decide (j ≤ i)) := by
  have h := lt_ii i j
  simp [cmp, DV.flat, DV.alike, DV.depth] at h ⊢
  rw [h]
  by_cases q : i < j <;> simp [q] <;> omega
theorem eq_ii (i j : Int) : cmp .eq (.int i) (.int j) = some (decide (i = j)) := by
  simp [cmp, deq, DV.flat, DV.depth, DV.toP, PyData.eqv]
  by_cases h : i = j <;> simp [h]
theorem add_ii (i j : Int) : bin .add (.int i) (.int j) = some (.int (i + j)) := rfl
theorem mul_ii {i j : Int} (h : (-(2 ^ 64) < i ∧ i < 2 ^ 64) ∨ (-(2 ^ 64) < j ∧ j < 2 ^ 64)) : bin .mul (.int i) (.int j) = some (.int (i * j)) := by simp only [bin, if_pos h]
theorem mod_ii {i j : Int} (h : 0 < j) : bin .mod (.int i) (.int j) = some (.int (i % j)) := by simp only [bin, if_pos h]
theorem fdiv_ii {i j : Int} (h : 0 < j) (h2 : j < 1073741824) : bin .fdiv (.int i) (.int j) = some (.int (i / j)) := by simp only [bin, if_pos (And.intro h h2)]
theorem pow_10_18 : bin .pow (.int 10) (.int 18) = some (.int (10 ^ 18)) := by decide +kernel
theorem idx_l (xs : List DV) (i : Int) : idx (.lst xs) (.int i) = L2.atI xs i := rfl
theorem idx_t (xs : List DV) (i : Int) : idx (.tup xs) (.int i) = L2.atI xs i := rfl
theorem len_l (xs : List DV) : blt .len [.lst xs] = some (.int xs.length) := rfl
theorem len_t (xs : List DV) : blt .len [.tup xs] = some (.int xs.length) := rfl
theorem sub_l {b n : Nat} {S : Store} {xs : List DV} {i : Int} {j : Nat} {v : DV} (h : S[n]? = some (.lst xs)) (hj : L2.ixN xs.length i = some j) (hf : fits b n v = true) : subSet b (.loc n) (.int i) v S = .ok () (S.set n (.lst (xs.set j v))) := by
  simp only [subSet, h, hj, hf, if_pos]
theorem freeze_pure (n : Nat) (S : Store) : ∀ (f : Nat), (∀ d : DV, d.pure = true → freeze n S f d = d) ∧ (∀ ds : List DV, DV.pures ds = true → freezes n S f ds = ds)
  | 0 => ⟨fun d _ => by unfold freeze; rfl, fun d _ => by unfold freezes; rfl⟩
  | f + 1 => by
    obtain ⟨i1, i2⟩ := freeze_pure n S f
    refine ⟨fun d h => ?_, fun ds h => ?_⟩
    · cases d with
      | loc i => simp [DV.pure] at h
      | tup xs => unfold freeze; rw [i2 xs (by simpa [DV.pure] using h)]
      | _ => unfold freeze; rfl
    · unfold freezes
      induction ds with
      | nil => rfl
      | cons x xs ih =>
        simp only [DV.pures, Bool.and_eq_true] at h
        rw [List.map_cons, i1 x h.1, ih h.2]
theorem fin_pure {S S1 : Store} {v : DV} (h : v.pure = true) : finish .drop S S1 v = .ok v (S1.take S.length) := by
  unfold finish
  dsimp only
  rw [(freeze_pure S.length S1 6).1 v h, if_pos (below_pure _ _ h)]
theorem take_same {S S1 : Store} (h : Same S S1) : S1.take S.length = S1 := by rw [← h.1]; exact List.take_length
theorem fin_same {S S1 : Store} {v : DV} (h : v.pure = true) (s : Same S S1) : finish .drop S S1 v = .ok v S1 := by rw [fin_pure h, take_same s]
theorem next_spec {S : Store} {n m : Int} (b : Nat) (h : Feed S n) (hn : n < 10 ^ 9) (hm : 0 < m) (hm2 : m < 1073741824) :
    ∃ r S', F__law_next b [.loc 0, .int m] S = .ok (.int r) S' ∧ 0 ≤ r ∧ r < m ∧ Feed S' (n + 1) ∧ Same S S' := by
  obtain ⟨cells, a, mo, h0, hc, ha, han, hmo⟩ := h
  have hl : 0 < S.length := (List.getElem?_eq_some_iff.mp h0).1
  have pk := peek_lstAt h0
  unfold F__law_next runDef
  simp only [evB, evS, evE, evEs, entry, List.length_cons, List.length_nil, List.map_cons, List.map_nil, List.cons_append, List.nil_append, List.getElem?_cons_zero, List.getElem?_cons_succ, Option.getD_some, Res.of_some, Res.bind_ok, Res.then_ok, Out.bind_nx, Out.bind_rt, asBl_bl, asBlO_bl, Option.map_some, idx_l, idx_t, len_l, len_t, peekI_, peek_bl_, peek_str_, peek_tup_, peek_lst_, peek_dic_, peek_scr_, peek_non_, lt_ii, gt_ii, ge_ii, eq_ii, add_ii, List.set_cons_zero, List.set_cons_succ, if_true, if_false, Bool.false_eq_true, decide_true, decide_false, List.replicate_succ, List.replicate_zero, Nat.reduceAdd, Nat.reduceSub, reduceCtorEq, reduceIte, b__law_next, pk, at3_0, at3_1, at3_2]
  have md : ∀ z : Int, 0 ≤ z % m ∧ z % m < m := fun z => ⟨Int.emod_nonneg _ (by omega), Int.emod_lt_of_pos _ hm⟩
  by_cases hm0 : 0 < mo
  · simp only [evB, evS, evE, evEs, entry, List.length_cons, List.length_nil, List.map_cons, List.map_nil, List.cons_append, List.nil_append, List.getElem?_cons_zero, List.getElem?_cons_succ, Option.getD_some, Res.of_some, Res.bind_ok, Res.then_ok, Out.bind_nx, Out.bind_rt, asBl_bl, asBlO_bl, Option.map_some, idx_l, idx_t, len_l, len_t, peekI_, peek_bl_, peek_str_, peek_tup_, peek_lst_, peek_dic_, peek_scr_, peek_non_, lt_ii, gt_ii, ge_ii, eq_ii, add_ii, List.set_cons_zero, List.set_cons_succ, if_true, if_false, Bool.false_eq_true, decide_true, decide_false, List.replicate_succ, List.replicate_zero, Nat.reduceAdd, Nat.reduceSub, reduceCtorEq, reduceIte, hm0, mod_ii hm, fdiv_ii hm hm2, pk, at3_0, at3_1, at3_2, sub_l (b := S.length) h0 ix3_2 (v := .int (mo / m)) (by simp [fits, DV.pure])]
    rw [fin_same rfl (Same.set _ _)]
    exact ⟨_, _, rfl, (md _).1, (md _).2, ⟨cells, a, mo / m, set0 hl, hc, ha, by omega, Int.ediv_nonneg hmo (by omega)⟩, Same.set _ _⟩
  · obtain ⟨ce, hce⟩ := at_mod hc ha
    have h1 : (S.set 0 (.lst [.lst (cells.map .int), .int (a + 1), .int mo]))[0]? = some (.lst [.lst (cells.map .int), .int (a + 1), .int mo]) := set0 hl
    have pk1 := peek_lstAt h1
    have hcl : 0 < (cells.length : Int) := by have := List.length_pos_iff.mpr hc; omega
    simp only [evB, evS, evE, evEs, entry, List.length_cons, List.length_nil, List.map_cons, List.map_nil, List.cons_append, List.nil_append, List.getElem?_cons_zero, List.getElem?_cons_succ, Option.getD_some, Res.of_some, Res.bind_ok, Res.then_ok, Out.bind_nx, Out.bind_rt, asBl_bl, asBlO_bl, Option.map_some, idx_l, idx_t, len_l, len_t, peekI_, peek_bl_, peek_str_, peek_tup_, peek_lst_, peek_dic_, peek_scr_, peek_non_, lt_ii, gt_ii, ge_ii, eq_ii, add_ii, List.set_cons_zero, List.set_cons_succ, if_true, if_false, Bool.false_eq_true, decide_true, decide_false, List.replicate_succ, List.replicate_zero, Nat.reduceAdd, Nat.reduceSub, reduceCtorEq, reduceIte, hm0, pk, at3_0, at3_1, at3_2, sub_l (b := S.length) h0 ix3_1 (v := .int (a + 1)) (by simp [fits, DV.pure]), pk1, List.length_map, mod_ii hcl, hce, pow_10_18]
    by_cases hbig : 10 ^ 18 ≤ ce ∧ a < cells.length
    · simp only [evB, evS, evE, evEs, entry, List.length_cons, List.length_nil, List.map_cons, List.map_nil, List.cons_append, List.nil_append, List.getElem?_cons_zero, List.getElem?_cons_succ, Option.getD_some, Res.of_some, Res.bind_ok, Res.then_ok, Out.bind_nx, Out.bind_rt, asBl_bl, asBlO_bl, Option.map_some, idx_l, idx_t, len_l, len_t, peekI_, peek_bl_, peek_str_, peek_tup_, peek_lst_, peek_dic_, peek_scr_, peek_non_, lt_ii, gt_ii, ge_ii, eq_ii, add_ii, List.set_cons_zero, List.set_cons_succ, if_true, if_false, Bool.false_eq_true, decide_true, decide_false, List.replicate_succ, List.replicate_zero, Nat.reduceAdd, Nat.reduceSub, reduceCtorEq, reduceIte, hbig.1, hbig.2, mod_ii hm, fdiv_ii hm hm2, pk1, at3_0, at3_1, at3_2, List.length_map, sub_l (b := S.length) h1 ix3_2 (v := .int (ce / m)) (by simp [fits, DV.pure])]
      rw [List.set_set, fin_same rfl (Same.set _ _)]
      exact ⟨_, _, rfl, (md _).1, (md _).2, ⟨cells, a + 1, ce / m, set0 hl, hc, by omega, by omega, Int.ediv_nonneg (by omega) (by omega)⟩, Same.set _ _⟩
    · have hb : ∀ T : Store, (if decide (10 ^ 18 ≤ ce) = true then Res.ok (DV.bl (decide (a < (cells.length : Int)))) T else Res.ok (DV.bl false) T) = Res.ok (DV.bl false) T := by
        intro T
        by_cases q : 10 ^ 18 ≤ ce
        · have q2 : ¬ a < (cells.length : Int) := fun q2 => hbig ⟨q, q2⟩
          simp [q, q2]
        · simp only [decide_eq_true_eq, if_neg q]
      rw [hb]
      have b1 : ∀ z w : Int, 0 ≤ w → w < 10 ^ 9 → z = 43 * w → -(2 ^ 64) < z ∧ z < 2 ^ 64 := fun z w h1 h2 h3 => by omega
      have an : a < 10 ^ 9 := by omega
      generalize hfz : (ce % 1000003 + 43 * a * a + 29 * a + 1013) * 51859 % 999907 = f
      have hf : 0 ≤ f ∧ f < 999907 := by
        rw [← hfz]
        exact ⟨Int.emod_nonneg _ (by omega), Int.emod_lt_of_pos _ (by omega)⟩
      simp only [evB, evS, evE, evEs, entry, List.length_cons, List.length_nil, List.map_cons, List.map_nil, List.cons_append, List.nil_append, List.getElem?_cons_zero, List.getElem?_cons_succ, Option.getD_some, Res.of_some, Res.bind_ok, Res.then_ok, Out.bind_nx, Out.bind_rt, asBl_bl, asBlO_bl, Option.map_some, idx_l, idx_t, len_l, len_t, peekI_, peek_bl_, peek_str_, peek_tup_, peek_lst_, peek_dic_, peek_scr_, peek_non_, lt_ii, gt_ii, ge_ii, eq_ii, add_ii, List.set_cons_zero, List.set_cons_succ, if_true, if_false, Bool.false_eq_true, decide_true, decide_false, List.replicate_succ, List.replicate_zero, Nat.reduceAdd, Nat.reduceSub, reduceCtorEq, reduceIte, mod_ii (show (0 : Int) < 1000003 by omega), mul_ii (i := 43) (j := a) (.inl (by omega)), mul_ii (i := 43 * a) (j := a) (.inl (by omega)), mul_ii (i := 29) (j := a) (.inl (by omega)), mul_ii (i := ce % 1000003 + 43 * a * a + 29 * a + 1013) (j := 51859) (.inr (by omega)), mod_ii (show (0 : Int) < 999907 by omega), hfz,
        mul_ii (i := f) (j := f) (.inl (by omega)), mul_ii (i := 40763) (j := a) (.inl (by omega)), mod_ii (show (0 : Int) < 2097143 by omega), mul_ii (i := (f * f + 40763 * a + 131) % 2097143) (j := 48271) (.inr (by omega)), mod_ii (show (0 : Int) < 2147483629 by omega), fdiv_ii (i := (f * f + 40763 * a + 131) % 2097143 * 48271 % 2147483629) (show (0 : Int) < 5 by omega) (by omega), mod_ii hm]
      rw [fin_same rfl (Same.set _ _)]
      exact ⟨_, _, rfl, (md _).1, (md _).2, ⟨cells, a + 1, mo, h1, hc, by omega, by omega, hmo⟩, Same.set _ _⟩
end DP

namespace DP
open PySem
/-! ### trees, the two ways to write them, their one order -/
abbrev Tk := Int ⊕ List Nat
abbrev lx (a b : List Tk) : Bool := PyProof.Rows.lexLt PyProof.Rows.itemOrd a b
inductive Tr where
  | node (n : Str) (v : Int) (cs : List Tr)
mutual
/-- as a nested tuple -/
def Tr.it : Tr → DV
  | .node n v cs => .tup [.str n, .int v, .tup (Tr.its cs)]
def Tr.its : List Tr → List DV
  | [] => []
  | c :: cs => Tr.it c :: Tr.its cs
end
mutual
/-- as a row of signs -/
def Tr.sg : Tr → List DV
  | .node n v cs => .tup [.int 1, .str n, .int v] :: (Tr.sgs cs ++ [.tup [.int 0]])
def Tr.sgs : List Tr → List DV
  | [] => []
  | c :: cs => Tr.sg c ++ Tr.sgs cs
end
def cmpK (a b : Tk) : Ordering := if a = b then .eq else if PyProof.Rows.itemLt a b then .lt else .gt
mutual
def Tr.cmp : Tr → Tr → Ordering
  | .node n v cs, .node m u ds => match cmpK (.inr n.cps.toList) (.inr m.cps.toList) with
    | .eq => (match cmpK (.inl v) (.inl u) with
      | .eq => Tr.cmps cs ds
      | o => o)
    | o => o
def Tr.cmps : List Tr → List Tr → Ordering
  | [], [] => .eq
  | [], _ :: _ => .lt
  | _ :: _, [] => .gt
  | a :: as, b :: bs => match Tr.cmp a b with
    | .eq => Tr.cmps as bs
    | o => o
end
/-- o decides, then the rest -/
def byO (o : Ordering) (r : Bool) : Bool := match o with
  | .lt => true
  | .eq => r
  | .gt => false
theorem lx_cons (p q : Tk) (l m : List Tk) : lx (p :: l) (q :: m) = byO (cmpK p q) (lx l m) := by
  unfold cmpK
  by_cases h : p = q
  · subst h
    rw [if_pos rfl]
    exact PyProof.Rows.lex_self (O := PyProof.Rows.itemOrd) p l m
  · rw [if_neg h]
    have e : lx (p :: l) (q :: m) = PyProof.Rows.itemLt p q := PyProof.Rows.lex_diff (O := PyProof.Rows.itemOrd) h
    rw [e]
    cases PyProof.Rows.itemLt p q <;> rfl
theorem cmpK_self (p : Tk) : cmpK p p = .eq := if_pos rfl
theorem cmpK_01 : cmpK (.inl 0) (.inl 1) = .lt := by decide
theorem cmpK_10 : cmpK (.inl 1) (.inl 0) = .gt := by decide
theorem cmpK_eq {a b : Tk} (h : cmpK a b = .eq) : a = b := by
  unfold cmpK at h
  split at h
  · assumption
  · split at h <;> cases h
open PySem.W in
theorem tk_all (xs : List DV) (l : List Tk) : keyToksAll (DV.toPs xs) ++ l = keyToksAll (DV.toPs xs) ++ l := rfl
mutual
theorem it_lex : ∀ (a b : Tr) (x y : List Tk), lx (PySem.W.keyToks a.it.toP ++ x) (PySem.W.keyToks b.it.toP ++ y) = byO (Tr.cmp a b) (lx x y)
  | .node n v cs, .node m u ds, x, y => by
    have ih := its_lex cs ds
    simp only [Tr.it, DV.toP, DV.toPs, PySem.W.keyToks, PySem.W.keyToksAll, List.cons_append, List.nil_append, List.append_assoc, lx_cons, cmpK_self, byO, Tr.cmp]
    cases cmpK (.inr n.cps.toList) (.inr m.cps.toList) <;> simp only [byO]
    cases cmpK (.inl v) (.inl u) <;> simp only [byO]
    rw [ih]
    simp only [lx_cons, cmpK_self, byO]
theorem its_lex : ∀ (a b : List Tr) (x y : List Tk), lx (PySem.W.keyToksAll (DV.toPs (Tr.its a)) ++ x) (PySem.W.keyToksAll (DV.toPs (Tr.its b)) ++ y) = byO (Tr.cmps a b) (lx x y)
  | [], [], x, y => by simp only [Tr.its, DV.toPs, PySem.W.keyToksAll, List.cons_append, List.nil_append, lx_cons, cmpK_self, byO, Tr.cmps]
  | [], _ :: _, x, y => by simp only [Tr.its, DV.toPs, PySem.W.keyToksAll, List.cons_append, List.nil_append, lx_cons, cmpK_01, byO, Tr.cmps]
  | _ :: _, [], x, y => by simp only [Tr.its, DV.toPs, PySem.W.keyToksAll, List.cons_append, List.nil_append, lx_cons, cmpK_10, byO, Tr.cmps]
  | a :: as, b :: bs, x, y => by
    simp only [Tr.its, DV.toPs, PySem.W.keyToksAll, List.cons_append, List.append_assoc, lx_cons, cmpK_self, byO, Tr.cmps]
    rw [it_lex a b, its_lex as bs]
    cases Tr.cmp a b <;> rfl
end
theorem toPs_append : ∀ xs ys : List DV, DV.toPs (xs ++ ys) = DV.toPs xs ++ DV.toPs ys
  | [], ys => rfl
  | x :: xs, ys => by rw [List.cons_append, DV.toPs, DV.toPs, toPs_append xs ys, List.cons_append]
theorem tks_append : ∀ (xs ys : List PyData) (l : List Tk), PySem.W.keyToksAll (xs ++ ys) ++ l = (xs.flatMap fun x => .inl 1 :: PySem.W.keyToks x) ++ (PySem.W.keyToksAll ys ++ l)
  | [], ys, l => rfl
  | x :: xs, ys, l => by
    rw [List.cons_append, PySem.W.keyToksAll, List.flatMap_cons]
    simp only [List.cons_append, List.append_assoc]
    rw [tks_append xs ys l]
/-- signs without an end -/
def sgT (ds : List DV) : List Tk := (DV.toPs ds).flatMap fun x => .inl 1 :: PySem.W.keyToks x
theorem sgT_append (a b : List DV) : sgT (a ++ b) = sgT a ++ sgT b := by unfold sgT; rw [toPs_append, List.flatMap_append]
theorem sgT_node (n : Str) (v : Int) (cs : List Tr) : sgT (Tr.sg (.node n v cs)) = [.inl 1, .inl 1, .inl 1, .inl 1, .inr n.cps.toList, .inl 1, .inl v, .inl 0] ++ (sgT (Tr.sgs cs) ++ [.inl 1, .inl 1, .inl 0, .inl 0]) := by
  rw [Tr.sg, ← List.singleton_append, sgT_append, sgT_append]
  rfl
mutual
theorem sg_lex : ∀ (a b : Tr) (x y : List Tk), lx (sgT a.sg ++ x) (sgT b.sg ++ y) = byO (Tr.cmp a b) (lx x y)
  | .node n v cs, .node m u ds, x, y => by
    rw [sgT_node, sgT_node]
    simp only [List.cons_append, List.nil_append, List.append_assoc, lx_cons, cmpK_self, byO, Tr.cmp]
    cases cmpK (.inr n.cps.toList) (.inr m.cps.toList) <;> simp only [byO]
    cases cmpK (.inl v) (.inl u) <;> simp only [byO]
    exact sgs_lex cs ds x y
theorem sgs_lex : ∀ (a b : List Tr) (x y : List Tk), lx (sgT (Tr.sgs a) ++ .inl 1 :: .inl 1 :: .inl 0 :: .inl 0 :: x) (sgT (Tr.sgs b) ++ .inl 1 :: .inl 1 :: .inl 0 :: .inl 0 :: y) = byO (Tr.cmps a b) (lx x y)
  | [], [], x, y => by simp only [Tr.sgs, sgT, DV.toPs, List.flatMap_nil, List.nil_append, lx_cons, cmpK_self, byO, Tr.cmps]
  | [], .node n v cs :: bs, x, y => by
    rw [Tr.sgs, Tr.sgs, sgT_append, sgT_node]
    simp only [sgT, DV.toPs, List.flatMap_nil, List.nil_append, List.cons_append, List.append_assoc, lx_cons, cmpK_self, cmpK_01, byO, Tr.cmps]
  | .node n v cs :: as, [], x, y => by
    rw [Tr.sgs, Tr.sgs, sgT_append, sgT_node]
    simp only [sgT, DV.toPs, List.flatMap_nil, List.nil_append, List.cons_append, List.append_assoc, lx_cons, cmpK_self, cmpK_10, byO, Tr.cmps]
  | a :: as, b :: bs, x, y => by
    rw [Tr.sgs, Tr.sgs, sgT_append, sgT_append, List.append_assoc, List.append_assoc, sg_lex a b, sgs_lex as bs]
    simp only [Tr.cmps]
    cases Tr.cmp a b <;> rfl
end
/-- the two orders are one -/
theorem it_lt (a b : Tr) : DV.ltb a.it b.it = byO (Tr.cmp a b) false := by
  have h := it_lex a b [] []
  rw [List.append_nil, List.append_nil] at h
  exact h
theorem sgp_lt (a b : Tr) (j k : Int) : DV.ltb (.tup [.lst a.sg, .int j]) (.tup [.lst b.sg, .int k]) = byO (Tr.cmp a b) (decide (j < k)) := by
  have h := sg_lex a b (PySem.W.keyToksAll [] ++ .inl 1 :: .inl j :: .inl 0 :: []) (PySem.W.keyToksAll [] ++ .inl 1 :: .inl k :: .inl 0 :: [])
  have e : ∀ (t : Tr) (i : Int), PySem.W.keyToks (DV.toP (.tup [.lst t.sg, .int i])) = .inl 1 :: (sgT t.sg ++ (PySem.W.keyToksAll [] ++ .inl 1 :: .inl i :: .inl 0 :: [])) := by
    intro t i
    simp only [DV.toP, DV.toPs, PySem.W.keyToks, PySem.W.keyToksAll]
    have q := tks_append (DV.toPs t.sg) [] (.inl 1 :: ([.inl i] ++ [.inl 0]))
    rw [List.append_nil] at q
    rw [q]
    rfl
  show PySem.W.dataLt _ _ = _
  unfold PySem.W.dataLt
  rw [e, e]
  have l1 := lx_cons (.inl 1) (.inl 1) (sgT a.sg ++ (PySem.W.keyToksAll [] ++ .inl 1 :: .inl j :: .inl 0 :: [])) (sgT b.sg ++ (PySem.W.keyToksAll [] ++ .inl 1 :: .inl k :: .inl 0 :: []))
  rw [cmpK_self] at l1
  refine l1.trans (h.trans ?_)
  have l2 : lx (PySem.W.keyToksAll [] ++ .inl 1 :: .inl j :: .inl 0 :: []) (PySem.W.keyToksAll [] ++ .inl 1 :: .inl k :: .inl 0 :: []) = decide (j < k) := by
    simp only [PySem.W.keyToksAll, List.cons_append, List.nil_append, lx_cons, cmpK_self, byO]
    unfold cmpK
    by_cases q : j = k
    · subst q; simp [lx, PyProof.Rows.lexLt]
    · have q2 : ¬ ((Sum.inl j : Tk) = .inl k) := fun z => q (Sum.inl.inj z)
      rw [if_neg q2]
      show (match (if decide (j < k) = true then Ordering.lt else Ordering.gt) with | .lt => true | .eq => _ | .gt => false) = _
      by_cases r : j < k <;> simp [r]
  rw [l2]
mutual
theorem cmp_eq : ∀ a b : Tr, Tr.cmp a b = .eq → a = b
  | .node n v cs, .node m u ds, h => by
    simp only [Tr.cmp] at h
    split at h
    · rename_i e1
      split at h
      · rename_i e2
        have h1 := cmpK_eq e1
        have h2 := cmpK_eq e2
        have h3 := cmps_eq cs ds h
        have h1 := PySem.W.str_of_cps (Sum.inr.inj h1)
        have h2 := Sum.inl.inj h2
        subst h1 h2 h3
        rfl
      · rename_i e; exact absurd h e
    · rename_i e; exact absurd h e
theorem cmps_eq : ∀ a b : List Tr, Tr.cmps a b = .eq → a = b
  | [], [], _ => rfl
  | [], _ :: _, h => by simp [Tr.cmps] at h
  | _ :: _, [], h => by simp [Tr.cmps] at h
  | a :: as, b :: bs, h => by
    simp only [Tr.cmps] at h
    split at h
    · rename_i e; rw [cmp_eq a b e, cmps_eq as bs h]
    · rename_i e; exact absurd h e
end
end DP

namespace DP
open PySem
theorem leb_total : PySem.W.TotalLe DV.leb := PySem.W.sortLe_total (PyProof.Rows.listOrd PyProof.Rows.itemOrd) false fun d : DV => PySem.W.keyToks d.toP
theorem leb_sorted (xs : List DV) : (xs.mergeSort DV.leb).Pairwise fun a b => DV.leb a b = true :=
  List.pairwise_mergeSort (fun a b c h1 h2 => leb_total.trans a b c h1 h2) (fun a b => by rcases leb_total.total a b with h | h <;> simp [h]) xs
theorem leb_anti {a b : Tr} (h1 : DV.leb a.it b.it = true) (h2 : DV.leb b.it a.it = true) : a = b := by
  unfold DV.leb at h1 h2
  simp only [Bool.not_eq_true'] at h1 h2
  have e : PySem.W.keyToks a.it.toP = PySem.W.keyToks b.it.toP := (PyProof.Rows.listOrd PyProof.Rows.itemOrd).total _ _ h2 h1
  have q := it_lex a b [] [.inl 0]
  rw [e, List.append_nil] at q
  have q2 : lx (PySem.W.keyToks b.it.toP) (PySem.W.keyToks b.it.toP ++ [.inl 0]) = true := by
    have := PySem.W.lex_pre (PySem.W.keyToks b.it.toP) [] [.inl 0]
    rw [List.append_nil] at this
    exact this.trans rfl
  rw [q2] at q
  rw [it_lt] at h2
  cases hc : Tr.cmp a b with
  | eq => exact cmp_eq a b hc
  | lt => rw [hc] at h2; cases h2
  | gt => rw [hc] at q; cases q
/-- in the order of the signs and the places is in the order of the items -/
theorem pair_le {a b : Tr} {j k : Int} (h : DV.leb (.tup [.lst a.sg, .int j]) (.tup [.lst b.sg, .int k]) = true) : DV.leb a.it b.it = true := by
  unfold DV.leb at h ⊢
  rw [sgp_lt] at h
  rw [it_lt]
  cases hc : Tr.cmp b a <;> rw [hc] at h <;> first | rfl | cases h
/-- sorted by signs and places, then the items: the sorted items -/
theorem sort_signs (ts : List (Tr × Nat)) : (((ts.map fun p => DV.tup [.lst p.1.sg, .int p.2]).mergeSort DV.leb) = (ts.mergeSort fun p q => DV.leb (.tup [.lst p.1.sg, .int p.2]) (.tup [.lst q.1.sg, .int q.2])).map fun p => DV.tup [.lst p.1.sg, .int p.2]) ∧
    ((ts.mergeSort fun p q => DV.leb (.tup [.lst p.1.sg, .int p.2]) (.tup [.lst q.1.sg, .int q.2])).map fun p => p.1.it) = (ts.map fun p => p.1.it).mergeSort DV.leb := by
  refine ⟨(List.map_mergeSort (f := fun p : Tr × Nat => DV.tup [.lst p.1.sg, .int p.2]) (s := DV.leb) fun a _ b _ => rfl).symm, ?_⟩
  have p1 : ((ts.mergeSort fun p q => DV.leb (.tup [.lst p.1.sg, .int p.2]) (.tup [.lst q.1.sg, .int q.2])).map fun p => p.1.it).Perm ((ts.map fun p => p.1.it).mergeSort DV.leb) :=
    ((List.mergeSort_perm ts _).map _).trans (List.mergeSort_perm _ _).symm
  refine List.Perm.eq_of_pairwise (le := fun a b => DV.leb a b = true) ?_ ?_ (leb_sorted _) p1
  · intro a b ha hb h1 h2
    obtain ⟨p, _, rfl⟩ := List.mem_map.mp ha
    have hb' := (List.mergeSort_perm _ _).mem_iff.mp hb
    obtain ⟨q, _, rfl⟩ := List.mem_map.mp hb'
    rw [leb_anti h1 h2]
  · rw [List.pairwise_map]
    have s := List.pairwise_mergeSort (le := fun p q : Tr × Nat => DV.leb (.tup [.lst p.1.sg, .int p.2]) (.tup [.lst q.1.sg, .int q.2])) (fun a b c h1 h2 => leb_total.trans _ _ _ h1 h2) (fun a b => by rcases leb_total.total (.tup [.lst a.1.sg, .int a.2]) (.tup [.lst b.1.sg, .int b.2]) with h | h <;> simp [h]) ts
    exact s.imp fun h => pair_le h
/-! ### what sorting asks -/
mutual
theorem it_flat : ∀ t : Tr, t.it.flat = true
  | .node n v cs => by simp [Tr.it, DV.flat, DV.flats, its_flat cs]
theorem its_flat : ∀ ts : List Tr, DV.flats (Tr.its ts) = true
  | [] => rfl
  | t :: ts => by simp [Tr.its, DV.flats, it_flat t, its_flat ts]
end
mutual
theorem it_alike : ∀ a b : Tr, DV.alike a.it b.it = true
  | .node n v cs, .node m u ds => by simp [Tr.it, DV.alike, DV.alikes, its_alike cs ds]
theorem its_alike : ∀ a b : List Tr, DV.alikes (Tr.its a) (Tr.its b) = true
  | [], _ => by simp [Tr.its, DV.alikes]
  | _ :: _, [] => by simp [Tr.its, DV.alikes]
  | a :: as, b :: bs => by simp [Tr.its, DV.alikes, it_alike a b, its_alike as bs]
end
mutual
def Tr.dep : Tr → Nat
  | .node _ _ cs => Tr.deps cs + 1
def Tr.deps : List Tr → Nat
  | [] => 0
  | t :: ts => max (Tr.dep t) (Tr.deps ts)
end
mutual
theorem it_depth : ∀ t : Tr, t.it.depth ≤ 2 * t.dep
  | .node n v cs => by
    have := its_depth cs
    simp only [Tr.it, DV.depth, DV.depths, Tr.dep]
    omega
theorem its_depth : ∀ ts : List Tr, DV.depths (Tr.its ts) ≤ 2 * Tr.deps ts
  | [] => by simp [Tr.its, DV.depths, Tr.deps]
  | t :: ts => by
    have h1 := it_depth t
    have h2 := its_depth ts
    simp only [Tr.its, DV.depths, Tr.deps]
    omega
end
theorem its_map : ∀ ts : List Tr, Tr.its ts = ts.map Tr.it
  | [] => rfl
  | t :: ts => by rw [Tr.its, its_map ts]; rfl
theorem all_alike {xs : List DV} (h : ∀ a ∈ xs, ∀ b ∈ xs, DV.alike a b = true) : DV.allAlike xs = true := by
  unfold DV.allAlike
  rw [List.all_eq_true]
  intro a ha
  rw [List.all_eq_true]
  exact h a ha
theorem sorted_of {xs : List DV} (h1 : ∀ a ∈ xs, ∀ b ∈ xs, DV.alike a b = true) (h2 : ∀ a ∈ xs, DV.isTup1 a = true) (h3 : DV.flats xs = true) (h4 : DV.depths xs ≤ 64) : sorted xs = some (.lst (xs.mergeSort DV.leb)) := by
  unfold sorted
  have e : DV.sortable xs = true := by
    unfold DV.sortable
    rw [List.all_eq_true.mpr h2]; rfl
  rw [all_alike h1, e, h3, decide_eq_true h4]
  rfl
theorem sorted_items {ts : List Tr} (h : Tr.deps ts ≤ 32) : sorted (ts.map Tr.it) = some (.lst ((ts.map Tr.it).mergeSort DV.leb)) := by
  refine sorted_of (fun a ha b hb => ?_) (fun a ha => ?_) ?_ ?_
  · obtain ⟨x, _, rfl⟩ := List.mem_map.mp ha
    obtain ⟨y, _, rfl⟩ := List.mem_map.mp hb
    exact it_alike x y
  · obtain ⟨x, _, rfl⟩ := List.mem_map.mp ha
    cases x; rfl
  · rw [← its_map]; exact its_flat ts
  · rw [← its_map]; have := its_depth ts; omega
/-- a sign -/
def isSg : DV → Bool
  | .tup [.int _] => true
  | .tup [.int _, .str _, .int _] => true
  | _ => false
mutual
theorem sg_is : ∀ t : Tr, ∀ d ∈ t.sg, isSg d = true
  | .node n v cs, d, h => by
    rw [Tr.sg] at h
    rcases List.mem_cons.mp h with e | h
    · subst e; rfl
    · rcases List.mem_append.mp h with h | h
      · exact sgs_is cs d h
      · rw [List.mem_singleton.mp h]; rfl
theorem sgs_is : ∀ ts : List Tr, ∀ d ∈ Tr.sgs ts, isSg d = true
  | [], d, h => by simp [Tr.sgs] at h
  | t :: ts, d, h => by
    rw [Tr.sgs] at h
    rcases List.mem_append.mp h with h | h
    · exact sg_is t d h
    · exact sgs_is ts d h
end
theorem isSg_facts {d e : DV} (h : isSg d = true) (h2 : isSg e = true) : DV.alike d e = true ∧ d.flat = true ∧ d.depth ≤ 1 := by
  unfold isSg at h h2
  split at h <;> split at h2 <;> first | (cases h; done) | (cases h2; done) | (simp [DV.alike, DV.alikes, DV.flat, DV.flats, DV.depth, DV.depths])
theorem sg_alikes : ∀ {xs ys : List DV}, (∀ d ∈ xs, isSg d = true) → (∀ d ∈ ys, isSg d = true) → DV.alikes xs ys = true
  | [], _, _, _ => by simp [DV.alikes]
  | _ :: _, [], _, _ => by simp [DV.alikes]
  | a :: as, b :: bs, h1, h2 => by
    simp only [DV.alikes, Bool.and_eq_true]
    exact ⟨(isSg_facts (h1 a List.mem_cons_self) (h2 b List.mem_cons_self)).1, sg_alikes (fun d hd => h1 d (List.mem_cons_of_mem _ hd)) fun d hd => h2 d (List.mem_cons_of_mem _ hd)⟩
theorem sg_flats : ∀ {xs : List DV}, (∀ d ∈ xs, isSg d = true) → DV.flats xs = true ∧ DV.depths xs ≤ 1
  | [], _ => by simp [DV.flats, DV.depths]
  | a :: as, h1 => by
    have q := isSg_facts (h1 a List.mem_cons_self) (h1 a List.mem_cons_self)
    have r := sg_flats fun d hd => h1 d (List.mem_cons_of_mem _ hd)
    simp only [DV.flats, DV.depths, q.2.1, r.1, Bool.and_self]
    exact ⟨trivial, by omega⟩
theorem flats_of : ∀ {xs : List DV}, (∀ d ∈ xs, d.flat = true) → DV.flats xs = true
  | [], _ => rfl
  | a :: as, h => by simp only [DV.flats, h a List.mem_cons_self, flats_of fun d hd => h d (List.mem_cons_of_mem _ hd), Bool.and_self]
theorem depths_of {k : Nat} : ∀ {xs : List DV}, (∀ d ∈ xs, d.depth ≤ k) → DV.depths xs ≤ k
  | [], _ => by simp [DV.depths]
  | a :: as, h => by
    have h1 := h a List.mem_cons_self
    have h2 := depths_of fun d hd => h d (List.mem_cons_of_mem _ hd)
    simp only [DV.depths]; omega
theorem sorted_pairs (ts : List (Tr × Nat)) : sorted (ts.map fun p => DV.tup [.lst p.1.sg, .int p.2]) = some (.lst ((ts.mergeSort fun p q => DV.leb (.tup [.lst p.1.sg, .int p.2]) (.tup [.lst q.1.sg, .int q.2])).map fun p => DV.tup [.lst p.1.sg, .int p.2])) := by
  rw [← (sort_signs ts).1]
  refine sorted_of (fun a ha b hb => ?_) (fun a ha => ?_) (flats_of fun a ha => ?_) (depths_of fun a ha => ?_)
  · obtain ⟨x, _, rfl⟩ := List.mem_map.mp ha
    obtain ⟨y, _, rfl⟩ := List.mem_map.mp hb
    simp only [DV.alike, DV.alikes, Bool.and_true]
    exact sg_alikes (sg_is x.1) (sg_is y.1)
  · obtain ⟨x, _, rfl⟩ := List.mem_map.mp ha; rfl
  · obtain ⟨x, _, rfl⟩ := List.mem_map.mp ha
    simp only [DV.flat, DV.flats, (sg_flats (sg_is x.1)).1, Bool.and_self]
  · obtain ⟨x, _, rfl⟩ := List.mem_map.mp ha
    have := (sg_flats (sg_is x.1)).2
    simp only [DV.depth, DV.depths]; omega
end DP

namespace DP
open PySem
structure Row where
  dot : DV
  place : DV
  name : Str
  val : Int
def Row.thing (r : Row) : DV := .tup [r.place, .str r.name, .int r.val]
def Row.dv (r : Row) : DV := .tup [r.dot, r.thing]
def sortT (ts : List Tr) : List Tr := ts.mergeSort fun a b => DV.leb a.it b.it
def treeT : Nat → List Row → DV → List Tr
  | 0, _, _ => []
  | f + 1, rows, p => (rows.filter fun r => decide (r.place = p)).map fun r => .node r.name r.val (sortT (treeT f rows r.dot))
def Deep : Nat → List Row → DV → Prop
  | 0, _, _ => False
  | f + 1, rows, p => ∀ r ∈ rows, r.place = p → Deep f rows r.dot
theorem Deep.succ : ∀ {f : Nat} {rows : List Row} {p : DV}, Deep f rows p → Deep (f + 1) rows p
  | 0, _, _, h => h.elim
  | f + 1, rows, p, h => fun r hr e => Deep.succ (h r hr e)
theorem Deep.mono {f g : Nat} {rows : List Row} {p : DV} (h : Deep f rows p) (hg : f ≤ g) : Deep g rows p := by
  induction hg with
  | refl => exact h
  | step _ ih => exact ih.succ
theorem sortT_its (ts : List Tr) : (sortT ts).map Tr.it = (ts.map Tr.it).mergeSort DV.leb := List.map_mergeSort (f := Tr.it) (s := DV.leb) fun a _ b _ => rfl
theorem deps_le {k : Nat} : ∀ {ts : List Tr}, (∀ t ∈ ts, t.dep ≤ k) → Tr.deps ts ≤ k
  | [], _ => by simp [Tr.deps]
  | t :: ts, h => by
    have h1 := h t List.mem_cons_self
    have h2 := deps_le fun x hx => h x (List.mem_cons_of_mem _ hx)
    simp only [Tr.deps]; omega
theorem dep_mem : ∀ {ts : List Tr} {t : Tr}, t ∈ ts → t.dep ≤ Tr.deps ts
  | x :: xs, t, h => by
    rcases List.mem_cons.mp h with e | h
    · subst e; simp only [Tr.deps]; omega
    · have := dep_mem h; simp only [Tr.deps]; omega
theorem deps_sort (ts : List Tr) : Tr.deps (sortT ts) ≤ Tr.deps ts := deps_le fun t ht => dep_mem ((List.mergeSort_perm _ _).mem_iff.mp ht)
theorem deps_tree : ∀ {k f : Nat} {rows : List Row} {p : DV}, Deep (k + 1) rows p → Tr.deps (treeT f rows p) ≤ k
  | k, 0, rows, p, h => by simp [treeT, Tr.deps]
  | k, f + 1, rows, p, h => by
    refine deps_le fun t ht => ?_
    rw [treeT] at ht
    obtain ⟨r, hr, rfl⟩ := List.mem_map.mp ht
    obtain ⟨hr1, hr2⟩ := List.mem_filter.mp hr
    have d := h r hr1 (of_decide_eq_true hr2)
    cases k with
    | zero => exact d.elim
    | succ k =>
      have h1 := deps_tree (f := f) d
      have h2 := deps_sort (treeT f rows r.dot)
      simp only [Tr.dep]; omega
theorem compL_pure {f : DV → Store → Res (Option DV)} {chk : Store → Bool} {S : Store} {g : DV → Option DV} (hc : chk S = true) : ∀ {items : List DV}, (∀ d ∈ items, f d S = .ok (g d) S) → compL f chk items S = .ok (items.filterMap g) S
  | [], _ => by simp only [compL, hc, if_true, List.filterMap_nil]
  | d :: ds, h => by
    simp only [compL, hc, if_true]
    rw [h d List.mem_cons_self, Res.bind_ok, compL_pure hc fun x hx => h x (List.mem_cons_of_mem _ hx), Res.bind_ok]
    cases hg : g d <;> simp [hg]
/-- a name of a place: () or a dot -/
def Pl (d : DV) : Prop := ∃ k, DV.key d = some k
mutual
theorem flat_key : ∀ (a : DV) (k : NestedKey), DV.key a = some k → a.flat = true
  | .non, _, _ => rfl
  | .int _, _, _ => rfl
  | .str _, _, _ => rfl
  | .bl _, _, h | .lst _, _, h | .dic _, _, h | .loc _, _, h | .scr _, _, h => by simp [DV.key] at h
  | .tup xs, k, h => by
    simp only [DV.key] at h
    cases e : DV.keys xs with
    | none => rw [e] at h; cases h
    | some ks => simp only [DV.flat]; exact flats_key xs ks e
theorem flats_key : ∀ (a : List DV) (k : List NestedKey), DV.keys a = some k → DV.flats a = true
  | [], _, _ => rfl
  | x :: xs, k, h => by
    simp only [DV.keys] at h
    split at h
    · rename_i k0 ks0 e1 e2
      simp only [DV.flats, flat_key x k0 e1, flats_key xs ks0 e2, Bool.and_self]
    · cases h
end
mutual
theorem eqv_key : ∀ (a b : DV) (k l : NestedKey), DV.key a = some k → DV.key b = some l → PyData.eqv a.toP b.toP = decide (a = b)
  | .non, b, k, l, h1, h2 => by cases b <;> simp_all [DV.key, DV.toP, PyData.eqv]
  | .int i, b, k, l, h1, h2 => by
    cases b with
    | int j => simp only [DV.toP, PyData.eqv, DV.int.injEq]; exact Bool.beq_eq_decide_eq i j
    | _ => simp_all [DV.key, DV.toP, PyData.eqv]
  | .str x, b, k, l, h1, h2 => by
    cases b with
    | str j => simp only [DV.toP, PyData.eqv, DV.str.injEq]; exact Bool.beq_eq_decide_eq x j
    | _ => simp_all [DV.key, DV.toP, PyData.eqv]
  | .bl _, _, _, _, h1, _ | .lst _, _, _, _, h1, _ | .dic _, _, _, _, h1, _ | .loc _, _, _, _, h1, _ | .scr _, _, _, _, h1, _ => by simp [DV.key] at h1
  | .tup xs, b, k, l, h1, h2 => by
    cases b with
    | tup ys =>
      simp only [DV.key] at h1 h2
      cases e1 : DV.keys xs with
      | none => rw [e1] at h1; cases h1
      | some ks =>
        cases e2 : DV.keys ys with
        | none => rw [e2] at h2; cases h2
        | some ls =>
          have := eqvs_key xs ys ks ls e1 e2
          simp only [DV.toP, PyData.eqv]
          rw [this]
          simp
    | _ => simp_all [DV.key, DV.toP, PyData.eqv]
theorem eqvs_key : ∀ (a b : List DV) (k l : List NestedKey), DV.keys a = some k → DV.keys b = some l → PyData.eqvAll (DV.toPs a) (DV.toPs b) = decide (a = b)
  | [], [], _, _, _, _ => by simp [DV.toPs, PyData.eqvAll]
  | [], _ :: _, _, _, _, _ => by simp [DV.toPs, PyData.eqvAll]
  | _ :: _, [], _, _, _, _ => by simp [DV.toPs, PyData.eqvAll]
  | a :: as, b :: bs, k, l, h1, h2 => by
    simp only [DV.keys] at h1 h2
    split at h1
    · rename_i k0 ks0 e1 e2
      split at h2
      · rename_i l0 ls0 e3 e4
        simp only [DV.toPs, PyData.eqvAll]
        rw [eqv_key a b _ _ e1 e3, eqvs_key as bs _ _ e2 e4]
        simp
      · cases h2
    · cases h1
end
theorem tk_facts {a : DV} (h : tkey a = true) : ∃ k, DV.key a = some k ∧ a.flat = true ∧ a.depth ≤ 8 ∧ a.pure = true := by
  obtain ⟨k, e, d⟩ := tkey_key h
  exact ⟨k, e, flat_key a k e, d, pure_of_key a k e⟩
theorem eq_tk {a b : DV} (h : tkey a = true) (h2 : tkey b = true) : cmp .eq a b = some (decide (a = b)) := by
  obtain ⟨k, e1, f1, d1, _⟩ := tk_facts h
  obtain ⟨l, e2, f2, d2, _⟩ := tk_facts h2
  simp only [cmp, deq, f1, f2, Bool.and_self, Bool.true_and, Bool.and_eq_true, decide_eq_true_eq]
  rw [if_pos ⟨by omega, by omega⟩, eqv_key a b k l e1 e2]
/-- a row as it should be -/
structure Row.Ok (r : Row) : Prop where
  dot : tkey r.dot = true
  place : tkey r.place = true
theorem peek_tk {S : Store} {d : DV} (h : tkey d = true) : peek S d = d := by
  cases d <;> first | rfl | simp [tkey] at h
theorem idx3_0 (a b c : DV) : L2.atI [a, b, c] 0 = some a := rfl
theorem idx3_1 (a b c : DV) : L2.atI [a, b, c] 1 = some b := rfl
theorem idx3_2 (a b c : DV) : L2.atI [a, b, c] 2 = some c := rfl
theorem isLive_ok : ∀ (as : List DV) (S : Store), (∀ n, DV.loc n ∉ as) → isLive as S S = true
  | [], _, _ => rfl
  | d :: ds, S, h => by
    cases d with
    | loc n => exact absurd List.mem_cons_self (h n)
    | _ => simp only [isLive]; exact isLive_ok ds S fun n m => h n (List.mem_cons_of_mem _ m)
theorem tuple_l (xs : List DV) : blt .tuple [.lst xs] = some (.tup xs) := rfl
theorem sorted_l (xs : List DV) : blt .sorted [.lst xs] = sorted xs := rfl
mutual
theorem pure_flat : ∀ d : DV, d.flat = true → d.pure = true
  | .non, _ => rfl
  | .bl _, _ => rfl
  | .int _, _ => rfl
  | .str _, _ => rfl
  | .scr _, _ => rfl
  | .dic _, f => by simp [DV.flat] at f
  | .loc _, f => by simp [DV.flat] at f
  | .tup xs, f => by simp only [DV.pure]; exact pures_flats xs (by simpa [DV.flat] using f)
  | .lst xs, f => by simp only [DV.pure]; exact pures_flats xs (by simpa [DV.flat] using f)
theorem pures_flats : ∀ ds : List DV, DV.flats ds = true → DV.pures ds = true
  | [], _ => rfl
  | d :: ds, f => by
    simp only [DV.flats, Bool.and_eq_true] at f
    simp only [DV.pures, pure_flat d f.1, pures_flats ds f.2, Bool.and_self]
end
theorem its_pure (ts : List Tr) : DV.pures (ts.map Tr.it) = true := pures_flats _ (by rw [← its_map]; exact its_flat ts)
theorem lo_spec : ∀ (f : Nat) (rows : List Row) (p : DV) (k : Nat), (∀ r ∈ rows, r.Ok) → tkey p = true → Deep (k + 1) rows p → k ≤ 32 → k < f → ∀ b S, F__law_outline f b [.lst (rows.map Row.dv), p] S = .ok (.tup ((sortT (treeT f rows p)).map Tr.it)) S
  | 0, rows, p, k, hr, hp, hd, hk, hf, b, S => by omega
  | f + 1, rows, p, k, hr, hp, hd, hk, hf, b, S => by
    have pk : ∀ S, peek S p = p := fun S => peek_tk hp
    show runDef [F__law_outline f] [] b__law_outline b _ S = _
    unfold runDef
    simp only [evB, evS, evE, evEs, entry, List.length_cons, List.length_nil, List.map_cons, List.map_nil, List.cons_append, List.nil_append, List.getElem?_cons_zero, List.getElem?_cons_succ, Option.getD_some, Res.of_some, Res.bind_ok, Res.then_ok, Out.bind_nx, Out.bind_rt, asBl_bl, asBlO_bl, Option.map_some, idx_l, idx_t, len_l, len_t, peekI_, peek_bl_, peek_str_, peek_tup_, peek_lst_, peek_dic_, peek_scr_, peek_non_, lt_ii, gt_ii, ge_ii, eq_ii, add_ii, List.set_cons_zero, List.set_cons_succ, if_true, if_false, Bool.false_eq_true, decide_true, decide_false, List.replicate_succ, List.replicate_zero, Nat.reduceAdd, Nat.reduceSub, reduceCtorEq, reduceIte, b__law_outline, srcOf, srcArg, pk]
    rw [compL_pure (g := fun d => match d with
      | .tup [dot, .tup [pl, nm, vl]] => if pl = p then some (.tup [nm, vl, .tup ((sortT (treeT f rows dot)).map Tr.it)]) else none
      | _ => none) (isLive_ok _ _ (by simp))]
    · have e : (rows.map Row.dv).filterMap (fun d => match d with
          | .tup [dot, .tup [pl, nm, vl]] => if pl = p then some (DV.tup [nm, vl, .tup ((sortT (treeT f rows dot)).map Tr.it)]) else none
          | _ => none) = (treeT (f + 1) rows p).map Tr.it := by
        rw [treeT, List.map_map]
        clear hr hd
        generalize hR : rows = R
        rw [show treeT f R = treeT f rows by rw [hR]]
        clear hR
        induction R with
        | nil => rfl
        | cons r R ih =>
          rw [List.map_cons, List.filterMap_cons, ih, List.filter_cons]
          by_cases q : r.place = p
          · simp [Row.dv, Row.thing, q, Tr.it, its_map]
          · simp [Row.dv, Row.thing, q]
      have dp : Tr.deps (treeT (f + 1) rows p) ≤ 32 := Nat.le_trans (deps_tree hd) hk
      simp only [evB, evS, evE, evEs, entry, List.length_cons, List.length_nil, List.map_cons, List.map_nil, List.cons_append, List.nil_append, List.getElem?_cons_zero, List.getElem?_cons_succ, Option.getD_some, Res.of_some, Res.bind_ok, Res.then_ok, Out.bind_nx, Out.bind_rt, asBl_bl, asBlO_bl, Option.map_some, idx_l, idx_t, len_l, len_t, peekI_, peek_bl_, peek_str_, peek_tup_, peek_lst_, peek_dic_, peek_scr_, peek_non_, lt_ii, gt_ii, ge_ii, eq_ii, add_ii, List.set_cons_zero, List.set_cons_succ, if_true, if_false, Bool.false_eq_true, decide_true, decide_false, List.replicate_succ, List.replicate_zero, Nat.reduceAdd, Nat.reduceSub, reduceCtorEq, reduceIte, e, sorted_l, sorted_items dp, tuple_l]
      rw [fin_same (by simp only [DV.pure, ← sortT_its]; exact its_pure _) (Same.refl S), sortT_its]
    · intro d hd2
      obtain ⟨r, hr1, rfl⟩ := List.mem_map.mp hd2
      have ok := hr r hr1
      have pd : ∀ S, peek S r.dot = r.dot := fun S => peek_tk ok.dot
      have pp : ∀ S, peek S r.place = r.place := fun S => peek_tk ok.place
      simp only [evB, evS, evE, evEs, entry, List.length_cons, List.length_nil, List.map_cons, List.map_nil, List.cons_append, List.nil_append, List.getElem?_cons_zero, List.getElem?_cons_succ, Option.getD_some, Res.of_some, Res.bind_ok, Res.then_ok, Out.bind_nx, Out.bind_rt, asBl_bl, asBlO_bl, Option.map_some, idx_l, idx_t, len_l, len_t, peekI_, peek_bl_, peek_str_, peek_tup_, peek_lst_, peek_dic_, peek_scr_, peek_non_, lt_ii, gt_ii, ge_ii, eq_ii, add_ii, List.set_cons_zero, List.set_cons_succ, if_true, if_false, Bool.false_eq_true, decide_true, decide_false, List.replicate_succ, List.replicate_zero, Nat.reduceAdd, Nat.reduceSub, reduceCtorEq, reduceIte, Row.dv, Row.thing, wipe, bindTo, List.zip_cons_cons, List.zip_nil_right, List.foldl_cons, List.foldl_nil, evC, idx3_0, idx3_1, idx3_2, pp, pk, pd, eq_tk ok.place hp]
      by_cases q : r.place = p
      · cases k with
        | zero => exact (hd r hr1 q).elim
        | succ k =>
          have ih := lo_spec f rows r.dot k hr ok.dot (hd r hr1 q) (by omega) (by omega) S.length S
          simp only [evB, evS, evE, evEs, entry, List.length_cons, List.length_nil, List.map_cons, List.map_nil, List.cons_append, List.nil_append, List.getElem?_cons_zero, List.getElem?_cons_succ, Option.getD_some, Res.of_some, Res.bind_ok, Res.then_ok, Out.bind_nx, Out.bind_rt, asBl_bl, asBlO_bl, Option.map_some, idx_l, idx_t, len_l, len_t, peekI_, peek_bl_, peek_str_, peek_tup_, peek_lst_, peek_dic_, peek_scr_, peek_non_, lt_ii, gt_ii, ge_ii, eq_ii, add_ii, List.set_cons_zero, List.set_cons_succ, if_true, if_false, Bool.false_eq_true, decide_true, decide_false, List.replicate_succ, List.replicate_zero, Nat.reduceAdd, Nat.reduceSub, reduceCtorEq, reduceIte, q, ih, idx3_0, idx3_1, idx3_2, pk]
          rfl
      · simp only [evB, evS, evE, evEs, entry, List.length_cons, List.length_nil, List.map_cons, List.map_nil, List.cons_append, List.nil_append, List.getElem?_cons_zero, List.getElem?_cons_succ, Option.getD_some, Res.of_some, Res.bind_ok, Res.then_ok, Out.bind_nx, Out.bind_rt, asBl_bl, asBlO_bl, Option.map_some, idx_l, idx_t, len_l, len_t, peekI_, peek_bl_, peek_str_, peek_tup_, peek_lst_, peek_dic_, peek_scr_, peek_non_, lt_ii, gt_ii, ge_ii, eq_ii, add_ii, List.set_cons_zero, List.set_cons_succ, if_true, if_false, Bool.false_eq_true, decide_true, decide_false, List.replicate_succ, List.replicate_zero, Nat.reduceAdd, Nat.reduceSub, reduceCtorEq, reduceIte, q]
        rfl
end DP

namespace DP
open PySem
/-! ### loops -/
theorem forL_inv {tg : MT} {b : Env → Store → Out} {chk : Store → Bool} {items : List DV} (P : Nat → Env → Store → Prop) (hchk : ∀ i e S, P i e S → chk S = true)
    (step : ∀ (i : Nat) (hi : i < items.length) e S, P i e S → ∃ e1 e2 S2, bindTo tg items[i] e = some e1 ∧ b e1 S = .nx e2 S2 ∧ P (i + 1) e2 S2) :
    ∀ (k i : Nat) e S, k = items.length - i → i ≤ items.length → P i e S → ∃ e2 S2, forL tg b chk (items.drop i) e S = .nx e2 S2 ∧ P items.length e2 S2
  | 0, i, e, S, hk, hi, h => by
    have ei : i = items.length := by omega
    subst ei
    rw [List.drop_length]
    simp only [forL, hchk _ _ _ h, if_true]
    exact ⟨e, S, rfl, h⟩
  | k + 1, i, e, S, hk, hi, h => by
    have hl : i < items.length := by omega
    rw [List.drop_eq_getElem_cons hl]
    obtain ⟨e1, e2, S2, h1, h2, h3⟩ := step i hl e S h
    simp only [forL, hchk _ _ _ h, if_true, h1, h2, Out.bind_nx]
    exact forL_inv P hchk step k (i + 1) e2 S2 (by omega) hl h3
theorem whileL_inv {c : Env → Store → Res DV} {b : Env → Store → Out} (P : Nat → Env → Store → Prop) (Q : Env → Store → Prop)
    (step : ∀ m e S, P m e S → (c e S = .ok (.bl false) S ∧ Q e S) ∨ (c e S = .ok (.bl true) S ∧ ∃ m' e2 S2, m' < m ∧ b e S = .nx e2 S2 ∧ P m' e2 S2)) :
    ∀ (fuel m : Nat) e S, m < fuel → P m e S → ∃ e2 S2, whileL c b fuel e S = .nx e2 S2 ∧ Q e2 S2
  | 0, m, e, S, hf, h => by omega
  | f + 1, m, e, S, hf, h => by
    simp only [whileL]
    rcases step m e S h with ⟨h1, h2⟩ | ⟨h1, m', e2, S2, hm, h2, h3⟩
    · rw [h1]
      exact ⟨e, S, rfl, h2⟩
    · rw [h1]
      simp only [Res.then_ok, asBlO_bl, if_true, h2, Out.bind_nx]
      exact whileL_inv P Q step f m' e2 S2 (by omega) h3
/-! ### dicts -/
theorem dget_put (kvs : List (DV × DV)) (k v j : DV) : dget (dput kvs k v) j = if j = k then some v else dget kvs j := by
  unfold dput
  rw [dhas_get]
  have fm : ∀ kvs : List (DV × DV), dget (kvs.map fun p => if p.1 = k then (p.1, v) else p) j = if j = k then (dget kvs k).map fun _ => v else dget kvs j := by
    intro kvs
    induction kvs with
    | nil => by_cases h : j = k <;> simp [dget, h]
    | cons p r ih =>
      by_cases h : j = k
      · subst h
        rw [if_pos rfl] at ih ⊢
        by_cases q : p.1 = j
        · simp [dget, q]
        · have e1 : dget (p :: r) j = dget r j := by unfold dget; rw [List.find?_cons, decide_eq_false q]
          rw [e1, List.map_cons, if_neg q]
          have e2 : dget (p :: r.map fun p => if p.1 = j then (p.1, v) else p) j = dget (r.map fun p => if p.1 = j then (p.1, v) else p) j := by unfold dget; rw [List.find?_cons, decide_eq_false q]
          rw [e2, ih]
      · rw [if_neg h] at ih ⊢
        by_cases q : p.1 = j
        · have q2 : ¬ p.1 = k := fun z => h (q.symm.trans z)
          rw [List.map_cons, if_neg q2]
          simp [dget, q]
        · have e1 : dget (p :: r) j = dget r j := by unfold dget; rw [List.find?_cons, decide_eq_false q]
          rw [e1, ← ih, List.map_cons]
          have hq : ¬ (if p.1 = k then (p.1, v) else p).1 = j := by split <;> exact q
          unfold dget; rw [List.find?_cons, decide_eq_false hq]
  cases hk : dget kvs k with
  | some d =>
    simp only [Option.isSome_some, if_true]
    rw [fm, hk]; rfl
  | none =>
    simp only [Option.isSome_none, Bool.false_eq_true, if_false]
    by_cases h : j = k
    · subst h
      rw [if_pos rfl]
      unfold dget at hk ⊢
      rw [List.find?_append]
      have e : List.find? (fun p => decide (p.1 = j)) kvs = none := by
        cases q : List.find? (fun p => decide (p.1 = j)) kvs with
        | none => rfl
        | some p => rw [q] at hk; cases hk
      rw [e]; simp
    · rw [if_neg h]
      unfold dget
      rw [List.find?_append]
      cases q : List.find? (fun p => decide (p.1 = j)) kvs with
      | some p => rfl
      | none =>
        have h2 : ¬ k = j := fun z => h z.symm
        simp [h2]
/-- all keys are tuples that may be keys -/
def Ks (kvs : List (DV × DV)) : Prop := ∀ p ∈ kvs, tkey p.1 = true
theorem Ks.nil : Ks [] := fun p h => by cases h
theorem Ks.put {kvs : List (DV × DV)} {k v : DV} (h : Ks kvs) (hk : tkey k = true) : Ks (dput kvs k v) := by
  intro p hp
  unfold dput at hp
  split at hp
  · obtain ⟨q, hq, e⟩ := List.mem_map.mp hp
    have := h q hq
    split at e <;> (subst e; exact this)
  · rcases List.mem_append.mp hp with hp | hp
    · exact h p hp
    · rw [List.mem_singleton.mp hp]; exact hk
theorem Ks.dok {kvs : List (DV × DV)} {k : DV} (h : Ks kvs) (hk : tkey k = true) : dok kvs k = true := by
  unfold DP.dok
  have : (kvs.all fun p => tkey p.1) = true := List.all_eq_true.mpr h
  rw [hk, this]; simp
/-! ### the store behind the caller's -/
theorem app_get (S L : Store) (i : Nat) : (S ++ L)[S.length + i]? = L[i]? := by rw [List.getElem?_append_right (by omega)]; congr 1; omega
theorem app_set (S L : Store) (i : Nat) (x : MO) : (S ++ L).set (S.length + i) x = S ++ L.set i x := by
  rw [List.set_append_right _ _ (by omega)]
  congr 2; omega
theorem app_len (S L : Store) : (S ++ L).length = S.length + L.length := List.length_append
theorem fits_up (b n : Nat) (v : DV) (h : b ≤ n) : fits b n v = true := by unfold fits; rw [decide_eq_true h]; rfl
theorem sub_d {b n : Nat} {S : Store} {kvs : List (DV × DV)} {k v : DV} (h : S[n]? = some (.dic kvs)) (hk : dok kvs k = true) (hf : fits b n v = true) (hl : kvs.length < sizeLine) : subSet b (.loc n) k v S = .ok () (S.set n (.dic (dput kvs k v))) := by
  simp only [subSet, h, hk, hf, hl, decide_true, Bool.and_self, if_true]
theorem get2_d {b : Nat} {S : Store} {o k d : DV} {kvs : List (DV × DV)} (h : peek S o = .dic kvs) (hk : dok kvs k = true) : meth b .get2 .dic o [k, d] S = .ok ((dget kvs k).getD d) S := by
  simp only [meth, h, hk, if_true]
theorem kind_d {kvs : List (DV × DV)} : kindOf (.dic kvs) = some .dic := rfl
theorem kind_l {kvs : List DV} : kindOf (.lst kvs) = some .lst := rfl
theorem mok_get2 : mok .get2 .dic = true := rfl
theorem mok_ext : mok .extend .lst = true := rfl
theorem mok_app : mok .append .lst = true := rfl
theorem cat_l {x y : List DV} (h : x.length + y.length ≤ sizeLine) : bin .add (.lst x) (.lst y) = some (.lst (x ++ y)) := by simp only [bin, if_pos h]
theorem ext_l {b n : Nat} {S : Store} {v : DV} {xs ys : List DV} (h : S[n]? = some (.lst xs)) (hp : peek S v = .lst ys) (hb : b ≤ n) (hl : xs.length + ys.length ≤ sizeLine) : meth b .extend .lst (.loc n) [v] S = .ok .non (S.set n (.lst (xs ++ ys))) := by
  have hf : ys.all (fits b n) = true := List.all_eq_true.mpr fun d _ => fits_up b n d hb
  simp only [meth, h, hp, hf, hl, decide_true, Bool.and_self, if_true]
end DP

namespace DP
open PySem
def kidsR (rows : List Row) (q : DV) : List Row := rows.filter fun r => decide (r.place = q)
/-- what inner tells of a place -/
def InnerOk (kvs : List (DV × DV)) (rows : List Row) : Prop := Ks kvs ∧ ∀ q, (dget kvs q).getD (.lst []) = .lst ((kidsR rows q).map Row.dv)
theorem kidsR_succ {rows : List Row} {i : Nat} (hi : i < rows.length) (q : DV) : kidsR (rows.take (i + 1)) q = kidsR (rows.take i) q ++ (if rows[i].place = q then [rows[i]] else []) := by
  unfold kidsR
  rw [List.take_add_one, List.getElem?_eq_getElem hi, List.filter_append]
  congr 1
  by_cases h : rows[i].place = q <;> simp [h]
theorem peek_dicL {S : Store} {i : Nat} {xs : List (DV × DV)} (h : S[i]? = some (.dic xs)) : peek S (.loc i) = .dic xs := by simp only [peek, h]
theorem app0 (S : Store) (x : MO) (L : Store) : (S ++ x :: L)[S.length]? = some x := by rw [List.getElem?_append_right (Nat.le_refl _)]; simp
theorem set0_ (S : Store) (x y : MO) (L : Store) : (S ++ x :: L).set S.length y = S ++ y :: L := by rw [List.set_append_right _ _ (Nat.le_refl _)]; simp
def envO (T p : DV) (n : Nat) (a3 a4 a5 a6 a7 a8 a9 a10 a11 a12 a13 : Option DV) : Env := [some T, some p, some (.loc n), a3, a4, a5, a6, a7, a8, a9, a10, a11, a12, a13]
theorem row_get {rows : List Row} {i : Nat} (hi : i < (rows.map Row.dv).length) : (rows.map Row.dv)[i] = (rows[i]'(by simpa using hi)).dv := by simp
theorem outline_1 {G : Ctx} {S : Store} {rows : List Row} {p : DV} (hG : G.base = S.length) (hr : ∀ r ∈ rows, r.Ok) (hl : rows.length ≤ 1000) :
    ∃ x8 x9 kvs, forL (.tp [8, 9]) (evB G [.sub (.var 2) (.idx (.var 9) (.int (0))) (.bin .add (.meth .get2 (.var 2) [.idx (.var 9) (.int (0)), .lst []]) (.lst [.tup [.var 8, .var 9]]))]) (isLive [.tup (rows.map Row.dv)] (S ++ [.dic []])) (rows.map Row.dv)
      (envO (.tup (rows.map Row.dv)) p S.length none none none none none none none none none none none) (S ++ [.dic []]) = .nx (envO (.tup (rows.map Row.dv)) p S.length none none none none none x8 x9 none none none none) (S ++ [.dic kvs]) ∧ InnerOk kvs rows := by
  have sz : (1000 : Nat) < sizeLine := by rw [sizeLine_eq]; decide
  have h := forL_inv (tg := .tp [8, 9]) (b := evB G [.sub (.var 2) (.idx (.var 9) (.int (0))) (.bin .add (.meth .get2 (.var 2) [.idx (.var 9) (.int (0)), .lst []]) (.lst [.tup [.var 8, .var 9]]))]) (chk := isLive [.tup (rows.map Row.dv)] (S ++ [.dic []])) (items := rows.map Row.dv)
    (fun i e S' => ∃ x8 x9 kvs, e = envO (.tup (rows.map Row.dv)) p S.length none none none none none x8 x9 none none none none ∧ S' = S ++ [.dic kvs] ∧ kvs.length ≤ i ∧ InnerOk kvs (rows.take i))
    (fun i e S' _ => rfl) (fun i hi e S' ⟨x8, x9, kvs, he, hS, hk, ik⟩ => ?_) (rows.map Row.dv).length 0 (envO (.tup (rows.map Row.dv)) p S.length none none none none none none none none none none none) (S ++ [.dic []]) (by simp) (Nat.zero_le _) ⟨none, none, [], rfl, rfl, Nat.le_refl _, Ks.nil, fun q => rfl⟩
  · rw [List.drop_zero] at h
    obtain ⟨e2, S2, h1, x8, x9, kvs, rfl, rfl, _, h2⟩ := h
    refine ⟨x8, x9, kvs, h1, ?_⟩
    rw [List.length_map, List.take_length] at h2
    exact h2
  · subst he hS
    rw [row_get hi]
    have hi' : i < rows.length := by simpa using hi
    have ok := hr _ (List.getElem_mem hi')
    have pk : peek (S ++ [.dic kvs]) (.loc S.length) = .dic kvs := peek_dicL (app0 S _ _)
    have pp : ∀ S, peek S (rows[i]'hi').place = (rows[i]'hi').place := fun S => peek_tk ok.place
    have hd := ik.1.dok ok.place
    have e1 := ik.2 (rows[i]'hi').place
    have cl : ((kidsR (rows.take i) (rows[i]'hi').place).map Row.dv).length + [DV.tup [(rows[i]'hi').dot, DV.tup [(rows[i]'hi').place, .str (rows[i]'hi').name, .int (rows[i]'hi').val]]].length ≤ sizeLine := by
      have := List.length_filter_le (fun r : Row => decide (r.place = (rows[i]'hi').place)) (rows.take i)
      rw [List.length_map]
      unfold kidsR
      rw [List.length_take] at this
      simp only [List.length_singleton]; omega
    have hsub := sub_d (b := S.length) (n := S.length) (S := S ++ [.dic kvs]) (k := (rows[i]'hi').place) (v := .lst ((kidsR (rows.take i) (rows[i]'hi').place).map Row.dv ++ [DV.tup [(rows[i]'hi').dot, DV.tup [(rows[i]'hi').place, .str (rows[i]'hi').name, .int (rows[i]'hi').val]]])) (app0 S _ _) hd (fits_up _ _ _ (Nat.le_refl _)) (by omega)
    rw [set0_] at hsub
    have hb : bindTo (.tp [8, 9]) (rows[i]'hi').dv (envO (.tup (rows.map Row.dv)) p S.length none none none none none x8 x9 none none none none) = some (envO (.tup (rows.map Row.dv)) p S.length none none none none none (some (rows[i]'hi').dot) (some (rows[i]'hi').thing) none none none none) := by
      simp only [evB, evS, evE, evEs, entry, List.length_cons, List.length_nil, List.map_cons, List.map_nil, List.cons_append, List.nil_append, List.getElem?_cons_zero, List.getElem?_cons_succ, Option.getD_some, Res.of_some, Res.bind_ok, Res.then_ok, Out.bind_nx, Out.bind_rt, asBl_bl, asBlO_bl, Option.map_some, idx_l, idx_t, len_l, len_t, peekI_, peek_bl_, peek_str_, peek_tup_, peek_lst_, peek_dic_, peek_scr_, peek_non_, lt_ii, gt_ii, ge_ii, eq_ii, add_ii, List.set_cons_zero, List.set_cons_succ, if_true, if_false, Bool.false_eq_true, decide_true, decide_false, List.replicate_succ, List.replicate_zero, Nat.reduceAdd, Nat.reduceSub, reduceCtorEq, reduceIte, envO, Row.dv, bindTo, List.zip_cons_cons, List.zip_nil_right, List.foldl_cons, List.foldl_nil]
    refine ⟨_, envO (.tup (rows.map Row.dv)) p S.length none none none none none (some (rows[i]'hi').dot) (some (rows[i]'hi').thing) none none none none, S ++ [MO.dic (dput kvs (rows[i]'hi').place (.lst ((kidsR (rows.take i) (rows[i]'hi').place).map Row.dv ++ [DV.tup [(rows[i]'hi').dot, DV.tup [(rows[i]'hi').place, .str (rows[i]'hi').name, .int (rows[i]'hi').val]]])))], hb, ?_, _, _, _, rfl, rfl, ?_, ?_, ?_⟩
    · simp only [evB, evS, evE, evEs, entry, List.length_cons, List.length_nil, List.map_cons, List.map_nil, List.cons_append, List.nil_append, List.getElem?_cons_zero, List.getElem?_cons_succ, Option.getD_some, Res.of_some, Res.bind_ok, Res.then_ok, Out.bind_nx, Out.bind_rt, asBl_bl, asBlO_bl, Option.map_some, idx_l, idx_t, len_l, len_t, peekI_, peek_bl_, peek_str_, peek_tup_, peek_lst_, peek_dic_, peek_scr_, peek_non_, lt_ii, gt_ii, ge_ii, eq_ii, add_ii, List.set_cons_zero, List.set_cons_succ, if_true, if_false, Bool.false_eq_true, decide_true, decide_false, List.replicate_succ, List.replicate_zero, Nat.reduceAdd, Nat.reduceSub, reduceCtorEq, reduceIte, envO, Row.thing, pk, kind_d, mok_get2, idx3_0, pp, get2_d pk hd, e1, cat_l cl, hG, hsub]
    · have := dput_length kvs (rows[i]'hi').place (.lst ((kidsR (rows.take i) (rows[i]'hi').place).map Row.dv ++ [DV.tup [(rows[i]'hi').dot, DV.tup [(rows[i]'hi').place, .str (rows[i]'hi').name, .int (rows[i]'hi').val]]]))
      omega
    · exact ik.1.put ok.place
    · intro q
      rw [dget_put, kidsR_succ hi']
      by_cases h : q = (rows[i]'hi').place
      · subst h
        rw [if_pos rfl, if_pos rfl, List.map_append]; rfl
      · rw [if_neg h, if_neg (fun z => h z.symm), List.append_nil]
        exact ik.2 q
end DP

namespace DP
open PySem
def size : Nat → List Row → DV → Nat
  | 0, _, _ => 1
  | f + 1, rows, p => 1 + ((kidsR rows p).map fun r => size f rows r.dot).sum
theorem size_stable : ∀ {f g : Nat} {rows : List Row} {p : DV}, Deep f rows p → f ≤ g → size g rows p = size f rows p
  | 0, _, _, _, h, _ => h.elim
  | f + 1, 0, _, _, _, hg => by omega
  | f + 1, g + 1, rows, p, h, hg => by
    simp only [size]
    congr 2
    refine List.map_congr_left fun r hr => ?_
    obtain ⟨h1, h2⟩ := List.mem_filter.mp hr
    exact size_stable (h r h1 (of_decide_eq_true h2)) (by omega)
theorem Deep.kid {f : Nat} {rows : List Row} {p : DV} (h : Deep f rows p) {r : Row} (hr : r ∈ kidsR rows p) : Deep f rows r.dot := by
  obtain ⟨h1, h2⟩ := List.mem_filter.mp hr
  cases f with
  | zero => exact h.elim
  | succ f => exact (h r h1 (of_decide_eq_true h2)).succ
theorem size_kids {f : Nat} {rows : List Row} {p : DV} (h : Deep f rows p) : size f rows p = 1 + ((kidsR rows p).map fun r => size f rows r.dot).sum := by
  cases f with
  | zero => exact h.elim
  | succ f =>
    show 1 + _ = _
    congr 2
    refine List.map_congr_left fun r hr => ?_
    obtain ⟨h1, h2⟩ := List.mem_filter.mp hr
    exact (size_stable (h r h1 (of_decide_eq_true h2)) (Nat.le_succ _)).symm
def szs (f : Nat) (rows : List Row) (l : List DV) : Nat := (l.map (size f rows)).sum
theorem size_pos (f : Nat) (rows : List Row) (p : DV) : 1 ≤ size f rows p := by cases f <;> simp only [size] <;> omega
theorem szs_len (f : Nat) (rows : List Row) : ∀ l : List DV, l.length ≤ szs f rows l
  | [] => Nat.le_refl _
  | x :: xs => by
    have h1 := size_pos f rows x
    have h2 := szs_len f rows xs
    simp only [szs, List.map_cons, List.sum_cons, List.length_cons] at h2 ⊢
    omega
theorem List.le_sum_of_mem' : ∀ {l : List Nat} {x : Nat}, x ∈ l → x ≤ l.sum
  | y :: ys, x, h => by
    rw [List.sum_cons]
    rcases List.mem_cons.mp h with h | h
    · omega
    · have := List.le_sum_of_mem' h; omega
theorem szs_append (f : Nat) (rows : List Row) (a b : List DV) : szs f rows (a ++ b) = szs f rows a + szs f rows b := by simp [szs]
theorem szs_kids (f : Nat) (rows : List Row) (p : DV) : szs f rows ((kidsR rows p).map Row.dot) = ((kidsR rows p).map fun r => size f rows r.dot).sum := by simp only [szs, List.map_map]; rfl
/-- the order so far: what stands before at has its kids behind it -/
structure Bfs (K : Nat) (rows : List Row) (p : DV) (order : List DV) (at_ : Nat) : Prop where
  le : at_ ≤ order.length
  tot : at_ + szs K rows (order.drop at_) = size K rows p
  ok : ∀ q ∈ order, tkey q = true ∧ Deep K rows q
  fst : order[0]? = some p
  kid : ∀ i q, i < at_ → order[i]? = some q → ∀ r ∈ kidsR rows q, r.dot ∈ order.drop (i + 1)
  sz : ∀ q ∈ order, size K rows q ≤ size K rows p
theorem Bfs.step {K : Nat} {rows : List Row} {p : DV} {order : List DV} {at_ : Nat} (h : Bfs K rows p order at_) (hr : ∀ r ∈ rows, r.Ok) (hl : at_ < order.length) : Bfs K rows p (order ++ (kidsR rows order[at_]).map Row.dot) (at_ + 1) := by
  have ed : order.drop at_ = order[at_] :: order.drop (at_ + 1) := List.drop_eq_getElem_cons hl
  have hq := h.ok _ (List.getElem_mem hl)
  refine ⟨by rw [List.length_append]; omega, ?_, ?_, ?_, ?_, ?_⟩
  · have t := h.tot
    rw [ed] at t
    rw [List.drop_append_of_le_length (by omega), szs_append, szs_kids]
    have e := size_kids hq.2
    simp only [szs, List.map_cons, List.sum_cons] at t ⊢
    omega
  · intro q m
    rcases List.mem_append.mp m with m | m
    · exact h.ok q m
    · obtain ⟨r, hr1, rfl⟩ := List.mem_map.mp m
      exact ⟨(hr r (List.mem_filter.mp hr1).1).dot, hq.2.kid hr1⟩
  · have h0 := h.fst
    rw [List.getElem?_append_left (by omega)]; exact h0
  · intro i q hi hiq r hrk
    by_cases hi2 : i < at_
    · rw [List.getElem?_append_left (by omega)] at hiq
      have := h.kid i q hi2 hiq r hrk
      rw [List.drop_append_of_le_length (by omega)]
      exact List.mem_append_left _ this
    · have ei : i = at_ := by omega
      subst ei
      rw [List.getElem?_append_left hl, List.getElem?_eq_getElem hl] at hiq
      have hiq := Option.some.inj hiq
      rw [List.drop_append_of_le_length (by omega)]
      refine List.mem_append_right _ (List.mem_map.mpr ⟨r, ?_, rfl⟩)
      rw [hiq]; exact hrk
  · intro q m
    rcases List.mem_append.mp m with m | m
    · exact h.sz q m
    · have e := size_kids hq.2
      have h2 := h.sz _ (List.getElem_mem hl)
      obtain ⟨r, hr1, rfl⟩ := List.mem_map.mp m
      have h3 : size K rows r.dot ≤ ((kidsR rows order[at_]).map fun r => size K rows r.dot).sum := List.le_sum_of_mem' (List.mem_map.mpr ⟨r, hr1, rfl⟩)
      omega
theorem at_nat (xs : List DV) {i : Nat} (h : i < xs.length) : L2.atI xs (i : Int) = some xs[i] := L2.atI_nat (by rw [List.getElem?_eq_getElem h])
theorem nat_add1 (i : Nat) : (i : Int) + 1 = ((i + 1 : Nat) : Int) := by omega
theorem app1 (S : Store) (x y : MO) (L : Store) : (S ++ x :: y :: L)[S.length + 1]? = some y := app_get S (x :: y :: L) 1
theorem set1_ (S : Store) (x y z : MO) (L : Store) : (S ++ x :: y :: L).set (S.length + 1) z = S ++ x :: z :: L := app_set S (x :: y :: L) 1 z
theorem outline_2 {G : Ctx} {S : Store} {rows : List Row} {p T : DV} {kvs : List (DV × DV)} {K : Nat} {x8 x9 : Option DV} (hG : G.base = S.length) (hr : ∀ r ∈ rows, r.Ok) (hl : rows.length ≤ 1000) (ik : InnerOk kvs rows) (hp : tkey p = true) (hd : Deep K rows p) (hs : size K rows p ≤ 100000) :
    ∃ order at_, whileL (evE G (.cmp .lt (.var 4) (.blt .len [.var 3]))) (evB G [.expr (.meth .extend (.var 3) [.comp (.var 8) (.tp [8, 9]) .seq [.meth .get2 (.var 2) [.idx (.var 3) (.var 4), .lst []]] [] [8, 9]]), .asg 4 (.bin .add (.var 4) (.int (1)))]) 1000000
      (envO T p S.length (some (.loc (S.length + 1))) (some (.int 0)) none none none x8 x9 none none none none) (S ++ [.dic kvs, .lst [p]]) = .nx (envO T p S.length (some (.loc (S.length + 1))) (some (.int at_)) none none none x8 x9 none none none none) (S ++ [.dic kvs, .lst order]) ∧
      ∃ a : Nat, Bfs K rows p order a ∧ a = order.length ∧ order.length ≤ 100000 := by
  have sz : (2000000 : Nat) < sizeLine := by rw [sizeLine_eq]; decide
  have h := whileL_inv (c := evE G (.cmp .lt (.var 4) (.blt .len [.var 3]))) (b := evB G [.expr (.meth .extend (.var 3) [.comp (.var 8) (.tp [8, 9]) .seq [.meth .get2 (.var 2) [.idx (.var 3) (.var 4), .lst []]] [] [8, 9]]), .asg 4 (.bin .add (.var 4) (.int (1)))])
    (fun m e S' => ∃ (order : List DV) (a : Nat), e = envO T p S.length (some (.loc (S.length + 1))) (some (.int a)) none none none x8 x9 none none none none ∧ S' = S ++ [.dic kvs, .lst order] ∧ Bfs K rows p order a ∧ m = szs K rows (order.drop a))
    (fun e S' => ∃ (order : List DV) (a : Nat), e = envO T p S.length (some (.loc (S.length + 1))) (some (.int a)) none none none x8 x9 none none none none ∧ S' = S ++ [.dic kvs, .lst order] ∧ Bfs K rows p order a ∧ a = order.length)
    (fun m e S' ⟨order, a, he, hS, bf, hm⟩ => ?_) 1000000 (size K rows p) (envO T p S.length (some (.loc (S.length + 1))) (some (.int 0)) none none none x8 x9 none none none none) (S ++ [.dic kvs, .lst [p]]) (by omega)
    ⟨[p], 0, rfl, rfl, ⟨by simp, by simp [szs], fun q hq => by rw [List.mem_singleton.mp hq]; exact ⟨hp, hd⟩, rfl, fun i q hi => by omega, fun q hq => by rw [List.mem_singleton.mp hq]; exact Nat.le_refl _⟩, by simp [szs]⟩
  · obtain ⟨e2, S2, h1, order, a, rfl, rfl, bf, ha⟩ := h
    refine ⟨order, a, h1, a, bf, ha, ?_⟩
    have := bf.tot
    omega
  · subst he hS
    have pk3 : peek (S ++ [.dic kvs, .lst order]) (.loc (S.length + 1)) = .lst order := peek_lstAt (app1 S _ _ _)
    have pk2 : peek (S ++ [.dic kvs, .lst order]) (.loc S.length) = .dic kvs := peek_dicL (app0 S _ _)
    by_cases hlt : a < order.length
    · refine .inr ⟨?_, szs K rows ((order ++ (kidsR rows order[a]).map Row.dot).drop (a + 1)), envO T p S.length (some (.loc (S.length + 1))) (some (.int ((a + 1 : Nat) : Int))) none none none x8 x9 none none none none, S ++ [.dic kvs, .lst (order ++ (kidsR rows order[a]).map Row.dot)], ?_, ?_, _, _, rfl, rfl, bf.step hr hlt, rfl⟩
      · simp only [evB, evS, evE, evEs, entry, List.length_cons, List.length_nil, List.map_cons, List.map_nil, List.cons_append, List.nil_append, List.getElem?_cons_zero, List.getElem?_cons_succ, Option.getD_some, Res.of_some, Res.bind_ok, Res.then_ok, Out.bind_nx, Out.bind_rt, asBl_bl, asBlO_bl, Option.map_some, idx_l, idx_t, len_l, len_t, peekI_, peek_bl_, peek_str_, peek_tup_, peek_lst_, peek_dic_, peek_scr_, peek_non_, lt_ii, gt_ii, ge_ii, eq_ii, add_ii, List.set_cons_zero, List.set_cons_succ, if_true, if_false, Bool.false_eq_true, decide_true, decide_false, List.replicate_succ, List.replicate_zero, Nat.reduceAdd, Nat.reduceSub, reduceCtorEq, reduceIte, envO, pk3]
        simp only [Int.ofNat_lt, hlt, decide_true]
      · have t1 := bf.tot
        have t2 := (bf.step hr hlt).tot
        omega
      · have okq := bf.ok _ (List.getElem_mem hlt)
        have hdok := ik.1.dok okq.1
        have e1 := ik.2 order[a]
        have pq : ∀ S, peek S order[a] = order[a] := fun S => peek_tk okq.1
        have zz : order.length + ((kidsR rows order[a]).map Row.dot).length ≤ sizeLine := by
          have t1 := bf.tot
          have t2 := szs_len K rows (order.drop a)
          rw [List.length_drop] at t2
          have t3 := List.length_filter_le (fun r : Row => decide (r.place = order[a])) rows
          rw [List.length_map]
          unfold kidsR
          omega
        have hx := ext_l (b := S.length) (n := S.length + 1) (S := S ++ [.dic kvs, .lst order]) (v := .lst ((kidsR rows order[a]).map Row.dot)) (app1 S _ _ _) rfl (by omega) zz
        rw [set1_] at hx
        simp only [evB, evS, evE, evEs, entry, List.length_cons, List.length_nil, List.map_cons, List.map_nil, List.cons_append, List.nil_append, List.getElem?_cons_zero, List.getElem?_cons_succ, Option.getD_some, Res.of_some, Res.bind_ok, Res.then_ok, Out.bind_nx, Out.bind_rt, asBl_bl, asBlO_bl, Option.map_some, idx_l, idx_t, len_l, len_t, peekI_, peek_bl_, peek_str_, peek_tup_, peek_lst_, peek_dic_, peek_scr_, peek_non_, lt_ii, gt_ii, ge_ii, eq_ii, add_ii, List.set_cons_zero, List.set_cons_succ, if_true, if_false, Bool.false_eq_true, decide_true, decide_false, List.replicate_succ, List.replicate_zero, Nat.reduceAdd, Nat.reduceSub, reduceCtorEq, reduceIte, envO, pk3, pk2, kind_l, kind_d, mok_ext, mok_get2, at_nat order hlt, pq, get2_d pk2 hdok, e1, srcArg, srcOf]
        rw [compL_pure (g := fun d => match d with
          | .tup [dot, _] => some dot
          | _ => none) (isLive_ok _ _ (by simp))]
        · have ef : ((kidsR rows order[a]).map Row.dv).filterMap (fun d => match d with
              | .tup [dot, _] => some dot
              | _ => none) = (kidsR rows order[a]).map Row.dot := by
            rw [List.filterMap_map]
            exact List.filterMap_eq_map ▸ rfl
          simp only [evB, evS, evE, evEs, entry, List.length_cons, List.length_nil, List.map_cons, List.map_nil, List.cons_append, List.nil_append, List.getElem?_cons_zero, List.getElem?_cons_succ, Option.getD_some, Res.of_some, Res.bind_ok, Res.then_ok, Out.bind_nx, Out.bind_rt, asBl_bl, asBlO_bl, Option.map_some, idx_l, idx_t, len_l, len_t, peekI_, peek_bl_, peek_str_, peek_tup_, peek_lst_, peek_dic_, peek_scr_, peek_non_, lt_ii, gt_ii, ge_ii, eq_ii, add_ii, List.set_cons_zero, List.set_cons_succ, if_true, if_false, Bool.false_eq_true, decide_true, decide_false, List.replicate_succ, List.replicate_zero, Nat.reduceAdd, Nat.reduceSub, reduceCtorEq, reduceIte, ef, hG, hx, nat_add1]
        · intro d hd2
          obtain ⟨r, hr1, rfl⟩ := List.mem_map.mp hd2
          simp only [evB, evS, evE, evEs, entry, List.length_cons, List.length_nil, List.map_cons, List.map_nil, List.cons_append, List.nil_append, List.getElem?_cons_zero, List.getElem?_cons_succ, Option.getD_some, Res.of_some, Res.bind_ok, Res.then_ok, Out.bind_nx, Out.bind_rt, asBl_bl, asBlO_bl, Option.map_some, idx_l, idx_t, len_l, len_t, peekI_, peek_bl_, peek_str_, peek_tup_, peek_lst_, peek_dic_, peek_scr_, peek_non_, lt_ii, gt_ii, ge_ii, eq_ii, add_ii, List.set_cons_zero, List.set_cons_succ, if_true, if_false, Bool.false_eq_true, decide_true, decide_false, List.replicate_succ, List.replicate_zero, Nat.reduceAdd, Nat.reduceSub, reduceCtorEq, reduceIte, Row.dv, wipe, bindTo, List.zip_cons_cons, List.zip_nil_right, List.foldl_cons, List.foldl_nil, evC]
          rfl
    · have ea : a = order.length := by have := bf.le; omega
      refine .inl ⟨?_, order, a, rfl, rfl, bf, ea⟩
      simp only [evB, evS, evE, evEs, entry, List.length_cons, List.length_nil, List.map_cons, List.map_nil, List.cons_append, List.nil_append, List.getElem?_cons_zero, List.getElem?_cons_succ, Option.getD_some, Res.of_some, Res.bind_ok, Res.then_ok, Out.bind_nx, Out.bind_rt, asBl_bl, asBlO_bl, Option.map_some, idx_l, idx_t, len_l, len_t, peekI_, peek_bl_, peek_str_, peek_tup_, peek_lst_, peek_dic_, peek_scr_, peek_non_, lt_ii, gt_ii, ge_ii, eq_ii, add_ii, List.set_cons_zero, List.set_cons_succ, if_true, if_false, Bool.false_eq_true, decide_true, decide_false, List.replicate_succ, List.replicate_zero, Nat.reduceAdd, Nat.reduceSub, reduceCtorEq, reduceIte, envO, pk3]
      simp only [Int.ofNat_lt, hlt, decide_false]
end DP

namespace DP
open PySem
mutual
def Tr.cnt : Tr → Nat
  | .node _ _ cs => Tr.cnts cs + 1
def Tr.cnts : List Tr → Nat
  | [] => 0
  | t :: ts => Tr.cnt t + Tr.cnts ts
end
mutual
theorem sg_len : ∀ t : Tr, t.sg.length = 2 * t.cnt
  | .node n v cs => by
    have := sgs_len cs
    simp only [Tr.sg, List.length_cons, List.length_append, Tr.cnt, List.length_nil]
    omega
theorem sgs_len : ∀ ts : List Tr, (Tr.sgs ts).length = 2 * Tr.cnts ts
  | [] => rfl
  | t :: ts => by
    have h1 := sg_len t
    have h2 := sgs_len ts
    simp only [Tr.sgs, List.length_append, Tr.cnts]
    omega
end
theorem cnts_sum : ∀ ts : List Tr, Tr.cnts ts = (ts.map Tr.cnt).sum
  | [] => rfl
  | t :: ts => by rw [Tr.cnts, cnts_sum ts, List.map_cons, List.sum_cons]
theorem sum_perm {l m : List Nat} (h : l.Perm m) : l.sum = m.sum := by
  induction h with
  | nil => rfl
  | cons x _ ih => rw [List.sum_cons, List.sum_cons, ih]
  | swap x y l => simp only [List.sum_cons]; omega
  | trans _ _ h1 h2 => exact h1.trans h2
theorem cnts_sort (ts : List Tr) : Tr.cnts (sortT ts) = Tr.cnts ts := by
  rw [cnts_sum, cnts_sum]
  exact sum_perm ((List.mergeSort_perm _ _).map _)
theorem tree_stable : ∀ {f g : Nat} {rows : List Row} {p : DV}, Deep f rows p → f ≤ g → treeT g rows p = treeT f rows p
  | 0, _, _, _, h, _ => h.elim
  | f + 1, 0, _, _, _, hg => by omega
  | f + 1, g + 1, rows, p, h, hg => by
    simp only [treeT]
    refine List.map_congr_left fun r hr => ?_
    obtain ⟨h1, h2⟩ := List.mem_filter.mp hr
    rw [tree_stable (h r h1 (of_decide_eq_true h2)) (by omega)]
theorem tree_kids {f : Nat} {rows : List Row} {p : DV} (h : Deep f rows p) : treeT f rows p = (kidsR rows p).map fun r => .node r.name r.val (sortT (treeT f rows r.dot)) := by
  cases f with
  | zero => exact h.elim
  | succ f =>
    show List.map _ _ = _
    refine List.map_congr_left fun r hr => ?_
    obtain ⟨h1, h2⟩ := List.mem_filter.mp hr
    rw [tree_stable (h r h1 (of_decide_eq_true h2)) (Nat.le_succ _)]
theorem cnts_tree : ∀ {f : Nat} {rows : List Row} {p : DV}, Deep f rows p → Tr.cnts (treeT f rows p) + 1 = size f rows p
  | 0, _, _, h => h.elim
  | f + 1, rows, p, h => by
    have e : ∀ R : List Row, (∀ r ∈ R, r ∈ rows ∧ r.place = p) → Tr.cnts (R.map fun r => .node r.name r.val (sortT (treeT f rows r.dot))) = (R.map fun r => size f rows r.dot).sum := by
      intro R
      induction R with
      | nil => intro _; rfl
      | cons r R ih =>
        intro hR
        obtain ⟨h1, h2⟩ := hR r List.mem_cons_self
        have q := cnts_tree (h r h1 h2)
        rw [List.map_cons, List.map_cons, Tr.cnts, Tr.cnt, cnts_sort, ih fun x hx => hR x (List.mem_cons_of_mem _ hx), List.sum_cons]
        omega
    have := e (kidsR rows p) fun r hr => ⟨(List.mem_filter.mp hr).1, of_decide_eq_true (List.mem_filter.mp hr).2⟩
    show Tr.cnts (List.map _ (kidsR rows p)) + 1 = 1 + _
    rw [this]; omega
theorem size_le_szs {f : Nat} {rows : List Row} {l : List DV} {q : DV} (h : q ∈ l) : size f rows q ≤ szs f rows l := by
  induction l with
  | nil => cases h
  | cons x xs ih =>
    simp only [szs, List.map_cons, List.sum_cons] at ih ⊢
    rcases List.mem_cons.mp h with e | h
    · subst e; omega
    · have := ih h; omega
/-! ### the little defs -/
theorem signs_of_spec {S : Store} {b : Nat} {pl : DV} {nm : Str} {v : Int} {x : DV} {cs : List Tr} (hx : peek S x = .lst (Tr.sgs cs)) (hz : (Tr.sgs cs).length ≤ 200000) :
    F_signs_of b [.tup [pl, .str nm, .int v], x] S = .ok (.lst (Tr.sg (.node nm v cs))) S := by
  have sz : (2000000 : Nat) < sizeLine := by rw [sizeLine_eq]; decide
  unfold F_signs_of runDef
  simp only [evB, evS, evE, evEs, entry, List.length_cons, List.length_nil, List.map_cons, List.map_nil, List.cons_append, List.nil_append, List.getElem?_cons_zero, List.getElem?_cons_succ, Option.getD_some, Res.of_some, Res.bind_ok, Res.then_ok, Out.bind_nx, Out.bind_rt, asBl_bl, asBlO_bl, Option.map_some, idx_l, idx_t, len_l, len_t, peekI_, peek_bl_, peek_str_, peek_tup_, peek_lst_, peek_dic_, peek_scr_, peek_non_, lt_ii, gt_ii, ge_ii, eq_ii, add_ii, List.set_cons_zero, List.set_cons_succ, if_true, if_false, Bool.false_eq_true, decide_true, decide_false, List.replicate_succ, List.replicate_zero, Nat.reduceAdd, Nat.reduceSub, reduceCtorEq, reduceIte, b_signs_of, idx3_1, idx3_2, hx, cat_l (x := [DV.tup [.int 1, .str nm, .int v]]) (y := Tr.sgs cs) (by simp only [List.length_singleton]; omega), cat_l (x := [DV.tup [.int 1, .str nm, .int v]] ++ Tr.sgs cs) (y := [DV.tup [.int 0]]) (by simp only [List.length_append, List.length_singleton]; omega), cat_l (x := DV.tup [.int 1, .str nm, .int v] :: Tr.sgs cs) (y := [DV.tup [.int 0]]) (by simp only [List.length_cons, List.length_nil]; omega)]
  have pu : (DV.lst (Tr.sg (.node nm v cs))).pure = true := by
    simp only [DV.pure]
    exact pures_flats _ (sg_flats (sg_is _)).1
  exact fin_same pu (Same.refl S)
theorem part_of_spec {S : Store} {b : Nat} {pl : DV} {nm : Str} {v : Int} {cs : List Tr} :
    F_part_of b [.tup [pl, .str nm, .int v], .tup (cs.map Tr.it)] S = .ok (Tr.it (.node nm v cs)) S := by
  unfold F_part_of runDef
  simp only [evB, evS, evE, evEs, entry, List.length_cons, List.length_nil, List.map_cons, List.map_nil, List.cons_append, List.nil_append, List.getElem?_cons_zero, List.getElem?_cons_succ, Option.getD_some, Res.of_some, Res.bind_ok, Res.then_ok, Out.bind_nx, Out.bind_rt, asBl_bl, asBlO_bl, Option.map_some, idx_l, idx_t, len_l, len_t, peekI_, peek_bl_, peek_str_, peek_tup_, peek_lst_, peek_dic_, peek_scr_, peek_non_, lt_ii, gt_ii, ge_ii, eq_ii, add_ii, List.set_cons_zero, List.set_cons_succ, if_true, if_false, Bool.false_eq_true, decide_true, decide_false, List.replicate_succ, List.replicate_zero, Nat.reduceAdd, Nat.reduceSub, reduceCtorEq, reduceIte, b_part_of, idx3_1, idx3_2]
  have e : DV.tup [.str nm, .int v, .tup (cs.map Tr.it)] = Tr.it (.node nm v cs) := by rw [Tr.it, its_map]
  rw [e]
  exact fin_same (pure_flat _ (it_flat _)) (Same.refl S)
end DP

namespace DP
open PySem
abbrev St4 (S : Store) (kvs : List (DV × DV)) (order : List DV) (fnd sgn : List (DV × DV)) (L : Store) : Store := S ++ .dic kvs :: .lst order :: .dic fnd :: .dic sgn :: L
def envP (T p : DV) (n : Nat) (at_ : Int) (x7 x8 x9 x10 x11 x12 x13 : Option DV) : Env := [some T, some p, some (.loc n), some (.loc (n + 1)), some (.int at_), some (.loc (n + 2)), some (.loc (n + 3)), x7, x8, x9, x10, x11, x12, x13]
theorem ap2 (S : Store) (a b c d : MO) (L : Store) : (S ++ a :: b :: c :: d :: L)[S.length + 2]? = some c := app_get S (a :: b :: c :: d :: L) 2
theorem ap3 (S : Store) (a b c d : MO) (L : Store) : (S ++ a :: b :: c :: d :: L)[S.length + 3]? = some d := app_get S (a :: b :: c :: d :: L) 3
theorem ap4 (S : Store) (a b c d : MO) (L : Store) (j : Nat) : (S ++ a :: b :: c :: d :: L)[S.length + 4 + j]? = L[j]? := by
  have := app_get S (a :: b :: c :: d :: L) (4 + j)
  rw [← Nat.add_assoc] at this
  rw [this]
  show (a :: b :: c :: d :: L)[4 + j]? = _
  rw [Nat.add_comm]; rfl
/-- found, signs of those that are done -/
structure DoneOk (K : Nat) (rows : List Row) (n : Nat) (done : List DV) (fnd sgn : List (DV × DV)) (L : Store) : Prop where
  fk : Ks fnd
  sk : Ks sgn
  fl : fnd.length ≤ done.length
  sl : sgn.length ≤ done.length
  fd : ∀ q ∈ done, dget fnd q = some (.tup ((sortT (treeT K rows q)).map Tr.it))
  sg : ∀ q ∈ done, ∃ j, dget sgn q = some (.loc (n + 4 + j)) ∧ L[j]? = some (.lst (Tr.sgs (sortT (treeT K rows q))))
theorem dget_idx {kvs : List (DV × DV)} {k : DV} (h : dok kvs k = true) : idx (.dic kvs) k = dget kvs k := by
  have : idx (.dic kvs) k = if dok kvs k then dget kvs k else none := by cases k <;> rfl
  rw [this, h]; rfl
theorem filterMap_all {α β : Type} {g : α → Option β} {h : α → β} : ∀ {l : List α}, (∀ x ∈ l, g x = some (h x)) → l.filterMap g = l.map h
  | [], _ => rfl
  | x :: xs, k => by rw [List.filterMap_cons, k x List.mem_cons_self, filterMap_all fun y hy => k y (List.mem_cons_of_mem _ hy)]; rfl
/-- the trees of a place's kids -/
abbrev kidT (K : Nat) (rows : List Row) (q : DV) : List Tr := (kidsR rows q).map fun r => .node r.name r.val (sortT (treeT K rows r.dot))
theorem range_zip {α : Type} (ts : List α) (f : α → Nat → DV) : (List.range ts.length).filterMap (fun i => (ts[i]?).map fun t => f t i) = ts.zipIdx.map fun p => f p.1 p.2 := by
  rw [filterMap_all (h := fun i => match ts[i]? with | some t => f t i | none => .non)]
  · apply List.ext_getElem
    · simp
    · intro i h1 h2
      simp at h1
      simp [h1]
  · intro i hi
    have := List.mem_range.mp hi
    simp [this]
theorem pairs_comp {G : Ctx} {S : Store} {K : Nat} {rows : List Row} {T p q : DV} {at_ : Int} {kvs fnd sgn : List (DV × DV)} {order : List DV} {L : Store} {done : List DV} {x8 x9 x11 x12 x13 : Option DV} (hG : G.fs = [F_signs_of, F_part_of]) (hr : ∀ r ∈ rows, r.Ok) (hl : rows.length ≤ 1000) (D : DoneOk K rows S.length done fnd sgn L) (hk : ∀ r ∈ kidsR rows q, r.dot ∈ done) (hd : Deep K rows q) (hs : size K rows q ≤ 100000) :
    evE G (.blt .sorted [.comp (.tup [.call 0 [.idx (.idx (.var 10) (.var 13)) (.int 1), .idx (.var 6) (.idx (.idx (.var 10) (.var 13)) (.int 0))], .var 13]) (.nm 13) .rng1 [.blt .len [.var 10]] [] [13]]) (envP T p S.length at_ (some q) x8 x9 (some (.lst ((kidsR rows q).map Row.dv))) x11 x12 x13) (St4 S kvs order fnd sgn L) =
      .ok (.lst (((kidT K rows q).zipIdx.mergeSort fun a b => DV.leb (.tup [.lst a.1.sg, .int a.2]) (.tup [.lst b.1.sg, .int b.2])).map fun a => DV.tup [.lst a.1.sg, .int a.2])) (St4 S kvs order fnd sgn L) := by
  have sz : (2000000 : Nat) < sizeLine := by rw [sizeLine_eq]; decide
  have nl : ((kidsR rows q).map Row.dv).length ≤ 1000 := by rw [List.length_map]; exact Nat.le_trans (List.length_filter_le _ _) hl
  have pk6 : peek (St4 S kvs order fnd sgn L) (.loc (S.length + 3)) = .dic sgn := peek_dicL (ap3 _ _ _ _ _ _)
  simp only [evB, evS, evE, evEs, entry, List.length_cons, List.length_nil, List.map_cons, List.map_nil, List.cons_append, List.nil_append, List.getElem?_cons_zero, List.getElem?_cons_succ, Option.getD_some, Res.of_some, Res.bind_ok, Res.then_ok, Out.bind_nx, Out.bind_rt, asBl_bl, asBlO_bl, Option.map_some, idx_l, idx_t, len_l, len_t, peekI_, peek_bl_, peek_str_, peek_tup_, peek_lst_, peek_dic_, peek_scr_, peek_non_, lt_ii, gt_ii, ge_ii, eq_ii, add_ii, List.set_cons_zero, List.set_cons_succ, if_true, if_false, Bool.false_eq_true, decide_true, decide_false, List.replicate_succ, List.replicate_zero, Nat.reduceAdd, Nat.reduceSub, reduceCtorEq, reduceIte, envP, srcArg, srcOf]
  rw [if_pos (by omega)]
  simp only [evB, evS, evE, evEs, entry, List.length_cons, List.length_nil, List.map_cons, List.map_nil, List.cons_append, List.nil_append, List.getElem?_cons_zero, List.getElem?_cons_succ, Option.getD_some, Res.of_some, Res.bind_ok, Res.then_ok, Out.bind_nx, Out.bind_rt, asBl_bl, asBlO_bl, Option.map_some, idx_l, idx_t, len_l, len_t, peekI_, peek_bl_, peek_str_, peek_tup_, peek_lst_, peek_dic_, peek_scr_, peek_non_, lt_ii, gt_ii, ge_ii, eq_ii, add_ii, List.set_cons_zero, List.set_cons_succ, if_true, if_false, Bool.false_eq_true, decide_true, decide_false, List.replicate_succ, List.replicate_zero, Nat.reduceAdd, Nat.reduceSub, reduceCtorEq, reduceIte]
  rw [compL_pure (g := fun d => match d with
    | .int i => ((kidT K rows q)[i.toNat]?).map fun t => DV.tup [.lst t.sg, .int i]
    | _ => none) (isLive_ok _ _ (by simp))]
  · have e : ((List.range (((kidsR rows q).map Row.dv).length : Int).toNat).map fun (i : Nat) => DV.int (i : Int)).filterMap (fun d => match d with
        | .int i => ((kidT K rows q)[i.toNat]?).map fun t => DV.tup [.lst t.sg, .int i]
        | _ => none) = (kidT K rows q).zipIdx.map fun a => DV.tup [.lst a.1.sg, .int a.2] := by
      rw [List.filterMap_map]
      have hn : (((kidsR rows q).map Row.dv).length : Int).toNat = (kidT K rows q).length := by simp [kidT]
      rw [hn]
      exact range_zip (kidT K rows q) fun t i => DV.tup [.lst t.sg, .int i]
    simp only [evB, evS, evE, evEs, entry, List.length_cons, List.length_nil, List.map_cons, List.map_nil, List.cons_append, List.nil_append, List.getElem?_cons_zero, List.getElem?_cons_succ, Option.getD_some, Res.of_some, Res.bind_ok, Res.then_ok, Out.bind_nx, Out.bind_rt, asBl_bl, asBlO_bl, Option.map_some, idx_l, idx_t, len_l, len_t, peekI_, peek_bl_, peek_str_, peek_tup_, peek_lst_, peek_dic_, peek_scr_, peek_non_, lt_ii, gt_ii, ge_ii, eq_ii, add_ii, List.set_cons_zero, List.set_cons_succ, if_true, if_false, Bool.false_eq_true, decide_true, decide_false, List.replicate_succ, List.replicate_zero, Nat.reduceAdd, Nat.reduceSub, reduceCtorEq, reduceIte, e, sorted_l, sorted_pairs]
  · intro d hd2
    obtain ⟨i, hi, rfl⟩ := List.mem_map.mp hd2
    have hi := List.mem_range.mp hi
    have hi' : i < (kidsR rows q).length := by rw [List.length_map] at hi; omega
    have hm := List.getElem_mem hi'
    have okr := hr _ (List.mem_filter.mp hm).1
    obtain ⟨j, e1, e2⟩ := D.sg _ (hk _ hm)
    have ai : L2.atI ((kidsR rows q).map Row.dv) (i : Int) = some (kidsR rows q)[i].dv := by rw [at_nat _ (by rw [List.length_map]; exact hi'), List.getElem_map]
    have pd : ∀ S, peek S (kidsR rows q)[i].dot = (kidsR rows q)[i].dot := fun S => peek_tk okr.dot
    have gi := dget_idx (D.sk.dok okr.dot)
    have pj : peek (St4 S kvs order fnd sgn L) (.loc (S.length + 4 + j)) = .lst (Tr.sgs (sortT (treeT K rows (kidsR rows q)[i].dot))) := peek_lstAt (by rw [ap4]; exact e2)
    have hz : (Tr.sgs (sortT (treeT K rows (kidsR rows q)[i].dot))).length ≤ 200000 := by
      rw [sgs_len, cnts_sort]
      have h1 := cnts_tree (hd.kid hm)
      have h2 := size_kids hd
      have h3 : size K rows (kidsR rows q)[i].dot ≤ ((kidsR rows q).map fun r => size K rows r.dot).sum := by
        rw [← szs_kids]; exact size_le_szs (List.mem_map.mpr ⟨_, hm, rfl⟩)
      omega
    have sp := signs_of_spec (b := G.base) (pl := (kidsR rows q)[i].place) (nm := (kidsR rows q)[i].name) (v := (kidsR rows q)[i].val) pj hz
    have at2_0 : ∀ a b : DV, L2.atI [a, b] 0 = some a := fun _ _ => rfl
    have at2_1 : ∀ a b : DV, L2.atI [a, b] 1 = some b := fun _ _ => rfl
    simp only [evB, evS, evE, evEs, entry, List.length_cons, List.length_nil, List.map_cons, List.map_nil, List.cons_append, List.nil_append, List.getElem?_cons_zero, List.getElem?_cons_succ, Option.getD_some, Res.of_some, Res.bind_ok, Res.then_ok, Out.bind_nx, Out.bind_rt, asBl_bl, asBlO_bl, Option.map_some, idx_l, idx_t, len_l, len_t, peekI_, peek_bl_, peek_str_, peek_tup_, peek_lst_, peek_dic_, peek_scr_, peek_non_, lt_ii, gt_ii, ge_ii, eq_ii, add_ii, List.set_cons_zero, List.set_cons_succ, if_true, if_false, Bool.false_eq_true, decide_true, decide_false, List.replicate_succ, List.replicate_zero, Nat.reduceAdd, Nat.reduceSub, reduceCtorEq, reduceIte, wipe, bindTo, evC, ai, Row.dv, Row.thing, at2_0, at2_1, pk6, pd, gi, e1, hG, sp]
    simp [noExc, hi', kidT]
end DP

namespace DP
open PySem
/-- the kids in the order of their signs -/
abbrev srt (ts : List Tr) : List (Tr × Nat) := ts.zipIdx.mergeSort fun a b => DV.leb (.tup [.lst a.1.sg, .int a.2]) (.tup [.lst b.1.sg, .int b.2])
theorem srt_mem {ts : List Tr} {a : Tr × Nat} (h : a ∈ srt ts) : ts[a.2]? = some a.1 := by
  have h := (List.mergeSort_perm _ _).mem_iff.mp h
  exact List.mem_zipIdx_iff_getElem?.mp h
theorem srt_its (ts : List Tr) : (srt ts).map (fun a => a.1.it) = (sortT ts).map Tr.it := by
  rw [sortT_its, (sort_signs ts.zipIdx).2]
  congr 1
  show List.map (Tr.it ∘ Prod.fst) ts.zipIdx = _
  rw [← List.map_map, List.zipIdx_map_fst]
theorem srt_sgs (ts : List Tr) : ((srt ts).map fun a => a.1.sg).flatten.length = 2 * Tr.cnts ts := by
  have e : ∀ l : List (Tr × Nat), (l.map fun a => a.1.sg).flatten.length = ((l.map fun a => 2 * a.1.cnt)).sum := by
    intro l
    induction l with
    | nil => rfl
    | cons a l ih => rw [List.map_cons, List.flatten_cons, List.length_append, ih, sg_len, List.map_cons, List.sum_cons]
  rw [e, sum_perm ((List.mergeSort_perm _ _).map _)]
  have e2 : ∀ (l : List Tr) (k : Nat), ((l.zipIdx k).map fun a => 2 * a.1.cnt).sum = 2 * Tr.cnts l := by
    intro l
    induction l with
    | nil => intro k; rfl
    | cons t l ih => intro k; rw [List.zipIdx_cons, List.map_cons, List.sum_cons, ih]; simp only [Tr.cnts]; omega
  exact e2 ts 0
theorem it_inj {a b : Tr} (h : a.it = b.it) : a = b := leb_anti (by rw [h]; unfold DV.leb DV.ltb; simp [PySem.W.dataLt, PyProof.Rows.lex_irrefl (O := PyProof.Rows.itemOrd)]) (by rw [h]; unfold DV.leb DV.ltb; simp [PySem.W.dataLt, PyProof.Rows.lex_irrefl (O := PyProof.Rows.itemOrd)])
theorem map_it_inj : ∀ {a b : List Tr}, a.map Tr.it = b.map Tr.it → a = b
  | [], [], _ => rfl
  | [], _ :: _, h => by simp at h
  | _ :: _, [], h => by simp at h
  | a :: as, b :: bs, h => by
    simp only [List.map_cons, List.cons.injEq] at h
    rw [it_inj h.1, map_it_inj h.2]
theorem srt_fst (ts : List Tr) : (srt ts).map (·.1) = sortT ts := map_it_inj (by rw [List.map_map]; exact srt_its ts)
theorem sgs_flat : ∀ ts : List Tr, Tr.sgs ts = (ts.map Tr.sg).flatten
  | [] => rfl
  | t :: ts => by rw [Tr.sgs, sgs_flat ts]; rfl
theorem srt_flat (ts : List Tr) : ((srt ts).map fun a => a.1.sg).flatten = Tr.sgs (sortT ts) := by
  rw [sgs_flat, ← srt_fst, List.map_map]; rfl
theorem parts_comp {G : Ctx} {S : Store} {K : Nat} {rows : List Row} {T p q : DV} {at_ : Int} {kvs fnd sgn : List (DV × DV)} {order : List DV} {L : Store} {done : List DV} {x8 x9 x12 x13 : Option DV} (hG : G.fs = [F_signs_of, F_part_of]) (hr : ∀ r ∈ rows, r.Ok) (D : DoneOk K rows S.length done fnd sgn L) (hk : ∀ r ∈ kidsR rows q, r.dot ∈ done) :
    evE G (.blt .tuple [.comp (.call 1 [.idx (.idx (.var 10) (.var 13)) (.int 1), .idx (.var 5) (.idx (.idx (.var 10) (.var 13)) (.int 0))]) (.tp [12, 13]) .seq [.var 11] [] [12, 13]]) (envP T p S.length at_ (some q) x8 x9 (some (.lst ((kidsR rows q).map Row.dv))) (some (.lst ((srt (kidT K rows q)).map fun a => DV.tup [.lst a.1.sg, .int a.2]))) x12 x13) (St4 S kvs order fnd sgn L) =
      .ok (.tup ((sortT (kidT K rows q)).map Tr.it)) (St4 S kvs order fnd sgn L) := by
  have pk5 : peek (St4 S kvs order fnd sgn L) (.loc (S.length + 2)) = .dic fnd := peek_dicL (ap2 _ _ _ _ _ _)
  simp only [evB, evS, evE, evEs, entry, List.length_cons, List.length_nil, List.map_cons, List.map_nil, List.cons_append, List.nil_append, List.getElem?_cons_zero, List.getElem?_cons_succ, Option.getD_some, Res.of_some, Res.bind_ok, Res.then_ok, Out.bind_nx, Out.bind_rt, asBl_bl, asBlO_bl, Option.map_some, idx_l, idx_t, len_l, len_t, peekI_, peek_bl_, peek_str_, peek_tup_, peek_lst_, peek_dic_, peek_scr_, peek_non_, lt_ii, gt_ii, ge_ii, eq_ii, add_ii, List.set_cons_zero, List.set_cons_succ, if_true, if_false, Bool.false_eq_true, decide_true, decide_false, List.replicate_succ, List.replicate_zero, Nat.reduceAdd, Nat.reduceSub, reduceCtorEq, reduceIte, envP, srcArg, srcOf]
  rw [compL_pure (g := fun d => match d with
    | .tup [_, .int i] => ((kidT K rows q)[i.toNat]?).map Tr.it
    | _ => none) (isLive_ok _ _ (by simp))]
  · have e : ((srt (kidT K rows q)).map fun a => DV.tup [.lst a.1.sg, .int a.2]).filterMap (fun d => match d with
        | .tup [_, .int i] => ((kidT K rows q)[i.toNat]?).map Tr.it
        | _ => none) = (sortT (kidT K rows q)).map Tr.it := by
      rw [List.filterMap_map, ← srt_its]
      refine filterMap_all fun a ha => ?_
      have := srt_mem ha
      show ((kidT K rows q)[((a.2 : Nat) : Int).toNat]?).map Tr.it = some a.1.it
      rw [Int.toNat_natCast, this]; rfl
    simp only [evB, evS, evE, evEs, entry, List.length_cons, List.length_nil, List.map_cons, List.map_nil, List.cons_append, List.nil_append, List.getElem?_cons_zero, List.getElem?_cons_succ, Option.getD_some, Res.of_some, Res.bind_ok, Res.then_ok, Out.bind_nx, Out.bind_rt, asBl_bl, asBlO_bl, Option.map_some, idx_l, idx_t, len_l, len_t, peekI_, peek_bl_, peek_str_, peek_tup_, peek_lst_, peek_dic_, peek_scr_, peek_non_, lt_ii, gt_ii, ge_ii, eq_ii, add_ii, List.set_cons_zero, List.set_cons_succ, if_true, if_false, Bool.false_eq_true, decide_true, decide_false, List.replicate_succ, List.replicate_zero, Nat.reduceAdd, Nat.reduceSub, reduceCtorEq, reduceIte, e, tuple_l]
  · intro d hd2
    obtain ⟨a, ha, rfl⟩ := List.mem_map.mp hd2
    have hm0 := srt_mem ha
    have hi' : a.2 < (kidsR rows q).length := by
      have := (List.getElem?_eq_some_iff.mp hm0).1
      simpa [kidT] using this
    have ea : a.1 = .node (kidsR rows q)[a.2].name (kidsR rows q)[a.2].val (sortT (treeT K rows (kidsR rows q)[a.2].dot)) := by
      rw [List.getElem?_map, List.getElem?_eq_getElem hi'] at hm0
      exact (Option.some.inj hm0).symm
    have hm := List.getElem_mem hi'
    have okr := hr _ (List.mem_filter.mp hm).1
    have e1 := D.fd _ (hk _ hm)
    have ai : L2.atI ((kidsR rows q).map Row.dv) (a.2 : Int) = some (kidsR rows q)[a.2].dv := by rw [at_nat _ (by rw [List.length_map]; exact hi'), List.getElem_map]
    have pd : ∀ S, peek S (kidsR rows q)[a.2].dot = (kidsR rows q)[a.2].dot := fun S => peek_tk okr.dot
    have gi := dget_idx (D.fk.dok okr.dot)
    have sp := part_of_spec (S := St4 S kvs order fnd sgn L) (b := G.base) (pl := (kidsR rows q)[a.2].place) (nm := (kidsR rows q)[a.2].name) (v := (kidsR rows q)[a.2].val) (cs := sortT (treeT K rows (kidsR rows q)[a.2].dot))
    have at2_0 : ∀ a b : DV, L2.atI [a, b] 0 = some a := fun _ _ => rfl
    have at2_1 : ∀ a b : DV, L2.atI [a, b] 1 = some b := fun _ _ => rfl
    simp only [evB, evS, evE, evEs, entry, List.length_cons, List.length_nil, List.map_cons, List.map_nil, List.cons_append, List.nil_append, List.getElem?_cons_zero, List.getElem?_cons_succ, Option.getD_some, Res.of_some, Res.bind_ok, Res.then_ok, Out.bind_nx, Out.bind_rt, asBl_bl, asBlO_bl, Option.map_some, idx_l, idx_t, len_l, len_t, peekI_, peek_bl_, peek_str_, peek_tup_, peek_lst_, peek_dic_, peek_scr_, peek_non_, lt_ii, gt_ii, ge_ii, eq_ii, add_ii, List.set_cons_zero, List.set_cons_succ, if_true, if_false, Bool.false_eq_true, decide_true, decide_false, List.replicate_succ, List.replicate_zero, Nat.reduceAdd, Nat.reduceSub, reduceCtorEq, reduceIte, wipe, bindTo, List.zip_cons_cons, List.zip_nil_right, List.foldl_cons, List.foldl_nil, evC, ai, Row.dv, Row.thing, at2_0, at2_1, pk5, pd, gi, e1, hG, sp]
    rw [← ea]
    simp [noExc, hm0]
/-- the signs of the kids, one behind another -/
theorem ext_loop {G : Ctx} {S : Store} {T p q : DV} {at_ : Int} {kvs fnd sgn : List (DV × DV)} {order : List DV} {L : Store} {x8 x9 x10 x11 x12 x13 : Option DV} (hG : G.base = S.length) (hq : tkey q = true) (hs : Ks sgn) (hg : dget sgn q = some (.loc (S.length + 4 + L.length))) (ps : List (Tr × Nat)) (hz : (ps.map fun a => a.1.sg).flatten.length ≤ 1000000) :
    ∃ y12 y13, forL (.tp [12, 13]) (evB G [.expr (.meth .extend (.idx (.var 6) (.var 7)) [.var 12])]) (isLive [.lst (ps.map fun a => DV.tup [.lst a.1.sg, .int a.2])] (St4 S kvs order fnd sgn (L ++ [.lst []]))) (ps.map fun a => DV.tup [.lst a.1.sg, .int a.2])
      (envP T p S.length at_ (some q) x8 x9 x10 x11 x12 x13) (St4 S kvs order fnd sgn (L ++ [.lst []])) = .nx (envP T p S.length at_ (some q) x8 x9 x10 x11 y12 y13) (St4 S kvs order fnd sgn (L ++ [.lst (ps.map fun a => a.1.sg).flatten])) := by
  have sz : (2000000 : Nat) < sizeLine := by rw [sizeLine_eq]; decide
  have h := forL_inv (tg := .tp [12, 13]) (b := evB G [.expr (.meth .extend (.idx (.var 6) (.var 7)) [.var 12])]) (chk := isLive [.lst (ps.map fun a => DV.tup [.lst a.1.sg, .int a.2])] (St4 S kvs order fnd sgn (L ++ [.lst []]))) (items := ps.map fun a => DV.tup [.lst a.1.sg, .int a.2])
    (fun i e S' => ∃ y12 y13, e = envP T p S.length at_ (some q) x8 x9 x10 x11 y12 y13 ∧ S' = St4 S kvs order fnd sgn (L ++ [.lst ((ps.take i).map fun a => a.1.sg).flatten]))
    (fun i e S' _ => rfl) (fun i hi e S' ⟨y12, y13, he, hS⟩ => ?_) (ps.map fun a => DV.tup [.lst a.1.sg, .int a.2]).length 0 (envP T p S.length at_ (some q) x8 x9 x10 x11 x12 x13) (St4 S kvs order fnd sgn (L ++ [.lst []])) (by simp) (Nat.zero_le _) ⟨x12, x13, rfl, rfl⟩
  · rw [List.drop_zero] at h
    obtain ⟨e2, S2, h1, y12, y13, rfl, rfl⟩ := h
    rw [List.length_map, List.take_length] at h1
    exact ⟨y12, y13, h1⟩
  · subst he hS
    have hi' : i < ps.length := by simpa using hi
    have eg : (ps.map fun a => DV.tup [.lst a.1.sg, .int a.2])[i] = DV.tup [.lst ps[i].1.sg, .int ps[i].2] := by simp
    rw [eg]
    have pk6 : peek (St4 S kvs order fnd sgn (L ++ [.lst ((ps.take i).map fun a => a.1.sg).flatten])) (.loc (S.length + 3)) = .dic sgn := peek_dicL (ap3 _ _ _ _ _ _)
    have gi := dget_idx (hs.dok hq)
    have pq : ∀ S, peek S q = q := fun S => peek_tk hq
    have hat : (St4 S kvs order fnd sgn (L ++ [.lst ((ps.take i).map fun a => a.1.sg).flatten]))[S.length + 4 + L.length]? = some (.lst ((ps.take i).map fun a => a.1.sg).flatten) := by rw [ap4, List.getElem?_append_right (Nat.le_refl _)]; simp
    have pkl := peek_lstAt hat
    have e3 : (ps.take (i + 1)).map (fun a => a.1.sg) = (ps.take i).map (fun a => a.1.sg) ++ [ps[i].1.sg] := by rw [List.take_add_one, List.getElem?_eq_getElem hi', List.map_append]; rfl
    have e4 : ((ps.take (i + 1)).map fun a => a.1.sg).flatten = ((ps.take i).map fun a => a.1.sg).flatten ++ ps[i].1.sg := by rw [e3, List.flatten_append]; simp
    have zz : ((ps.take i).map fun a => a.1.sg).flatten.length + ps[i].1.sg.length ≤ sizeLine := by
      have : ((ps.take (i + 1)).map fun a => a.1.sg).flatten.length ≤ (ps.map fun a => a.1.sg).flatten.length := by
        conv => rhs; rw [← List.take_append_drop (i + 1) ps, List.map_append, List.flatten_append, List.length_append]
        omega
      rw [e4, List.length_append] at this
      omega
    have hx := ext_l (b := S.length) (n := S.length + 4 + L.length) (v := .lst ps[i].1.sg) hat rfl (by omega) zz
    have hset : (St4 S kvs order fnd sgn (L ++ [.lst ((ps.take i).map fun a => a.1.sg).flatten])).set (S.length + 4 + L.length) (.lst (((ps.take i).map fun a => a.1.sg).flatten ++ ps[i].1.sg)) = St4 S kvs order fnd sgn (L ++ [.lst ((ps.take (i + 1)).map fun a => a.1.sg).flatten]) := by
      have := app_set S (.dic kvs :: .lst order :: .dic fnd :: .dic sgn :: (L ++ [.lst ((ps.take i).map fun a => a.1.sg).flatten])) (4 + L.length) (.lst (((ps.take i).map fun a => a.1.sg).flatten ++ ps[i].1.sg))
      rw [← Nat.add_assoc] at this
      rw [this, e4]
      congr 1
      show List.set _ (4 + L.length) _ = _
      rw [Nat.add_comm 4]
      show .dic kvs :: .lst order :: .dic fnd :: .dic sgn :: (L ++ [_]).set L.length _ = _
      rw [List.set_append_right _ _ (Nat.le_refl _)]; simp
    rw [hset] at hx
    refine ⟨envP T p S.length at_ (some q) x8 x9 x10 x11 (some (.lst ps[i].1.sg)) (some (.int ps[i].2)), envP T p S.length at_ (some q) x8 x9 x10 x11 (some (.lst ps[i].1.sg)) (some (.int ps[i].2)), St4 S kvs order fnd sgn (L ++ [.lst ((ps.take (i + 1)).map fun a => a.1.sg).flatten]), ?_, ?_, _, _, rfl, rfl⟩
    · simp only [evB, evS, evE, evEs, entry, List.length_cons, List.length_nil, List.map_cons, List.map_nil, List.cons_append, List.nil_append, List.getElem?_cons_zero, List.getElem?_cons_succ, Option.getD_some, Res.of_some, Res.bind_ok, Res.then_ok, Out.bind_nx, Out.bind_rt, asBl_bl, asBlO_bl, Option.map_some, idx_l, idx_t, len_l, len_t, peekI_, peek_bl_, peek_str_, peek_tup_, peek_lst_, peek_dic_, peek_scr_, peek_non_, lt_ii, gt_ii, ge_ii, eq_ii, add_ii, List.set_cons_zero, List.set_cons_succ, if_true, if_false, Bool.false_eq_true, decide_true, decide_false, List.replicate_succ, List.replicate_zero, Nat.reduceAdd, Nat.reduceSub, reduceCtorEq, reduceIte, envP, bindTo, List.zip_cons_cons, List.zip_nil_right, List.foldl_cons, List.foldl_nil]
    · simp only [evB, evS, evE, evEs, entry, List.length_cons, List.length_nil, List.map_cons, List.map_nil, List.cons_append, List.nil_append, List.getElem?_cons_zero, List.getElem?_cons_succ, Option.getD_some, Res.of_some, Res.bind_ok, Res.then_ok, Out.bind_nx, Out.bind_rt, asBl_bl, asBlO_bl, Option.map_some, idx_l, idx_t, len_l, len_t, peekI_, peek_bl_, peek_str_, peek_tup_, peek_lst_, peek_dic_, peek_scr_, peek_non_, lt_ii, gt_ii, ge_ii, eq_ii, add_ii, List.set_cons_zero, List.set_cons_succ, if_true, if_false, Bool.false_eq_true, decide_true, decide_false, List.replicate_succ, List.replicate_zero, Nat.reduceAdd, Nat.reduceSub, reduceCtorEq, reduceIte, envP, pk6, gi, hg, pkl, kind_l, mok_ext, hG, hx]
end DP

namespace DP
open PySem
def bodyR : List MS := [.asg 10 (.meth .get2 (.var 2) [.var 7, .lst []]), .asg 11 (.blt .sorted [.comp (.tup [.call 0 [.idx (.idx (.var 10) (.var 13)) (.int (1)), .idx (.var 6) (.idx (.idx (.var 10) (.var 13)) (.int (0)))], .var 13]) (.nm 13) .rng1 [.blt .len [.var 10]] [] [13]]), .sub (.var 5) (.var 7) (.blt .tuple [.comp (.call 1 [.idx (.idx (.var 10) (.var 13)) (.int (1)), .idx (.var 5) (.idx (.idx (.var 10) (.var 13)) (.int (0)))]) (.tp [12, 13]) .seq [.var 11] [] [12, 13]]), .sub (.var 6) (.var 7) (.new (.lst [])), .fors (.tp [12, 13]) .seq [.var 11] [.expr (.meth .extend (.idx (.var 6) (.var 7)) [.var 12])]]
theorem st_set2 (S : Store) (a b c d x : MO) (L : Store) : (S ++ a :: b :: c :: d :: L).set (S.length + 2) x = S ++ a :: b :: x :: d :: L := app_set S (a :: b :: c :: d :: L) 2 x
theorem st_set3 (S : Store) (a b c d x : MO) (L : Store) : (S ++ a :: b :: c :: d :: L).set (S.length + 3) x = S ++ a :: b :: c :: x :: L := app_set S (a :: b :: c :: d :: L) 3 x
theorem step_R {G : Ctx} {S : Store} {K : Nat} {rows : List Row} {T p q : DV} {at_ : Int} {kvs fnd sgn : List (DV × DV)} {order : List DV} {L : Store} {done : List DV} {x8 x9 x10 x11 x12 x13 : Option DV} (hG : G.fs = [F_signs_of, F_part_of]) (hB : G.base = S.length) (hr : ∀ r ∈ rows, r.Ok) (hl : rows.length ≤ 1000) (ik : InnerOk kvs rows) (D : DoneOk K rows S.length done fnd sgn L) (hL : L.length = done.length) (hdl : done.length ≤ 100000) (hq : tkey q = true) (hk : ∀ r ∈ kidsR rows q, r.dot ∈ done) (hd : Deep K rows q) (hs : size K rows q ≤ 100000) :
    ∃ y10 y11 y12 y13 fnd' sgn' L', evB G bodyR (envP T p S.length at_ (some q) x8 x9 x10 x11 x12 x13) (St4 S kvs order fnd sgn L) = .nx (envP T p S.length at_ (some q) x8 x9 y10 y11 y12 y13) (St4 S kvs order fnd' sgn' L') ∧ DoneOk K rows S.length (done ++ [q]) fnd' sgn' L' ∧ L'.length = (done ++ [q]).length := by
  have sz : (2000000 : Nat) < sizeLine := by rw [sizeLine_eq]; decide
  have pq : ∀ S, peek S q = q := fun S => peek_tk hq
  have pk2 : peek (St4 S kvs order fnd sgn L) (.loc S.length) = .dic kvs := peek_dicL (app0 S _ _)
  have hdok := ik.1.dok hq
  have e1 := ik.2 q
  have tk := tree_kids hd
  have h1 : evS G (.asg 10 (.meth .get2 (.var 2) [.var 7, .lst []])) (envP T p S.length at_ (some q) x8 x9 x10 x11 x12 x13) (St4 S kvs order fnd sgn L) = .nx (envP T p S.length at_ (some q) x8 x9 (some (.lst ((kidsR rows q).map Row.dv))) x11 x12 x13) (St4 S kvs order fnd sgn L) := by
    simp only [evB, evS, evE, evEs, entry, List.length_cons, List.length_nil, List.map_cons, List.map_nil, List.cons_append, List.nil_append, List.getElem?_cons_zero, List.getElem?_cons_succ, Option.getD_some, Res.of_some, Res.bind_ok, Res.then_ok, Out.bind_nx, Out.bind_rt, asBl_bl, asBlO_bl, Option.map_some, idx_l, idx_t, len_l, len_t, peekI_, peek_bl_, peek_str_, peek_tup_, peek_lst_, peek_dic_, peek_scr_, peek_non_, lt_ii, gt_ii, ge_ii, eq_ii, add_ii, List.set_cons_zero, List.set_cons_succ, if_true, if_false, Bool.false_eq_true, decide_true, decide_false, List.replicate_succ, List.replicate_zero, Nat.reduceAdd, Nat.reduceSub, reduceCtorEq, reduceIte, envP, pk2, kind_d, mok_get2, get2_d pk2 hdok, e1]
  have h2 := pairs_comp (G := G) (S := S) (T := T) (p := p) (at_ := at_) (kvs := kvs) (order := order) (x8 := x8) (x9 := x9) (x11 := x11) (x12 := x12) (x13 := x13) hG hr hl D hk hd hs
  have h3 := parts_comp (G := G) (S := S) (T := T) (p := p) (at_ := at_) (kvs := kvs) (order := order) (x8 := x8) (x9 := x9) (x12 := x12) (x13 := x13) hG hr D hk
  have s5 := sub_d (b := S.length) (n := S.length + 2) (k := q) (v := .tup ((sortT (kidT K rows q)).map Tr.it)) (ap2 S (.dic kvs) (.lst order) (.dic fnd) (.dic sgn) L) (D.fk.dok hq) (fits_up _ _ _ (by omega)) (by have := D.fl; omega)
  rw [st_set2] at s5
  have s6 := sub_d (b := S.length) (n := S.length + 3) (k := q) (v := .loc (S.length + 4 + L.length)) (ap3 S (.dic kvs) (.lst order) (.dic (dput fnd q (.tup ((sortT (kidT K rows q)).map Tr.it)))) (.dic sgn) (L ++ [.lst []])) (D.sk.dok hq) (fits_up _ _ _ (by omega)) (by have := D.sl; omega)
  rw [st_set3] at s6
  have hg : dget (dput sgn q (.loc (S.length + 4 + L.length))) q = some (.loc (S.length + 4 + L.length)) := by rw [dget_put, if_pos rfl]
  have zc : ((srt (kidT K rows q)).map fun a => a.1.sg).flatten.length ≤ 1000000 := by
    rw [srt_sgs]
    have h1 := cnts_tree hd
    rw [tk] at h1
    have h1 : Tr.cnts (kidT K rows q) + 1 = size K rows q := h1
    omega
  obtain ⟨y12, y13, h5⟩ := ext_loop (G := G) (T := T) (p := p) (at_ := at_) (kvs := kvs) (fnd := dput fnd q (.tup ((sortT (kidT K rows q)).map Tr.it))) (order := order) (x8 := x8) (x9 := x9) (x10 := some (.lst ((kidsR rows q).map Row.dv))) (x11 := some (.lst ((srt (kidT K rows q)).map fun a => DV.tup [.lst a.1.sg, .int a.2]))) (x12 := x12) (x13 := x13) hB hq (D.sk.put (v := .loc (S.length + 4 + L.length)) hq) hg (srt (kidT K rows q)) zc
  rw [srt_flat] at h5
  refine ⟨some (.lst ((kidsR rows q).map Row.dv)), some (.lst ((srt (kidT K rows q)).map fun a => DV.tup [.lst a.1.sg, .int a.2])), y12, y13, dput fnd q (.tup ((sortT (kidT K rows q)).map Tr.it)), dput sgn q (.loc (S.length + 4 + L.length)), L ++ [.lst (Tr.sgs (sortT (kidT K rows q)))], ?_, ?_, by simp [hL]⟩
  · unfold bodyR
    rw [evB, h1, Out.bind_nx, evB, evS, h2, Res.then_ok, Out.bind_nx]
    have ee : (envP T p S.length at_ (some q) x8 x9 (some (.lst ((kidsR rows q).map Row.dv))) x11 x12 x13).set 11 (some (.lst ((srt (kidT K rows q)).map fun a => DV.tup [.lst a.1.sg, .int a.2]))) = envP T p S.length at_ (some q) x8 x9 (some (.lst ((kidsR rows q).map Row.dv))) (some (.lst ((srt (kidT K rows q)).map fun a => DV.tup [.lst a.1.sg, .int a.2]))) x12 x13 := rfl
    rw [ee, evB, evS, h3, Res.then_ok]
    have v5 : ∀ S', evE G (.var 5) (envP T p S.length at_ (some q) x8 x9 (some (.lst ((kidsR rows q).map Row.dv))) (some (.lst ((srt (kidT K rows q)).map fun a => DV.tup [.lst a.1.sg, .int a.2]))) x12 x13) S' = .ok (.loc (S.length + 2)) S' := fun S' => by rw [evE]; rfl
    have v6 : ∀ S', evE G (.var 6) (envP T p S.length at_ (some q) x8 x9 (some (.lst ((kidsR rows q).map Row.dv))) (some (.lst ((srt (kidT K rows q)).map fun a => DV.tup [.lst a.1.sg, .int a.2]))) x12 x13) S' = .ok (.loc (S.length + 3)) S' := fun S' => by rw [evE]; rfl
    have v7 : ∀ S', evE G (.var 7) (envP T p S.length at_ (some q) x8 x9 (some (.lst ((kidsR rows q).map Row.dv))) (some (.lst ((srt (kidT K rows q)).map fun a => DV.tup [.lst a.1.sg, .int a.2]))) x12 x13) S' = .ok q S' := fun S' => by rw [evE]; rfl
    have v11 : ∀ S', evE G (.var 11) (envP T p S.length at_ (some q) x8 x9 (some (.lst ((kidsR rows q).map Row.dv))) (some (.lst ((srt (kidT K rows q)).map fun a => DV.tup [.lst a.1.sg, .int a.2]))) x12 x13) S' = .ok (.lst ((srt (kidT K rows q)).map fun a => DV.tup [.lst a.1.sg, .int a.2])) S' := fun S' => by rw [evE]; rfl
    have nw : ∀ e S', evE G (.new (.lst [])) e S' = .ok (.loc S'.length) (S' ++ [.lst []]) := fun e S' => by rw [evE, evE, evEs]; rfl
    rw [v5, Res.then_ok, v7, Res.then_ok, hB, s5, Res.then_ok, Out.bind_nx, evB, evS, nw, Res.then_ok, v6, Res.then_ok, v7, Res.then_ok, hB]
    have ln : (St4 S kvs order (dput fnd q (.tup ((sortT (kidT K rows q)).map Tr.it))) sgn L).length = S.length + 4 + L.length := by simp [St4]; omega
    have ap : St4 S kvs order (dput fnd q (.tup ((sortT (kidT K rows q)).map Tr.it))) sgn L ++ [.lst []] = St4 S kvs order (dput fnd q (.tup ((sortT (kidT K rows q)).map Tr.it))) sgn (L ++ [.lst []]) := by simp [St4]
    rw [ln, ap, s6, Res.then_ok, Out.bind_nx, evB, evS, evEs, v11, Res.bind_ok, evEs, Res.bind_ok, Res.then_ok]
    refine Eq.trans (congrArg (fun o => Out.bind o (evB G [])) h5) ?_
    show Out.bind (.nx _ _) _ = _
    rw [Out.bind_nx, evB]
  · have pt : treeT K rows q = kidT K rows q := tk
    refine ⟨D.fk.put hq, D.sk.put hq, ?_, ?_, ?_, ?_⟩
    · have := dput_length fnd q (.tup ((sortT (kidT K rows q)).map Tr.it))
      have := D.fl
      simp only [List.length_append, List.length_singleton]; omega
    · have := dput_length sgn q (.loc (S.length + 4 + L.length))
      have := D.sl
      simp only [List.length_append, List.length_singleton]; omega
    · intro x hx
      rw [dget_put]
      by_cases e : x = q
      · subst e; rw [if_pos rfl, pt]
      · rw [if_neg e]
        rcases List.mem_append.mp hx with hx | hx
        · exact D.fd x hx
        · exact absurd (List.mem_singleton.mp hx) e
    · intro x hx
      rw [dget_put]
      by_cases e : x = q
      · subst e
        refine ⟨L.length, if_pos rfl, ?_⟩
        rw [List.getElem?_append_right (Nat.le_refl _), pt]; simp
      · rw [if_neg e]
        rcases List.mem_append.mp hx with hx | hx
        · obtain ⟨j, g1, g2⟩ := D.sg x hx
          refine ⟨j, g1, ?_⟩
          rw [List.getElem?_append_left (List.getElem?_eq_some_iff.mp g2).1]; exact g2
        · exact absurd (List.mem_singleton.mp hx) e
end DP

namespace DP
open PySem
theorem outline_3 {G : Ctx} {S : Store} {K : Nat} {rows : List Row} {T p : DV} {at_ : Int} {kvs : List (DV × DV)} {order : List DV} {x8 x9 : Option DV} {a : Nat} (hG : G.fs = [F_signs_of, F_part_of]) (hB : G.base = S.length) (hr : ∀ r ∈ rows, r.Ok) (hl : rows.length ≤ 1000) (ik : InnerOk kvs rows) (bf : Bfs K rows p order a) (ha : a = order.length) (ho : order.length ≤ 100000) (hs : size K rows p ≤ 100000) :
    ∃ e2 fnd sgn L, forL (.nm 7) (evB G bodyR) (isLive [.lst order.reverse] (St4 S kvs order [] [] [])) order.reverse (envP T p S.length at_ none x8 x9 none none none none) (St4 S kvs order [] [] []) = .nx e2 (St4 S kvs order fnd sgn L) ∧ (∃ x7 x10 x11 x12 x13, e2 = envP T p S.length at_ x7 x8 x9 x10 x11 x12 x13) ∧ DoneOk K rows S.length order.reverse fnd sgn L := by
  have szb : ∀ q ∈ order, size K rows q ≤ 100000 := by
    intro q hq
    have := bf.sz q hq
    omega
  have h := forL_inv (tg := .nm 7) (b := evB G bodyR) (chk := isLive [.lst order.reverse] (St4 S kvs order [] [] [])) (items := order.reverse)
    (fun i e S' => ∃ fnd sgn L x7 x10 x11 x12 x13, e = envP T p S.length at_ x7 x8 x9 x10 x11 x12 x13 ∧ S' = St4 S kvs order fnd sgn L ∧ DoneOk K rows S.length (order.reverse.take i) fnd sgn L ∧ L.length = (order.reverse.take i).length)
    (fun i e S' _ => rfl) (fun i hi e S' ⟨fnd, sgn, L, x7, x10, x11, x12, x13, he, hS, D, hL⟩ => ?_) order.reverse.length 0 (envP T p S.length at_ none x8 x9 none none none none) (St4 S kvs order [] [] []) (by simp) (Nat.zero_le _)
    ⟨[], [], [], none, none, none, none, none, rfl, rfl, ⟨Ks.nil, Ks.nil, Nat.le_refl _, Nat.le_refl _, fun q hq => by simp at hq, fun q hq => by simp at hq⟩, rfl⟩
  · rw [List.drop_zero] at h
    obtain ⟨e2, S2, h1, fnd, sgn, L, x7, x10, x11, x12, x13, rfl, rfl, D, _⟩ := h
    rw [List.take_length] at D
    exact ⟨_, fnd, sgn, L, h1, ⟨x7, x10, x11, x12, x13, rfl⟩, D⟩
  · subst he hS
    have hi' : i < order.length := by simpa using hi
    have hx : order.length - 1 - i < order.length := by omega
    have eq_ : order.reverse[i] = order[order.length - 1 - i] := List.getElem_reverse hi
    have hm : order.reverse[i] ∈ order := by rw [eq_]; exact List.getElem_mem hx
    have okq := bf.ok _ hm
    have hk : ∀ r ∈ kidsR rows order.reverse[i], r.dot ∈ order.reverse.take i := by
      intro r hrk
      have := bf.kid (order.length - 1 - i) order.reverse[i] (by omega) (by rw [List.getElem?_eq_getElem hx, eq_]) r hrk
      rw [List.take_reverse, List.mem_reverse]
      have e : order.length - 1 - i + 1 = order.length - i := by omega
      rw [e] at this
      exact this
    have hdl : (order.reverse.take i).length ≤ 100000 := by rw [List.length_take, List.length_reverse]; omega
    obtain ⟨y10, y11, y12, y13, fnd', sgn', L', h1, h2, h3⟩ := step_R (G := G) (T := T) (p := p) (at_ := at_) (order := order) (x8 := x8) (x9 := x9) (x10 := x10) (x11 := x11) (x12 := x12) (x13 := x13) hG hB hr hl ik D hL hdl okq.1 hk okq.2 (szb _ hm)
    have et : order.reverse.take i ++ [order.reverse[i]] = order.reverse.take (i + 1) := by rw [List.take_add_one, List.getElem?_eq_getElem hi]; rfl
    rw [et] at h2 h3
    exact ⟨_, _, _, rfl, h1, fnd', sgn', L', _, _, _, _, _, rfl, rfl, h2, h3⟩
theorem evB_nx {G : Ctx} {s : MS} {ss : List MS} {e e2 : Env} {S S2 : Store} (h : evS G s e S = .nx e2 S2) : evB G (s :: ss) e S = evB G ss e2 S2 := by rw [evB, h, Out.bind_nx]
theorem evB_rt {G : Ctx} {s : MS} {ss : List MS} {e : Env} {v : DV} {S S2 : Store} (h : evS G s e S = .rt v S2) : evB G (s :: ss) e S = .rt v S2 := by rw [evB, h, Out.bind_rt]
theorem evS_asg {G : Ctx} {i : Nat} {x : ME} {e : Env} {v : DV} {S S2 : Store} (h : evE G x e S = .ok v S2) : evS G (.asg i x) e S = .nx (e.set i (some v)) S2 := by rw [evS, h, Res.then_ok]
theorem evS_fors {G : Ctx} {tg : MT} {src : SK} {ses : List ME} {body : List MS} {e : Env} {S S2 : Store} {as items : List DV} (h : evEs G ses e S = .ok as S2) (h2 : srcOf src (srcArg src S2 as) = some items) : evS G (.fors tg src ses body) e S = forL tg (evB G body) (isLive as S2) items e S2 := by rw [evS, h, Res.then_ok, h2]
theorem evS_whl {G : Ctx} {k : Nat} {c : ME} {body : List MS} {e : Env} {S : Store} : evS G (.whl k c body) e S = whileL (evE G c) (evB G body) k e S := by rw [evS]
/-- a def's body ends in a result -/
theorem run_rt {fs : List Fn} {cs : List DV} {d : Def} {b : Nat} {args : List DV} {S S1 : Store} {v : DV} (hl : args.length = d.nargs) (hm : d.mode = .drop) (h : evB { fs := fs, cs := cs, base := S.length } d.body (entry d.nslots args) S = .rt v S1) (hv : v.pure = true) : runDef fs cs d b args S = .ok v (S1.take S.length) := by
  unfold runDef
  have md : (if d.mode = Mode.keep then b else S.length) = S.length := by rw [hm]; rfl
  rw [if_pos hl, md, h]
  show finish d.mode S S1 v = _
  rw [hm, fin_pure hv]
/-- outline_of(things, place) -/
theorem outline_of_spec {S : Store} {b K : Nat} {rows : List Row} {p : DV} (hr : ∀ r ∈ rows, r.Ok) (hl : rows.length ≤ 1000) (hp : tkey p = true) (hd : Deep K rows p) (hs : size K rows p ≤ 100000) :
    F_outline_of b [.tup (rows.map Row.dv), p] S = .ok (.tup ((sortT (treeT K rows p)).map Tr.it)) S := by
  generalize hG : ({ fs := [F_signs_of, F_part_of], cs := [], base := S.length } : Ctx) = G
  have hf : G.fs = [F_signs_of, F_part_of] := by rw [← hG]
  have hB : G.base = S.length := by rw [← hG]
  obtain ⟨x8, x9, kvs, h1, ik⟩ := outline_1 (G := G) (S := S) (p := p) hB hr hl
  obtain ⟨order, at_, h2, a, bf, ha, ho⟩ := outline_2 (G := G) (S := S) (T := .tup (rows.map Row.dv)) (x8 := x8) (x9 := x9) hB hr hl ik hp hd hs
  obtain ⟨e2, fnd, sgn, L, h3, ⟨x7, x10, x11, x12, x13, rfl⟩, D⟩ := outline_3 (G := G) (S := S) (T := .tup (rows.map Row.dv)) (p := p) (at_ := at_) (x8 := x8) (x9 := x9) hf hB hr hl ik bf ha ho hs
  have nd : ∀ e S', evE G (.new .newD) e S' = .ok (.loc S'.length) (S' ++ [.dic []]) := fun e S' => by rw [evE]; rfl
  have vr : ∀ i d e S', e[i]? = some (some d) → evE G (.var i) e S' = .ok d S' := fun i d e S' h => by rw [evE, h]; rfl
  have pm : p ∈ order.reverse := by
    rw [List.mem_reverse]
    have := bf.fst
    exact List.mem_of_getElem? this
  have tk : S = (St4 S kvs order fnd sgn L).take S.length := by simp [St4]
  have key : evB G b_outline_of.body (entry 14 [.tup (rows.map Row.dv), p]) S = .rt (.tup ((sortT (treeT K rows p)).map Tr.it)) (St4 S kvs order fnd sgn L) := by
    unfold b_outline_of
    refine (evB_nx (evS_asg (nd _ _))).trans ?_
    refine (evB_nx ((evS_fors (as := [.tup (rows.map Row.dv)]) (items := rows.map Row.dv) (by rw [evEs, vr 0 _ _ _ rfl]; rfl) rfl).trans h1)).trans ?_
    refine (evB_nx (evS_asg (v := .loc (S.length + 1)) (S2 := S ++ [.dic kvs, .lst [p]]) ?_)).trans ?_
    · rw [evE, evE, evEs, vr 1 _ _ _ rfl]; simp only [evEs, Res.bind_ok, lay, List.length_append, List.length_cons, List.length_nil, List.append_assoc, List.cons_append, List.nil_append]
    refine (evB_nx (evS_asg (v := .int 0) (S2 := S ++ [.dic kvs, .lst [p]]) (by rw [evE]))).trans ?_
    refine (evB_nx (evS_whl.trans h2)).trans ?_
    refine (evB_nx (evS_asg (v := .loc (S.length + 2)) (S2 := S ++ [.dic kvs, .lst order, .dic []]) ?_)).trans ?_
    · rw [nd]; simp
    refine (evB_nx (evS_asg (v := .loc (S.length + 3)) (S2 := St4 S kvs order [] [] []) ?_)).trans ?_
    · rw [nd]; simp
    refine (evB_nx ((evS_fors (as := [.lst order.reverse]) (items := order.reverse) ?_ rfl).trans h3)).trans ?_
    · rw [evEs, evE, vr 3 _ _ _ rfl, Res.bind_ok, peek_lstAt (app1 S _ _ _)]; simp only [evEs, Res.bind_ok]
    refine evB_rt ?_
    rw [evS, evE, vr 5 _ _ _ rfl, Res.bind_ok, vr 1 _ _ _ rfl, Res.bind_ok, peek_dicL (ap2 _ _ _ _ _ _), dget_idx (D.fk.dok hp), D.fd p pm]
    rfl
  have := run_rt (fs := [F_signs_of, F_part_of]) (cs := []) (d := b_outline_of) (b := b) (args := [.tup (rows.map Row.dv), p]) rfl rfl (hG ▸ key) (by simp only [DV.pure]; exact its_pure _)
  rw [← tk] at this
  exact this
end DP

namespace DP
open PySem
/-! ### dots -/
def Dt (is : List Int) (k : Int) : DV := .tup [.tup (is.map .int), .int k]
def IsDot (d : DV) : Prop := ∃ is k, d = Dt is k
theorem ints_keys : ∀ is : List Int, ∃ ks, DV.keys (is.map .int) = some ks
  | [] => ⟨_, rfl⟩
  | i :: is => by
    obtain ⟨ks, e⟩ := ints_keys is
    exact ⟨.num i :: ks, by simp only [List.map_cons, DV.keys, DV.key, e]⟩
theorem ints_depths : ∀ is : List Int, DV.depths (is.map .int) = 0
  | [] => rfl
  | i :: is => by simp [DV.depths, DV.depth, ints_depths is]
theorem dt_tk (is : List Int) (k : Int) : tkey (Dt is k) = true := by
  obtain ⟨ks, e⟩ := ints_keys is
  simp [tkey, Dt, DV.keys, DV.key, e, DV.depths, DV.depth, ints_depths]
theorem IsDot.tk {d : DV} (h : IsDot d) : tkey d = true := by obtain ⟨is, k, rfl⟩ := h; exact dt_tk is k
theorem un_tk : tkey (.tup []) = true := rfl
theorem ints_lex : ∀ (is js : List Int) (x y : List Tk), PySem.W.keyToksAll (DV.toPs (is.map .int)) ++ x = PySem.W.keyToksAll (DV.toPs (js.map .int)) ++ y → is = js ∧ x = y
  | [], [], x, y, h => by simpa [DV.toPs, PySem.W.keyToksAll] using h
  | [], j :: js, x, y, h => by simp [DV.toPs, DV.toP, PySem.W.keyToksAll] at h
  | i :: is, [], x, y, h => by simp [DV.toPs, DV.toP, PySem.W.keyToksAll] at h
  | i :: is, j :: js, x, y, h => by
    simp only [List.map_cons, DV.toPs, DV.toP, PySem.W.keyToksAll, PySem.W.keyToks, List.cons_append, List.nil_append, List.append_assoc, List.cons.injEq, Sum.inl.injEq, true_and] at h
    obtain ⟨h1, h2⟩ := ints_lex is js x y h.2
    exact ⟨by rw [h.1, h1], h2⟩
theorem dot_anti {a b : DV} (ha : IsDot a) (hb : IsDot b) (h1 : DV.leb a b = true) (h2 : DV.leb b a = true) : a = b := by
  obtain ⟨is, k, rfl⟩ := ha
  obtain ⟨js, l, rfl⟩ := hb
  unfold DV.leb at h1 h2
  simp only [Bool.not_eq_true'] at h1 h2
  have e : PySem.W.keyToks (Dt is k).toP = PySem.W.keyToks (Dt js l).toP := (PyProof.Rows.listOrd PyProof.Rows.itemOrd).total _ _ h2 h1
  simp only [Dt, DV.toP, DV.toPs, PySem.W.keyToks, PySem.W.keyToksAll, List.cons.injEq, true_and] at e
  obtain ⟨h3, h4⟩ := ints_lex is js _ _ e
  simp at h4
  rw [h3, h4]
theorem ints_flats (is : List Int) : DV.flats (is.map .int) = true := flats_of fun d h => by obtain ⟨i, _, rfl⟩ := List.mem_map.mp h; rfl
theorem ints_alikes : ∀ is js : List Int, DV.alikes (is.map .int) (js.map .int) = true
  | [], _ => by simp [DV.alikes]
  | _ :: _, [] => by simp [DV.alikes]
  | i :: is, j :: js => by simp [DV.alikes, DV.alike, ints_alikes is js]
theorem sorted_dots {l : List DV} (h : ∀ d ∈ l, IsDot d) : sorted l = some (.lst (l.mergeSort DV.leb)) := by
  refine sorted_of (fun a ha b hb => ?_) (fun a ha => ?_) (flats_of fun a ha => ?_) (depths_of fun a ha => ?_)
  · obtain ⟨is, k, rfl⟩ := h a ha
    obtain ⟨js, m, rfl⟩ := h b hb
    simp [Dt, DV.alike, DV.alikes, ints_alikes]
  · obtain ⟨is, k, rfl⟩ := h a ha; rfl
  · obtain ⟨is, k, rfl⟩ := h a ha; simp [Dt, DV.flat, DV.flats, ints_flats]
  · obtain ⟨is, k, rfl⟩ := h a ha; simp [Dt, DV.depth, DV.depths, ints_depths]
/-- the sorted dots are known by what they hold -/
theorem sort_dots {l m : List DV} (h : ∀ d ∈ m, IsDot d) (hp : l.Perm m) (hs : m.Pairwise fun a b => DV.leb a b = true) : l.mergeSort DV.leb = m := by
  refine List.Perm.eq_of_pairwise (le := fun a b => DV.leb a b = true) ?_ (leb_sorted _) hs ((List.mergeSort_perm _ _).trans hp)
  intro a b ha hb h1 h2
  have ha' := hp.mem_iff.mp ((List.mergeSort_perm _ _).mem_iff.mp ha)
  exact dot_anti (h a ha') (h b hb) h1 h2
/-- a row of a book -/
structure Row.Gd (r : Row) : Prop where
  dot : IsDot r.dot
  place : r.place = .tup [] ∨ IsDot r.place
theorem Row.Gd.ok {r : Row} (h : r.Gd) : r.Ok := by
  refine ⟨h.dot.tk, ?_⟩
  rcases h.place with e | e
  · rw [e]; rfl
  · exact e.tk
theorem IsDot.ne {d : DV} (h : IsDot d) : d ≠ .tup [] := by obtain ⟨is, k, rfl⟩ := h; simp [Dt]
end DP

namespace DP
open PySem
theorem nodup_le : ∀ {l m : List DV}, l.Nodup → (∀ x ∈ l, x ∈ m) → l.length ≤ m.length
  | [], m, _, _ => Nat.zero_le _
  | x :: l, m, h, s => by
    have hx := s x List.mem_cons_self
    obtain ⟨h1, h2⟩ := List.nodup_cons.mp h
    have := nodup_le (l := l) (m := m.erase x) h2 fun y hy => by
      have hne : y ≠ x := fun e => h1 (e ▸ hy)
      exact (List.mem_erase_of_ne hne).mpr (s y (List.mem_cons_of_mem _ hy))
    rw [List.length_erase_of_mem hx] at this
    have := List.length_pos_of_mem hx
    rw [List.length_cons]; omega
/-- the dots of a book are told apart -/
def Nd (rows : List Row) : Prop := (rows.map Row.dot).Nodup
theorem Nd.eq {rows : List Row} (h : Nd rows) {r s : Row} (hr : r ∈ rows) (hs : s ∈ rows) (e : r.dot = s.dot) : r = s := by
  unfold Nd at h
  induction rows with
  | nil => cases hr
  | cons x xs ih =>
    rw [List.map_cons, List.nodup_cons] at h
    rcases List.mem_cons.mp hr with h1 | h1 <;> rcases List.mem_cons.mp hs with h2 | h2
    · rw [h1, h2]
    · subst h1; exact absurd (List.mem_map.mpr ⟨s, h2, e.symm⟩) h.1
    · subst h2; exact absurd (List.mem_map.mpr ⟨r, h1, e⟩) h.1
    · exact ih h.2 h1 h2
/-- all kids of these places -/
def kidsL (rows : List Row) (P : List DV) : List DV := P.flatMap fun p => (kidsR rows p).map Row.dot
theorem kidsL_nodup {rows : List Row} (h : Nd rows) : ∀ {P : List DV}, P.Nodup → (kidsL rows P).Nodup
  | [], _ => List.nodup_nil
  | p :: P, hP => by
    obtain ⟨h1, h2⟩ := List.nodup_cons.mp hP
    show ((kidsR rows p).map Row.dot ++ kidsL rows P).Nodup
    rw [List.nodup_append]
    refine ⟨?_, kidsL_nodup h h2, ?_⟩
    · exact List.Nodup.sublist (List.filter_sublist.map _) h
    · intro a ha b hb e
      obtain ⟨r, hr, rfl⟩ := List.mem_map.mp ha
      obtain ⟨q, hq, hb⟩ := List.mem_flatMap.mp hb
      obtain ⟨s, hs, rfl⟩ := List.mem_map.mp hb
      obtain ⟨r1, r2⟩ := List.mem_filter.mp hr
      obtain ⟨s1, s2⟩ := List.mem_filter.mp hs
      have := h.eq r1 s1 e
      subst this
      have := of_decide_eq_true r2
      rw [← this, of_decide_eq_true s2] at h1
      exact h1 hq
theorem kidsL_len {rows : List Row} (h : Nd rows) {P : List DV} (hP : P.Nodup) : (kidsL rows P).length ≤ rows.length := by
  rw [← List.length_map (f := Row.dot)]
  refine nodup_le (kidsL_nodup h hP) fun d hd => ?_
  obtain ⟨q, hq, hb⟩ := List.mem_flatMap.mp hd
  obtain ⟨s, hs, rfl⟩ := List.mem_map.mp hb
  exact List.mem_map.mpr ⟨s, (List.mem_filter.mp hs).1, rfl⟩
theorem szs_succ (f : Nat) (rows : List Row) : ∀ P : List DV, szs (f + 1) rows P = P.length + szs f rows (kidsL rows P)
  | [] => rfl
  | p :: P => by
    have e : kidsL rows (p :: P) = (kidsR rows p).map Row.dot ++ kidsL rows P := rfl
    have e2 : szs (f + 1) rows (p :: P) = size (f + 1) rows p + szs (f + 1) rows P := by simp [szs]
    rw [e2, e, szs_append, szs_succ f rows P, szs_kids, List.length_cons, size]
    omega
theorem szs_bound {rows : List Row} (h : Nd rows) : ∀ (f : Nat) {P : List DV}, P.Nodup → szs f rows P ≤ P.length + f * rows.length
  | 0, P, _ => by
    have : ∀ P : List DV, szs 0 rows P = P.length := fun P => by
      induction P with
      | nil => rfl
      | cons p P ih => simp only [szs, List.map_cons, List.sum_cons, size, List.length_cons] at ih ⊢; omega
    rw [this]; omega
  | f + 1, P, hP => by
    rw [szs_succ]
    have h1 := szs_bound h f (kidsL_nodup h hP)
    have h2 := kidsL_len h hP
    rw [Nat.succ_mul]; omega
theorem size_bound {rows : List Row} (h : Nd rows) (f : Nat) (p : DV) : size f rows p ≤ 1 + f * rows.length := by
  have := szs_bound h f (P := [p]) (by simp)
  simpa [szs] using this
/-! ### the chain of places -/
def par (rows : List Row) (d : DV) : DV := match rows.find? fun r => decide (r.dot = d) with
  | some r => r.place
  | none => d
def climb (rows : List Row) : Nat → DV → DV
  | 0, d => d
  | n + 1, d => climb rows n (par rows d)
theorem par_row {rows : List Row} (h : Nd rows) {r : Row} (hr : r ∈ rows) : par rows r.dot = r.place := by
  unfold par
  cases e : rows.find? fun s => decide (s.dot = r.dot) with
  | none => have := List.find?_eq_none.mp e r hr; simp at this
  | some s =>
    have h1 := List.mem_of_find?_eq_some e
    have h2 := List.find?_some e
    rw [h.eq h1 hr (of_decide_eq_true h2)]
theorem par_un {rows : List Row} (g : ∀ r ∈ rows, r.Gd) : par rows (.tup []) = .tup [] := by
  unfold par
  cases e : rows.find? fun s => decide (s.dot = .tup []) with
  | none => rfl
  | some s =>
    have h1 := List.mem_of_find?_eq_some e
    have h2 := List.find?_some e
    have h2 := of_decide_eq_true h2
    exact absurd h2 (g s h1).dot.ne
theorem climb_un {rows : List Row} (g : ∀ r ∈ rows, r.Gd) : ∀ n, climb rows n (.tup []) = .tup []
  | 0 => rfl
  | n + 1 => by rw [climb, par_un g, climb_un g n]
theorem climb_add {rows : List Row} : ∀ (n m : Nat) (d : DV), climb rows (n + m) d = climb rows m (climb rows n d)
  | 0, m, d => by rw [Nat.zero_add]; rfl
  | n + 1, m, d => by rw [show n + 1 + m = (n + m) + 1 by omega, climb, climb, climb_add n m]
theorem climb_mono {rows : List Row} (g : ∀ r ∈ rows, r.Gd) {n m : Nat} {d : DV} (h : climb rows n d = .tup []) (hm : n ≤ m) : climb rows m d = .tup [] := by
  obtain ⟨k, rfl⟩ : ∃ k, m = n + k := ⟨m - n, by omega⟩
  rw [climb_add, h, climb_un g]
/-- the rows that are shown -/
def shownR (rows : List Row) : List Row := rows.filter fun r => decide (climb rows rows.length r.place = .tup [])
theorem deep_row {rows : List Row} (g : ∀ r ∈ rows, r.Gd) (h : Nd rows) : ∀ (m : Nat), m ≤ rows.length → ∀ r ∈ rows, (∀ j, j < rows.length - m → climb rows j r.place ≠ .tup []) → Deep (m + 1) (shownR rows) r.dot
  | 0, _, r, hr, hn => by
    intro s hs e
    obtain ⟨s1, s2⟩ := List.mem_filter.mp hs
    have s2 := of_decide_eq_true s2
    have hl : 0 < rows.length := List.length_pos_of_mem hr
    rw [e, show rows.length = (rows.length - 1) + 1 by omega, climb, par_row h hr] at s2
    exact (hn (rows.length - 1) (by omega) s2).elim
  | m + 1, hm, r, hr, hn => by
    intro s hs e
    obtain ⟨s1, s2⟩ := List.mem_filter.mp hs
    refine deep_row g h m (by omega) s s1 fun j hj => ?_
    cases j with
    | zero => rw [e]; exact (g r hr).dot.ne
    | succ j =>
      rw [e, climb, par_row h hr]
      exact hn j (by omega)
theorem deep_all {rows : List Row} (g : ∀ r ∈ rows, r.Gd) (h : Nd rows) (p : DV) : Deep (rows.length + 2) (shownR rows) p := by
  intro r hr e
  have hr1 := (List.mem_filter.mp hr).1
  exact deep_row g h rows.length (Nat.le_refl _) r hr1 fun j hj => by omega
theorem shown_nd {rows : List Row} (h : Nd rows) : Nd (shownR rows) := List.Nodup.sublist (List.filter_sublist.map _) h
end DP

namespace DP
open PySem
/-- the rows of a book as a dict -/
def kvR (rows : List Row) : List (DV × DV) := rows.map fun r => (r.dot, r.thing)
theorem pairs_rows : ∀ rows : List Row, pairs (rows.map Row.dv) = some (kvR rows)
  | [] => rfl
  | r :: rows => by
    show (pairs (rows.map Row.dv)).map _ = _
    rw [pairs_rows rows]; rfl
theorem dput_new {kvs : List (DV × DV)} {k v : DV} (h : ∀ p ∈ kvs, p.1 ≠ k) : dput kvs k v = kvs ++ [(k, v)] := by
  unfold dput dhas
  rw [if_neg]
  simp only [List.any_eq_true, decide_eq_true_eq, not_exists, not_and]
  exact h
theorem fold_put : ∀ (l acc : List (DV × DV)), ((acc ++ l).map (·.1)).Nodup → l.foldl (fun d p => dput d p.1 p.2) acc = acc ++ l
  | [], acc, _ => by simp
  | p :: l, acc, h => by
    have h1 : ∀ q ∈ acc, q.1 ≠ p.1 := by
      intro q hq e
      rw [List.map_append, List.nodup_append] at h
      exact h.2.2 _ (List.mem_map.mpr ⟨q, hq, rfl⟩) _ (by simp) e
    rw [List.foldl_cons, dput_new h1, fold_put l (acc ++ [(p.1, p.2)]) (by rw [List.append_assoc]; exact h)]
    simp
theorem dict_rows {rows : List Row} (g : ∀ r ∈ rows, r.Gd) (h : Nd rows) : blt .dict [.tup (rows.map Row.dv)] = some (.dic (kvR rows)) := by
  have e : (kvR rows).all (fun p => tkey p.1) = true := by
    rw [List.all_eq_true]
    intro p hp
    obtain ⟨r, hr, rfl⟩ := List.mem_map.mp hp
    exact (g r hr).dot.tk
  have f := fold_put (kvR rows) [] (by
    have : (kvR rows).map (·.1) = rows.map Row.dot := by simp [kvR]
    rw [List.nil_append, this]; exact h)
  simp only [blt, pairs_rows, Option.bind_some, e, if_true, f, List.nil_append]
theorem kvR_ks {rows : List Row} (g : ∀ r ∈ rows, r.Gd) : Ks (kvR rows) := by
  intro p hp
  obtain ⟨r, hr, rfl⟩ := List.mem_map.mp hp
  exact (g r hr).dot.tk
theorem kvR_get (rows : List Row) (d : DV) : dget (kvR rows) d = (rows.find? fun r => decide (r.dot = d)).map Row.thing := by
  unfold dget kvR
  rw [List.find?_map, Option.map_map]; rfl
theorem kvR_row {rows : List Row} (h : Nd rows) {r : Row} (hr : r ∈ rows) : dget (kvR rows) r.dot = some r.thing := by
  rw [kvR_get]
  cases e : rows.find? fun s => decide (s.dot = r.dot) with
  | none => have := List.find?_eq_none.mp e r hr; simp at this
  | some s =>
    have h1 := List.mem_of_find?_eq_some e
    have h2 := List.find?_some e
    rw [h.eq h1 hr (of_decide_eq_true h2)]; rfl
theorem dhas_get2 (kvs : List (DV × DV)) (k : DV) : dhas kvs k = (dget kvs k).isSome := dhas_get kvs k
theorem isin_d {kvs : List (DV × DV)} {k : DV} (h : dok kvs k = true) : cmp .isin k (.dic kvs) = some (dhas kvs k) := by
  cases k <;> simp [cmp, h]
theorem notin_d {kvs : List (DV × DV)} {k : DV} (h : dok kvs k = true) : cmp .notin k (.dic kvs) = some (!dhas kvs k) := by
  cases k <;> simp [cmp, h]
theorem kvR_fst (rows : List Row) : (kvR rows).map (·.1) = rows.map Row.dot := by simp [kvR]
theorem sorted_d (kvs : List (DV × DV)) : blt .sorted [.dic kvs] = sorted (kvs.map (·.1)) := rfl
/-- in order of their dots -/
def Sd (rows : List Row) : Prop := (rows.map Row.dot).Pairwise fun a b => DV.leb a b = true
theorem dots_are {rows : List Row} (g : ∀ r ∈ rows, r.Gd) : ∀ d ∈ rows.map Row.dot, IsDot d := by
  intro d hd
  obtain ⟨r, hr, rfl⟩ := List.mem_map.mp hd
  exact (g r hr).dot
theorem sorted_keys {rows : List Row} (g : ∀ r ∈ rows, r.Gd) (s : Sd rows) : blt .sorted [.dic (kvR rows)] = some (.lst (rows.map Row.dot)) := by
  rw [sorted_d, kvR_fst, sorted_dots (dots_are g), sort_dots (dots_are g) (List.Perm.refl _) s]
theorem par_tk {rows : List Row} (g : ∀ r ∈ rows, r.Gd) {d : DV} (h : tkey d = true) : tkey (par rows d) = true := by
  unfold par
  cases e : rows.find? fun r => decide (r.dot = d) with
  | none => exact h
  | some r => exact (g r (List.mem_of_find?_eq_some e)).ok.place
theorem climb_tk {rows : List Row} (g : ∀ r ∈ rows, r.Gd) : ∀ (n : Nat) {d : DV}, tkey d = true → tkey (climb rows n d) = true
  | 0, d, h => h
  | n + 1, d, h => climb_tk g n (par_tk g h)
theorem climb_one (rows : List Row) (n : Nat) (d : DV) : climb rows (n + 1) d = par rows (climb rows n d) := climb_add n 1 d
theorem pures_tup {xs : List DV} (h : ∀ x ∈ xs, x.pure = true) : DV.pures xs = true := by
  induction xs with
  | nil => rfl
  | cons x xs ih => simp only [DV.pures, h x List.mem_cons_self, ih fun y hy => h y (List.mem_cons_of_mem _ hy), Bool.and_self]
theorem tk_pure {d : DV} (h : tkey d = true) : d.pure = true := (tk_facts h).choose_spec.2.2.2
theorem Row.Ok.pure {r : Row} (h : r.Ok) : r.dv.pure = true := by
  simp [Row.dv, Row.thing, DV.pure, DV.pures, tk_pure h.dot, tk_pure h.place]
/-- a list that a def made and hands back -/
theorem fin_lst {S S1 : Store} {xs : List DV} {n : Nat} (h : S1[n]? = some (.lst xs)) (hn : S.length ≤ n) (hp : DV.pures xs = true) : finish .drop S S1 (.loc n) = .ok (.lst xs) (S1.take S.length) := by
  unfold finish
  dsimp only
  have e : freeze S.length S1 6 (.loc n) = .lst xs := by
    unfold freeze
    rw [if_neg (by omega), h]
    dsimp only
    rw [(freeze_pure S.length S1 5).2 xs hp]
  have hp2 : (DV.lst xs).pure = true := by simpa [DV.pure] using hp
  rw [e, if_pos (below_pure _ _ hp2)]
end DP

namespace DP
open PySem
theorem evE_var {G : Ctx} {i : Nat} {d : DV} {e : Env} {S : Store} (h : e[i]? = some (some d)) : evE G (.var i) e S = .ok d S := by rw [evE, h]; rfl
/-- climbing, a turn -/
theorem climb_step {G : Ctx} {S : Store} {B : DV} {rows : List Row} {x2 x3 x5 : Option DV} {d : DV} (g : ∀ r ∈ rows, r.Gd) (hd : tkey d = true) :
    evB G [.ifs (.cmp .isin (.var 4) (.var 1)) [.asg 4 (.idx (.idx (.var 1) (.var 4)) (.int (0)))] []] [some B, some (.dic (kvR rows)), x2, x3, some d, x5] S = .nx [some B, some (.dic (kvR rows)), x2, x3, some (par rows d), x5] S := by
  have hk := (kvR_ks g).dok hd
  have pd : ∀ S, peek S d = d := fun S => peek_tk hd
  have e := kvR_get rows d
  have gi := dget_idx hk
  simp only [evB, evS, evE, evEs, entry, List.length_cons, List.length_nil, List.map_cons, List.map_nil, List.cons_append, List.nil_append, List.getElem?_cons_zero, List.getElem?_cons_succ, Option.getD_some, Res.of_some, Res.bind_ok, Res.then_ok, Out.bind_nx, Out.bind_rt, asBl_bl, asBlO_bl, Option.map_some, idx_l, idx_t, len_l, len_t, peekI_, peek_bl_, peek_str_, peek_tup_, peek_lst_, peek_dic_, peek_scr_, peek_non_, lt_ii, gt_ii, ge_ii, eq_ii, add_ii, List.set_cons_zero, List.set_cons_succ, if_true, if_false, Bool.false_eq_true, decide_true, decide_false, List.replicate_succ, List.replicate_zero, Nat.reduceAdd, Nat.reduceSub, reduceCtorEq, reduceIte, pd, isin_d hk, dhas_get2]
  unfold par
  cases h : rows.find? fun r => decide (r.dot = d) with
  | none =>
    rw [h] at e
    simp only [evB, evS, evE, evEs, entry, List.length_cons, List.length_nil, List.map_cons, List.map_nil, List.cons_append, List.nil_append, List.getElem?_cons_zero, List.getElem?_cons_succ, Option.getD_some, Res.of_some, Res.bind_ok, Res.then_ok, Out.bind_nx, Out.bind_rt, asBl_bl, asBlO_bl, Option.map_some, idx_l, idx_t, len_l, len_t, peekI_, peek_bl_, peek_str_, peek_tup_, peek_lst_, peek_dic_, peek_scr_, peek_non_, lt_ii, gt_ii, ge_ii, eq_ii, add_ii, List.set_cons_zero, List.set_cons_succ, if_true, if_false, Bool.false_eq_true, decide_true, decide_false, List.replicate_succ, List.replicate_zero, Nat.reduceAdd, Nat.reduceSub, reduceCtorEq, reduceIte, e, Option.map_none, Option.isSome_none]
  | some r =>
    rw [h] at e
    simp only [evB, evS, evE, evEs, entry, List.length_cons, List.length_nil, List.map_cons, List.map_nil, List.cons_append, List.nil_append, List.getElem?_cons_zero, List.getElem?_cons_succ, Option.getD_some, Res.of_some, Res.bind_ok, Res.then_ok, Out.bind_nx, Out.bind_rt, asBl_bl, asBlO_bl, Option.map_some, idx_l, idx_t, len_l, len_t, peekI_, peek_bl_, peek_str_, peek_tup_, peek_lst_, peek_dic_, peek_scr_, peek_non_, lt_ii, gt_ii, ge_ii, eq_ii, add_ii, List.set_cons_zero, List.set_cons_succ, if_true, if_false, Bool.false_eq_true, decide_true, decide_false, List.replicate_succ, List.replicate_zero, Nat.reduceAdd, Nat.reduceSub, reduceCtorEq, reduceIte, e, Option.map_some, Option.isSome_some, gi, Row.thing, idx3_0]
theorem climb_loop {G : Ctx} {S : Store} {B : DV} {rows : List Row} {x2 x3 x5 : Option DV} {d : DV} (g : ∀ r ∈ rows, r.Gd) (hd : tkey d = true) (hl : rows.length ≤ 1000) :
    ∃ y5, evS G (.fors (.nm 5) .rng1 [.blt .len [.var 1]] [.ifs (.cmp .isin (.var 4) (.var 1)) [.asg 4 (.idx (.idx (.var 1) (.var 4)) (.int (0)))] []]) [some B, some (.dic (kvR rows)), x2, x3, some d, x5] S = .nx [some B, some (.dic (kvR rows)), x2, x3, some (climb rows rows.length d), y5] S := by
  have sz : (2000000 : Nat) < sizeLine := by rw [sizeLine_eq]; decide
  have hlen : (kvR rows).length = rows.length := by simp [kvR]
  generalize hI : (List.range rows.length).map (fun (i : Nat) => DV.int (i : Int)) = items
  have il : items.length = rows.length := by rw [← hI]; simp
  have h := forL_inv (tg := .nm 5) (b := evB G [.ifs (.cmp .isin (.var 4) (.var 1)) [.asg 4 (.idx (.idx (.var 1) (.var 4)) (.int (0)))] []]) (chk := isLive [.int rows.length] S) (items := items)
    (fun i e S' => ∃ y5, e = [some B, some (.dic (kvR rows)), x2, x3, some (climb rows i d), y5] ∧ S' = S)
    (fun i e S' _ => rfl) (fun i hi e S' ⟨y5, he, hS⟩ => ?_) items.length 0 [some B, some (.dic (kvR rows)), x2, x3, some d, x5] S (by simp) (Nat.zero_le _) ⟨x5, rfl, rfl⟩
  · rw [List.drop_zero] at h
    obtain ⟨e2, S2, h1, y5, rfl, rfl⟩ := h
    rw [il] at h1
    refine ⟨y5, (evS_fors (as := [.int rows.length]) (items := items) ?_ ?_).trans h1⟩
    · rw [evEs, evE, evEs, evE_var rfl]
      have e : blt .len [.dic (kvR rows)] = some (.int rows.length) := by rw [show blt .len [.dic (kvR rows)] = some (.int (kvR rows).length) from rfl, hlen]
      simp only [evB, evS, evE, evEs, entry, List.length_cons, List.length_nil, List.map_cons, List.map_nil, List.cons_append, List.nil_append, List.getElem?_cons_zero, List.getElem?_cons_succ, Option.getD_some, Res.of_some, Res.bind_ok, Res.then_ok, Out.bind_nx, Out.bind_rt, asBl_bl, asBlO_bl, Option.map_some, idx_l, idx_t, len_l, len_t, peekI_, peek_bl_, peek_str_, peek_tup_, peek_lst_, peek_dic_, peek_scr_, peek_non_, lt_ii, gt_ii, ge_ii, eq_ii, add_ii, List.set_cons_zero, List.set_cons_succ, if_true, if_false, Bool.false_eq_true, decide_true, decide_false, List.replicate_succ, List.replicate_zero, Nat.reduceAdd, Nat.reduceSub, reduceCtorEq, reduceIte, e]
    · show (if _ then _ else _) = _
      rw [if_pos ⟨by omega, by omega⟩, Int.toNat_natCast, hI]
  · subst he hS
    refine ⟨_, _, _, rfl, climb_step (x5 := some items[i]) g (climb_tk g i hd), some items[i], ?_, rfl⟩
    rw [climb_one]
theorem run_lst {fs : List Fn} {cs : List DV} {d : Def} {b : Nat} {args : List DV} {S S1 : Store} {xs : List DV} {n : Nat} (hl : args.length = d.nargs) (hm : d.mode = .drop) (h : evB { fs := fs, cs := cs, base := S.length } d.body (entry d.nslots args) S = .rt (.loc n) S1) (hn : S.length ≤ n) (hx : S1[n]? = some (.lst xs)) (hv : DV.pures xs = true) : runDef fs cs d b args S = .ok (.lst xs) (S1.take S.length) := by
  unfold runDef
  have md : (if d.mode = Mode.keep then b else S.length) = S.length := by rw [hm]; rfl
  rw [if_pos hl, md, h]
  show finish d.mode S S1 _ = _
  rw [hm, fin_lst hx hn hv]
/-- the book: its rows at 5, the marks at 6 -/
def Bk (B : DV) (rows : List Row) : Prop := ∃ a0 a1 a2 a3 a4 rest, B = .tup (a0 :: a1 :: a2 :: a3 :: a4 :: .tup (rows.map Row.dv) :: rest)
def bodyL : List MS := [.asg 4 (.idx (.idx (.var 1) (.var 3)) (.int (0))), .fors (.nm 5) .rng1 [.blt .len [.var 1]] [.ifs (.cmp .isin (.var 4) (.var 1)) [.asg 4 (.idx (.idx (.var 1) (.var 4)) (.int (0)))] []], .ifs (.cmp .eq (.var 4) (.tup [])) [.expr (.meth .append (.var 2) [.tup [.var 3, .idx (.var 1) (.var 3)]])] []]
theorem app_l {b n : Nat} {S : Store} {v : DV} {xs : List DV} (h : S[n]? = some (.lst xs)) (hb : b ≤ n) (hl : xs.length < sizeLine) : meth b .append .lst (.loc n) [v] S = .ok .non (S.set n (.lst (xs ++ [v]))) := by
  simp only [meth, h, fits_up b n v hb, hl, decide_true, Bool.and_self, if_true]
theorem fil_succ {p : Row → Bool} {rows : List Row} {i : Nat} (hi : i < rows.length) : (rows.take (i + 1)).filter p = (rows.take i).filter p ++ (if p rows[i] then [rows[i]] else []) := by
  rw [List.take_add_one, List.getElem?_eq_getElem hi, List.filter_append]
  congr 1
  cases h : p rows[i] <;> simp [h]
theorem shown_step {G : Ctx} {S : Store} {B : DV} {rows : List Row} {i : Nat} {x4 x5 : Option DV} (hB : G.base = S.length) (g : ∀ r ∈ rows, r.Gd) (n : Nd rows) (hl : rows.length ≤ 1000) (hi : i < rows.length) :
    ∃ y4 y5, evB G bodyL [some B, some (.dic (kvR rows)), some (.loc S.length), some rows[i].dot, x4, x5] (S ++ [.lst (((rows.take i).filter fun r => decide (climb rows rows.length r.place = .tup [])).map Row.dv)]) =
      .nx [some B, some (.dic (kvR rows)), some (.loc S.length), some rows[i].dot, y4, y5] (S ++ [.lst (((rows.take (i + 1)).filter fun r => decide (climb rows rows.length r.place = .tup [])).map Row.dv)]) := by
  have sz : (2000000 : Nat) < sizeLine := by rw [sizeLine_eq]; decide
  have hm := List.getElem_mem hi
  have gr := g _ hm
  have hk := (kvR_ks g).dok gr.dot.tk
  have gi := dget_idx hk
  have er := kvR_row n hm
  have pd : ∀ S, peek S rows[i].dot = rows[i].dot := fun S => peek_tk gr.dot.tk
  generalize hL : ((rows.take i).filter fun r => decide (climb rows rows.length r.place = .tup [])).map Row.dv = L
  have ll : L.length ≤ 1000 := by
    rw [← hL, List.length_map]
    refine Nat.le_trans (List.length_filter_le _ _) ?_
    rw [List.length_take]; omega
  obtain ⟨y5, hc⟩ := climb_loop (G := G) (S := S ++ [.lst L]) (B := B) (x2 := some (.loc S.length)) (x3 := some rows[i].dot) (x5 := x5) g gr.ok.place hl
  have tc := climb_tk g rows.length gr.ok.place
  have pc : ∀ S, peek S (climb rows rows.length rows[i].place) = climb rows rows.length rows[i].place := fun S => peek_tk tc
  refine ⟨some (climb rows rows.length rows[i].place), y5, ?_⟩
  unfold bodyL
  refine (evB_nx (evS_asg (v := rows[i].place) (S2 := S ++ [.lst L]) ?_)).trans ?_
  · simp only [evB, evS, evE, evEs, entry, List.length_cons, List.length_nil, List.map_cons, List.map_nil, List.cons_append, List.nil_append, List.getElem?_cons_zero, List.getElem?_cons_succ, Option.getD_some, Res.of_some, Res.bind_ok, Res.then_ok, Out.bind_nx, Out.bind_rt, asBl_bl, asBlO_bl, Option.map_some, idx_l, idx_t, len_l, len_t, peekI_, peek_bl_, peek_str_, peek_tup_, peek_lst_, peek_dic_, peek_scr_, peek_non_, lt_ii, gt_ii, ge_ii, eq_ii, add_ii, List.set_cons_zero, List.set_cons_succ, if_true, if_false, Bool.false_eq_true, decide_true, decide_false, List.replicate_succ, List.replicate_zero, Nat.reduceAdd, Nat.reduceSub, reduceCtorEq, reduceIte, pd, gi, er, Row.thing, idx3_0]
  refine (evB_nx hc).trans ?_
  have e1 := eq_tk tc un_tk
  have hap := app_l (b := S.length) (v := rows[i].dv) (app0 S (.lst L) []) (Nat.le_refl _) (by omega)
  rw [set0_] at hap
  have pk := peek_lstAt (app0 S (.lst L) [])
  rw [fil_succ hi, List.map_append, hL]
  by_cases q : climb rows rows.length rows[i].place = .tup []
  · have e2 : (if decide (climb rows rows.length rows[i].place = .tup []) = true then [rows[i]] else []) = [rows[i]] := by rw [decide_eq_true q]; rfl
    rw [e2]
    rw [q] at e1 pc ⊢
    simp only [evB, evS, evE, evEs, entry, List.length_cons, List.length_nil, List.map_cons, List.map_nil, List.cons_append, List.nil_append, List.getElem?_cons_zero, List.getElem?_cons_succ, Option.getD_some, Res.of_some, Res.bind_ok, Res.then_ok, Out.bind_nx, Out.bind_rt, asBl_bl, asBlO_bl, Option.map_some, idx_l, idx_t, len_l, len_t, peekI_, peek_bl_, peek_str_, peek_tup_, peek_lst_, peek_dic_, peek_scr_, peek_non_, lt_ii, gt_ii, ge_ii, eq_ii, add_ii, List.set_cons_zero, List.set_cons_succ, if_true, if_false, Bool.false_eq_true, decide_true, decide_false, List.replicate_succ, List.replicate_zero, Nat.reduceAdd, Nat.reduceSub, reduceCtorEq, reduceIte, pk, e1, kind_l, mok_app, pd, gi, er, hB]
    simp only [evB, evS, evE, evEs, entry, List.length_cons, List.length_nil, List.map_cons, List.map_nil, List.cons_append, List.nil_append, List.getElem?_cons_zero, List.getElem?_cons_succ, Option.getD_some, Res.of_some, Res.bind_ok, Res.then_ok, Out.bind_nx, Out.bind_rt, asBl_bl, asBlO_bl, Option.map_some, idx_l, idx_t, len_l, len_t, peekI_, peek_bl_, peek_str_, peek_tup_, peek_lst_, peek_dic_, peek_scr_, peek_non_, lt_ii, gt_ii, ge_ii, eq_ii, add_ii, List.set_cons_zero, List.set_cons_succ, if_true, if_false, Bool.false_eq_true, decide_true, decide_false, List.replicate_succ, List.replicate_zero, Nat.reduceAdd, Nat.reduceSub, reduceCtorEq, reduceIte, hap, show DV.tup [rows[i].dot, rows[i].thing] = rows[i].dv from rfl]
  · have e2 : (if decide (climb rows rows.length rows[i].place = .tup []) = true then [rows[i]] else []) = [] := by rw [decide_eq_false q]; rfl
    rw [e2, List.map_nil, List.append_nil]
    simp only [evB, evS, evE, evEs, entry, List.length_cons, List.length_nil, List.map_cons, List.map_nil, List.cons_append, List.nil_append, List.getElem?_cons_zero, List.getElem?_cons_succ, Option.getD_some, Res.of_some, Res.bind_ok, Res.then_ok, Out.bind_nx, Out.bind_rt, asBl_bl, asBlO_bl, Option.map_some, idx_l, idx_t, len_l, len_t, peekI_, peek_bl_, peek_str_, peek_tup_, peek_lst_, peek_dic_, peek_scr_, peek_non_, lt_ii, gt_ii, ge_ii, eq_ii, add_ii, List.set_cons_zero, List.set_cons_succ, if_true, if_false, Bool.false_eq_true, decide_true, decide_false, List.replicate_succ, List.replicate_zero, Nat.reduceAdd, Nat.reduceSub, reduceCtorEq, reduceIte, pc, e1, q]
/-- _law_shown(book) -/
theorem law_shown_spec {b : Nat} {S : Store} {B : DV} {rows : List Row} (hb : Bk B rows) (g : ∀ r ∈ rows, r.Gd) (n : Nd rows) (s : Sd rows) (hl : rows.length ≤ 1000) : F__law_shown b [B] S = .ok (.lst ((shownR rows).map Row.dv)) S := by
  obtain ⟨a0, a1, a2, a3, a4, rest, rfl⟩ := hb
  generalize hG : ({ fs := [], cs := [], base := S.length } : Ctx) = G
  generalize hBk : DV.tup (a0 :: a1 :: a2 :: a3 :: a4 :: .tup (rows.map Row.dv) :: rest) = B
  have hB : G.base = S.length := by rw [← hG]
  have h := forL_inv (tg := .nm 3) (b := evB G bodyL) (chk := isLive [.lst (rows.map Row.dot)] (S ++ [.lst []])) (items := rows.map Row.dot)
    (fun i e S' => ∃ x3 x4 x5, e = [some B, some (.dic (kvR rows)), some (.loc S.length), x3, x4, x5] ∧ S' = S ++ [.lst (((rows.take i).filter fun r => decide (climb rows rows.length r.place = .tup [])).map Row.dv)])
    (fun i e S' _ => rfl) (fun i hi e S' ⟨x3, x4, x5, he, hS⟩ => ?_) (rows.map Row.dot).length 0 [some B, some (.dic (kvR rows)), some (.loc S.length), none, none, none] (S ++ [.lst []]) (by simp) (Nat.zero_le _) ⟨none, none, none, rfl, rfl⟩
  · rw [List.drop_zero] at h
    obtain ⟨e2, S2, h1, x3, x4, x5, rfl, rfl⟩ := h
    rw [List.length_map, List.take_length] at h1
    have key : evB G b__law_shown.body (entry 6 [B]) S = .rt (.loc S.length) (S ++ [.lst ((shownR rows).map Row.dv)]) := by
      unfold b__law_shown
      refine (evB_nx (evS_asg (v := .dic (kvR rows)) (S2 := S) ?_)).trans ?_
      · rw [evE, evEs, evE, evE_var (d := B) rfl, ← hBk]
        have e := dict_rows g n
        have i5 : L2.atI (a0 :: a1 :: a2 :: a3 :: a4 :: .tup (rows.map Row.dv) :: rest) 5 = some (.tup (rows.map Row.dv)) := L2.atI_nat (j := 5) rfl
        simp only [evB, evS, evE, evEs, entry, List.length_cons, List.length_nil, List.map_cons, List.map_nil, List.cons_append, List.nil_append, List.getElem?_cons_zero, List.getElem?_cons_succ, Option.getD_some, Res.of_some, Res.bind_ok, Res.then_ok, Out.bind_nx, Out.bind_rt, asBl_bl, asBlO_bl, Option.map_some, idx_l, idx_t, len_l, len_t, peekI_, peek_bl_, peek_str_, peek_tup_, peek_lst_, peek_dic_, peek_scr_, peek_non_, lt_ii, gt_ii, ge_ii, eq_ii, add_ii, List.set_cons_zero, List.set_cons_succ, if_true, if_false, Bool.false_eq_true, decide_true, decide_false, List.replicate_succ, List.replicate_zero, Nat.reduceAdd, Nat.reduceSub, reduceCtorEq, reduceIte, i5, e]
      refine (evB_nx (evS_asg (v := .loc S.length) (S2 := S ++ [.lst []]) (by simp only [evB, evS, evE, evEs, entry, List.length_cons, List.length_nil, List.map_cons, List.map_nil, List.cons_append, List.nil_append, List.getElem?_cons_zero, List.getElem?_cons_succ, Option.getD_some, Res.of_some, Res.bind_ok, Res.then_ok, Out.bind_nx, Out.bind_rt, asBl_bl, asBlO_bl, Option.map_some, idx_l, idx_t, len_l, len_t, peekI_, peek_bl_, peek_str_, peek_tup_, peek_lst_, peek_dic_, peek_scr_, peek_non_, lt_ii, gt_ii, ge_ii, eq_ii, add_ii, List.set_cons_zero, List.set_cons_succ, if_true, if_false, Bool.false_eq_true, decide_true, decide_false, List.replicate_succ, List.replicate_zero, Nat.reduceAdd, Nat.reduceSub, reduceCtorEq, reduceIte, lay]))).trans ?_
      refine (evB_nx ((evS_fors (as := [.lst (rows.map Row.dot)]) (items := rows.map Row.dot) ?_ rfl).trans h1)).trans ?_
      · rw [evEs, evE, evEs, evE_var rfl]
        simp only [evB, evS, evE, evEs, entry, List.length_cons, List.length_nil, List.map_cons, List.map_nil, List.cons_append, List.nil_append, List.getElem?_cons_zero, List.getElem?_cons_succ, Option.getD_some, Res.of_some, Res.bind_ok, Res.then_ok, Out.bind_nx, Out.bind_rt, asBl_bl, asBlO_bl, Option.map_some, idx_l, idx_t, len_l, len_t, peekI_, peek_bl_, peek_str_, peek_tup_, peek_lst_, peek_dic_, peek_scr_, peek_non_, lt_ii, gt_ii, ge_ii, eq_ii, add_ii, List.set_cons_zero, List.set_cons_succ, if_true, if_false, Bool.false_eq_true, decide_true, decide_false, List.replicate_succ, List.replicate_zero, Nat.reduceAdd, Nat.reduceSub, reduceCtorEq, reduceIte, sorted_keys g s]
      refine evB_rt ?_
      rw [evS, evE_var rfl, Res.then_ok]; rfl
    have := run_lst (fs := []) (cs := []) (d := b__law_shown) (b := b) (args := [B]) rfl rfl (hG ▸ key) (Nat.le_refl _) (app0 S _ []) (pures_tup fun d hd => by
      obtain ⟨r, hr, rfl⟩ := List.mem_map.mp hd
      exact (g r (List.mem_filter.mp hr).1).ok.pure)
    refine this.trans ?_
    simp
  · subst he hS
    have hi' : i < rows.length := by simpa using hi
    obtain ⟨y4, y5, h1⟩ := shown_step (G := G) (S := S) (B := B) (x4 := x4) (x5 := x5) hB g n hl hi'
    refine ⟨_, _, _, ?_, h1, _, _, _, rfl, rfl⟩
    simp [bindTo]
end DP

namespace DP
open PySem
theorem perm_nodup {l m : List DV} (hl : l.Nodup) (hm : m.Nodup) (h : ∀ x, x ∈ l ↔ x ∈ m) : l.Perm m := by
  rw [List.perm_iff_count]
  intro a
  rw [hl.count, hm.count]
  by_cases q : a ∈ l
  · rw [if_pos q, if_pos ((h a).mp q)]
  · rw [if_neg q, if_neg fun z => q ((h a).mpr z)]
theorem dhas_mem (kvs : List (DV × DV)) (k : DV) : dhas kvs k = true ↔ k ∈ kvs.map (·.1) := by
  unfold dhas
  rw [List.any_eq_true]
  constructor
  · rintro ⟨p, hp, e⟩; exact List.mem_map.mpr ⟨p, hp, of_decide_eq_true e⟩
  · intro h; obtain ⟨p, hp, e⟩ := List.mem_map.mp h; exact ⟨p, hp, decide_eq_true e⟩
/-- what was found so far -/
structure Fd (rows : List Row) (kvs : List (DV × DV)) : Prop where
  nd : (kvs.map (·.1)).Nodup
  cl : ∀ p ∈ kvs, ∃ r ∈ rows, p = (r.dot, r.thing) ∧ climb rows kvs.length r.place = .tup []
theorem Fd.ks {rows : List Row} {kvs : List (DV × DV)} (h : Fd rows kvs) (g : ∀ r ∈ rows, r.Gd) : Ks kvs := by
  intro p hp
  obtain ⟨r, hr, rfl, _⟩ := h.cl p hp
  exact (g r hr).dot.tk
theorem Fd.len {rows : List Row} {kvs : List (DV × DV)} (h : Fd rows kvs) : kvs.length ≤ rows.length := by
  have := nodup_le (m := rows.map Row.dot) h.nd fun d hd => by
    obtain ⟨p, hp, rfl⟩ := List.mem_map.mp hd
    obtain ⟨r, hr, rfl, _⟩ := h.cl p hp
    exact List.mem_map.mpr ⟨r, hr, rfl⟩
  simpa using this
theorem Fd.put {rows : List Row} {kvs : List (DV × DV)} (h : Fd rows kvs) (g : ∀ r ∈ rows, r.Gd) (n : Nd rows) {r : Row} (hr : r ∈ rows) (hn : dhas kvs r.dot = false) (hp : r.place = .tup [] ∨ dhas kvs r.place = true) : Fd rows (dput kvs r.dot r.thing) ∧ (dput kvs r.dot r.thing).length = kvs.length + 1 := by
  have hk : ∀ p ∈ kvs, p.1 ≠ r.dot := by
    intro p hp e
    have : dhas kvs r.dot = true := (dhas_mem _ _).mpr (List.mem_map.mpr ⟨p, hp, e⟩)
    rw [hn] at this; cases this
  rw [dput_new hk]
  refine ⟨⟨?_, ?_⟩, by simp⟩
  · rw [List.map_append, List.nodup_append]
    refine ⟨h.nd, by simp, ?_⟩
    intro a ha b hb e
    obtain ⟨p, hp, rfl⟩ := List.mem_map.mp ha
    simp only [List.map_cons, List.map_nil, List.mem_singleton] at hb
    exact hk p hp (e.trans hb)
  · intro p hp1
    rw [List.length_append, List.length_singleton]
    rcases List.mem_append.mp hp1 with hp1 | hp1
    · obtain ⟨s, hs, e, c⟩ := h.cl p hp1
      exact ⟨s, hs, e, climb_mono g c (Nat.le_succ _)⟩
    · refine ⟨r, hr, List.mem_singleton.mp hp1, ?_⟩
      rcases hp with hp | hp
      · rw [hp, climb_un g]
      · obtain ⟨q, hq, e⟩ := List.mem_map.mp ((dhas_mem _ _).mp hp)
        obtain ⟨s, hs, rfl, c⟩ := h.cl q hq
        have e : s.dot = r.place := e
        rw [← e, climb, par_row n hs]
        exact c
/-- nothing is left to be found -/
def Closed (rows : List Row) (kvs : List (DV × DV)) : Prop := ∀ r ∈ rows, dhas kvs r.dot = true ∨ ¬ (r.place = .tup [] ∨ dhas kvs r.place = true)
theorem Fd.all {rows : List Row} {kvs : List (DV × DV)} (h : Fd rows kvs) (g : ∀ r ∈ rows, r.Gd) (n : Nd rows) (c : Closed rows kvs) : (kvs.map (·.1)).Perm ((shownR rows).map Row.dot) := by
  refine perm_nodup h.nd (shown_nd n) fun d => ⟨fun hd => ?_, fun hd => ?_⟩
  · obtain ⟨p, hp, rfl⟩ := List.mem_map.mp hd
    obtain ⟨r, hr, rfl, cl⟩ := h.cl p hp
    exact List.mem_map.mpr ⟨r, List.mem_filter.mpr ⟨hr, decide_eq_true (climb_mono g cl h.len)⟩, rfl⟩
  · obtain ⟨r, hr, rfl⟩ := List.mem_map.mp hd
    obtain ⟨h1, h2⟩ := List.mem_filter.mp hr
    have h2 := of_decide_eq_true h2
    rw [← dhas_mem]
    have : ∀ k, ∀ r ∈ rows, climb rows k r.place = .tup [] → dhas kvs r.dot = true := by
      intro k
      induction k with
      | zero =>
        intro r hr e
        rcases c r hr with q | q
        · exact q
        · exact absurd (.inl e) q
      | succ k ih =>
        intro r hr e
        rcases c r hr with q | q
        · exact q
        · refine absurd ?_ q
          by_cases hh : ∃ s ∈ rows, s.dot = r.place
          · obtain ⟨s, hs, es⟩ := hh
            rw [← es, climb, par_row n hs] at e
            exact .inr (es ▸ ih s hs e)
          · have ep : par rows r.place = r.place := by
              unfold par
              cases ef : rows.find? fun s => decide (s.dot = r.place) with
              | none => rfl
              | some s =>
                have h2 := List.find?_some ef
                exact absurd ⟨s, List.mem_of_find?_eq_some ef, of_decide_eq_true h2⟩ hh
            have : ∀ k, climb rows k r.place = r.place := by
              intro k
              induction k with
              | zero => rfl
              | succ k ih => rw [climb, ep, ih]
            rw [this] at e
            exact .inl e
    exact this _ r h1 h2
end DP

namespace DP
open PySem
theorem eq_uu : cmp .eq (.tup []) (.tup []) = some true := (eq_tk un_tk un_tk).trans (by simp)
def envS (B : DV) (n : Nat) (more : Bool) (x3 x4 : Option DV) : Env := [some B, some (.loc n), some (.bl more), x3, x4]
def ifS : MS := .ifs (.and (.cmp .notin (.var 3) (.var 1)) (.or (.cmp .eq (.idx (.var 4) (.int (0))) (.tup [])) (.cmp .isin (.idx (.var 4) (.int (0))) (.var 1)))) [.sub (.var 1) (.var 3) (.var 4), .asg 2 (.bl true)] []
theorem found_step {G : Ctx} {S : Store} {B : DV} {rows : List Row} {kvs : List (DV × DV)} {more : Bool} {r : Row} (hB : G.base = S.length) (g : ∀ r ∈ rows, r.Gd) (n : Nd rows) (hl : rows.length ≤ 1000) (f : Fd rows kvs) (hr : r ∈ rows) :
    ∃ kvs' more', evB G [ifS] (envS B S.length more (some r.dot) (some r.thing)) (S ++ [.dic kvs]) = .nx (envS B S.length more' (some r.dot) (some r.thing)) (S ++ [.dic kvs']) ∧ Fd rows kvs' ∧
      ((kvs' = kvs ∧ more' = more ∧ (dhas kvs r.dot = true ∨ ¬ (r.place = .tup [] ∨ dhas kvs r.place = true))) ∨ (kvs'.length = kvs.length + 1 ∧ more' = true)) := by
  have sz : (2000000 : Nat) < sizeLine := by rw [sizeLine_eq]; decide
  have gr := g r hr
  have ks := f.ks g
  have kd := ks.dok gr.dot.tk
  have kp := ks.dok gr.ok.place
  have pd : ∀ S, peek S r.dot = r.dot := fun S => peek_tk gr.dot.tk
  have pp : ∀ S, peek S r.place = r.place := fun S => peek_tk gr.ok.place
  have pk : peek (S ++ [.dic kvs]) (.loc S.length) = .dic kvs := peek_dicL (app0 S _ _)
  have e1 := eq_tk gr.ok.place un_tk
  unfold ifS envS
  by_cases h1 : dhas kvs r.dot = true
  · refine ⟨kvs, more, ?_, f, .inl ⟨rfl, rfl, .inl h1⟩⟩
    simp only [evB, evS, evE, evEs, entry, List.length_cons, List.length_nil, List.map_cons, List.map_nil, List.cons_append, List.nil_append, List.getElem?_cons_zero, List.getElem?_cons_succ, Option.getD_some, Res.of_some, Res.bind_ok, Res.then_ok, Out.bind_nx, Out.bind_rt, asBl_bl, asBlO_bl, Option.map_some, idx_l, idx_t, len_l, len_t, peekI_, peek_bl_, peek_str_, peek_tup_, peek_lst_, peek_dic_, peek_scr_, peek_non_, lt_ii, gt_ii, ge_ii, eq_ii, add_ii, List.set_cons_zero, List.set_cons_succ, if_true, if_false, Bool.false_eq_true, decide_true, decide_false, List.replicate_succ, List.replicate_zero, Nat.reduceAdd, Nat.reduceSub, reduceCtorEq, reduceIte, pd, pk, notin_d kd, h1, Bool.not_true]
  · have h1 : dhas kvs r.dot = false := by simpa using h1
    by_cases h2 : r.place = .tup [] ∨ dhas kvs r.place = true
    · obtain ⟨p1, p2⟩ := f.put g n hr h1 h2
      refine ⟨_, true, ?_, p1, .inr ⟨p2, rfl⟩⟩
      have hsub := sub_d (b := S.length) (v := r.thing) (app0 S (.dic kvs) []) kd (fits_up _ _ _ (Nat.le_refl _)) (by have := f.len; omega)
      rw [set0_] at hsub
      by_cases q : r.place = .tup []
      · simp only [evB, evS, evE, evEs, entry, List.length_cons, List.length_nil, List.map_cons, List.map_nil, List.cons_append, List.nil_append, List.getElem?_cons_zero, List.getElem?_cons_succ, Option.getD_some, Res.of_some, Res.bind_ok, Res.then_ok, Out.bind_nx, Out.bind_rt, asBl_bl, asBlO_bl, Option.map_some, idx_l, idx_t, len_l, len_t, peekI_, peek_bl_, peek_str_, peek_tup_, peek_lst_, peek_dic_, peek_scr_, peek_non_, lt_ii, gt_ii, ge_ii, eq_ii, add_ii, List.set_cons_zero, List.set_cons_succ, if_true, if_false, Bool.false_eq_true, decide_true, decide_false, List.replicate_succ, List.replicate_zero, Nat.reduceAdd, Nat.reduceSub, reduceCtorEq, reduceIte, pd, pk, notin_d kd, h1, Bool.not_false, Row.thing, idx3_0, pp, q, eq_uu]
        simp only [Row.thing, q] at hsub
        simp only [evB, evS, evE, evEs, entry, List.length_cons, List.length_nil, List.map_cons, List.map_nil, List.cons_append, List.nil_append, List.getElem?_cons_zero, List.getElem?_cons_succ, Option.getD_some, Res.of_some, Res.bind_ok, Res.then_ok, Out.bind_nx, Out.bind_rt, asBl_bl, asBlO_bl, Option.map_some, idx_l, idx_t, len_l, len_t, peekI_, peek_bl_, peek_str_, peek_tup_, peek_lst_, peek_dic_, peek_scr_, peek_non_, lt_ii, gt_ii, ge_ii, eq_ii, add_ii, List.set_cons_zero, List.set_cons_succ, if_true, if_false, Bool.false_eq_true, decide_true, decide_false, List.replicate_succ, List.replicate_zero, Nat.reduceAdd, Nat.reduceSub, reduceCtorEq, reduceIte, hB, hsub]
      · have h2 : dhas kvs r.place = true := by rcases h2 with h2 | h2; exact absurd h2 q; exact h2
        simp only [evB, evS, evE, evEs, entry, List.length_cons, List.length_nil, List.map_cons, List.map_nil, List.cons_append, List.nil_append, List.getElem?_cons_zero, List.getElem?_cons_succ, Option.getD_some, Res.of_some, Res.bind_ok, Res.then_ok, Out.bind_nx, Out.bind_rt, asBl_bl, asBlO_bl, Option.map_some, idx_l, idx_t, len_l, len_t, peekI_, peek_bl_, peek_str_, peek_tup_, peek_lst_, peek_dic_, peek_scr_, peek_non_, lt_ii, gt_ii, ge_ii, eq_ii, add_ii, List.set_cons_zero, List.set_cons_succ, if_true, if_false, Bool.false_eq_true, decide_true, decide_false, List.replicate_succ, List.replicate_zero, Nat.reduceAdd, Nat.reduceSub, reduceCtorEq, reduceIte, pd, pk, notin_d kd, h1, Bool.not_false, Row.thing, idx3_0, pp, e1, q, isin_d kp, h2]
        simp only [Row.thing] at hsub
        simp only [evB, evS, evE, evEs, entry, List.length_cons, List.length_nil, List.map_cons, List.map_nil, List.cons_append, List.nil_append, List.getElem?_cons_zero, List.getElem?_cons_succ, Option.getD_some, Res.of_some, Res.bind_ok, Res.then_ok, Out.bind_nx, Out.bind_rt, asBl_bl, asBlO_bl, Option.map_some, idx_l, idx_t, len_l, len_t, peekI_, peek_bl_, peek_str_, peek_tup_, peek_lst_, peek_dic_, peek_scr_, peek_non_, lt_ii, gt_ii, ge_ii, eq_ii, add_ii, List.set_cons_zero, List.set_cons_succ, if_true, if_false, Bool.false_eq_true, decide_true, decide_false, List.replicate_succ, List.replicate_zero, Nat.reduceAdd, Nat.reduceSub, reduceCtorEq, reduceIte, hB, hsub]
    · refine ⟨kvs, more, ?_, f, .inl ⟨rfl, rfl, .inr h2⟩⟩
      have q : ¬ r.place = .tup [] := fun z => h2 (.inl z)
      have h3 : dhas kvs r.place = false := by
        cases z : dhas kvs r.place with
        | false => rfl
        | true => exact absurd (.inr z) h2
      simp only [evB, evS, evE, evEs, entry, List.length_cons, List.length_nil, List.map_cons, List.map_nil, List.cons_append, List.nil_append, List.getElem?_cons_zero, List.getElem?_cons_succ, Option.getD_some, Res.of_some, Res.bind_ok, Res.then_ok, Out.bind_nx, Out.bind_rt, asBl_bl, asBlO_bl, Option.map_some, idx_l, idx_t, len_l, len_t, peekI_, peek_bl_, peek_str_, peek_tup_, peek_lst_, peek_dic_, peek_scr_, peek_non_, lt_ii, gt_ii, ge_ii, eq_ii, add_ii, List.set_cons_zero, List.set_cons_succ, if_true, if_false, Bool.false_eq_true, decide_true, decide_false, List.replicate_succ, List.replicate_zero, Nat.reduceAdd, Nat.reduceSub, reduceCtorEq, reduceIte, pd, pk, notin_d kd, h1, Bool.not_false, Row.thing, idx3_0, pp, e1, q, isin_d kp, h3]
theorem found_round {G : Ctx} {S : Store} {B : DV} {rows : List Row} {kvs : List (DV × DV)} {x3 x4 : Option DV} (hB : G.base = S.length) (g : ∀ r ∈ rows, r.Gd) (n : Nd rows) (hl : rows.length ≤ 1000) (f : Fd rows kvs) :
    ∃ kvs' more' y3 y4, forL (.tp [3, 4]) (evB G [ifS]) (isLive [.tup (rows.map Row.dv)] (S ++ [.dic kvs])) (rows.map Row.dv) (envS B S.length false x3 x4) (S ++ [.dic kvs]) = .nx (envS B S.length more' y3 y4) (S ++ [.dic kvs']) ∧ Fd rows kvs' ∧
      ((more' = false ∧ kvs' = kvs ∧ Closed rows kvs) ∨ (more' = true ∧ kvs.length < kvs'.length)) := by
  have h := forL_inv (tg := .tp [3, 4]) (b := evB G [ifS]) (chk := isLive [.tup (rows.map Row.dv)] (S ++ [.dic kvs])) (items := rows.map Row.dv)
    (fun i e S' => ∃ kvs' more' y3 y4, e = envS B S.length more' y3 y4 ∧ S' = S ++ [.dic kvs'] ∧ Fd rows kvs' ∧ ((more' = false ∧ kvs' = kvs ∧ Closed (rows.take i) kvs) ∨ (more' = true ∧ kvs.length < kvs'.length)))
    (fun i e S' _ => rfl) (fun i hi e S' ⟨kvs', more', y3, y4, he, hS, f', hc⟩ => ?_) (rows.map Row.dv).length 0 (envS B S.length false x3 x4) (S ++ [.dic kvs]) (by simp) (Nat.zero_le _) ⟨kvs, false, x3, x4, rfl, rfl, f, .inl ⟨rfl, rfl, fun r hr => by simp at hr⟩⟩
  · rw [List.drop_zero] at h
    obtain ⟨e2, S2, h1, kvs', more', y3, y4, rfl, rfl, f', hc⟩ := h
    rw [List.length_map, List.take_length] at hc
    exact ⟨_, _, _, _, h1, f', hc⟩
  · subst he hS
    have hi' : i < rows.length := by simpa using hi
    obtain ⟨kvs2, more2, h1, f2, hd⟩ := found_step (G := G) (S := S) (B := B) (more := more') hB g n hl f' (List.getElem_mem hi')
    refine ⟨envS B S.length more' (some rows[i].dot) (some rows[i].thing), _, _, ?_, h1, kvs2, more2, _, _, rfl, rfl, f2, ?_⟩
    · rw [row_get hi]
      simp only [evB, evS, evE, evEs, entry, List.length_cons, List.length_nil, List.map_cons, List.map_nil, List.cons_append, List.nil_append, List.getElem?_cons_zero, List.getElem?_cons_succ, Option.getD_some, Res.of_some, Res.bind_ok, Res.then_ok, Out.bind_nx, Out.bind_rt, asBl_bl, asBlO_bl, Option.map_some, idx_l, idx_t, len_l, len_t, peekI_, peek_bl_, peek_str_, peek_tup_, peek_lst_, peek_dic_, peek_scr_, peek_non_, lt_ii, gt_ii, ge_ii, eq_ii, add_ii, List.set_cons_zero, List.set_cons_succ, if_true, if_false, Bool.false_eq_true, decide_true, decide_false, List.replicate_succ, List.replicate_zero, Nat.reduceAdd, Nat.reduceSub, reduceCtorEq, reduceIte, envS, Row.dv, bindTo, List.zip_cons_cons, List.zip_nil_right, List.foldl_cons, List.foldl_nil]
    · rcases hc with ⟨rfl, rfl, hc⟩ | ⟨rfl, hc⟩
      · rcases hd with ⟨rfl, rfl, hd⟩ | ⟨hd, rfl⟩
        · refine .inl ⟨rfl, rfl, ?_⟩
          intro r hr
          rw [List.take_add_one, List.getElem?_eq_getElem hi'] at hr
          rcases List.mem_append.mp hr with hr | hr
          · exact hc r hr
          · simp only [Option.toList_some, List.mem_singleton] at hr
            rw [hr]; exact hd
        · exact .inr ⟨rfl, by omega⟩
      · rcases hd with ⟨rfl, rfl, hd⟩ | ⟨hd, rfl⟩
        · exact .inr ⟨rfl, hc⟩
        · exact .inr ⟨rfl, by omega⟩
end DP

namespace DP
open PySem
theorem found_all {G : Ctx} {S : Store} {B : DV} {rows : List Row} (hb : Bk B rows) (hB : G.base = S.length) (hC : G.cs = [.int 5]) (g : ∀ r ∈ rows, r.Gd) (n : Nd rows) (hl : rows.length ≤ 1000) :
    ∃ kvs x3 x4, whileL (evE G (.var 2)) (evB G [.asg 2 (.bl false), .fors (.tp [3, 4]) .seq [.idx (.var 0) (.con 0)] [ifS]]) 1000000 (envS B S.length true none none) (S ++ [.dic []]) = .nx (envS B S.length false x3 x4) (S ++ [.dic kvs]) ∧ Fd rows kvs ∧ Closed rows kvs := by
  have h := whileL_inv (c := evE G (.var 2)) (b := evB G [.asg 2 (.bl false), .fors (.tp [3, 4]) .seq [.idx (.var 0) (.con 0)] [ifS]])
    (fun m e S' => ∃ kvs more x3 x4, e = envS B S.length more x3 x4 ∧ S' = S ++ [.dic kvs] ∧ Fd rows kvs ∧ (more = false → Closed rows kvs) ∧ m = 2 * (rows.length - kvs.length) + (if more then 1 else 0))
    (fun e S' => ∃ kvs x3 x4, e = envS B S.length false x3 x4 ∧ S' = S ++ [.dic kvs] ∧ Fd rows kvs ∧ Closed rows kvs)
    (fun m e S' ⟨kvs, more, x3, x4, he, hS, f, hc, hm⟩ => ?_) 1000000 (2 * (rows.length - 0) + 1) (envS B S.length true none none) (S ++ [.dic []]) (by omega) ⟨[], true, none, none, rfl, rfl, ⟨by simp, fun p hp => by cases hp⟩, (fun z => by cases z), rfl⟩
  · obtain ⟨e2, S2, h1, kvs, x3, x4, rfl, rfl, f, c⟩ := h
    exact ⟨kvs, x3, x4, h1, f, c⟩
  · subst he hS
    cases more with
    | false => exact .inl ⟨evE_var rfl, kvs, x3, x4, rfl, rfl, f, hc rfl⟩
    | true =>
      obtain ⟨kvs', more', y3, y4, h1, f', hd⟩ := found_round (G := G) (S := S) (B := B) (x3 := x3) (x4 := x4) hB g n hl f
      refine .inr ⟨evE_var rfl, 2 * (rows.length - kvs'.length) + (if more' then 1 else 0), envS B S.length more' y3 y4, S ++ [.dic kvs'], ?_, ?_, kvs', more', y3, y4, rfl, rfl, f', ?_, rfl⟩
      · have := f'.len
        rcases hd with ⟨rfl, rfl, _⟩ | ⟨rfl, hd⟩
        · simp at hm ⊢; omega
        · simp at hm ⊢; omega
      · refine (evB_nx (e2 := envS B S.length false x3 x4) (evS_asg (v := .bl false) (by rw [evE]))).trans ?_
        refine (evB_nx ((evS_fors (as := [.tup (rows.map Row.dv)]) (items := rows.map Row.dv) ?_ rfl).trans h1)).trans (by rw [evB])
        obtain ⟨a0, a1, a2, a3, a4, rest, rfl⟩ := hb
        have i5 : L2.atI (a0 :: a1 :: a2 :: a3 :: a4 :: .tup (rows.map Row.dv) :: rest) 5 = some (.tup (rows.map Row.dv)) := L2.atI_nat (j := 5) rfl
        simp only [evB, evS, evE, evEs, entry, List.length_cons, List.length_nil, List.map_cons, List.map_nil, List.cons_append, List.nil_append, List.getElem?_cons_zero, List.getElem?_cons_succ, Option.getD_some, Res.of_some, Res.bind_ok, Res.then_ok, Out.bind_nx, Out.bind_rt, asBl_bl, asBlO_bl, Option.map_some, idx_l, idx_t, len_l, len_t, peekI_, peek_bl_, peek_str_, peek_tup_, peek_lst_, peek_dic_, peek_scr_, peek_non_, lt_ii, gt_ii, ge_ii, eq_ii, add_ii, List.set_cons_zero, List.set_cons_succ, if_true, if_false, Bool.false_eq_true, decide_true, decide_false, List.replicate_succ, List.replicate_zero, Nat.reduceAdd, Nat.reduceSub, reduceCtorEq, reduceIte, envS, hC, i5]
      · intro z
        rcases hd with ⟨_, rfl, hd⟩ | ⟨rfl, _⟩
        · exact hd
        · cases z
/-- shown(book) -/
theorem shown_spec {b : Nat} {S : Store} {B : DV} {rows : List Row} (hb : Bk B rows) (g : ∀ r ∈ rows, r.Gd) (n : Nd rows) (s : Sd rows) (hl : rows.length ≤ 1000) : F_shown b [B] S = .ok (.tup ((shownR rows).map Row.dv)) S := by
  generalize hG : ({ fs := [], cs := [.int 5], base := S.length } : Ctx) = G
  have hB : G.base = S.length := by rw [← hG]
  have hC : G.cs = [.int 5] := by rw [← hG]
  obtain ⟨kvs, x3, x4, h1, f, c⟩ := found_all (G := G) (S := S) hb hB hC g n hl
  have pm := f.all g n c
  have g' : ∀ r ∈ shownR rows, r.Gd := fun r hr => g r (List.mem_filter.mp hr).1
  have s' : Sd (shownR rows) := List.Pairwise.sublist (List.filter_sublist.map _) s
  have kd : ∀ d ∈ kvs.map (·.1), IsDot d := fun d hd => dots_are g' d (pm.mem_iff.mp hd)
  have es : blt .sorted [.dic kvs] = some (.lst ((shownR rows).map Row.dot)) := by
    rw [sorted_d, sorted_dots kd, sort_dots (dots_are g') pm s']
  have dg : ∀ r ∈ shownR rows, dget kvs r.dot = some r.thing := by
    intro r hr
    have hm : r.dot ∈ kvs.map (·.1) := pm.mem_iff.mpr (List.mem_map.mpr ⟨r, hr, rfl⟩)
    have := (dhas_mem kvs r.dot).mpr hm
    rw [dhas_get2] at this
    unfold dget at this ⊢
    cases e : kvs.find? fun p => decide (p.1 = r.dot) with
    | none => rw [e] at this; cases this
    | some p =>
      have h1 := List.mem_of_find?_eq_some e
      have h2 := List.find?_some e
      obtain ⟨q, hq, rfl, _⟩ := f.cl p h1
      have h2 : q.dot = r.dot := of_decide_eq_true h2
      rw [n.eq hq (List.mem_filter.mp hr).1 h2]; rfl
  have key : evB G b_shown.body (entry 5 [B]) S = .rt (.tup ((shownR rows).map Row.dv)) (S ++ [.dic kvs]) := by
    unfold b_shown
    refine (evB_nx (evS_asg (v := .loc S.length) (S2 := S ++ [.dic []]) (by simp only [evB, evS, evE, evEs, entry, List.length_cons, List.length_nil, List.map_cons, List.map_nil, List.cons_append, List.nil_append, List.getElem?_cons_zero, List.getElem?_cons_succ, Option.getD_some, Res.of_some, Res.bind_ok, Res.then_ok, Out.bind_nx, Out.bind_rt, asBl_bl, asBlO_bl, Option.map_some, idx_l, idx_t, len_l, len_t, peekI_, peek_bl_, peek_str_, peek_tup_, peek_lst_, peek_dic_, peek_scr_, peek_non_, lt_ii, gt_ii, ge_ii, eq_ii, add_ii, List.set_cons_zero, List.set_cons_succ, if_true, if_false, Bool.false_eq_true, decide_true, decide_false, List.replicate_succ, List.replicate_zero, Nat.reduceAdd, Nat.reduceSub, reduceCtorEq, reduceIte, lay]))).trans ?_
    refine (evB_nx (e2 := envS B S.length true none none) (evS_asg (v := .bl true) (by rw [evE]))).trans ?_
    refine (evB_nx (evS_whl.trans h1)).trans ?_
    refine evB_rt ?_
    have pk : peek (S ++ [.dic kvs]) (.loc S.length) = .dic kvs := peek_dicL (app0 S _ _)
    simp only [evB, evS, evE, evEs, entry, List.length_cons, List.length_nil, List.map_cons, List.map_nil, List.cons_append, List.nil_append, List.getElem?_cons_zero, List.getElem?_cons_succ, Option.getD_some, Res.of_some, Res.bind_ok, Res.then_ok, Out.bind_nx, Out.bind_rt, asBl_bl, asBlO_bl, Option.map_some, idx_l, idx_t, len_l, len_t, peekI_, peek_bl_, peek_str_, peek_tup_, peek_lst_, peek_dic_, peek_scr_, peek_non_, lt_ii, gt_ii, ge_ii, eq_ii, add_ii, List.set_cons_zero, List.set_cons_succ, if_true, if_false, Bool.false_eq_true, decide_true, decide_false, List.replicate_succ, List.replicate_zero, Nat.reduceAdd, Nat.reduceSub, reduceCtorEq, reduceIte, envS, pk, es, srcArg, srcOf]
    rw [compL_pure (g := fun d => (dget kvs d).map fun v => DV.tup [d, v]) (isLive_ok _ _ (by simp))]
    · have e : ((shownR rows).map Row.dot).filterMap (fun d => (dget kvs d).map fun v => DV.tup [d, v]) = (shownR rows).map Row.dv := by
        rw [List.filterMap_map]
        refine filterMap_all fun r hr => ?_
        show (dget kvs r.dot).map (fun v => DV.tup [r.dot, v]) = _
        rw [dg r hr]; rfl
      simp only [evB, evS, evE, evEs, entry, List.length_cons, List.length_nil, List.map_cons, List.map_nil, List.cons_append, List.nil_append, List.getElem?_cons_zero, List.getElem?_cons_succ, Option.getD_some, Res.of_some, Res.bind_ok, Res.then_ok, Out.bind_nx, Out.bind_rt, asBl_bl, asBlO_bl, Option.map_some, idx_l, idx_t, len_l, len_t, peekI_, peek_bl_, peek_str_, peek_tup_, peek_lst_, peek_dic_, peek_scr_, peek_non_, lt_ii, gt_ii, ge_ii, eq_ii, add_ii, List.set_cons_zero, List.set_cons_succ, if_true, if_false, Bool.false_eq_true, decide_true, decide_false, List.replicate_succ, List.replicate_zero, Nat.reduceAdd, Nat.reduceSub, reduceCtorEq, reduceIte, e, tuple_l]
    · intro d hd
      obtain ⟨r, hr, rfl⟩ := List.mem_map.mp hd
      have pd : ∀ S, peek S r.dot = r.dot := fun S => peek_tk (g' r hr).dot.tk
      have gi := dget_idx ((f.ks g).dok (g' r hr).dot.tk)
      simp only [evB, evS, evE, evEs, entry, List.length_cons, List.length_nil, List.map_cons, List.map_nil, List.cons_append, List.nil_append, List.getElem?_cons_zero, List.getElem?_cons_succ, Option.getD_some, Res.of_some, Res.bind_ok, Res.then_ok, Out.bind_nx, Out.bind_rt, asBl_bl, asBlO_bl, Option.map_some, idx_l, idx_t, len_l, len_t, peekI_, peek_bl_, peek_str_, peek_tup_, peek_lst_, peek_dic_, peek_scr_, peek_non_, lt_ii, gt_ii, ge_ii, eq_ii, add_ii, List.set_cons_zero, List.set_cons_succ, if_true, if_false, Bool.false_eq_true, decide_true, decide_false, List.replicate_succ, List.replicate_zero, Nat.reduceAdd, Nat.reduceSub, reduceCtorEq, reduceIte, wipe, bindTo, evC, pk, pd, gi, dg r hr]
      simp [noExc]
  have := run_rt (fs := []) (cs := [.int 5]) (d := b_shown) (b := b) (args := [B]) rfl rfl (hG ▸ key) (by
    simp only [DV.pure]
    exact pures_tup fun d hd => by
      obtain ⟨r, hr, rfl⟩ := List.mem_map.mp hd
      exact (g' r hr).ok.pure)
  refine this.trans ?_
  simp
end DP

namespace DP
open PySem
/-! ### what repr asks -/
theorem ok_app (a b : Str) : PyData.strOk (a ++ b) = (PyData.strOk a && PyData.strOk b) := by
  show (a.cps ++ b.cps).all _ = _
  rw [Array.all_append]; rfl
theorem ok_of (s : String) : PyData.strOk (Str.ofString s) = true := by
  rw [Str.ofString_eq_toList]
  unfold PyData.strOk
  rw [Array.all_eq_true_iff_forall_mem]
  intro c hc
  rw [List.mem_toArray] at hc
  obtain ⟨x, _, rfl⟩ := List.mem_map.mp hc
  have := x.valid
  rw [decide_eq_true_eq]
  have e : x.toNat = x.val.toNat := rfl
  rcases this with h | ⟨_, h⟩
  · rw [e]; omega
  · rw [e]; exact h
theorem ok_join (sep : Str) (hs : PyData.strOk sep = true) : ∀ ts : List Str, (∀ t ∈ ts, PyData.strOk t = true) → PyData.strOk (Str.join sep ts) = true
  | [], _ => by simp [Str.join, Str.empty, PyData.strOk]
  | [x], h => h x List.mem_cons_self
  | x :: y :: r, h => by
    have := ok_join sep hs (y :: r) fun t ht => h t (List.mem_cons_of_mem _ ht)
    show PyData.strOk (x ++ sep ++ Str.join sep (y :: r)) = true
    rw [ok_app, ok_app, h x List.mem_cons_self, hs, this]; rfl
theorem ok_tuple {ts : List Str} (h : ∀ t ∈ ts, PyData.strOk t = true) : PyData.strOk (tupleText ts) = true := by
  unfold tupleText
  rw [ok_app, ok_app, ok_join _ (ok_of _) ts h]
  rw [ok_of]
  split <;> rw [ok_of] <;> rfl
/-- a name and a number that are shown well -/
structure Leaf (n : Str) (v : Int) : Prop where
  nm : PyData.strOk (reprText n) = true
  cp : ∀ c ∈ n.cps.toList, c < 16 ^ 8
  ln : n.cps.size ≤ 10
  vl : v.natAbs < 10 ^ 12
mutual
def Tr.Sh : Tr → Prop
  | .node n v cs => Leaf n v ∧ Tr.Shs cs
def Tr.Shs : List Tr → Prop
  | [] => True
  | t :: ts => Tr.Sh t ∧ Tr.Shs ts
end
theorem Shs_all : ∀ {ts : List Tr}, Tr.Shs ts ↔ ∀ t ∈ ts, t.Sh
  | [] => by simp [Tr.Shs]
  | t :: ts => by simp [Tr.Shs, Shs_all (ts := ts)]
theorem log_lt {v : Int} (h : v.natAbs < 10 ^ 12) : v.natAbs.log2 < 40 := by
  by_cases h0 : v.natAbs = 0
  · rw [h0]; decide
  · rw [Nat.log2_lt h0]; omega
mutual
theorem it_shown : ∀ t : Tr, t.Sh → t.it.toP.showable = true ∧ t.it.toP.leavesShort 13 = true ∧ t.it.toP.weight + 1 ≤ 60 * t.cnt ∧ PyData.strOk t.it.toP.shown = true
  | .node n v cs, h => by
    obtain ⟨lf, hs⟩ := h
    obtain ⟨h1, h2, h3, h4⟩ := its_shown cs hs
    have lg := log_lt lf.vl
    have w : (PyData.int v).weight ≤ 41 := by simp only [PyData.weight]; split <;> omega
    refine ⟨?_, ?_, ?_, ?_⟩
    · simp only [Tr.it, DV.toP, DV.toPs, PyData.showable, PyData.showableAll, h1, Bool.and_true, Bool.true_and, decide_eq_true_eq]
      omega
    · simp only [Tr.it, DV.toP, DV.toPs, PyData.leavesShort, PyData.leavesShortAll, h2, Bool.and_true, Bool.and_eq_true, decide_eq_true_eq, List.all_eq_true]
      exact ⟨lf.cp, PyData.shown_int_le lf.vl⟩
    · have ln := lf.ln
      simp only [Tr.it, DV.toP, DV.toPs, PyData.weight, PyData.weightAll, Tr.cnt] at w ⊢
      omega
    · simp only [Tr.it, DV.toP, DV.toPs, PyData.shown, PyData.shownAll]
      refine ok_tuple fun t ht => ?_
      simp only [List.mem_cons, List.not_mem_nil, or_false] at ht
      rcases ht with rfl | rfl | rfl
      · exact lf.nm
      · exact ok_of _
      · exact ok_tuple h4
theorem its_shown : ∀ ts : List Tr, Tr.Shs ts → PyData.showableAll (DV.toPs (Tr.its ts)) = true ∧ PyData.leavesShortAll 13 (DV.toPs (Tr.its ts)) = true ∧ PyData.weightAll (DV.toPs (Tr.its ts)) ≤ 60 * Tr.cnts ts ∧ ∀ t ∈ PyData.shownAll (DV.toPs (Tr.its ts)), PyData.strOk t = true
  | [], _ => by simp [Tr.its, DV.toPs, PyData.showableAll, PyData.leavesShortAll, PyData.weightAll, PyData.shownAll]
  | t :: ts, h => by
    obtain ⟨h1, h2, h3, h4⟩ := it_shown t h.1
    obtain ⟨k1, k2, k3, k4⟩ := its_shown ts h.2
    refine ⟨?_, ?_, ?_, ?_⟩
    · simp only [Tr.its, DV.toPs, PyData.showableAll, h1, k1, Bool.and_self]
    · simp only [Tr.its, DV.toPs, PyData.leavesShortAll, h2, k2, Bool.and_self]
    · simp only [Tr.its, DV.toPs, PyData.weightAll, Tr.cnts]; omega
    · intro x hx
      simp only [Tr.its, DV.toPs, PyData.shownAll] at hx
      rcases List.mem_cons.mp hx with e | hx
      · rw [e]; exact h4
      · exact k4 x hx
end
theorem repr_d {d : DV} (h1 : isSeq d = true) (h2 : d.flat = true) (h3 : d.toP.showable = true) (h4 : d.depth ≤ 64) (h5 : d.toP.leavesShort 13 = true) (h6 : d.toP.weight ≤ 2 ^ 20) (h7 : PyData.strOk d.toP.shown = true) : blt .repr [d] = some (.str d.toP.shown) := by
  have h8 := PyData.shown_fits (B := 13) (by decide) (by decide) h5 h6
  have : (isSeq d && d.flat && d.toP.showable && decide (d.depth ≤ 64) && decide (d.toP.shown.length ≤ sizeLine) && PyData.strOk d.toP.shown) = true := by
    rw [h1, h2, h3, h7, decide_eq_true h4, decide_eq_true h8]; rfl
  simp only [blt, this, if_true]
/-- the text of a tuple of trees -/
theorem repr_trees {ts : List Tr} (h : Tr.Shs ts) (hd : Tr.deps ts ≤ 31) (hc : Tr.cnts ts ≤ 10000) : blt .repr [.tup (ts.map Tr.it)] = some (.str (DV.tup (ts.map Tr.it)).toP.shown) := by
  obtain ⟨h1, h2, h3, h4⟩ := its_shown ts h
  rw [← its_map]
  refine repr_d rfl (by simp only [DV.flat]; exact its_flat ts) (by simpa [DV.toP, PyData.showable] using h1) ?_ (by simpa [DV.toP, PyData.leavesShort] using h2) ?_ ?_
  · have := its_depth ts
    simp only [DV.depth]; omega
  · simp only [DV.toP, PyData.weight]; omega
  · simp only [DV.toP, PyData.shown]; exact ok_tuple h4
end DP

namespace DP
open PySem
/-! ### outline(book, place), the law's own, their texts -/
/-- what a book outlines at a place -/
def OutT (rows : List Row) (p : DV) : List Tr := sortT (treeT 33 (shownR rows) p)
theorem shownR_gd {rows : List Row} (g : ∀ r ∈ rows, r.Gd) : ∀ r ∈ shownR rows, r.Gd := fun r hr => g r (List.mem_filter.mp hr).1
theorem shownR_len (rows : List Row) : (shownR rows).length ≤ rows.length := List.length_filter_le _ _
theorem outline_spec {b : Nat} {S : Store} {B p : DV} {rows : List Row} (hb : Bk B rows) (g : ∀ r ∈ rows, r.Gd) (n : Nd rows) (s : Sd rows) (hl : rows.length ≤ 30) (hp : tkey p = true) :
    F_outline b [B, p] S = .ok (.tup ((OutT rows p).map Tr.it)) S := by
  have d := (deep_all g n p).mono (show rows.length + 2 ≤ 33 by omega)
  have hz := size_bound (shown_nd n) 33 p
  have hl2 := shownR_len rows
  have h1 := shown_spec (b := S.length) (S := S) hb g n s (by omega)
  have h2 := outline_of_spec (S := S) (b := S.length) (K := 33) (fun r hr => (shownR_gd g r hr).ok) (by omega) hp d (by omega)
  have key : evB { fs := [F_outline_of, F_shown], cs := [], base := S.length } b_outline.body (entry 2 [B, p]) S = .rt (.tup ((OutT rows p).map Tr.it)) S := by
    unfold b_outline
    simp only [evB, evS, evE, evEs, entry, List.length_cons, List.length_nil, List.map_cons, List.map_nil, List.cons_append, List.nil_append, List.getElem?_cons_zero, List.getElem?_cons_succ, Option.getD_some, Res.of_some, Res.bind_ok, Res.then_ok, Out.bind_nx, Out.bind_rt, asBl_bl, asBlO_bl, Option.map_some, idx_l, idx_t, len_l, len_t, peekI_, peek_bl_, peek_str_, peek_tup_, peek_lst_, peek_dic_, peek_scr_, peek_non_, lt_ii, gt_ii, ge_ii, eq_ii, add_ii, List.set_cons_zero, List.set_cons_succ, if_true, if_false, Bool.false_eq_true, decide_true, decide_false, List.replicate_succ, List.replicate_zero, Nat.reduceAdd, Nat.reduceSub, reduceCtorEq, reduceIte, h1, h2, OutT]
  have := run_rt (fs := [F_outline_of, F_shown]) (cs := []) (d := b_outline) (b := b) (args := [B, p]) rfl rfl key (by simp only [DV.pure]; exact its_pure _)
  rw [List.take_length] at this
  exact this
theorem law_outline_spec {b : Nat} {S : Store} {p : DV} {rows : List Row} (g : ∀ r ∈ rows, r.Gd) (n : Nd rows) (hl : rows.length ≤ 30) (hp : tkey p = true) :
    F__law_outline 40 b [.lst ((shownR rows).map Row.dv), p] S = .ok (.tup ((OutT rows p).map Tr.it)) S := by
  have d := (deep_all g n p).mono (show rows.length + 2 ≤ 33 by omega)
  have h := lo_spec 40 (shownR rows) p 32 (fun r hr => (shownR_gd g r hr).ok) hp d (by omega) (by omega) b S
  rw [h, tree_stable d (by omega)]; rfl
/-- a row whose name and value are shown well -/
def Lf (rows : List Row) : Prop := ∀ r ∈ rows, Leaf r.name r.val
theorem tree_shs {rows : List Row} (h : Lf rows) : ∀ (f : Nat) (p : DV), Tr.Shs (treeT f rows p)
  | 0, p => by simp [treeT, Tr.Shs]
  | f + 1, p => by
    rw [Shs_all]
    intro t ht
    rw [treeT] at ht
    obtain ⟨r, hr, rfl⟩ := List.mem_map.mp ht
    refine ⟨h r (List.mem_filter.mp hr).1, Shs_all.mpr fun t ht => ?_⟩
    exact Shs_all.mp (tree_shs h f r.dot) t ((List.mergeSort_perm _ _).mem_iff.mp ht)
theorem repr_out {rows : List Row} (g : ∀ r ∈ rows, r.Gd) (n : Nd rows) (hl : rows.length ≤ 29) (lf : Lf rows) (p : DV) : blt .repr [.tup ((OutT rows p).map Tr.it)] = some (.str (DV.tup ((OutT rows p).map Tr.it)).toP.shown) := by
  have d := (deep_all g n p).mono (show rows.length + 2 ≤ 32 by omega)
  have d3 := d.mono (show 32 ≤ 33 by omega)
  have hz := size_bound (shown_nd n) 33 p
  have hl2 := shownR_len rows
  refine repr_trees ?_ ?_ ?_
  · unfold OutT
    refine Shs_all.mpr fun t ht => ?_
    exact Shs_all.mp (tree_shs (fun r hr => lf r (List.mem_filter.mp hr).1) 33 p) t ((List.mergeSort_perm _ _).mem_iff.mp ht)
  · refine Nat.le_trans (deps_sort _) ?_
    exact deps_tree (k := 31) d
  · unfold OutT
    rw [cnts_sort]
    have := cnts_tree d3
    omega
theorem ne_ss (a : Str) : cmp .ne (.str a) (.str a) = some false := by
  simp [cmp, deq, DV.flat, DV.depth, DV.toP, PyData.eqv]
theorem ne_str (a b : Str) : cmp .ne (.str a) (.str b) = some (!decide (a = b)) := by
  simp only [cmp, deq, DV.flat, DV.depth, DV.toP, PyData.eqv, Bool.and_self, Option.map_some]
  by_cases h : a = b <;> simp [h]
end DP

namespace DP
open PySem
/-! ### drawing: dots, things -/
/-- a dot of a drawn book -/
def SDot (d : DV) : Prop := ∃ is k, d = Dt is k ∧ is.length ≤ 2 ∧ (∀ i ∈ is, 0 ≤ i ∧ i < 100) ∧ 0 ≤ k ∧ k < 100
/-- it is none of the other dots -/
def Lo (d : DV) : Prop := ∀ k : Int, 20 ≤ k → d ≠ Dt [1] k
def SPl (d : DV) : Prop := d = .tup [] ∨ SDot d
theorem SDot.dot {d : DV} (h : SDot d) : IsDot d := by obtain ⟨is, k, e, _⟩ := h; exact ⟨is, k, e⟩
theorem SPl.tk {d : DV} (h : SPl d) : tkey d = true := by
  rcases h with e | e
  · rw [e]; rfl
  · exact e.dot.tk
/-- a row of a drawn book -/
structure Row.S (r : Row) : Prop where
  dot : SDot r.dot
  place : SPl r.place
  lf : Leaf r.name r.val
  lo : Lo r.place
theorem Row.S.gd {r : Row} (h : r.S) : r.Gd := ⟨h.dot.dot, by rcases h.place with e | e; exact .inl e; exact .inr e.dot⟩
/-- the store in two parts -/
theorem Same.split {S0 L S' : Store} (h : Same (S0 ++ L) S') (h0 : 0 < S0.length) : ∃ S1, S' = S1 ++ L ∧ Same S0 S1 := by
  refine ⟨S'.take S0.length, ?_, ?_, fun i hi => ?_⟩
  · apply List.ext_getElem?
    intro i
    by_cases hi : i < S0.length
    · rw [List.getElem?_append_left (by rw [List.length_take, h.1, List.length_append]; omega), List.getElem?_take, if_pos hi]
    · rw [h.2 i (by omega), List.getElem?_append_right (by omega), List.getElem?_append_right (by rw [List.length_take]; omega), List.length_take, h.1, List.length_append]
      congr 1; omega
  · rw [List.length_take, h.1, List.length_append]; omega
  · by_cases hq : i < S0.length
    · rw [List.getElem?_take, if_pos hq, h.2 i hi, List.getElem?_append_left hq]
    · rw [List.getElem?_eq_none (by rw [List.length_take]; omega), List.getElem?_eq_none (by omega)]
theorem Feed.app {S0 : Store} {n : Int} (h : Feed S0 n) (L : Store) : Feed (S0 ++ L) n := by
  obtain ⟨c, a, m, h0, h⟩ := h
  refine ⟨c, a, m, ?_, h⟩
  rw [List.getElem?_append_left (List.getElem?_eq_some_iff.mp h0).1]; exact h0
theorem Feed.left {S0 L : Store} {n : Int} (h : Feed (S0 ++ L) n) (h0 : 0 < S0.length) : Feed S0 n := by
  obtain ⟨c, a, m, h1, h⟩ := h
  refine ⟨c, a, m, ?_, h⟩
  rw [List.getElem?_append_left h0] at h1; exact h1
theorem Feed.pos {S : Store} {n : Int} (h : Feed S n) : 0 < S.length := by
  obtain ⟨c, a, m, h1, _⟩ := h
  exact (List.getElem?_eq_some_iff.mp h1).1
theorem Feed.mono {S : Store} {n m : Int} (h : Feed S n) (hm : n ≤ m) : Feed S m := by
  obtain ⟨c, a, q, h1, h2, h3, h4, h5⟩ := h
  exact ⟨c, a, q, h1, h2, h3, by omega, h5⟩
theorem Same.app {S0 S1 : Store} (h : Same S0 S1) (L : Store) : Same (S0 ++ L) (S1 ++ L) := by
  refine ⟨by rw [List.length_append, List.length_append, h.1], fun i hi => ?_⟩
  by_cases hq : i < S0.length
  · rw [List.getElem?_append_left (by rw [h.1]; exact hq), List.getElem?_append_left hq, h.2 i hi]
  · rw [List.getElem?_append_right (by rw [h.1]; omega), List.getElem?_append_right (by omega), h.1]
/-- next, with locals of the caller on top -/
theorem next_on {S0 : Store} {n m : Int} (L : Store) (b : Nat) (h : Feed S0 n) (hn : n < 10 ^ 9) (hm : 0 < m) (hm2 : m < 1073741824) :
    ∃ r S1, F__law_next b [.loc 0, .int m] (S0 ++ L) = .ok (.int r) (S1 ++ L) ∧ 0 ≤ r ∧ r < m ∧ Feed S1 (n + 1) ∧ Same S0 S1 := by
  obtain ⟨r, S', h1, h2, h3, h4, h5⟩ := next_spec b (h.app L) hn hm hm2
  obtain ⟨S1, rfl, h6⟩ := h5.split h.pos
  exact ⟨r, S1, h1, h2, h3, h4.left (by rw [h6.1]; exact h.pos), h6⟩
theorem next_at {S0 : Store} {n m : Int} (b : Nat) (h : Feed S0 n) (hn : n < 10 ^ 9) (hm : 0 < m) (hm2 : m < 1073741824) :
    ∃ r S1, F__law_next b [.loc 0, .int m] S0 = .ok (.int r) S1 ∧ 0 ≤ r ∧ r < m ∧ Feed S1 (n + 1) ∧ Same S0 S1 := next_spec b h hn hm hm2
/-- the place r of a list that is long enough -/
theorem at_lt (xs : List DV) {r : Int} (h0 : 0 ≤ r) (h : r < xs.length) : ∃ (j : Nat) (hj : j < xs.length), r = j ∧ L2.atI xs r = some xs[j] := by
  obtain ⟨j, rfl⟩ := Int.eq_ofNat_of_zero_le h0
  exact ⟨j, by omega, rfl, at_nat xs (by omega)⟩
theorem at_mem (xs : List DV) {r : Int} (h0 : 0 ≤ r) (h : r < xs.length) : ∃ x ∈ xs, L2.atI xs r = some x := by
  obtain ⟨j, hj, _, e⟩ := at_lt xs h0 h
  exact ⟨xs[j], List.getElem_mem hj, e⟩
theorem leaf_name {n : Str} (h : n ∈ [Str.ofString "a", Str.ofString "b", Str.ofString "ab", Str.ofString "abc", Str.ofString "zzzzzzzz"]) : PyData.strOk (reprText n) = true ∧ (∀ c ∈ n.cps.toList, c < 16 ^ 8) ∧ n.cps.size ≤ 10 := by
  simp only [List.mem_cons, List.not_mem_nil, or_false] at h
  rcases h with rfl | rfl | rfl | rfl | rfl <;> decide +kernel
theorem any_thing_spec {S : Store} {n : Int} {dots : List DV} (b : Nat) (h : Feed S n) (hn : n < 10 ^ 8) (hd : ∀ d ∈ dots, SDot d ∧ Lo d) (h0 : dots ≠ []) (hl : dots.length ≤ 1000) :
    ∃ pl nm v S', F__law_any_thing b [.loc 0, .lst dots] S = .ok (.tup [pl, .str nm, .int v]) S' ∧ SPl pl ∧ Lo pl ∧ Leaf nm v ∧ Feed S' (n + 5) ∧ Same S S' := by
  have hp : 0 < (dots.length : Int) := by have := List.length_pos_iff.mpr h0; omega
  obtain ⟨r1, S1, e1, a1, b1, f1, s1⟩ := next_at (m := dots.length) S.length h (by omega) hp (by omega)
  obtain ⟨r2, S2, e2, a2, b2, f2, s2⟩ := next_at (m := dots.length) S.length f1 (by omega) hp (by omega)
  obtain ⟨r3, S3, e3, a3, b3, f3, s3⟩ := next_at (m := 5) S.length f2 (by omega) (by omega) (by omega)
  obtain ⟨r4, S4, e4, a4, b4, f4, s4⟩ := next_at (m := 5) S.length f3 (by omega) (by omega) (by omega)
  obtain ⟨r5, S5, e5, a5, b5, f5, s5⟩ := next_at (m := 7) S.length f4 (by omega) (by omega) (by omega)
  obtain ⟨d1, m1, g1⟩ := at_mem dots a1 b1
  obtain ⟨d2, m2, g2⟩ := at_mem dots a2 b2
  obtain ⟨d3, m3, g3⟩ := at_mem [.tup [], .tup [], .tup [.tup [.int 2], .int 9], d1, d2] a3 b3
  obtain ⟨d4, m4, g4⟩ := at_mem [.str (Str.ofString "a"), .str (Str.ofString "b"), .str (Str.ofString "ab"), .str (Str.ofString "abc"), .str (Str.ofString "zzzzzzzz")] a4 b4
  obtain ⟨d5, m5, g5⟩ := at_mem [.int 0, .int 1, .int 2, .int (-1), .int 7, .int 999, .int (-999)] a5 b5
  have q3 : SPl d3 ∧ Lo d3 := by
    simp only [List.mem_cons, List.not_mem_nil, or_false] at m3
    rcases m3 with rfl | rfl | rfl | rfl | rfl
    · exact ⟨.inl rfl, fun k _ h => by simp [Dt] at h⟩
    · exact ⟨.inl rfl, fun k _ h => by simp [Dt] at h⟩
    · exact ⟨.inr ⟨[2], 9, rfl, by decide, by decide, by decide, by decide⟩, fun k _ h => by simp [Dt] at h⟩
    · exact ⟨.inr (hd _ m1).1, (hd _ m1).2⟩
    · exact ⟨.inr (hd _ m2).1, (hd _ m2).2⟩
  obtain ⟨nm, hnm, rfl⟩ : ∃ nm : Str, nm ∈ [Str.ofString "a", Str.ofString "b", Str.ofString "ab", Str.ofString "abc", Str.ofString "zzzzzzzz"] ∧ d4 = .str nm := by
    simp only [List.mem_cons, List.not_mem_nil, or_false] at m4
    rcases m4 with rfl | rfl | rfl | rfl | rfl
    · exact ⟨_, by simp, rfl⟩
    · exact ⟨_, by simp, rfl⟩
    · exact ⟨_, by simp, rfl⟩
    · exact ⟨_, by simp, rfl⟩
    · exact ⟨_, by simp, rfl⟩
  obtain ⟨v, hv, rfl⟩ : ∃ v : Int, v.natAbs < 10 ^ 12 ∧ d5 = .int v := by
    simp only [List.mem_cons, List.not_mem_nil, or_false] at m5
    rcases m5 with rfl | rfl | rfl | rfl | rfl | rfl | rfl
    · exact ⟨_, by decide, rfl⟩
    · exact ⟨_, by decide, rfl⟩
    · exact ⟨_, by decide, rfl⟩
    · exact ⟨_, by decide, rfl⟩
    · exact ⟨_, by decide, rfl⟩
    · exact ⟨_, by decide, rfl⟩
    · exact ⟨_, by decide, rfl⟩
  obtain ⟨n1, n2, n3⟩ := leaf_name hnm
  have sm : Same S S5 := s1.trans (s2.trans (s3.trans (s4.trans s5)))
  have key : evB { fs := [F__law_next], cs := [], base := S.length } b__law_any_thing.body (entry 4 [.loc 0, .lst dots]) S = .rt (.tup [d3, .str nm, .int v]) S5 := by
    unfold b__law_any_thing
    simp only [evB, evS, evE, evEs, entry, List.length_cons, List.length_nil, List.map_cons, List.map_nil, List.cons_append, List.nil_append, List.getElem?_cons_zero, List.getElem?_cons_succ, Option.getD_some, Res.of_some, Res.bind_ok, Res.then_ok, Out.bind_nx, Out.bind_rt, asBl_bl, asBlO_bl, Option.map_some, idx_l, idx_t, len_l, len_t, peekI_, peek_bl_, peek_str_, peek_tup_, peek_lst_, peek_dic_, peek_scr_, peek_non_, lt_ii, gt_ii, ge_ii, eq_ii, add_ii, List.set_cons_zero, List.set_cons_succ, if_true, if_false, Bool.false_eq_true, decide_true, decide_false, List.replicate_succ, List.replicate_zero, Nat.reduceAdd, Nat.reduceSub, reduceCtorEq, reduceIte, e1, e2, e3, e4, e5, g1, g2, g3, g4, g5]
  have pd : DV.pure (.tup [d3, .str nm, .int v]) = true := by
    simp only [DV.pure, DV.pures, (tk_facts q3.1.tk).choose_spec.2.2.2, Bool.and_self]
  have := run_rt (fs := [F__law_next]) (cs := []) (d := b__law_any_thing) (b := b) (args := [.loc 0, .lst dots]) rfl rfl key pd
  rw [take_same sm] at this
  exact ⟨d3, nm, v, S5, this, q3.1, q3.2, ⟨n1, n2, n3, hv⟩, by simpa [Int.add_assoc] using f5, sm⟩
end DP

namespace DP
open PySem
/-! ### books that are drawn -/
theorem set0e {S L : Store} {x y : MO} {n : Nat} (h : S.length = n) : (S ++ x :: L).set n y = S ++ y :: L := by subst h; exact set0_ S x y L
theorem set1e {S L : Store} {x y z : MO} {n : Nat} (h : S.length = n) : (S ++ x :: y :: L).set (n + 1) z = S ++ x :: z :: L := by subst h; exact set1_ S x y z L
theorem app0e {S L : Store} {x : MO} {n : Nat} (h : S.length = n) : (S ++ x :: L)[n]? = some x := by subst h; exact app0 S x L
theorem app1e {S L : Store} {x y : MO} {n : Nat} (h : S.length = n) : (S ++ x :: y :: L)[n + 1]? = some y := by subst h; exact app1 S x y L
structure Mk where
  dot : DV
  n : Int
def ackD (n : Int) : DV := .tup [.tup [.tup [.int 0], .int n, .int 0]]
def Mk.dv (m : Mk) : DV := .tup [m.dot, ackD m.n]
def mkBook (made : Int) (rows : List Row) (ms : List Mk) : DV := .tup [.tup [.int 0], .int 3, .int 5, .int made, .int 3, .tup (rows.map Row.dv), .tup (ms.map Mk.dv), .tup [], .tup [], .tup []]
structure Mk.S (m : Mk) : Prop where
  dot : SDot m.dot
  n : 0 ≤ m.n ∧ m.n < 100
/-- a good book -/
structure BOk (made : Int) (rows : List Row) (ms : List Mk) : Prop where
  rs : ∀ r ∈ rows, r.S
  mms : ∀ m ∈ ms, m.S
  nd : (rows.map Row.dot ++ ms.map Mk.dot).Nodup
  sd : Sd rows
  len : rows.length + ms.length ≤ 24
  md : 0 ≤ made ∧ made < 1000
  ne : 0 < rows.length + ms.length
theorem BOk.gd {made : Int} {rows : List Row} {ms : List Mk} (h : BOk made rows ms) : ∀ r ∈ rows, r.Gd := fun r hr => (h.rs r hr).gd
theorem BOk.nr {made : Int} {rows : List Row} {ms : List Mk} (h : BOk made rows ms) : Nd rows := (List.nodup_append.mp h.nd).1
theorem BOk.bk (made : Int) (rows : List Row) (ms : List Mk) : Bk (mkBook made rows ms) rows := ⟨_, _, _, _, _, _, rfl⟩
theorem dput_fst (kvs : List (DV × DV)) (k v : DV) : (dput kvs k v).map (·.1) = if dhas kvs k then kvs.map (·.1) else kvs.map (·.1) ++ [k] := by
  unfold dput
  split
  · rw [List.map_map]
    refine List.map_congr_left fun p _ => ?_
    show (if p.1 = k then (p.1, v) else p).1 = p.1
    split <;> rfl
  · simp
theorem dput_ne (kvs : List (DV × DV)) (k v : DV) : dput kvs k v ≠ [] := by
  intro e
  have h := dput_fst kvs k v
  rw [e] at h
  split at h
  · rename_i q
    have : kvs = [] := by simpa using h.symm
    subst this
    simp [dhas] at q
  · simp at h
theorem dput_nd {kvs : List (DV × DV)} {k v : DV} (h : (kvs.map (·.1)).Nodup) : ((dput kvs k v).map (·.1)).Nodup := by
  rw [dput_fst]
  split
  · exact h
  · rename_i q
    refine List.nodup_append.mpr ⟨h, by simp, fun a ha b hb e => ?_⟩
    rw [List.mem_singleton.mp hb] at e
    subst e
    obtain ⟨p, hp, e⟩ := List.mem_map.mp ha
    exact q (List.any_eq_true.mpr ⟨p, hp, decide_eq_true e⟩)
theorem dput_all {P : DV × DV → Prop} {kvs : List (DV × DV)} {k v : DV} (h : ∀ p ∈ kvs, P p) (hk : P (k, v)) : ∀ p ∈ dput kvs k v, P p := by
  intro p hp
  unfold dput at hp
  split at hp
  · obtain ⟨q, hq, rfl⟩ := List.mem_map.mp hp
    split
    · rename_i e; rw [e]; exact hk
    · exact h q hq
  · rcases List.mem_append.mp hp with hp | hp
    · exact h p hp
    · rw [List.mem_singleton.mp hp]; exact hk
/-- dots, each once, at most i -/
structure KD (P : DV × DV → Prop) (kvs : List (DV × DV)) (i : Nat) : Prop where
  len : kvs.length ≤ i
  nd : (kvs.map (·.1)).Nodup
  all : ∀ p ∈ kvs, (SDot p.1 ∧ Lo p.1) ∧ P p
theorem KD.ks {P : DV × DV → Prop} {kvs : List (DV × DV)} {i : Nat} (h : KD P kvs i) : Ks kvs := fun p hp => (h.all p hp).1.1.dot.tk
theorem KD.put {P : DV × DV → Prop} {kvs : List (DV × DV)} {i : Nat} {k v : DV} (h : KD P kvs i) (hk : SDot k ∧ Lo k) (hv : P (k, v)) : KD P (dput kvs k v) (i + 1) :=
  ⟨Nat.le_trans (dput_length kvs k v) (Nat.succ_le_succ h.len), dput_nd h.nd, dput_all h.all ⟨hk, hv⟩⟩
theorem KD.mono {P : DV × DV → Prop} {kvs : List (DV × DV)} {i j : Nat} (h : KD P kvs i) (hj : i ≤ j) : KD P kvs j := ⟨Nat.le_trans h.len hj, h.nd, h.all⟩
def seats5 : List DV := [.tup [.int 0], .tup [.int 1], .tup [.int 2], .tup [.int 0, .int 1], .tup [.int 1, .int 7]]
theorem seat_dot {s : DV} {k : Int} (h : s ∈ seats5) (h0 : 0 ≤ k) (h1 : k < 20) : SDot (.tup [s, .int k]) ∧ Lo (.tup [s, .int k]) := by
  refine ⟨?_, fun j hj e => ?_⟩
  · simp only [seats5, List.mem_cons, List.not_mem_nil, or_false] at h
    rcases h with rfl | rfl | rfl | rfl | rfl
    · exact ⟨[0], k, rfl, by decide, by decide, h0, by omega⟩
    · exact ⟨[1], k, rfl, by decide, by decide, h0, by omega⟩
    · exact ⟨[2], k, rfl, by decide, by decide, h0, by omega⟩
    · exact ⟨[0, 1], k, rfl, by decide, by decide, h0, by omega⟩
    · exact ⟨[1, 7], k, rfl, by decide, by decide, h0, by omega⟩
  · simp only [Dt, DV.tup.injEq, List.cons.injEq, DV.int.injEq] at e
    omega
def bA1 : List MS := [.asg 6 (.tup [.idx (.var 1) (.call 0 [.var 0, .int (5)]), .bin .add (.int (1)) (.call 0 [.var 0, .int (4)])]), .ifs (.cmp .eq (.call 0 [.var 0, .int (7)]) (.int (0))) [.sub (.var 3) (.var 6) (.tup [.tup [.tup [.int (0)], .call 0 [.var 0, .int (6)], .int (0)]])] [], .sub (.var 2) (.var 6) (.tup [])]
def envA (n : Nat) (x4 x5 x6 x7 : Option DV) : Env := [some (.loc 0), some (.lst seats5), some (.loc n), some (.loc (n + 1)), x4, x5, x6, x7]
def isAck (p : DV × DV) : Prop := ∃ n : Int, p.2 = ackD n ∧ 0 ≤ n ∧ n < 100
theorem any_1 {G : Ctx} {S S1 : Store} {n0 : Int} {i : Nat} {x4 x6 : Option DV} {T M : List (DV × DV)} (hB : G.base = S.length) (hF : G.fs = [F__law_next, F__law_any_thing]) (f : Feed S1 n0) (s : Same S S1) (hn : n0 < 10 ^ 8) (hT : KD (fun _ => True) T i) (hM : KD isAck M i) (hi : i < 1000) :
    ∃ T' M' x6' S2, evB G bA1 (envA S.length x4 none x6 none) (S1 ++ [.dic T, .dic M]) = .nx (envA S.length x4 none x6' none) (S2 ++ [.dic T', .dic M']) ∧ Feed S2 (n0 + 4) ∧ Same S S2 ∧ KD (fun _ => True) T' (i + 1) ∧ KD isAck M' (i + 1) ∧ T' ≠ [] := by
  have sz : (2000 : Nat) < sizeLine := by rw [sizeLine_eq]; decide
  obtain ⟨r1, S2, e1, a1, b1, f1, s1⟩ := next_on (m := 5) [.dic T, .dic M] G.base f (by omega) (by omega) (by omega)
  obtain ⟨r2, S3, e2, a2, b2, f2, s2⟩ := next_on (m := 4) [.dic T, .dic M] G.base f1 (by omega) (by omega) (by omega)
  obtain ⟨r3, S4, e3, a3, b3, f3, s3⟩ := next_on (m := 7) [.dic T, .dic M] G.base f2 (by omega) (by omega) (by omega)
  obtain ⟨r4, S5, e4, a4, b4, f4, s4⟩ := next_on (m := 6) [.dic T, .dic M] G.base f3 (by omega) (by omega) (by omega)
  obtain ⟨d, hd, g1⟩ := at_mem seats5 a1 b1
  have sd := seat_dot (k := 1 + r2) hd (by omega) (by omega)
  have t4 : Same S S4 := s.trans (s1.trans (s2.trans s3))
  have t5 : Same S S5 := t4.trans s4
  have kT := (hT.ks.dok sd.1.dot.tk : dok T _ = true)
  have kM := (hM.ks.dok sd.1.dot.tk : dok M _ = true)
  by_cases h0 : r3 = 0
  · have q1 : (S5 ++ [.dic T, .dic M])[S.length + 1]? = some (.dic M) := app1e t5.1
    have q2 := sub_d (b := S.length) (v := ackD r4) q1 kM (fits_up _ _ _ (Nat.le_succ _)) (by have := hM.len; omega)
    rw [set1e t5.1] at q2
    have q3 : (S5 ++ [.dic T, .dic (dput M (.tup [d, .int (1 + r2)]) (ackD r4))])[S.length]? = some (.dic T) := app0e t5.1
    have q4 := sub_d (b := S.length) (v := .tup []) q3 kT (fits_up _ _ _ (Nat.le_refl _)) (by have := hT.len; omega)
    rw [set0e t5.1] at q4
    refine ⟨dput T (.tup [d, .int (1 + r2)]) (.tup []), dput M (.tup [d, .int (1 + r2)]) (ackD r4), some (.tup [d, .int (1 + r2)]), S5, ?_, by simpa [Int.add_assoc] using f4, t5, hT.put sd trivial, hM.put sd ⟨r4, rfl, a4, by omega⟩, dput_ne _ _ _⟩
    unfold bA1 envA
    unfold ackD at q2 q4
    subst h0
    rw [hB] at e1 e2 e3 e4
    simp only [evB, evS, evE, evEs, entry, List.length_cons, List.length_nil, List.map_cons, List.map_nil, List.cons_append, List.nil_append, List.getElem?_cons_zero, List.getElem?_cons_succ, Option.getD_some, Res.of_some, Res.bind_ok, Res.then_ok, Out.bind_nx, Out.bind_rt, asBl_bl, asBlO_bl, Option.map_some, idx_l, idx_t, len_l, len_t, peekI_, peek_bl_, peek_str_, peek_tup_, peek_lst_, peek_dic_, peek_scr_, peek_non_, lt_ii, gt_ii, ge_ii, eq_ii, add_ii, List.set_cons_zero, List.set_cons_succ, if_true, if_false, Bool.false_eq_true, decide_true, decide_false, List.replicate_succ, List.replicate_zero, Nat.reduceAdd, Nat.reduceSub, reduceCtorEq, reduceIte, hF, hB, e1, e2, e3, e4, g1, q2, q4]
    rfl
  · have q3 : (S4 ++ [.dic T, .dic M])[S.length]? = some (.dic T) := app0e t4.1
    have q4 := sub_d (b := S.length) (v := .tup []) q3 kT (fits_up _ _ _ (Nat.le_refl _)) (by have := hT.len; omega)
    rw [set0e t4.1] at q4
    refine ⟨dput T (.tup [d, .int (1 + r2)]) (.tup []), M, some (.tup [d, .int (1 + r2)]), S4, ?_, (f3.mono (by omega)), t4, hT.put sd trivial, hM.mono (by omega), dput_ne _ _ _⟩
    unfold bA1 envA
    rw [hB] at e1 e2 e3 e4
    simp only [evB, evS, evE, evEs, entry, List.length_cons, List.length_nil, List.map_cons, List.map_nil, List.cons_append, List.nil_append, List.getElem?_cons_zero, List.getElem?_cons_succ, Option.getD_some, Res.of_some, Res.bind_ok, Res.then_ok, Out.bind_nx, Out.bind_rt, asBl_bl, asBlO_bl, Option.map_some, idx_l, idx_t, len_l, len_t, peekI_, peek_bl_, peek_str_, peek_tup_, peek_lst_, peek_dic_, peek_scr_, peek_non_, lt_ii, gt_ii, ge_ii, eq_ii, add_ii, List.set_cons_zero, List.set_cons_succ, if_true, if_false, Bool.false_eq_true, decide_true, decide_false, List.replicate_succ, List.replicate_zero, Nat.reduceAdd, Nat.reduceSub, reduceCtorEq, reduceIte, hF, hB, e1, e2, e3, g1, q4, h0]
end DP

namespace DP
open PySem
theorem rows_of {T M : List (DV × DV)} : ∀ l : List DV, (∀ d ∈ l, SDot d ∧ ∃ pl nm v, dget T d = some (.tup [pl, .str nm, .int v]) ∧ SPl pl ∧ Lo pl ∧ Leaf nm v) →
    ∃ rows : List Row, l.filterMap (fun d => if dhas M d then none else (dget T d).map fun v => DV.tup [d, v]) = rows.map Row.dv ∧ rows.map Row.dot = l.filter (fun d => !dhas M d) ∧ ∀ r ∈ rows, r.S
  | [], _ => ⟨[], rfl, rfl, fun r h => by cases h⟩
  | d :: l, h => by
    obtain ⟨rows, h1, h2, h3⟩ := rows_of l fun x hx => h x (List.mem_cons_of_mem _ hx)
    obtain ⟨sd, pl, nm, v, e, p1, p2, p3⟩ := h d List.mem_cons_self
    by_cases q : dhas M d = true
    · refine ⟨rows, ?_, ?_, h3⟩
      · rw [List.filterMap_cons, if_pos q]; exact h1
      · rw [List.filter_cons, q]; exact h2
    · refine ⟨⟨d, pl, nm, v⟩ :: rows, ?_, ?_, ?_⟩
      · rw [List.filterMap_cons, if_neg q, e]
        show _ :: _ = _
        rw [h1]; rfl
      · have q : dhas M d = false := by simpa using q
        rw [List.filter_cons, q, List.map_cons, h2]; rfl
      · intro r hr
        rcases List.mem_cons.mp hr with rfl | hr
        · exact ⟨sd, p1, p3, p2⟩
        · exact h3 r hr
theorem marks_of {M : List (DV × DV)} : ∀ l : List DV, (∀ d ∈ l, SDot d ∧ ∃ n : Int, dget M d = some (ackD n) ∧ 0 ≤ n ∧ n < 100) →
    ∃ ms : List Mk, l.filterMap (fun d => (dget M d).map fun v => DV.tup [d, v]) = ms.map Mk.dv ∧ ms.map Mk.dot = l ∧ ∀ m ∈ ms, m.S
  | [], _ => ⟨[], rfl, rfl, fun r h => by cases h⟩
  | d :: l, h => by
    obtain ⟨ms, h1, h2, h3⟩ := marks_of l fun x hx => h x (List.mem_cons_of_mem _ hx)
    obtain ⟨sd, n, e, p1⟩ := h d List.mem_cons_self
    refine ⟨⟨d, n⟩ :: ms, ?_, by rw [List.map_cons, h2], ?_⟩
    · rw [List.filterMap_cons, e]
      show _ :: _ = _
      rw [h1]; rfl
    · intro r hr
      rcases List.mem_cons.mp hr with rfl | hr
      · exact ⟨sd, p1⟩
      · exact h3 r hr
theorem dget_mem {kvs : List (DV × DV)} {d : DV} (h : d ∈ kvs.map (·.1)) : ∃ p ∈ kvs, p.1 = d ∧ dget kvs d = some p.2 := by
  unfold dget
  obtain ⟨q, hq, rfl⟩ := List.mem_map.mp h
  cases e : kvs.find? fun p => decide (p.1 = q.1) with
  | none => have := List.find?_eq_none.mp e q hq; simp at this
  | some p => exact ⟨p, List.mem_of_find?_eq_some e, of_decide_eq_true (List.find?_some (p := fun p : DV × DV => decide (p.1 = q.1)) e), rfl⟩
theorem KD.dots {P : DV × DV → Prop} {kvs : List (DV × DV)} {i : Nat} (h : KD P kvs i) : ∀ d ∈ kvs.map (·.1), IsDot d := fun d hd => by
  obtain ⟨p, hp, rfl⟩ := List.mem_map.mp hd
  exact (h.all p hp).1.1.dot
theorem rng1_ok {n : Int} (h0 : 0 ≤ n) (h : n ≤ 1000) : srcOf .rng1 [.int n] = some ((List.range n.toNat).map fun (i : Nat) => .int i) := by
  have sz : (2000 : Nat) < sizeLine := by rw [sizeLine_eq]; decide
  simp only [srcOf]
  rw [if_pos ⟨by omega, by omega⟩]
theorem evS_ret {G : Ctx} {m : ME} {e : Env} {S S1 : Store} {d : DV} (h : evE G m e S = .ok d S1) : evS G (.ret m) e S = .rt d S1 := by rw [evS, h, Res.then_ok]
theorem evE_tup {G : Ctx} {ms : List ME} {e : Env} {S S1 : Store} {ds : List DV} (h : evEs G ms e S = .ok ds S1) : evE G (.tup ms) e S = .ok (.tup ds) S1 := by rw [evE, h, Res.bind_ok]
theorem evEs_cons {G : Ctx} {m : ME} {ms : List ME} {e : Env} {S S1 S2 : Store} {d : DV} {ds : List DV} (h : evE G m e S = .ok d S1) (h2 : evEs G ms e S1 = .ok ds S2) : evEs G (m :: ms) e S = .ok (d :: ds) S2 := by rw [evEs, h, Res.bind_ok, h2, Res.bind_ok]
theorem evEs_same {G : Ctx} {m : ME} {ms : List ME} {e : Env} {S S2 : Store} {d : DV} {ds : List DV} (h : evE G m e S = .ok d S) (h2 : evEs G ms e S = .ok ds S2) : evEs G (m :: ms) e S = .ok (d :: ds) S2 := evEs_cons h h2
theorem evEs_nil {G : Ctx} {e : Env} {S : Store} : evEs G [] e S = .ok [] S := by rw [evEs]
def bA2 : List MS := [.sub (.var 2) (.var 6) (.call 1 [.var 0, .var 5])]
theorem any_2 {G : Ctx} {S S1 : Store} {n0 : Int} {x4 x6 : Option DV} {ds : List DV} {T M : List (DV × DV)} {d : DV} (hB : G.base = S.length) (hF : G.fs = [F__law_next, F__law_any_thing]) (f : Feed S1 n0) (s : Same S S1) (hn : n0 < 10 ^ 7) (hT : KD (fun _ => True) T 9) (hds : ∀ d ∈ ds, SDot d ∧ Lo d) (h1 : ds.length ≤ 9) (hd : d ∈ ds) (hk : ∀ d ∈ ds, d ∈ T.map (·.1)) :
    ∃ T' S2 pl nm v, evB G bA2 (envA S.length x4 (some (.lst ds)) (some d) none) (S1 ++ [.dic T, .dic M]) = .nx (envA S.length x4 (some (.lst ds)) (some d) none) (S2 ++ [.dic T', .dic M]) ∧ Feed S2 (n0 + 5) ∧ Same S S2 ∧ KD (fun _ => True) T' 9 ∧ T'.map (·.1) = T.map (·.1) ∧ T' = dput T d (.tup [pl, .str nm, .int v]) ∧ SPl pl ∧ Lo pl ∧ Leaf nm v := by
  have sz : (2000 : Nat) < sizeLine := by rw [sizeLine_eq]; decide
  obtain ⟨pl, nm, v, S', e, p1, p2, p3, f1, s1⟩ := any_thing_spec G.base (f.app [.dic T, .dic M]) (by omega) hds (by intro z; rw [z] at hd; cases hd) (by omega)
  obtain ⟨S2, rfl, s2⟩ := s1.split f.pos
  have t := s.trans s2
  have kT := (hT.ks.dok (hds d hd).1.dot.tk : dok T _ = true)
  have q3 : (S2 ++ [.dic T, .dic M])[S.length]? = some (.dic T) := app0e t.1
  have q4 := sub_d (b := S.length) (v := .tup [pl, .str nm, .int v]) q3 kT (fits_up _ _ _ (Nat.le_refl _)) (by have := hT.len; omega)
  rw [set0e t.1] at q4
  have hh : dhas T d = true := (dhas_mem T d).mpr (hk d hd)
  have kf : (dput T d (.tup [pl, .str nm, .int v])).map (·.1) = T.map (·.1) := by rw [dput_fst, if_pos hh]
  refine ⟨_, S2, pl, nm, v, ?_, f1.left (by have := t.1; have := f.pos; have := s.1; omega), t, ⟨?_, dput_nd hT.nd, dput_all hT.all ⟨hds d hd, trivial⟩⟩, kf, rfl, p1, p2, p3⟩
  · unfold bA2 envA
    rw [hB] at e
    simp only [evB, evS, evE, evEs, entry, List.length_cons, List.length_nil, List.map_cons, List.map_nil, List.cons_append, List.nil_append, List.getElem?_cons_zero, List.getElem?_cons_succ, Option.getD_some, Res.of_some, Res.bind_ok, Res.then_ok, Out.bind_nx, Out.bind_rt, asBl_bl, asBlO_bl, Option.map_some, idx_l, idx_t, len_l, len_t, peekI_, peek_bl_, peek_str_, peek_tup_, peek_lst_, peek_dic_, peek_scr_, peek_non_, lt_ii, gt_ii, ge_ii, eq_ii, add_ii, List.set_cons_zero, List.set_cons_succ, if_true, if_false, Bool.false_eq_true, decide_true, decide_false, List.replicate_succ, List.replicate_zero, Nat.reduceAdd, Nat.reduceSub, reduceCtorEq, reduceIte, hF, hB, e, q4]
  · rw [← List.length_map (f := (·.1)), kf, List.length_map]; exact hT.len
theorem any_book_spec {S : Store} {n : Int} (b : Nat) (h : Feed S n) (hn : n < 10 ^ 6) :
    ∃ rows ms S', F__law_any_book b [.loc 0] S = .ok (mkBook 9 rows ms) S' ∧ BOk 9 rows ms ∧ Feed S' (n + 100) ∧ Same S S' := by
  have sz : (2000 : Nat) < sizeLine := by rw [sizeLine_eq]; decide
  generalize hG : ({ fs := [F__law_next, F__law_any_thing], cs := [], base := S.length } : Ctx) = G
  have hB : G.base = S.length := by rw [← hG]
  have hF : G.fs = [F__law_next, F__law_any_thing] := by rw [← hG]
  obtain ⟨r, S1, e1, a1, b1, f1, s1⟩ := next_on (m := 9) [.dic [], .dic []] G.base h (by omega) (by omega) (by omega)
  -- the first loop
  have h1 := forL_inv (tg := .nm 4) (b := evB G bA1) (chk := isLive [.int (1 + r)] (S1 ++ [.dic [], .dic []])) (items := (List.range (1 + r).toNat).map fun (i : Nat) => DV.int i)
    (fun i e S' => ∃ x4 x6 T M S2, e = envA S.length x4 none x6 none ∧ S' = S2 ++ [.dic T, .dic M] ∧ Feed S2 (n + 1 + 4 * i) ∧ Same S S2 ∧ KD (fun _ => True) T i ∧ KD isAck M i ∧ (0 < i → T ≠ []))
    (fun i e S' _ => rfl) (fun i hi e S' ⟨x4, x6, T, M, S2, he, hS, f, s, hT, hM, hne⟩ => ?_) _ 0 (envA S.length none none none none) (S1 ++ [.dic [], .dic []]) rfl (Nat.zero_le _) ⟨none, none, [], [], S1, rfl, rfl, by simpa using f1, s1, ⟨Nat.le_refl _, by simp, fun p h => by cases h⟩, ⟨Nat.le_refl _, by simp, fun p h => by cases h⟩, fun h => by omega⟩
  · rw [List.drop_zero] at h1
    obtain ⟨e2, S2, h1, x4, x6, T, M, S3, rfl, rfl, f3, s3, hT, hM, hne⟩ := h1
    rw [List.length_map, List.length_range] at f3 hT hM hne
    have hT9 : KD (fun _ => True) T 9 := hT.mono (by omega)
    have hM9 : KD isAck M 9 := hM.mono (by omega)
    have srt : blt .sorted [.dic T] = some (.lst ((T.map (·.1)).mergeSort DV.leb)) := by rw [sorted_d, sorted_dots hT.dots]
    have srtM : blt .sorted [.dic M] = some (.lst ((M.map (·.1)).mergeSort DV.leb)) := by rw [sorted_d, sorted_dots hM.dots]
    have pT := List.mergeSort_perm (T.map (·.1)) DV.leb
    have pM := List.mergeSort_perm (M.map (·.1)) DV.leb
    have sT := leb_sorted (T.map (·.1))
    have sM := leb_sorted (M.map (·.1))
    generalize (T.map (·.1)).mergeSort DV.leb = ds at srt pT sT
    generalize (M.map (·.1)).mergeSort DV.leb = dm at srtM pM sM
    have ds1 : ∀ d ∈ ds, SDot d ∧ Lo d := fun d hd => by
      obtain ⟨p, hp, rfl⟩ := List.mem_map.mp (pT.mem_iff.mp hd)
      exact (hT.all p hp).1
    have ds2 : ds.length ≤ 9 := by rw [pT.length_eq, List.length_map]; exact hT9.len
    have dm2 : dm.length ≤ 9 := by rw [pM.length_eq, List.length_map]; exact hM9.len
    have h2 := forL_inv (tg := .nm 6) (b := evB G bA2) (chk := isLive [.lst ds] (S3 ++ [.dic T, .dic M])) (items := ds)
      (fun i e S' => ∃ x6 T' S2, e = envA S.length x4 (some (.lst ds)) x6 none ∧ S' = S2 ++ [.dic T', .dic M] ∧ Feed S2 (n + 37 + 5 * i) ∧ Same S S2 ∧ KD (fun _ => True) T' 9 ∧ T'.map (·.1) = T.map (·.1) ∧ ∀ d ∈ ds.take i, ∃ pl nm v, dget T' d = some (.tup [pl, .str nm, .int v]) ∧ SPl pl ∧ Lo pl ∧ Leaf nm v)
      (fun i e S' _ => rfl) (fun i hi e S' ⟨x6, T', S2, he, hS, f, s, hT', hf, hg⟩ => ?_) _ 0 (envA S.length x4 (some (.lst ds)) x6 none) (S3 ++ [.dic T, .dic M]) rfl (Nat.zero_le _) ⟨x6, T, S3, rfl, rfl, f3.mono (by omega), s3, hT9, rfl, fun d hd => by simp at hd⟩
    · rw [List.drop_zero] at h2
      obtain ⟨e4, S4, h2, y6, T', S5, rfl, rfl, f5, s5, hT', hf, hg⟩ := h2
      rw [List.take_length] at hg
      obtain ⟨rows, r1, r2, r3⟩ := rows_of (T := T') (M := M) ds fun d hd => ⟨(ds1 d hd).1, hg d hd⟩
      obtain ⟨ms, m1, m2, m3⟩ := marks_of (M := M) dm fun d hd => by
        obtain ⟨p, hp, e, g⟩ := dget_mem (pM.mem_iff.mp hd)
        obtain ⟨⟨q1, _⟩, k, q2, q3⟩ := hM.all p hp
        exact ⟨e ▸ q1, k, by rw [g, q2], q3⟩
      have pk2 : ∀ S6 : Store, S6.length = S.length → peek (S6 ++ [.dic T', .dic M]) (.loc S.length) = .dic T' := fun S6 h => peek_dicL (app0e h)
      have pk3 : ∀ S6 : Store, S6.length = S.length → peek (S6 ++ [.dic T', .dic M]) (.loc (S.length + 1)) = .dic M := fun S6 h => peek_dicL (app1e h)
      have pk2' := pk2 S5 s5.1
      have pk3' := pk3 S5 s5.1
      have bok : BOk 9 rows ms := by
        refine ⟨r3, m3, ?_, ?_, ?_, by decide, ?_⟩
        · rw [r2, m2]
          have nT : ds.Nodup := pT.nodup_iff.mpr hT.nd
          have nM : dm.Nodup := pM.nodup_iff.mpr hM.nd
          refine List.nodup_append.mpr ⟨nT.sublist List.filter_sublist, nM, fun a ha c hc e => ?_⟩
          subst e
          have := (List.mem_filter.mp ha).2
          rw [(dhas_mem M a).mpr (pM.mem_iff.mp hc)] at this
          cases this
        · unfold Sd
          rw [r2]
          exact sT.sublist List.filter_sublist
        · have l1 : rows.length ≤ ds.length := by
            rw [← List.length_map (f := Row.dot), r2]; exact List.length_filter_le _ _
          have l2 : ms.length = dm.length := by rw [← m2, List.length_map]
          omega
        · have l2 : ms.length = dm.length := by rw [← m2, List.length_map]
          have dn : ds ≠ [] := fun e => hne (by omega) (by
            have := pT.length_eq
            rw [e, List.length_map] at this
            exact List.length_eq_zero_iff.mp this.symm)
          obtain ⟨d, hd⟩ := List.exists_mem_of_ne_nil ds dn
          by_cases q : dhas M d = true
          · have := List.length_pos_of_mem (pM.mem_iff.mpr ((dhas_mem M d).mp q))
            omega
          · have : d ∈ rows.map Row.dot := by
              rw [r2]
              exact List.mem_filter.mpr ⟨hd, by simpa using q⟩
            have := List.length_pos_of_mem this
            rw [List.length_map] at this
            omega
      have key : evB G b__law_any_book.body (entry 8 [.loc 0]) S = .rt (mkBook 9 rows ms) (S5 ++ [.dic T', .dic M]) := by
        unfold b__law_any_book
        refine (evB_nx (evS_asg (v := .lst seats5) (S2 := S) (by simp only [evB, evS, evE, evEs, entry, List.length_cons, List.length_nil, List.map_cons, List.map_nil, List.cons_append, List.nil_append, List.getElem?_cons_zero, List.getElem?_cons_succ, Option.getD_some, Res.of_some, Res.bind_ok, Res.then_ok, Out.bind_nx, Out.bind_rt, asBl_bl, asBlO_bl, Option.map_some, idx_l, idx_t, len_l, len_t, peekI_, peek_bl_, peek_str_, peek_tup_, peek_lst_, peek_dic_, peek_scr_, peek_non_, lt_ii, gt_ii, ge_ii, eq_ii, add_ii, List.set_cons_zero, List.set_cons_succ, if_true, if_false, Bool.false_eq_true, decide_true, decide_false, List.replicate_succ, List.replicate_zero, Nat.reduceAdd, Nat.reduceSub, reduceCtorEq, reduceIte, seats5]))).trans ?_
        refine (evB_nx (evS_asg (v := .loc S.length) (S2 := S ++ [.dic []]) (by simp only [evB, evS, evE, evEs, entry, List.length_cons, List.length_nil, List.map_cons, List.map_nil, List.cons_append, List.nil_append, List.getElem?_cons_zero, List.getElem?_cons_succ, Option.getD_some, Res.of_some, Res.bind_ok, Res.then_ok, Out.bind_nx, Out.bind_rt, asBl_bl, asBlO_bl, Option.map_some, idx_l, idx_t, len_l, len_t, peekI_, peek_bl_, peek_str_, peek_tup_, peek_lst_, peek_dic_, peek_scr_, peek_non_, lt_ii, gt_ii, ge_ii, eq_ii, add_ii, List.set_cons_zero, List.set_cons_succ, if_true, if_false, Bool.false_eq_true, decide_true, decide_false, List.replicate_succ, List.replicate_zero, Nat.reduceAdd, Nat.reduceSub, reduceCtorEq, reduceIte, lay]))).trans ?_
        refine (evB_nx (e2 := envA S.length none none none none) (S2 := S ++ [.dic [], .dic []]) (evS_asg (v := .loc (S.length + 1)) (by simp only [evB, evS, evE, evEs, entry, List.length_cons, List.length_nil, List.map_cons, List.map_nil, List.cons_append, List.nil_append, List.getElem?_cons_zero, List.getElem?_cons_succ, Option.getD_some, Res.of_some, Res.bind_ok, Res.then_ok, Out.bind_nx, Out.bind_rt, asBl_bl, asBlO_bl, Option.map_some, idx_l, idx_t, len_l, len_t, peekI_, peek_bl_, peek_str_, peek_tup_, peek_lst_, peek_dic_, peek_scr_, peek_non_, lt_ii, gt_ii, ge_ii, eq_ii, add_ii, List.set_cons_zero, List.set_cons_succ, if_true, if_false, Bool.false_eq_true, decide_true, decide_false, List.replicate_succ, List.replicate_zero, Nat.reduceAdd, Nat.reduceSub, reduceCtorEq, reduceIte, lay, List.length_append, List.append_assoc]))).trans ?_
        refine (evB_nx ((evS_fors (as := [.int (1 + r)]) (S2 := S1 ++ [.dic [], .dic []]) ?_ (rng1_ok (by omega) (by omega))).trans h1)).trans ?_
        · unfold envA
          rw [hB] at e1
          simp only [evB, evS, evE, evEs, entry, List.length_cons, List.length_nil, List.map_cons, List.map_nil, List.cons_append, List.nil_append, List.getElem?_cons_zero, List.getElem?_cons_succ, Option.getD_some, Res.of_some, Res.bind_ok, Res.then_ok, Out.bind_nx, Out.bind_rt, asBl_bl, asBlO_bl, Option.map_some, idx_l, idx_t, len_l, len_t, peekI_, peek_bl_, peek_str_, peek_tup_, peek_lst_, peek_dic_, peek_scr_, peek_non_, lt_ii, gt_ii, ge_ii, eq_ii, add_ii, List.set_cons_zero, List.set_cons_succ, if_true, if_false, Bool.false_eq_true, decide_true, decide_false, List.replicate_succ, List.replicate_zero, Nat.reduceAdd, Nat.reduceSub, reduceCtorEq, reduceIte, hF, hB, e1]
        have pk0 : peek (S3 ++ [.dic T, .dic M]) (.loc S.length) = .dic T := peek_dicL (app0e s3.1)
        refine (evB_nx (e2 := envA S.length x4 (some (.lst ds)) x6 none) (S2 := S3 ++ [.dic T, .dic M]) (evS_asg (v := .lst ds) (by unfold envA; simp only [evB, evS, evE, evEs, entry, List.length_cons, List.length_nil, List.map_cons, List.map_nil, List.cons_append, List.nil_append, List.getElem?_cons_zero, List.getElem?_cons_succ, Option.getD_some, Res.of_some, Res.bind_ok, Res.then_ok, Out.bind_nx, Out.bind_rt, asBl_bl, asBlO_bl, Option.map_some, idx_l, idx_t, len_l, len_t, peekI_, peek_bl_, peek_str_, peek_tup_, peek_lst_, peek_dic_, peek_scr_, peek_non_, lt_ii, gt_ii, ge_ii, eq_ii, add_ii, List.set_cons_zero, List.set_cons_succ, if_true, if_false, Bool.false_eq_true, decide_true, decide_false, List.replicate_succ, List.replicate_zero, Nat.reduceAdd, Nat.reduceSub, reduceCtorEq, reduceIte, pk0, srt]))).trans ?_
        refine (evB_nx ((evS_fors (as := [.lst ds]) (S2 := S3 ++ [.dic T, .dic M]) (items := ds) (by unfold envA; simp only [evB, evS, evE, evEs, entry, List.length_cons, List.length_nil, List.map_cons, List.map_nil, List.cons_append, List.nil_append, List.getElem?_cons_zero, List.getElem?_cons_succ, Option.getD_some, Res.of_some, Res.bind_ok, Res.then_ok, Out.bind_nx, Out.bind_rt, asBl_bl, asBlO_bl, Option.map_some, idx_l, idx_t, len_l, len_t, peekI_, peek_bl_, peek_str_, peek_tup_, peek_lst_, peek_dic_, peek_scr_, peek_non_, lt_ii, gt_ii, ge_ii, eq_ii, add_ii, List.set_cons_zero, List.set_cons_succ, if_true, if_false, Bool.false_eq_true, decide_true, decide_false, List.replicate_succ, List.replicate_zero, Nat.reduceAdd, Nat.reduceSub, reduceCtorEq, reduceIte]) rfl).trans h2)).trans ?_
        have c1 : evE G (.comp (.tup [.var 6, .idx (.var 2) (.var 6)]) (.nm 6) .seq [.var 5] [.cmp .notin (.var 6) (.var 3)] [6]) (envA S.length x4 (some (.lst ds)) y6 none) (S5 ++ [.dic T', .dic M]) = .ok (.lst (rows.map Row.dv)) (S5 ++ [.dic T', .dic M]) := by
          unfold envA
          simp only [evB, evS, evE, evEs, entry, List.length_cons, List.length_nil, List.map_cons, List.map_nil, List.cons_append, List.nil_append, List.getElem?_cons_zero, List.getElem?_cons_succ, Option.getD_some, Res.of_some, Res.bind_ok, Res.then_ok, Out.bind_nx, Out.bind_rt, asBl_bl, asBlO_bl, Option.map_some, idx_l, idx_t, len_l, len_t, peekI_, peek_bl_, peek_str_, peek_tup_, peek_lst_, peek_dic_, peek_scr_, peek_non_, lt_ii, gt_ii, ge_ii, eq_ii, add_ii, List.set_cons_zero, List.set_cons_succ, if_true, if_false, Bool.false_eq_true, decide_true, decide_false, List.replicate_succ, List.replicate_zero, Nat.reduceAdd, Nat.reduceSub, reduceCtorEq, reduceIte, srcArg, srcOf]
          rw [compL_pure (g := fun d => if dhas M d then none else (dget T' d).map fun v => DV.tup [d, v]) (isLive_ok _ _ (by simp))]
          · simp only [evB, evS, evE, evEs, entry, List.length_cons, List.length_nil, List.map_cons, List.map_nil, List.cons_append, List.nil_append, List.getElem?_cons_zero, List.getElem?_cons_succ, Option.getD_some, Res.of_some, Res.bind_ok, Res.then_ok, Out.bind_nx, Out.bind_rt, asBl_bl, asBlO_bl, Option.map_some, idx_l, idx_t, len_l, len_t, peekI_, peek_bl_, peek_str_, peek_tup_, peek_lst_, peek_dic_, peek_scr_, peek_non_, lt_ii, gt_ii, ge_ii, eq_ii, add_ii, List.set_cons_zero, List.set_cons_succ, if_true, if_false, Bool.false_eq_true, decide_true, decide_false, List.replicate_succ, List.replicate_zero, Nat.reduceAdd, Nat.reduceSub, reduceCtorEq, reduceIte, r1]
          · intro d hd
            have td := (ds1 d hd).1.dot.tk
            have pd : ∀ S, peek S d = d := fun S => peek_tk td
            obtain ⟨pl, nm, v, g1, _⟩ := hg d hd
            have gi := dget_idx (hT'.ks.dok td)
            by_cases q : dhas M d = true
            · simp only [evB, evS, evE, evEs, entry, List.length_cons, List.length_nil, List.map_cons, List.map_nil, List.cons_append, List.nil_append, List.getElem?_cons_zero, List.getElem?_cons_succ, Option.getD_some, Res.of_some, Res.bind_ok, Res.then_ok, Out.bind_nx, Out.bind_rt, asBl_bl, asBlO_bl, Option.map_some, idx_l, idx_t, len_l, len_t, peekI_, peek_bl_, peek_str_, peek_tup_, peek_lst_, peek_dic_, peek_scr_, peek_non_, lt_ii, gt_ii, ge_ii, eq_ii, add_ii, List.set_cons_zero, List.set_cons_succ, if_true, if_false, Bool.false_eq_true, decide_true, decide_false, List.replicate_succ, List.replicate_zero, Nat.reduceAdd, Nat.reduceSub, reduceCtorEq, reduceIte, wipe, bindTo, evC, pd, pk3', notin_d (hM.ks.dok td), q, Bool.not_true, noExc]
            · have q : dhas M d = false := by simpa using q
              simp only [evB, evS, evE, evEs, entry, List.length_cons, List.length_nil, List.map_cons, List.map_nil, List.cons_append, List.nil_append, List.getElem?_cons_zero, List.getElem?_cons_succ, Option.getD_some, Res.of_some, Res.bind_ok, Res.then_ok, Out.bind_nx, Out.bind_rt, asBl_bl, asBlO_bl, Option.map_some, idx_l, idx_t, len_l, len_t, peekI_, peek_bl_, peek_str_, peek_tup_, peek_lst_, peek_dic_, peek_scr_, peek_non_, lt_ii, gt_ii, ge_ii, eq_ii, add_ii, List.set_cons_zero, List.set_cons_succ, if_true, if_false, Bool.false_eq_true, decide_true, decide_false, List.replicate_succ, List.replicate_zero, Nat.reduceAdd, Nat.reduceSub, reduceCtorEq, reduceIte, wipe, bindTo, evC, pd, pk3', pk2', notin_d (hM.ks.dok td), q, Bool.not_false, noExc, gi, g1]
        have c2 : ∀ x7, evE G (.comp (.tup [.var 6, .idx (.var 3) (.var 6)]) (.nm 6) .seq [.blt .sorted [.var 3]] [] [6]) (envA S.length x4 (some (.lst ds)) y6 x7) (S5 ++ [.dic T', .dic M]) = .ok (.lst (ms.map Mk.dv)) (S5 ++ [.dic T', .dic M]) := by
          intro x7
          unfold envA
          simp only [evB, evS, evE, evEs, entry, List.length_cons, List.length_nil, List.map_cons, List.map_nil, List.cons_append, List.nil_append, List.getElem?_cons_zero, List.getElem?_cons_succ, Option.getD_some, Res.of_some, Res.bind_ok, Res.then_ok, Out.bind_nx, Out.bind_rt, asBl_bl, asBlO_bl, Option.map_some, idx_l, idx_t, len_l, len_t, peekI_, peek_bl_, peek_str_, peek_tup_, peek_lst_, peek_dic_, peek_scr_, peek_non_, lt_ii, gt_ii, ge_ii, eq_ii, add_ii, List.set_cons_zero, List.set_cons_succ, if_true, if_false, Bool.false_eq_true, decide_true, decide_false, List.replicate_succ, List.replicate_zero, Nat.reduceAdd, Nat.reduceSub, reduceCtorEq, reduceIte, srcArg, srcOf, pk3', srtM]
          rw [compL_pure (g := fun d => (dget M d).map fun v => DV.tup [d, v]) (isLive_ok _ _ (by simp))]
          · simp only [evB, evS, evE, evEs, entry, List.length_cons, List.length_nil, List.map_cons, List.map_nil, List.cons_append, List.nil_append, List.getElem?_cons_zero, List.getElem?_cons_succ, Option.getD_some, Res.of_some, Res.bind_ok, Res.then_ok, Out.bind_nx, Out.bind_rt, asBl_bl, asBlO_bl, Option.map_some, idx_l, idx_t, len_l, len_t, peekI_, peek_bl_, peek_str_, peek_tup_, peek_lst_, peek_dic_, peek_scr_, peek_non_, lt_ii, gt_ii, ge_ii, eq_ii, add_ii, List.set_cons_zero, List.set_cons_succ, if_true, if_false, Bool.false_eq_true, decide_true, decide_false, List.replicate_succ, List.replicate_zero, Nat.reduceAdd, Nat.reduceSub, reduceCtorEq, reduceIte, m1]
          · intro d hd
            obtain ⟨p, hp, e, g⟩ := dget_mem (pM.mem_iff.mp hd)
            have td : tkey d = true := by rw [← e]; exact (hM.all p hp).1.1.dot.tk
            have pd : ∀ S, peek S d = d := fun S => peek_tk td
            have gi := dget_idx (hM.ks.dok td)
            simp only [evB, evS, evE, evEs, entry, List.length_cons, List.length_nil, List.map_cons, List.map_nil, List.cons_append, List.nil_append, List.getElem?_cons_zero, List.getElem?_cons_succ, Option.getD_some, Res.of_some, Res.bind_ok, Res.then_ok, Out.bind_nx, Out.bind_rt, asBl_bl, asBlO_bl, Option.map_some, idx_l, idx_t, len_l, len_t, peekI_, peek_bl_, peek_str_, peek_tup_, peek_lst_, peek_dic_, peek_scr_, peek_non_, lt_ii, gt_ii, ge_ii, eq_ii, add_ii, List.set_cons_zero, List.set_cons_succ, if_true, if_false, Bool.false_eq_true, decide_true, decide_false, List.replicate_succ, List.replicate_zero, Nat.reduceAdd, Nat.reduceSub, reduceCtorEq, reduceIte, wipe, bindTo, evC, pd, pk3', noExc, gi, g]
        refine (evB_nx (e2 := envA S.length x4 (some (.lst ds)) y6 (some (.tup (rows.map Row.dv)))) (S2 := S5 ++ [.dic T', .dic M]) (evS_asg (v := .tup (rows.map Row.dv)) ?_)).trans ?_
        · rw [evE, evEs, c1]; simp only [evB, evS, evE, evEs, entry, List.length_cons, List.length_nil, List.map_cons, List.map_nil, List.cons_append, List.nil_append, List.getElem?_cons_zero, List.getElem?_cons_succ, Option.getD_some, Res.of_some, Res.bind_ok, Res.then_ok, Out.bind_nx, Out.bind_rt, asBl_bl, asBlO_bl, Option.map_some, idx_l, idx_t, len_l, len_t, peekI_, peek_bl_, peek_str_, peek_tup_, peek_lst_, peek_dic_, peek_scr_, peek_non_, lt_ii, gt_ii, ge_ii, eq_ii, add_ii, List.set_cons_zero, List.set_cons_succ, if_true, if_false, Bool.false_eq_true, decide_true, decide_false, List.replicate_succ, List.replicate_zero, Nat.reduceAdd, Nat.reduceSub, reduceCtorEq, reduceIte, tuple_l]
        refine evB_rt ?_
        have c2 := c2 (some (.tup (rows.map Row.dv)))
        have c3 : evE G (.blt .tuple [.comp (.tup [.var 6, .idx (.var 3) (.var 6)]) (.nm 6) .seq [.blt .sorted [.var 3]] [] [6]]) (envA S.length x4 (some (.lst ds)) y6 (some (.tup (rows.map Row.dv)))) (S5 ++ [.dic T', .dic M]) = .ok (.tup (ms.map Mk.dv)) (S5 ++ [.dic T', .dic M]) := by
          rw [evE, evEs, c2]; simp only [evB, evS, evE, evEs, entry, List.length_cons, List.length_nil, List.map_cons, List.map_nil, List.cons_append, List.nil_append, List.getElem?_cons_zero, List.getElem?_cons_succ, Option.getD_some, Res.of_some, Res.bind_ok, Res.then_ok, Out.bind_nx, Out.bind_rt, asBl_bl, asBlO_bl, Option.map_some, idx_l, idx_t, len_l, len_t, peekI_, peek_bl_, peek_str_, peek_tup_, peek_lst_, peek_dic_, peek_scr_, peek_non_, lt_ii, gt_ii, ge_ii, eq_ii, add_ii, List.set_cons_zero, List.set_cons_succ, if_true, if_false, Bool.false_eq_true, decide_true, decide_false, List.replicate_succ, List.replicate_zero, Nat.reduceAdd, Nat.reduceSub, reduceCtorEq, reduceIte, tuple_l]
        refine evS_ret (evE_tup ?_)
        refine evEs_same (by simp only [evB, evS, evE, evEs, entry, List.length_cons, List.length_nil, List.map_cons, List.map_nil, List.cons_append, List.nil_append, List.getElem?_cons_zero, List.getElem?_cons_succ, Option.getD_some, Res.of_some, Res.bind_ok, Res.then_ok, Out.bind_nx, Out.bind_rt, asBl_bl, asBlO_bl, Option.map_some, idx_l, idx_t, len_l, len_t, peekI_, peek_bl_, peek_str_, peek_tup_, peek_lst_, peek_dic_, peek_scr_, peek_non_, lt_ii, gt_ii, ge_ii, eq_ii, add_ii, List.set_cons_zero, List.set_cons_succ, if_true, if_false, Bool.false_eq_true, decide_true, decide_false, List.replicate_succ, List.replicate_zero, Nat.reduceAdd, Nat.reduceSub, reduceCtorEq, reduceIte]) (evEs_same (by simp only [evB, evS, evE, evEs, entry, List.length_cons, List.length_nil, List.map_cons, List.map_nil, List.cons_append, List.nil_append, List.getElem?_cons_zero, List.getElem?_cons_succ, Option.getD_some, Res.of_some, Res.bind_ok, Res.then_ok, Out.bind_nx, Out.bind_rt, asBl_bl, asBlO_bl, Option.map_some, idx_l, idx_t, len_l, len_t, peekI_, peek_bl_, peek_str_, peek_tup_, peek_lst_, peek_dic_, peek_scr_, peek_non_, lt_ii, gt_ii, ge_ii, eq_ii, add_ii, List.set_cons_zero, List.set_cons_succ, if_true, if_false, Bool.false_eq_true, decide_true, decide_false, List.replicate_succ, List.replicate_zero, Nat.reduceAdd, Nat.reduceSub, reduceCtorEq, reduceIte]) (evEs_same (by simp only [evB, evS, evE, evEs, entry, List.length_cons, List.length_nil, List.map_cons, List.map_nil, List.cons_append, List.nil_append, List.getElem?_cons_zero, List.getElem?_cons_succ, Option.getD_some, Res.of_some, Res.bind_ok, Res.then_ok, Out.bind_nx, Out.bind_rt, asBl_bl, asBlO_bl, Option.map_some, idx_l, idx_t, len_l, len_t, peekI_, peek_bl_, peek_str_, peek_tup_, peek_lst_, peek_dic_, peek_scr_, peek_non_, lt_ii, gt_ii, ge_ii, eq_ii, add_ii, List.set_cons_zero, List.set_cons_succ, if_true, if_false, Bool.false_eq_true, decide_true, decide_false, List.replicate_succ, List.replicate_zero, Nat.reduceAdd, Nat.reduceSub, reduceCtorEq, reduceIte]) (evEs_same (by simp only [evB, evS, evE, evEs, entry, List.length_cons, List.length_nil, List.map_cons, List.map_nil, List.cons_append, List.nil_append, List.getElem?_cons_zero, List.getElem?_cons_succ, Option.getD_some, Res.of_some, Res.bind_ok, Res.then_ok, Out.bind_nx, Out.bind_rt, asBl_bl, asBlO_bl, Option.map_some, idx_l, idx_t, len_l, len_t, peekI_, peek_bl_, peek_str_, peek_tup_, peek_lst_, peek_dic_, peek_scr_, peek_non_, lt_ii, gt_ii, ge_ii, eq_ii, add_ii, List.set_cons_zero, List.set_cons_succ, if_true, if_false, Bool.false_eq_true, decide_true, decide_false, List.replicate_succ, List.replicate_zero, Nat.reduceAdd, Nat.reduceSub, reduceCtorEq, reduceIte]) (evEs_same (by simp only [evB, evS, evE, evEs, entry, List.length_cons, List.length_nil, List.map_cons, List.map_nil, List.cons_append, List.nil_append, List.getElem?_cons_zero, List.getElem?_cons_succ, Option.getD_some, Res.of_some, Res.bind_ok, Res.then_ok, Out.bind_nx, Out.bind_rt, asBl_bl, asBlO_bl, Option.map_some, idx_l, idx_t, len_l, len_t, peekI_, peek_bl_, peek_str_, peek_tup_, peek_lst_, peek_dic_, peek_scr_, peek_non_, lt_ii, gt_ii, ge_ii, eq_ii, add_ii, List.set_cons_zero, List.set_cons_succ, if_true, if_false, Bool.false_eq_true, decide_true, decide_false, List.replicate_succ, List.replicate_zero, Nat.reduceAdd, Nat.reduceSub, reduceCtorEq, reduceIte]) (evEs_same (d := .tup (rows.map Row.dv)) ?_ (evEs_same c3 (evEs_same (by simp only [evB, evS, evE, evEs, entry, List.length_cons, List.length_nil, List.map_cons, List.map_nil, List.cons_append, List.nil_append, List.getElem?_cons_zero, List.getElem?_cons_succ, Option.getD_some, Res.of_some, Res.bind_ok, Res.then_ok, Out.bind_nx, Out.bind_rt, asBl_bl, asBlO_bl, Option.map_some, idx_l, idx_t, len_l, len_t, peekI_, peek_bl_, peek_str_, peek_tup_, peek_lst_, peek_dic_, peek_scr_, peek_non_, lt_ii, gt_ii, ge_ii, eq_ii, add_ii, List.set_cons_zero, List.set_cons_succ, if_true, if_false, Bool.false_eq_true, decide_true, decide_false, List.replicate_succ, List.replicate_zero, Nat.reduceAdd, Nat.reduceSub, reduceCtorEq, reduceIte]) (evEs_same (by simp only [evB, evS, evE, evEs, entry, List.length_cons, List.length_nil, List.map_cons, List.map_nil, List.cons_append, List.nil_append, List.getElem?_cons_zero, List.getElem?_cons_succ, Option.getD_some, Res.of_some, Res.bind_ok, Res.then_ok, Out.bind_nx, Out.bind_rt, asBl_bl, asBlO_bl, Option.map_some, idx_l, idx_t, len_l, len_t, peekI_, peek_bl_, peek_str_, peek_tup_, peek_lst_, peek_dic_, peek_scr_, peek_non_, lt_ii, gt_ii, ge_ii, eq_ii, add_ii, List.set_cons_zero, List.set_cons_succ, if_true, if_false, Bool.false_eq_true, decide_true, decide_false, List.replicate_succ, List.replicate_zero, Nat.reduceAdd, Nat.reduceSub, reduceCtorEq, reduceIte]) (evEs_same (by simp only [evB, evS, evE, evEs, entry, List.length_cons, List.length_nil, List.map_cons, List.map_nil, List.cons_append, List.nil_append, List.getElem?_cons_zero, List.getElem?_cons_succ, Option.getD_some, Res.of_some, Res.bind_ok, Res.then_ok, Out.bind_nx, Out.bind_rt, asBl_bl, asBlO_bl, Option.map_some, idx_l, idx_t, len_l, len_t, peekI_, peek_bl_, peek_str_, peek_tup_, peek_lst_, peek_dic_, peek_scr_, peek_non_, lt_ii, gt_ii, ge_ii, eq_ii, add_ii, List.set_cons_zero, List.set_cons_succ, if_true, if_false, Bool.false_eq_true, decide_true, decide_false, List.replicate_succ, List.replicate_zero, Nat.reduceAdd, Nat.reduceSub, reduceCtorEq, reduceIte]) evEs_nil)))))))))
        simp only [evB, evS, evE, evEs, entry, List.length_cons, List.length_nil, List.map_cons, List.map_nil, List.cons_append, List.nil_append, List.getElem?_cons_zero, List.getElem?_cons_succ, Option.getD_some, Res.of_some, Res.bind_ok, Res.then_ok, Out.bind_nx, Out.bind_rt, asBl_bl, asBlO_bl, Option.map_some, idx_l, idx_t, len_l, len_t, peekI_, peek_bl_, peek_str_, peek_tup_, peek_lst_, peek_dic_, peek_scr_, peek_non_, lt_ii, gt_ii, ge_ii, eq_ii, add_ii, List.set_cons_zero, List.set_cons_succ, if_true, if_false, Bool.false_eq_true, decide_true, decide_false, List.replicate_succ, List.replicate_zero, Nat.reduceAdd, Nat.reduceSub, reduceCtorEq, reduceIte, envA]
      have pv : (mkBook 9 rows ms).pure = true := by
        unfold mkBook
        have p1 : DV.pures (rows.map Row.dv) = true := pures_tup fun d hd => by
          obtain ⟨r, hr, rfl⟩ := List.mem_map.mp hd
          exact (r3 r hr).gd.ok.pure
        have p2 : DV.pures (ms.map Mk.dv) = true := pures_tup fun d hd => by
          obtain ⟨m, hm, rfl⟩ := List.mem_map.mp hd
          have := (tk_facts (m3 m hm).dot.dot.tk).choose_spec.2.2.2
          simp only [Mk.dv, ackD, DV.pure, DV.pures, this, Bool.and_self]
        simp only [DV.pure, DV.pures, p1, p2, Bool.and_self]
      have := run_rt (fs := [F__law_next, F__law_any_thing]) (cs := []) (d := b__law_any_book) (b := b) (args := [.loc 0]) rfl rfl (hG ▸ key) pv
      refine ⟨rows, ms, S5, ?_, bok, f5.mono (by omega), s5⟩
      refine this.trans ?_
      rw [List.take_append_of_le_length (by rw [s5.1]; omega), ← s5.1, List.take_length]
    · subst he hS
      have hd := List.getElem_mem hi
      obtain ⟨T2, S6, pl, nm, v, q1, q2, q3, q4, q5, q6, q7, q8, q9⟩ := any_2 (x4 := x4) (x6 := x6) (M := M) hB hF f s (by omega) hT' ds1 ds2 hd fun d hd => by rw [hf]; exact pT.mem_iff.mp hd
      refine ⟨_, _, _, rfl, q1, some ds[i], T2, S6, rfl, rfl, by simpa [Int.add_assoc, Int.mul_add] using q2, q3, q4, q5.trans hf, fun d hd => ?_⟩
      rw [q6, dget_put]
      by_cases z : d = ds[i]
      · rw [if_pos z]
        exact ⟨pl, nm, v, rfl, q7, q8, q9⟩
      · rw [if_neg z]
        rw [List.take_add_one, List.getElem?_eq_getElem hi] at hd
        rcases List.mem_append.mp hd with hd | hd
        · exact hg d hd
        · simp only [Option.toList_some, List.mem_singleton] at hd
          exact absurd hd z
  · subst he hS
    rw [List.length_map, List.length_range] at hi
    obtain ⟨T', M', x6', S5, q1, q2, q3, q4, q5, q6⟩ := any_1 (x4 := some (.int i)) (x6 := x6) hB hF f s (by omega) hT hM (by omega)
    refine ⟨envA S.length (some (.int i)) none x6 none, _, _, ?_, q1, some (.int i), x6', T', M', S5, rfl, rfl, ?_, q3, q4, q5, fun _ => q6⟩
    · simp [bindTo, envA]
    · refine q2.mono (by omega)
end DP

namespace DP
open PySem
/-! ### places; a book otherwise -/
/-- rows that may be outlined -/
structure ROk (rows : List Row) : Prop where
  gd : ∀ r ∈ rows, r.Gd
  lf : Lf rows
  nr : Nd rows
  sd : Sd rows
  len : rows.length ≤ 24
theorem BOk.rok {made : Int} {rows : List Row} {ms : List Mk} (h : BOk made rows ms) : ROk rows :=
  ⟨h.gd, fun r hr => (h.rs r hr).lf, h.nr, h.sd, by have := h.len; omega⟩
theorem mk_5 (made : Int) (rows : List Row) (ms : List Mk) : idx (mkBook made rows ms) (.int 5) = some (.tup (rows.map Row.dv)) := L2.atI_nat (j := 5) rfl
theorem mk_6 (made : Int) (rows : List Row) (ms : List Mk) : idx (mkBook made rows ms) (.int 6) = some (.tup (ms.map Mk.dv)) := L2.atI_nat (j := 6) rfl
theorem mk_pk (S : Store) (made : Int) (rows : List Row) (ms : List Mk) : peek S (mkBook made rows ms) = mkBook made rows ms := rfl
def bP : List MS := [.expr (.meth .extend (.var 1) [.lst [.var 2, .idx (.var 3) (.int (0))]])]
theorem places_spec {S : Store} {made : Int} {rows : List Row} {ms : List Mk} (b : Nat) (g : ∀ r ∈ rows, r.Ok) (gm : ∀ m ∈ ms, tkey m.dot = true) (hl : rows.length + ms.length ≤ 100) :
    ∃ ps, F__law_places b [mkBook made rows ms] S = .ok (.lst ps) S ∧ ∀ p ∈ ps, tkey p = true := by
  have sz : (2000 : Nat) < sizeLine := by rw [sizeLine_eq]; decide
  generalize hG : ({ fs := [], cs := [], base := S.length } : Ctx) = G
  have hB : G.base = S.length := by rw [← hG]
  generalize hBk : mkBook made rows ms = B
  have h := forL_inv (tg := .tp [2, 3]) (b := evB G bP) (chk := isLive [.tup (rows.map Row.dv)] (S ++ [.lst [.tup [], Dt [0] 77, Dt [3, 1] 1]])) (items := rows.map Row.dv)
    (fun i e S' => ∃ x2 x3 ps, e = [some B, some (.loc S.length), x2, x3, none] ∧ S' = S ++ [.lst ps] ∧ ps.length = 3 + 2 * i ∧ ∀ p ∈ ps, tkey p = true)
    (fun i e S' _ => rfl) (fun i hi e S' ⟨x2, x3, ps, he, hS, hp, ht⟩ => ?_) _ 0 [some B, some (.loc S.length), none, none, none] (S ++ [.lst [.tup [], Dt [0] 77, Dt [3, 1] 1]]) rfl (Nat.zero_le _) ⟨none, none, _, rfl, rfl, rfl, fun p hp => by
      simp only [List.mem_cons, List.not_mem_nil, or_false] at hp
      rcases hp with rfl | rfl | rfl
      · rfl
      · exact dt_tk _ _
      · exact dt_tk _ _⟩
  · rw [List.drop_zero] at h
    obtain ⟨e2, S2, h1, x2, x3, ps, rfl, rfl, hp, ht⟩ := h
    rw [List.length_map] at hp
    have pk1 : peek (S ++ [.lst ps]) (.loc S.length) = .lst ps := peek_lstAt (app0 S _ _)
    have key : evB G b__law_places.body (entry 5 [B]) S = .rt (.lst (ps ++ ms.map Mk.dot)) (S ++ [.lst ps]) := by
      unfold b__law_places
      refine (evB_nx (e2 := [some B, some (.loc S.length), none, none, none]) (S2 := S ++ [.lst [.tup [], Dt [0] 77, Dt [3, 1] 1]]) (evS_asg (v := .loc S.length) (by simp only [evB, evS, evE, evEs, entry, List.length_cons, List.length_nil, List.map_cons, List.map_nil, List.cons_append, List.nil_append, List.getElem?_cons_zero, List.getElem?_cons_succ, Option.getD_some, Res.of_some, Res.bind_ok, Res.then_ok, Out.bind_nx, Out.bind_rt, asBl_bl, asBlO_bl, Option.map_some, idx_l, idx_t, len_l, len_t, peekI_, peek_bl_, peek_str_, peek_tup_, peek_lst_, peek_dic_, peek_scr_, peek_non_, lt_ii, gt_ii, ge_ii, eq_ii, add_ii, List.set_cons_zero, List.set_cons_succ, if_true, if_false, Bool.false_eq_true, decide_true, decide_false, List.replicate_succ, List.replicate_zero, Nat.reduceAdd, Nat.reduceSub, reduceCtorEq, reduceIte, lay, Dt]))).trans ?_
      refine (evB_nx ((evS_fors (as := [.tup (rows.map Row.dv)]) (items := rows.map Row.dv) ?_ rfl).trans h1)).trans ?_
      · simp only [evB, evS, evE, evEs, entry, List.length_cons, List.length_nil, List.map_cons, List.map_nil, List.cons_append, List.nil_append, List.getElem?_cons_zero, List.getElem?_cons_succ, Option.getD_some, Res.of_some, Res.bind_ok, Res.then_ok, Out.bind_nx, Out.bind_rt, asBl_bl, asBlO_bl, Option.map_some, idx_l, idx_t, len_l, len_t, peekI_, peek_bl_, peek_str_, peek_tup_, peek_lst_, peek_dic_, peek_scr_, peek_non_, lt_ii, gt_ii, ge_ii, eq_ii, add_ii, List.set_cons_zero, List.set_cons_succ, if_true, if_false, Bool.false_eq_true, decide_true, decide_false, List.replicate_succ, List.replicate_zero, Nat.reduceAdd, Nat.reduceSub, reduceCtorEq, reduceIte, ← hBk, mk_5, mk_pk]
      refine evB_rt ?_
      simp only [evB, evS, evE, evEs, entry, List.length_cons, List.length_nil, List.map_cons, List.map_nil, List.cons_append, List.nil_append, List.getElem?_cons_zero, List.getElem?_cons_succ, Option.getD_some, Res.of_some, Res.bind_ok, Res.then_ok, Out.bind_nx, Out.bind_rt, asBl_bl, asBlO_bl, Option.map_some, idx_l, idx_t, len_l, len_t, peekI_, peek_bl_, peek_str_, peek_tup_, peek_lst_, peek_dic_, peek_scr_, peek_non_, lt_ii, gt_ii, ge_ii, eq_ii, add_ii, List.set_cons_zero, List.set_cons_succ, if_true, if_false, Bool.false_eq_true, decide_true, decide_false, List.replicate_succ, List.replicate_zero, Nat.reduceAdd, Nat.reduceSub, reduceCtorEq, reduceIte, srcArg, srcOf, ← hBk, mk_6, mk_pk]
      rw [compL_pure (g := fun d => match d with
        | .tup [dot, _] => some dot
        | _ => none) (isLive_ok _ _ (by simp))]
      · have e : (ms.map Mk.dv).filterMap (fun d => match d with
            | .tup [dot, _] => some dot
            | _ => none) = ms.map Mk.dot := by
          rw [List.filterMap_map]
          exact filterMap_all fun m _ => rfl
        simp only [evB, evS, evE, evEs, entry, List.length_cons, List.length_nil, List.map_cons, List.map_nil, List.cons_append, List.nil_append, List.getElem?_cons_zero, List.getElem?_cons_succ, Option.getD_some, Res.of_some, Res.bind_ok, Res.then_ok, Out.bind_nx, Out.bind_rt, asBl_bl, asBlO_bl, Option.map_some, idx_l, idx_t, len_l, len_t, peekI_, peek_bl_, peek_str_, peek_tup_, peek_lst_, peek_dic_, peek_scr_, peek_non_, lt_ii, gt_ii, ge_ii, eq_ii, add_ii, List.set_cons_zero, List.set_cons_succ, if_true, if_false, Bool.false_eq_true, decide_true, decide_false, List.replicate_succ, List.replicate_zero, Nat.reduceAdd, Nat.reduceSub, reduceCtorEq, reduceIte, e, pk1, cat_l (x := ps) (y := ms.map Mk.dot) (by rw [List.length_map]; omega)]
      · intro d hd
        obtain ⟨m, hm, rfl⟩ := List.mem_map.mp hd
        simp only [evB, evS, evE, evEs, entry, List.length_cons, List.length_nil, List.map_cons, List.map_nil, List.cons_append, List.nil_append, List.getElem?_cons_zero, List.getElem?_cons_succ, Option.getD_some, Res.of_some, Res.bind_ok, Res.then_ok, Out.bind_nx, Out.bind_rt, asBl_bl, asBlO_bl, Option.map_some, idx_l, idx_t, len_l, len_t, peekI_, peek_bl_, peek_str_, peek_tup_, peek_lst_, peek_dic_, peek_scr_, peek_non_, lt_ii, gt_ii, ge_ii, eq_ii, add_ii, List.set_cons_zero, List.set_cons_succ, if_true, if_false, Bool.false_eq_true, decide_true, decide_false, List.replicate_succ, List.replicate_zero, Nat.reduceAdd, Nat.reduceSub, reduceCtorEq, reduceIte, Mk.dv, wipe, bindTo, List.zip_cons_cons, List.zip_nil_right, List.foldl_cons, List.foldl_nil, evC, noExc]
    have tk : ∀ p ∈ ps ++ ms.map Mk.dot, tkey p = true := fun p hp => by
      rcases List.mem_append.mp hp with hp | hp
      · exact ht p hp
      · obtain ⟨m, hm, rfl⟩ := List.mem_map.mp hp; exact gm m hm
    have := run_rt (fs := []) (cs := []) (d := b__law_places) (b := b) (args := [B]) rfl rfl (hG ▸ key) (by
      simp only [DV.pure]
      exact pures_tup fun p hp => (tk_facts (tk p hp)).choose_spec.2.2.2)
    refine ⟨ps ++ ms.map Mk.dot, ?_, tk⟩
    refine this.trans ?_
    simp
  · subst he hS
    rw [row_get hi]
    have hi' : i < rows.length := by simpa using hi
    have ok := g _ (List.getElem_mem hi')
    have pp : ∀ S, peek S (rows[i]'hi').place = (rows[i]'hi').place := fun S => peek_tk ok.place
    have pk1 : peek (S ++ [.lst ps]) (.loc S.length) = .lst ps := peek_lstAt (app0 S _ _)
    have q := ext_l (b := S.length) (n := S.length) (S := S ++ [.lst ps]) (v := .lst [rows[i].dot, rows[i].place]) (app0 S _ _) rfl (Nat.le_refl _) (by simp; omega)
    rw [set0_] at q
    refine ⟨[some B, some (.loc S.length), some rows[i].dot, some rows[i].thing, none], _, _, ?_, ?_, some rows[i].dot, some rows[i].thing, ps ++ [rows[i].dot, rows[i].place], rfl, rfl, by simp; omega, fun p hp => ?_⟩
    · simp only [evB, evS, evE, evEs, entry, List.length_cons, List.length_nil, List.map_cons, List.map_nil, List.cons_append, List.nil_append, List.getElem?_cons_zero, List.getElem?_cons_succ, Option.getD_some, Res.of_some, Res.bind_ok, Res.then_ok, Out.bind_nx, Out.bind_rt, asBl_bl, asBlO_bl, Option.map_some, idx_l, idx_t, len_l, len_t, peekI_, peek_bl_, peek_str_, peek_tup_, peek_lst_, peek_dic_, peek_scr_, peek_non_, lt_ii, gt_ii, ge_ii, eq_ii, add_ii, List.set_cons_zero, List.set_cons_succ, if_true, if_false, Bool.false_eq_true, decide_true, decide_false, List.replicate_succ, List.replicate_zero, Nat.reduceAdd, Nat.reduceSub, reduceCtorEq, reduceIte, Row.dv, bindTo, List.zip_cons_cons, List.zip_nil_right, List.foldl_cons, List.foldl_nil]
    · unfold bP
      simp only [evB, evS, evE, evEs, entry, List.length_cons, List.length_nil, List.map_cons, List.map_nil, List.cons_append, List.nil_append, List.getElem?_cons_zero, List.getElem?_cons_succ, Option.getD_some, Res.of_some, Res.bind_ok, Res.then_ok, Out.bind_nx, Out.bind_rt, asBl_bl, asBlO_bl, Option.map_some, idx_l, idx_t, len_l, len_t, peekI_, peek_bl_, peek_str_, peek_tup_, peek_lst_, peek_dic_, peek_scr_, peek_non_, lt_ii, gt_ii, ge_ii, eq_ii, add_ii, List.set_cons_zero, List.set_cons_succ, if_true, if_false, Bool.false_eq_true, decide_true, decide_false, List.replicate_succ, List.replicate_zero, Nat.reduceAdd, Nat.reduceSub, reduceCtorEq, reduceIte, pk1, kind_l, mok_ext, Row.thing, idx3_0, pp, hB, q]
    · rcases List.mem_append.mp hp with hp | hp
      · exact ht p hp
      · simp only [List.mem_cons, List.not_mem_nil, or_false] at hp
        rcases hp with rfl | rfl
        · exact ok.dot
        · exact ok.place
/-! slices -/
theorem slc_to (xs : List DV) (k : Nat) (h : k ≤ xs.length) : slc (.tup xs) none (some (k : Int)) = some (.tup (xs.take k)) := by
  simp only [slc, cut, HT.sIx_none, HT.sIx_nat, List.drop_zero, Nat.sub_zero, Nat.min_eq_left h]
theorem slc_from (xs : List DV) (k : Nat) (h : k ≤ xs.length) : slc (.tup xs) (some (k : Int)) none = some (.tup (xs.drop k)) := by
  simp only [slc, cut, HT.sIx_none, HT.sIx_nat, Nat.min_eq_left h]
  rw [List.take_of_length_le (by rw [List.length_drop]; omega)]
theorem cat_t {x y : List DV} (h : x.length + y.length ≤ sizeLine) : bin .add (.tup x) (.tup y) = some (.tup (x ++ y)) := by simp only [bin, if_pos h]
theorem part_0 : part [] = some none := rfl
theorem part_1 (i : Int) : part [.int i] = some (some i) := rfl
theorem s3_to1 (a b c : DV) : slc (.tup [a, b, c]) none (some 1) = some (.tup [a]) := rfl
theorem s3_to2 (a b c : DV) : slc (.tup [a, b, c]) none (some 2) = some (.tup [a, b]) := rfl
theorem s3_fr1 (a b c : DV) : slc (.tup [a, b, c]) (some 1) none = some (.tup [b, c]) := rfl
theorem s3_fr2 (a b c : DV) : slc (.tup [a, b, c]) (some 2) none = some (.tup [c]) := rfl
theorem mk_to5 (made : Int) (rows : List Row) (ms : List Mk) : slc (mkBook made rows ms) none (some 5) = some (.tup [.tup [.int 0], .int 3, .int 5, .int made, .int 3]) := rfl
theorem mk_fr6 (made : Int) (rows : List Row) (ms : List Mk) : slc (mkBook made rows ms) (some 6) none = some (.tup [.tup (ms.map Mk.dv), .tup [], .tup [], .tup []]) := rfl
theorem mk_fr7 (made : Int) (rows : List Row) (ms : List Mk) : slc (mkBook made rows ms) (some 7) none = some (.tup [.tup [], .tup [], .tup []]) := rfl
theorem Row.Gd.flat {r : Row} (h : r.Gd) : r.dv.flat = true ∧ r.dv.depth ≤ 10 := by
  obtain ⟨k, _, f1, d1, _⟩ := tk_facts h.ok.dot
  obtain ⟨l, _, f2, d2, _⟩ := tk_facts h.ok.place
  simp only [Row.dv, Row.thing, DV.flat, DV.flats, DV.depth, DV.depths, f1, f2, Bool.and_self, true_and]
  omega
theorem rows_flat {rows : List Row} (g : ∀ r ∈ rows, r.Gd) : (DV.tup (rows.map Row.dv)).flat = true ∧ (DV.tup (rows.map Row.dv)).depth ≤ 11 := by
  constructor
  · simp only [DV.flat]
    exact flats_of fun d hd => by obtain ⟨r, hr, rfl⟩ := List.mem_map.mp hd; exact (g r hr).flat.1
  · have := depths_of (k := 10) (xs := rows.map Row.dv) fun d hd => by obtain ⟨r, hr, rfl⟩ := List.mem_map.mp hd; exact (g r hr).flat.2
    simp only [DV.depth]; omega
theorem toPs_nil : ∀ {xs : List DV}, (PyData.eqvAll (DV.toPs xs) (DV.toPs [])) = decide (xs = [])
  | [] => by simp [DV.toPs, PyData.eqvAll]
  | x :: xs => by simp [DV.toPs, PyData.eqvAll]
theorem eq_un {xs : List DV} (h1 : (DV.tup xs).flat = true) (h2 : (DV.tup xs).depth ≤ 64) : cmp .eq (.tup xs) (.tup []) = some (decide (xs = [])) := by
  have f0 : (DV.tup []).flat = true := rfl
  have d0 : (DV.tup []).depth ≤ 64 := by decide
  simp only [cmp, deq, h1, f0, Bool.and_self, Bool.true_and, Bool.and_eq_true, decide_eq_true_eq]
  rw [if_pos ⟨h2, d0⟩]
  simp only [DV.toP, PyData.eqv]
  rw [toPs_nil]
end DP

namespace DP
open PySem
theorem Lf_b {r : Row} (h : Leaf r.name r.val) : Leaf (Str.ofString "b") r.val := by
  obtain ⟨n1, n2, n3⟩ := leaf_name (n := Str.ofString "b") (by simp)
  exact ⟨n1, n2, n3, h.vl⟩
theorem Lf_5 {r : Row} (h : Leaf r.name r.val) : Leaf r.name 5 := ⟨h.nm, h.cp, h.ln, by decide⟩
/-- one row otherwise -/
theorem rok_set {rows : List Row} (h : ROk rows) {j : Nat} (hj : j < rows.length) {r' : Row} (hd : r'.dot = rows[j].dot) (hg : r'.Gd) (hf : Leaf r'.name r'.val) : ROk (rows.take j ++ r' :: rows.drop (j + 1)) := by
  have e : (rows.take j ++ r' :: rows.drop (j + 1)).map Row.dot = rows.map Row.dot := by
    rw [List.map_append, List.map_cons, hd, ← List.map_cons, ← List.map_append]
    congr 1
    rw [← List.drop_eq_getElem_cons hj, List.take_append_drop]
  have m : ∀ r ∈ rows.take j ++ r' :: rows.drop (j + 1), r = r' ∨ r ∈ rows := fun r hr => by
    rcases List.mem_append.mp hr with hr | hr
    · exact .inr (List.mem_of_mem_take hr)
    · rcases List.mem_cons.mp hr with hr | hr
      · exact .inl hr
      · exact .inr (List.mem_of_mem_drop hr)
  refine ⟨fun r hr => ?_, fun r hr => ?_, by unfold Nd; rw [e]; exact h.nr, by unfold Sd; rw [e]; exact h.sd, ?_⟩
  · rcases m r hr with rfl | hr
    · exact hg
    · exact h.gd r hr
  · rcases m r hr with rfl | hr
    · exact hf
    · exact h.lf r hr
  · rw [← List.length_map (f := Row.dot), e, List.length_map]; exact h.len
theorem rok_del {rows : List Row} (h : ROk rows) (j : Nat) : ROk (rows.take j ++ rows.drop (j + 1)) := by
  have sl : (rows.take j ++ rows.drop (j + 1)).Sublist rows := by
    have : (rows.take j ++ rows.drop (j + 1)).Sublist (rows.take j ++ rows.drop j) := List.Sublist.append (List.Sublist.refl _) (by rw [← List.drop_drop]; exact List.drop_sublist _ _)
    rwa [List.take_append_drop] at this
  exact ⟨fun r hr => h.gd r (sl.subset hr), fun r hr => h.lf r (sl.subset hr), h.nr.sublist (sl.map _), List.Pairwise.sublist (sl.map _) h.sd, Nat.le_trans sl.length_le h.len⟩
theorem mk_pure (made : Int) {rows : List Row} {ms : List Mk} (g : ∀ r ∈ rows, r.Gd) (gm : ∀ m ∈ ms, tkey m.dot = true) : (mkBook made rows ms).pure = true := by
  unfold mkBook
  have p1 : DV.pures (rows.map Row.dv) = true := pures_tup fun d hd => by
    obtain ⟨r, hr, rfl⟩ := List.mem_map.mp hd
    exact (g r hr).ok.pure
  have p2 : DV.pures (ms.map Mk.dv) = true := pures_tup fun d hd => by
    obtain ⟨m, hm, rfl⟩ := List.mem_map.mp hd
    have := (tk_facts (gm m hm)).choose_spec.2.2.2
    simp only [Mk.dv, ackD, DV.pure, DV.pures, this, Bool.and_self]
  simp only [DV.pure, DV.pures, p1, p2, Bool.and_self]
theorem otherwise_spec {S : Store} {n made : Int} {rows : List Row} {ms : List Mk} (b : Nat) (h : Feed S n) (hn : n < 10 ^ 8) (ok : ROk rows) (gm : ∀ m ∈ ms, tkey m.dot = true) :
    ∃ rows' S', F__law_otherwise b [.loc 0, mkBook made rows ms] S = .ok (mkBook made rows' ms) S' ∧ ROk rows' ∧ Feed S' (n + 3) ∧ Same S S' := by
  have sz : (2000 : Nat) < sizeLine := by rw [sizeLine_eq]; decide
  have hl := ok.len
  have rf := rows_flat ok.gd
  have e0 := eq_un rf.1 (by omega)
  by_cases hz : rows = []
  · subst hz
    have key : evB { fs := [F__law_next], cs := [], base := S.length } b__law_otherwise.body (entry 11 [.loc 0, mkBook made [] ms]) S = .rt (mkBook made [] ms) S := by
      unfold b__law_otherwise
      rw [List.map_nil] at e0
      simp only [evB, evS, evE, evEs, entry, List.length_cons, List.length_nil, List.map_cons, List.map_nil, List.cons_append, List.nil_append, List.getElem?_cons_zero, List.getElem?_cons_succ, Option.getD_some, Res.of_some, Res.bind_ok, Res.then_ok, Out.bind_nx, Out.bind_rt, asBl_bl, asBlO_bl, Option.map_some, idx_l, idx_t, len_l, len_t, peekI_, peek_bl_, peek_str_, peek_tup_, peek_lst_, peek_dic_, peek_scr_, peek_non_, lt_ii, gt_ii, ge_ii, eq_ii, add_ii, List.set_cons_zero, List.set_cons_succ, if_true, if_false, Bool.false_eq_true, decide_true, decide_false, List.replicate_succ, List.replicate_zero, Nat.reduceAdd, Nat.reduceSub, reduceCtorEq, reduceIte, mk_5, mk_pk, e0, List.map_nil]
    have := run_rt (fs := [F__law_next]) (cs := []) (d := b__law_otherwise) (b := b) (args := [.loc 0, mkBook made [] ms]) rfl rfl key (mk_pure made ok.gd gm)
    rw [List.take_length] at this
    exact ⟨[], S, this, ok, h.mono (by omega), Same.refl S⟩
  · have hp : 0 < rows.length := List.length_pos_iff.mpr hz
    have hm : ¬ rows.map Row.dv = [] := fun e => hz (List.map_eq_nil_iff.mp e)
    obtain ⟨r1, S1, q1, a1, b1, f1, s1⟩ := next_at (m := rows.length) S.length h (by omega) (by omega) (by omega)
    obtain ⟨r2, S2, q2, a2, b2, f2, s2⟩ := next_at (m := 4) S.length f1 (by omega) (by omega) (by omega)
    obtain ⟨r3, S3, q3, a3, b3, f3, s3⟩ := next_at (m := 2 + rows.length) S.length f2 (by omega) (by omega) (by omega)
    obtain ⟨j, rfl⟩ := Int.eq_ofNat_of_zero_le a1
    have hj : j < rows.length := by omega
    have g1 : L2.atI (rows.map Row.dv) (j : Int) = some (rows[j]).dv := by
      rw [at_nat _ (by simpa using hj)]; simp
    obtain ⟨pl, hpl, g3⟩ := at_mem (.tup [] :: .tup [.tup [.int 2], .int 9] :: rows.map Row.dot) a3 (by simp; omega)
    have pl_gd : pl = .tup [] ∨ IsDot pl := by
      simp only [List.mem_cons] at hpl
      rcases hpl with e | e | e
      · exact .inl e
      · exact .inr ⟨[2], 9, e⟩
      · obtain ⟨r, hr, rfl⟩ := List.mem_map.mp e; exact .inr (ok.gd r hr).dot
    have hr := ok.gd _ (List.getElem_mem hj)
    have lf := ok.lf _ (List.getElem_mem hj)
    have sm : Same S S3 := s1.trans (s2.trans s3)
    have ef : (rows.map Row.dv).filterMap (fun d => match d with
        | .tup [dot, _] => some dot
        | _ => none) = rows.map Row.dot := by
      rw [List.filterMap_map]
      exact filterMap_all fun r _ => rfl
    have z1 : ∀ a : DV, [a].length + [DV.str (Str.ofString "b")].length ≤ sizeLine := fun a => by simp; omega
    have t1 : slc (.tup (rows.map Row.dv)) none (some (j : Int)) = some (.tup ((rows.map Row.dv).take j)) := slc_to _ _ (by simp; omega)
    have t2 : slc (.tup (rows.map Row.dv)) (some ((j : Int) + 1)) none = some (.tup ((rows.map Row.dv).drop (j + 1))) := slc_from _ (j + 1) (by simp; omega)
    -- what is laid in
    have fin : ∀ more : List Row, more.length ≤ 1 → ROk (rows.take j ++ more ++ rows.drop (j + 1)) → evB { fs := [F__law_next], cs := [], base := S.length } b__law_otherwise.body (entry 11 [.loc 0, mkBook made rows ms]) S =
        evB { fs := [F__law_next], cs := [], base := S.length } [.ret (.bin .add (.bin .add (.slc (.var 1) [] [.int (5)]) (.tup [.bin .add (.bin .add (.slc (.idx (.var 1) (.int (5))) [] [.var 2]) (.var 6)) (.slc (.idx (.var 1) (.int (5))) [.bin .add (.var 2) (.int (1))] [])])) (.slc (.var 1) [.int (6)] []))]
          [some (DV.loc 0), some (mkBook made rows ms), some (.int j), some (.int r2), some (.lst (.tup [] :: .tup [.tup [.int 2], .int 9] :: rows.map Row.dot)), some (.lst [.tup [rows[j].place, .str (Str.ofString "b"), .int rows[j].val], .tup [rows[j].place, .str rows[j].name, .int 5], .tup [pl, .str rows[j].name, .int rows[j].val]]), some (.tup (more.map Row.dv)), some (rows[j]).dot, some (rows[j]).thing, none, none] S3 →
        ∃ rows' S', F__law_otherwise b [.loc 0, mkBook made rows ms] S = .ok (mkBook made rows' ms) S' ∧ ROk rows' ∧ Feed S' (n + 3) ∧ Same S S' := by
      intro more hm1 hok he
      refine ⟨_, S3, ?_, hok, by simpa [Int.add_assoc] using f3, sm⟩
      have key : evB { fs := [F__law_next], cs := [], base := S.length } b__law_otherwise.body (entry 11 [.loc 0, mkBook made rows ms]) S = .rt (mkBook made (rows.take j ++ more ++ rows.drop (j + 1)) ms) S3 := by
        rw [he]
        simp only [evB, evS, evE, evEs, entry, List.length_cons, List.length_nil, List.map_cons, List.map_nil, List.cons_append, List.nil_append, List.getElem?_cons_zero, List.getElem?_cons_succ, Option.getD_some, Res.of_some, Res.bind_ok, Res.then_ok, Out.bind_nx, Out.bind_rt, asBl_bl, asBlO_bl, Option.map_some, idx_l, idx_t, len_l, len_t, peekI_, peek_bl_, peek_str_, peek_tup_, peek_lst_, peek_dic_, peek_scr_, peek_non_, lt_ii, gt_ii, ge_ii, eq_ii, add_ii, List.set_cons_zero, List.set_cons_succ, if_true, if_false, Bool.false_eq_true, decide_true, decide_false, List.replicate_succ, List.replicate_zero, Nat.reduceAdd, Nat.reduceSub, reduceCtorEq, reduceIte, part_0, part_1, mk_pk, mk_to5, mk_5, t1, t2, mk_fr6]
        rw [cat_t (by simp; omega)]
        simp only [evB, evS, evE, evEs, entry, List.length_cons, List.length_nil, List.map_cons, List.map_nil, List.cons_append, List.nil_append, List.getElem?_cons_zero, List.getElem?_cons_succ, Option.getD_some, Res.of_some, Res.bind_ok, Res.then_ok, Out.bind_nx, Out.bind_rt, asBl_bl, asBlO_bl, Option.map_some, idx_l, idx_t, len_l, len_t, peekI_, peek_bl_, peek_str_, peek_tup_, peek_lst_, peek_dic_, peek_scr_, peek_non_, lt_ii, gt_ii, ge_ii, eq_ii, add_ii, List.set_cons_zero, List.set_cons_succ, if_true, if_false, Bool.false_eq_true, decide_true, decide_false, List.replicate_succ, List.replicate_zero, Nat.reduceAdd, Nat.reduceSub, reduceCtorEq, reduceIte]
        rw [cat_t (by simp; omega)]
        simp only [evB, evS, evE, evEs, entry, List.length_cons, List.length_nil, List.map_cons, List.map_nil, List.cons_append, List.nil_append, List.getElem?_cons_zero, List.getElem?_cons_succ, Option.getD_some, Res.of_some, Res.bind_ok, Res.then_ok, Out.bind_nx, Out.bind_rt, asBl_bl, asBlO_bl, Option.map_some, idx_l, idx_t, len_l, len_t, peekI_, peek_bl_, peek_str_, peek_tup_, peek_lst_, peek_dic_, peek_scr_, peek_non_, lt_ii, gt_ii, ge_ii, eq_ii, add_ii, List.set_cons_zero, List.set_cons_succ, if_true, if_false, Bool.false_eq_true, decide_true, decide_false, List.replicate_succ, List.replicate_zero, Nat.reduceAdd, Nat.reduceSub, reduceCtorEq, reduceIte]
        rw [cat_t (by simp; omega)]
        simp only [evB, evS, evE, evEs, entry, List.length_cons, List.length_nil, List.map_cons, List.map_nil, List.cons_append, List.nil_append, List.getElem?_cons_zero, List.getElem?_cons_succ, Option.getD_some, Res.of_some, Res.bind_ok, Res.then_ok, Out.bind_nx, Out.bind_rt, asBl_bl, asBlO_bl, Option.map_some, idx_l, idx_t, len_l, len_t, peekI_, peek_bl_, peek_str_, peek_tup_, peek_lst_, peek_dic_, peek_scr_, peek_non_, lt_ii, gt_ii, ge_ii, eq_ii, add_ii, List.set_cons_zero, List.set_cons_succ, if_true, if_false, Bool.false_eq_true, decide_true, decide_false, List.replicate_succ, List.replicate_zero, Nat.reduceAdd, Nat.reduceSub, reduceCtorEq, reduceIte]
        rw [cat_t (by simp; omega)]
        simp only [evB, evS, evE, evEs, entry, List.length_cons, List.length_nil, List.map_cons, List.map_nil, List.cons_append, List.nil_append, List.getElem?_cons_zero, List.getElem?_cons_succ, Option.getD_some, Res.of_some, Res.bind_ok, Res.then_ok, Out.bind_nx, Out.bind_rt, asBl_bl, asBlO_bl, Option.map_some, idx_l, idx_t, len_l, len_t, peekI_, peek_bl_, peek_str_, peek_tup_, peek_lst_, peek_dic_, peek_scr_, peek_non_, lt_ii, gt_ii, ge_ii, eq_ii, add_ii, List.set_cons_zero, List.set_cons_succ, if_true, if_false, Bool.false_eq_true, decide_true, decide_false, List.replicate_succ, List.replicate_zero, Nat.reduceAdd, Nat.reduceSub, reduceCtorEq, reduceIte, mkBook, List.map_append, List.map_take, List.map_drop]
      have := run_rt (fs := [F__law_next]) (cs := []) (d := b__law_otherwise) (b := b) (args := [.loc 0, mkBook made rows ms]) rfl rfl key (mk_pure made hok.gd gm)
      rw [take_same sm] at this
      exact this
    have q3' : F__law_next S.length [DV.loc 0, DV.int ((rows.length + 1 + 1 : Nat) : Int)] S2 = Res.ok (DV.int r3) S3 := by
      rw [show ((rows.length + 1 + 1 : Nat) : Int) = 2 + (rows.length : Int) by omega]; exact q3
    have c4 : r2 = 0 ∨ r2 = 1 ∨ r2 = 2 ∨ r2 = 3 := by omega
    have run : ∀ more : List Row, (evE { fs := [F__law_next], cs := [], base := S.length } (.ite (.cmp .eq (.var 3) (.int (3))) (.tup []) (.tup [.tup [.var 7, .idx (.var 5) (.var 3)]])) [some (DV.loc 0), some (mkBook made rows ms), some (.int j), some (.int r2), some (.lst (.tup [] :: .tup [.tup [.int 2], .int 9] :: rows.map Row.dot)), some (.lst [.tup [rows[j].place, .str (Str.ofString "b"), .int rows[j].val], .tup [rows[j].place, .str rows[j].name, .int 5], .tup [pl, .str rows[j].name, .int rows[j].val]]), none, some (rows[j]).dot, some (rows[j]).thing, none, none] S3 = .ok (.tup (more.map Row.dv)) S3) →
        evB { fs := [F__law_next], cs := [], base := S.length } b__law_otherwise.body (entry 11 [.loc 0, mkBook made rows ms]) S =
        evB { fs := [F__law_next], cs := [], base := S.length } [.ret (.bin .add (.bin .add (.slc (.var 1) [] [.int (5)]) (.tup [.bin .add (.bin .add (.slc (.idx (.var 1) (.int (5))) [] [.var 2]) (.var 6)) (.slc (.idx (.var 1) (.int (5))) [.bin .add (.var 2) (.int (1))] [])])) (.slc (.var 1) [.int (6)] []))]
          [some (DV.loc 0), some (mkBook made rows ms), some (.int j), some (.int r2), some (.lst (.tup [] :: .tup [.tup [.int 2], .int 9] :: rows.map Row.dot)), some (.lst [.tup [rows[j].place, .str (Str.ofString "b"), .int rows[j].val], .tup [rows[j].place, .str rows[j].name, .int 5], .tup [pl, .str rows[j].name, .int rows[j].val]]), some (.tup (more.map Row.dv)), some (rows[j]).dot, some (rows[j]).thing, none, none] S3 := by
      intro more hmore
      unfold b__law_otherwise
      refine (evB_nx (e2 := entry 11 [.loc 0, mkBook made rows ms]) (S2 := S) ?_).trans ?_
      · simp only [evB, evS, evE, evEs, entry, List.length_cons, List.length_nil, List.map_cons, List.map_nil, List.cons_append, List.nil_append, List.getElem?_cons_zero, List.getElem?_cons_succ, Option.getD_some, Res.of_some, Res.bind_ok, Res.then_ok, Out.bind_nx, Out.bind_rt, asBl_bl, asBlO_bl, Option.map_some, idx_l, idx_t, len_l, len_t, peekI_, peek_bl_, peek_str_, peek_tup_, peek_lst_, peek_dic_, peek_scr_, peek_non_, lt_ii, gt_ii, ge_ii, eq_ii, add_ii, List.set_cons_zero, List.set_cons_succ, if_true, if_false, Bool.false_eq_true, decide_true, decide_false, List.replicate_succ, List.replicate_zero, Nat.reduceAdd, Nat.reduceSub, reduceCtorEq, reduceIte, mk_5, mk_pk, e0, hm]
      refine (evB_nx (evS_asg (v := .int j) (S2 := S1) ?_)).trans ?_
      · simp only [evB, evS, evE, evEs, entry, List.length_cons, List.length_nil, List.map_cons, List.map_nil, List.cons_append, List.nil_append, List.getElem?_cons_zero, List.getElem?_cons_succ, Option.getD_some, Res.of_some, Res.bind_ok, Res.then_ok, Out.bind_nx, Out.bind_rt, asBl_bl, asBlO_bl, Option.map_some, idx_l, idx_t, len_l, len_t, peekI_, peek_bl_, peek_str_, peek_tup_, peek_lst_, peek_dic_, peek_scr_, peek_non_, lt_ii, gt_ii, ge_ii, eq_ii, add_ii, List.set_cons_zero, List.set_cons_succ, if_true, if_false, Bool.false_eq_true, decide_true, decide_false, List.replicate_succ, List.replicate_zero, Nat.reduceAdd, Nat.reduceSub, reduceCtorEq, reduceIte, mk_5, mk_pk, List.length_map, q1]
      refine (evB_nx (e2 := [some (DV.loc 0), some (mkBook made rows ms), some (.int j), none, none, none, none, some (rows[j]).dot, some (rows[j]).thing, none, none]) (S2 := S1) ?_).trans ?_
      · simp only [evB, evS, evE, evEs, entry, List.length_cons, List.length_nil, List.map_cons, List.map_nil, List.cons_append, List.nil_append, List.getElem?_cons_zero, List.getElem?_cons_succ, Option.getD_some, Res.of_some, Res.bind_ok, Res.then_ok, Out.bind_nx, Out.bind_rt, asBl_bl, asBlO_bl, Option.map_some, idx_l, idx_t, len_l, len_t, peekI_, peek_bl_, peek_str_, peek_tup_, peek_lst_, peek_dic_, peek_scr_, peek_non_, lt_ii, gt_ii, ge_ii, eq_ii, add_ii, List.set_cons_zero, List.set_cons_succ, if_true, if_false, Bool.false_eq_true, decide_true, decide_false, List.replicate_succ, List.replicate_zero, Nat.reduceAdd, Nat.reduceSub, reduceCtorEq, reduceIte, mk_5, mk_pk, g1, Row.dv, bindTo, List.zip_cons_cons, List.zip_nil_right, List.foldl_cons, List.foldl_nil]
      refine (evB_nx (evS_asg (v := .int r2) (S2 := S2) ?_)).trans ?_
      · simp only [evB, evS, evE, evEs, entry, List.length_cons, List.length_nil, List.map_cons, List.map_nil, List.cons_append, List.nil_append, List.getElem?_cons_zero, List.getElem?_cons_succ, Option.getD_some, Res.of_some, Res.bind_ok, Res.then_ok, Out.bind_nx, Out.bind_rt, asBl_bl, asBlO_bl, Option.map_some, idx_l, idx_t, len_l, len_t, peekI_, peek_bl_, peek_str_, peek_tup_, peek_lst_, peek_dic_, peek_scr_, peek_non_, lt_ii, gt_ii, ge_ii, eq_ii, add_ii, List.set_cons_zero, List.set_cons_succ, if_true, if_false, Bool.false_eq_true, decide_true, decide_false, List.replicate_succ, List.replicate_zero, Nat.reduceAdd, Nat.reduceSub, reduceCtorEq, reduceIte, q2]
      refine (evB_nx (evS_asg (v := .lst (.tup [] :: .tup [.tup [.int 2], .int 9] :: rows.map Row.dot)) (S2 := S2) ?_)).trans ?_
      · simp only [evB, evS, evE, evEs, entry, List.length_cons, List.length_nil, List.map_cons, List.map_nil, List.cons_append, List.nil_append, List.getElem?_cons_zero, List.getElem?_cons_succ, Option.getD_some, Res.of_some, Res.bind_ok, Res.then_ok, Out.bind_nx, Out.bind_rt, asBl_bl, asBlO_bl, Option.map_some, idx_l, idx_t, len_l, len_t, peekI_, peek_bl_, peek_str_, peek_tup_, peek_lst_, peek_dic_, peek_scr_, peek_non_, lt_ii, gt_ii, ge_ii, eq_ii, add_ii, List.set_cons_zero, List.set_cons_succ, if_true, if_false, Bool.false_eq_true, decide_true, decide_false, List.replicate_succ, List.replicate_zero, Nat.reduceAdd, Nat.reduceSub, reduceCtorEq, reduceIte, mk_5, mk_pk, srcArg, srcOf]
        rw [compL_pure (g := fun d => match d with
          | .tup [dot, _] => some dot
          | _ => none) (isLive_ok _ _ (by simp))]
        · simp only [evB, evS, evE, evEs, entry, List.length_cons, List.length_nil, List.map_cons, List.map_nil, List.cons_append, List.nil_append, List.getElem?_cons_zero, List.getElem?_cons_succ, Option.getD_some, Res.of_some, Res.bind_ok, Res.then_ok, Out.bind_nx, Out.bind_rt, asBl_bl, asBlO_bl, Option.map_some, idx_l, idx_t, len_l, len_t, peekI_, peek_bl_, peek_str_, peek_tup_, peek_lst_, peek_dic_, peek_scr_, peek_non_, lt_ii, gt_ii, ge_ii, eq_ii, add_ii, List.set_cons_zero, List.set_cons_succ, if_true, if_false, Bool.false_eq_true, decide_true, decide_false, List.replicate_succ, List.replicate_zero, Nat.reduceAdd, Nat.reduceSub, reduceCtorEq, reduceIte, ef]
          rw [cat_l (by simp; omega)]
          simp only [evB, evS, evE, evEs, entry, List.length_cons, List.length_nil, List.map_cons, List.map_nil, List.cons_append, List.nil_append, List.getElem?_cons_zero, List.getElem?_cons_succ, Option.getD_some, Res.of_some, Res.bind_ok, Res.then_ok, Out.bind_nx, Out.bind_rt, asBl_bl, asBlO_bl, Option.map_some, idx_l, idx_t, len_l, len_t, peekI_, peek_bl_, peek_str_, peek_tup_, peek_lst_, peek_dic_, peek_scr_, peek_non_, lt_ii, gt_ii, ge_ii, eq_ii, add_ii, List.set_cons_zero, List.set_cons_succ, if_true, if_false, Bool.false_eq_true, decide_true, decide_false, List.replicate_succ, List.replicate_zero, Nat.reduceAdd, Nat.reduceSub, reduceCtorEq, reduceIte]
        · intro d hd
          obtain ⟨r, hr, rfl⟩ := List.mem_map.mp hd
          simp only [evB, evS, evE, evEs, entry, List.length_cons, List.length_nil, List.map_cons, List.map_nil, List.cons_append, List.nil_append, List.getElem?_cons_zero, List.getElem?_cons_succ, Option.getD_some, Res.of_some, Res.bind_ok, Res.then_ok, Out.bind_nx, Out.bind_rt, asBl_bl, asBlO_bl, Option.map_some, idx_l, idx_t, len_l, len_t, peekI_, peek_bl_, peek_str_, peek_tup_, peek_lst_, peek_dic_, peek_scr_, peek_non_, lt_ii, gt_ii, ge_ii, eq_ii, add_ii, List.set_cons_zero, List.set_cons_succ, if_true, if_false, Bool.false_eq_true, decide_true, decide_false, List.replicate_succ, List.replicate_zero, Nat.reduceAdd, Nat.reduceSub, reduceCtorEq, reduceIte, Row.dv, wipe, bindTo, List.zip_cons_cons, List.zip_nil_right, List.foldl_cons, List.foldl_nil, evC, noExc]
      refine (evB_nx (evS_asg (v := .lst [.tup [rows[j].place, .str (Str.ofString "b"), .int rows[j].val], .tup [rows[j].place, .str rows[j].name, .int 5], .tup [pl, .str rows[j].name, .int rows[j].val]]) (S2 := S3) ?_)).trans ?_
      · simp only [evB, evS, evE, evEs, entry, List.length_cons, List.length_nil, List.map_cons, List.map_nil, List.cons_append, List.nil_append, List.getElem?_cons_zero, List.getElem?_cons_succ, Option.getD_some, Res.of_some, Res.bind_ok, Res.then_ok, Out.bind_nx, Out.bind_rt, asBl_bl, asBlO_bl, Option.map_some, idx_l, idx_t, len_l, len_t, peekI_, peek_bl_, peek_str_, peek_tup_, peek_lst_, peek_dic_, peek_scr_, peek_non_, lt_ii, gt_ii, ge_ii, eq_ii, add_ii, List.set_cons_zero, List.set_cons_succ, if_true, if_false, Bool.false_eq_true, decide_true, decide_false, List.replicate_succ, List.replicate_zero, Nat.reduceAdd, Nat.reduceSub, reduceCtorEq, reduceIte, Row.thing, part_0, part_1, s3_to1, s3_to2, s3_fr1, s3_fr2]
        rw [cat_t (by simp; omega)]
        simp only [evB, evS, evE, evEs, entry, List.length_cons, List.length_nil, List.map_cons, List.map_nil, List.cons_append, List.nil_append, List.getElem?_cons_zero, List.getElem?_cons_succ, Option.getD_some, Res.of_some, Res.bind_ok, Res.then_ok, Out.bind_nx, Out.bind_rt, asBl_bl, asBlO_bl, Option.map_some, idx_l, idx_t, len_l, len_t, peekI_, peek_bl_, peek_str_, peek_tup_, peek_lst_, peek_dic_, peek_scr_, peek_non_, lt_ii, gt_ii, ge_ii, eq_ii, add_ii, List.set_cons_zero, List.set_cons_succ, if_true, if_false, Bool.false_eq_true, decide_true, decide_false, List.replicate_succ, List.replicate_zero, Nat.reduceAdd, Nat.reduceSub, reduceCtorEq, reduceIte]
        rw [cat_t (by simp; omega)]
        simp only [evB, evS, evE, evEs, entry, List.length_cons, List.length_nil, List.map_cons, List.map_nil, List.cons_append, List.nil_append, List.getElem?_cons_zero, List.getElem?_cons_succ, Option.getD_some, Res.of_some, Res.bind_ok, Res.then_ok, Out.bind_nx, Out.bind_rt, asBl_bl, asBlO_bl, Option.map_some, idx_l, idx_t, len_l, len_t, peekI_, peek_bl_, peek_str_, peek_tup_, peek_lst_, peek_dic_, peek_scr_, peek_non_, lt_ii, gt_ii, ge_ii, eq_ii, add_ii, List.set_cons_zero, List.set_cons_succ, if_true, if_false, Bool.false_eq_true, decide_true, decide_false, List.replicate_succ, List.replicate_zero, Nat.reduceAdd, Nat.reduceSub, reduceCtorEq, reduceIte]
        rw [cat_t (by simp; omega)]
        simp only [evB, evS, evE, evEs, entry, List.length_cons, List.length_nil, List.map_cons, List.map_nil, List.cons_append, List.nil_append, List.getElem?_cons_zero, List.getElem?_cons_succ, Option.getD_some, Res.of_some, Res.bind_ok, Res.then_ok, Out.bind_nx, Out.bind_rt, asBl_bl, asBlO_bl, Option.map_some, idx_l, idx_t, len_l, len_t, peekI_, peek_bl_, peek_str_, peek_tup_, peek_lst_, peek_dic_, peek_scr_, peek_non_, lt_ii, gt_ii, ge_ii, eq_ii, add_ii, List.set_cons_zero, List.set_cons_succ, if_true, if_false, Bool.false_eq_true, decide_true, decide_false, List.replicate_succ, List.replicate_zero, Nat.reduceAdd, Nat.reduceSub, reduceCtorEq, reduceIte, List.length_map]
        rw [q3']
        simp only [evB, evS, evE, evEs, entry, List.length_cons, List.length_nil, List.map_cons, List.map_nil, List.cons_append, List.nil_append, List.getElem?_cons_zero, List.getElem?_cons_succ, Option.getD_some, Res.of_some, Res.bind_ok, Res.then_ok, Out.bind_nx, Out.bind_rt, asBl_bl, asBlO_bl, Option.map_some, idx_l, idx_t, len_l, len_t, peekI_, peek_bl_, peek_str_, peek_tup_, peek_lst_, peek_dic_, peek_scr_, peek_non_, lt_ii, gt_ii, ge_ii, eq_ii, add_ii, List.set_cons_zero, List.set_cons_succ, if_true, if_false, Bool.false_eq_true, decide_true, decide_false, List.replicate_succ, List.replicate_zero, Nat.reduceAdd, Nat.reduceSub, reduceCtorEq, reduceIte, g3]
        rw [cat_t (by simp; omega)]
        simp only [evB, evS, evE, evEs, entry, List.length_cons, List.length_nil, List.map_cons, List.map_nil, List.cons_append, List.nil_append, List.getElem?_cons_zero, List.getElem?_cons_succ, Option.getD_some, Res.of_some, Res.bind_ok, Res.then_ok, Out.bind_nx, Out.bind_rt, asBl_bl, asBlO_bl, Option.map_some, idx_l, idx_t, len_l, len_t, peekI_, peek_bl_, peek_str_, peek_tup_, peek_lst_, peek_dic_, peek_scr_, peek_non_, lt_ii, gt_ii, ge_ii, eq_ii, add_ii, List.set_cons_zero, List.set_cons_succ, if_true, if_false, Bool.false_eq_true, decide_true, decide_false, List.replicate_succ, List.replicate_zero, Nat.reduceAdd, Nat.reduceSub, reduceCtorEq, reduceIte]
      exact evB_nx (evS_asg hmore)
    rcases c4 with e | e | e | e
    · exact fin [⟨rows[j].dot, rows[j].place, Str.ofString "b", rows[j].val⟩] (by simp) (by rw [List.append_assoc]; exact rok_set ok hj rfl ⟨hr.dot, hr.place⟩ (Lf_b (r := rows[j]) lf)) (run _ (by subst e; simp only [evB, evS, evE, evEs, entry, List.length_cons, List.length_nil, List.map_cons, List.map_nil, List.cons_append, List.nil_append, List.getElem?_cons_zero, List.getElem?_cons_succ, Option.getD_some, Res.of_some, Res.bind_ok, Res.then_ok, Out.bind_nx, Out.bind_rt, asBl_bl, asBlO_bl, Option.map_some, idx_l, idx_t, len_l, len_t, peekI_, peek_bl_, peek_str_, peek_tup_, peek_lst_, peek_dic_, peek_scr_, peek_non_, lt_ii, gt_ii, ge_ii, eq_ii, add_ii, List.set_cons_zero, List.set_cons_succ, if_true, if_false, Bool.false_eq_true, decide_true, decide_false, List.replicate_succ, List.replicate_zero, Nat.reduceAdd, Nat.reduceSub, reduceCtorEq, reduceIte, at3_0]; rfl))
    · exact fin [⟨rows[j].dot, rows[j].place, rows[j].name, 5⟩] (by simp) (by rw [List.append_assoc]; exact rok_set ok hj rfl ⟨hr.dot, hr.place⟩ (Lf_5 (r := rows[j]) lf)) (run _ (by subst e; simp only [evB, evS, evE, evEs, entry, List.length_cons, List.length_nil, List.map_cons, List.map_nil, List.cons_append, List.nil_append, List.getElem?_cons_zero, List.getElem?_cons_succ, Option.getD_some, Res.of_some, Res.bind_ok, Res.then_ok, Out.bind_nx, Out.bind_rt, asBl_bl, asBlO_bl, Option.map_some, idx_l, idx_t, len_l, len_t, peekI_, peek_bl_, peek_str_, peek_tup_, peek_lst_, peek_dic_, peek_scr_, peek_non_, lt_ii, gt_ii, ge_ii, eq_ii, add_ii, List.set_cons_zero, List.set_cons_succ, if_true, if_false, Bool.false_eq_true, decide_true, decide_false, List.replicate_succ, List.replicate_zero, Nat.reduceAdd, Nat.reduceSub, reduceCtorEq, reduceIte, at3_1]; rfl))
    · exact fin [⟨rows[j].dot, pl, rows[j].name, rows[j].val⟩] (by simp) (by rw [List.append_assoc]; exact rok_set ok hj rfl ⟨hr.dot, pl_gd⟩ lf) (run _ (by subst e; simp only [evB, evS, evE, evEs, entry, List.length_cons, List.length_nil, List.map_cons, List.map_nil, List.cons_append, List.nil_append, List.getElem?_cons_zero, List.getElem?_cons_succ, Option.getD_some, Res.of_some, Res.bind_ok, Res.then_ok, Out.bind_nx, Out.bind_rt, asBl_bl, asBlO_bl, Option.map_some, idx_l, idx_t, len_l, len_t, peekI_, peek_bl_, peek_str_, peek_tup_, peek_lst_, peek_dic_, peek_scr_, peek_non_, lt_ii, gt_ii, ge_ii, eq_ii, add_ii, List.set_cons_zero, List.set_cons_succ, if_true, if_false, Bool.false_eq_true, decide_true, decide_false, List.replicate_succ, List.replicate_zero, Nat.reduceAdd, Nat.reduceSub, reduceCtorEq, reduceIte, at3_2]; rfl))
    · exact fin [] (by simp) (by rw [List.append_nil]; exact rok_del ok j) (run _ (by subst e; simp only [evB, evS, evE, evEs, entry, List.length_cons, List.length_nil, List.map_cons, List.map_nil, List.cons_append, List.nil_append, List.getElem?_cons_zero, List.getElem?_cons_succ, Option.getD_some, Res.of_some, Res.bind_ok, Res.then_ok, Out.bind_nx, Out.bind_rt, asBl_bl, asBlO_bl, Option.map_some, idx_l, idx_t, len_l, len_t, peekI_, peek_bl_, peek_str_, peek_tup_, peek_lst_, peek_dic_, peek_scr_, peek_non_, lt_ii, gt_ii, ge_ii, eq_ii, add_ii, List.set_cons_zero, List.set_cons_succ, if_true, if_false, Bool.false_eq_true, decide_true, decide_false, List.replicate_succ, List.replicate_zero, Nat.reduceAdd, Nat.reduceSub, reduceCtorEq, reduceIte, List.map_nil]))
end DP

namespace DP
open PySem
/-! ### the same things by other dots -/
def rho (O : List (DV × DV)) (d : DV) : DV := (dget O d).getD d
def ren (O : List (DV × DV)) (r : Row) : Row := ⟨rho O r.dot, rho O r.place, r.name, r.val⟩
structure Ren (O : List (DV × DV)) (rows rows' : List Row) : Prop where
  perm : rows'.Perm (rows.map (ren O))
  nd : (O.map (·.2)).Nodup
  kd : (O.map (·.1)).Nodup
  vl : ∀ p ∈ O, ∃ k : Int, 20 ≤ k ∧ p.2 = Dt [1] k
  ky : ∀ p ∈ O, IsDot p.1
  dm : ∀ r ∈ rows, r.dot ∈ O.map (·.1)
  lo : ∀ r ∈ rows, Lo r.place
def Dom (O : List (DV × DV)) (d : DV) : Prop := d ∈ O.map (·.1) ∨ Lo d
theorem dget_none {O : List (DV × DV)} {d : DV} (h : d ∉ O.map (·.1)) : dget O d = none := by
  unfold dget
  cases e : O.find? fun p => decide (p.1 = d) with
  | none => rfl
  | some p =>
    have h1 := List.mem_of_find?_eq_some e
    have h2 : p.1 = d := of_decide_eq_true (List.find?_some (p := fun p : DV × DV => decide (p.1 = d)) e)
    exact absurd (List.mem_map.mpr ⟨p, h1, h2⟩) h
theorem snd_inj : ∀ {O : List (DV × DV)}, (O.map (·.2)).Nodup → ∀ {p q : DV × DV}, p ∈ O → q ∈ O → p.2 = q.2 → p = q
  | [], _, p, q, hp, _, _ => by cases hp
  | x :: O, h, p, q, hp, hq, e => by
    rw [List.map_cons, List.nodup_cons] at h
    rcases List.mem_cons.mp hp with h1 | h1 <;> rcases List.mem_cons.mp hq with h2 | h2
    · rw [h1, h2]
    · exact absurd (List.mem_map.mpr ⟨q, h2, by rw [← e, h1]⟩) h.1
    · exact absurd (List.mem_map.mpr ⟨p, h1, by rw [e, h2]⟩) h.1
    · exact snd_inj h.2 h1 h2 e
section
variable {O : List (DV × DV)} {rows rows' : List Row}
theorem Ren.mem (h : Ren O rows rows') {d : DV} (hd : d ∈ O.map (·.1)) : ∃ k : Int, 20 ≤ k ∧ rho O d = Dt [1] k ∧ (d, rho O d) ∈ O := by
  obtain ⟨p, hp, e, g⟩ := dget_mem hd
  obtain ⟨k, hk, e2⟩ := h.vl p hp
  have e3 : rho O d = p.2 := by unfold rho; rw [g]; rfl
  refine ⟨k, hk, e3.trans e2, ?_⟩
  rw [e3, ← e]; exact hp
theorem Ren.out (h : Ren O rows rows') {d : DV} (hd : d ∉ O.map (·.1)) : rho O d = d := by unfold rho; rw [dget_none hd]; rfl
theorem Ren.inj (h : Ren O rows rows') {x y : DV} (hx : Dom O x) (hy : Dom O y) (e : rho O x = rho O y) : x = y := by
  by_cases q1 : x ∈ O.map (·.1) <;> by_cases q2 : y ∈ O.map (·.1)
  · obtain ⟨k, _, _, m1⟩ := h.mem q1
    obtain ⟨l, _, _, m2⟩ := h.mem q2
    have := snd_inj h.nd m1 m2 e
    exact congrArg (·.1) this
  · obtain ⟨k, hk, e1, _⟩ := h.mem q1
    have ly := hy.resolve_left q2
    rw [h.out q2, e1] at e
    exact absurd e.symm (ly k hk)
  · obtain ⟨k, hk, e1, _⟩ := h.mem q2
    have lx := hx.resolve_left q1
    rw [h.out q1, e1] at e
    exact absurd e (lx k hk)
  · rw [h.out q1, h.out q2] at e; exact e
theorem Ren.un (h : Ren O rows rows') : rho O (.tup []) = .tup [] := h.out fun m => by
  obtain ⟨p, hp, e⟩ := List.mem_map.mp m
  exact (h.ky p hp).ne e
theorem un_dom (O : List (DV × DV)) : Dom O (.tup []) := .inr fun k _ e => by simp [Dt] at e
theorem Ren.par (h : Ren O rows rows') (n : Nd rows) (n' : Nd rows') {d : DV} (hd : Dom O d) : par rows' (rho O d) = rho O (par rows d) ∧ Dom O (par rows d) := by
  by_cases q : ∃ r ∈ rows, r.dot = d
  · obtain ⟨r, hr, rfl⟩ := q
    have m : ren O r ∈ rows' := h.perm.mem_iff.mpr (List.mem_map.mpr ⟨r, hr, rfl⟩)
    rw [par_row n hr]
    have := par_row n' m
    exact ⟨this, .inr (h.lo r hr)⟩
  · have e1 : DP.par rows d = d := by
      unfold DP.par
      rw [List.find?_eq_none.mpr fun r hr => by simpa using fun e => q ⟨r, hr, e⟩]
    have e2 : DP.par rows' (rho O d) = rho O d := by
      unfold DP.par
      rw [List.find?_eq_none.mpr fun r hr => ?_]
      obtain ⟨s, hs, rfl⟩ := List.mem_map.mp (h.perm.mem_iff.mp hr)
      simp only [decide_eq_true_eq]
      intro e
      exact q ⟨s, hs, h.inj (.inl (h.dm s hs)) hd e⟩
    rw [e1]; exact ⟨e2, hd⟩
theorem Ren.climb (h : Ren O rows rows') (n : Nd rows) (n' : Nd rows') : ∀ (k : Nat) {d : DV}, Dom O d → climb rows' k (rho O d) = rho O (climb rows k d) ∧ Dom O (climb rows k d)
  | 0, d, hd => ⟨rfl, hd⟩
  | k + 1, d, hd => by
    obtain ⟨e1, d1⟩ := h.par n n' hd
    rw [DP.climb, DP.climb, e1]
    exact h.climb n n' k d1
theorem Ren.shown (h : Ren O rows rows') (n : Nd rows) (n' : Nd rows') : (shownR rows').Perm ((shownR rows).map (ren O)) := by
  unfold shownR
  have e : rows'.length = rows.length := by rw [h.perm.length_eq, List.length_map]
  refine (h.perm.filter _).trans ?_
  rw [List.filter_map, e]
  have : rows.filter ((fun r => decide (DP.climb rows' rows.length r.place = DV.tup [])) ∘ ren O) = rows.filter fun r => decide (DP.climb rows rows.length r.place = .tup []) := by
    refine List.filter_congr fun r hr => ?_
    obtain ⟨e1, d1⟩ := h.climb n n' rows.length (.inr (h.lo r hr) : Dom O r.place)
    show decide (DP.climb rows' rows.length (rho O r.place) = _) = _
    rw [e1]
    refine decide_eq_decide.mpr ⟨fun e => ?_, fun e => ?_⟩
    · exact h.inj d1 (un_dom O) (e.trans h.un.symm)
    · rw [e]; exact h.un
  rw [this]
theorem sortT_perm {l m : List Tr} (h : l.Perm m) : sortT l = sortT m := by
  have s : ∀ l : List Tr, (sortT l).Pairwise fun a b => DV.leb a.it b.it = true := fun l =>
    List.pairwise_mergeSort (fun a b c h1 h2 => leb_total.trans a.it b.it c.it h1 h2) (fun a b => by rcases leb_total.total a.it b.it with h | h <;> simp [h]) l
  refine List.Perm.eq_of_pairwise (le := fun a b : Tr => DV.leb a.it b.it = true) (fun a b _ _ h1 h2 => leb_anti h1 h2) (s l) (s m) ?_
  exact (List.mergeSort_perm _ _).trans (h.trans (List.mergeSort_perm _ _).symm)
theorem Ren.tree (h : Ren O rows rows') {R R' : List Row} (hp : R'.Perm (R.map (ren O))) (hR : ∀ r ∈ R, r ∈ rows) : ∀ (f : Nat) {p : DV}, Dom O p → sortT (treeT f R' (rho O p)) = sortT (treeT f R p)
  | 0, p, _ => rfl
  | f + 1, p, hd => by
    refine sortT_perm ?_
    rw [treeT, treeT]
    refine ((hp.filter _).map _).trans ?_
    rw [List.filter_map, List.map_map]
    have e1 : R.filter ((fun r => decide (r.place = rho O p)) ∘ ren O) = R.filter fun r => decide (r.place = p) := by
      refine List.filter_congr fun r hr => ?_
      show decide (rho O r.place = rho O p) = _
      refine decide_eq_decide.mpr ⟨fun e => h.inj (.inr (h.lo r (hR r hr))) hd e, fun e => by rw [e]⟩
    rw [e1]
    refine List.Perm.of_eq (List.map_congr_left fun r hr => ?_)
    have hr' := hR r (List.mem_filter.mp hr).1
    show Tr.node r.name r.val (sortT (treeT f R' (rho O r.dot))) = _
    rw [h.tree hp hR f (.inl (h.dm r hr'))]
/-- by other dots the same -/
theorem Ren.out_same (h : Ren O rows rows') (n : Nd rows) (n' : Nd rows') {p : DV} (hd : Dom O p) : OutT rows' (rho O p) = OutT rows p :=
  h.tree (h.shown n n') (fun r hr => (List.mem_filter.mp hr).1) 33 hd
end
end DP

namespace DP
open PySem
/-! ### _law_by_others -/
def bO1 : List MS := [.sub (.var 4) (.var 5) (.meth .pop1 (.var 3) [.call 0 [.var 0, .blt .len [.var 3]]])]
def bO2 : List MS := [.sub (.var 6) (.idx (.var 4) (.var 5)) (.bin .add (.tup [.meth .get2 (.var 4) [.idx (.var 9) (.int (0)), .idx (.var 9) (.int (0))]]) (.slc (.var 9) [.int (1)] []))]
theorem pop_l {b n : Nat} {S : Store} {xs : List DV} {j : Nat} (h : S[n]? = some (.lst xs)) (hj : j < xs.length) (hl : xs.length < 1000) : meth b .pop1 .lst (.loc n) [.int j] S = .ok xs[j] (S.set n (.lst (xs.eraseIdx j))) := by
  have e1 : L2.ixN xs.length (j : Int) = some j := by
    unfold L2.ixN
    rw [if_pos (by omega), if_pos (by omega)]; rfl
  have e2 := at_nat xs hj
  simp only [meth, h, e1, e2]
  rw [if_pos (by omega)]
theorem zip_keys {α β : Type} : ∀ {l : List α} {m : List β}, l.length = m.length → (l.zip m).map (·.1) = l
  | [], [], _ => rfl
  | a :: l, b :: m, h => by rw [List.zip_cons_cons, List.map_cons, zip_keys (by simpa using h)]
theorem zip_vals {α β : Type} : ∀ {l : List α} {m : List β}, l.length = m.length → (l.zip m).map (·.2) = m
  | [], [], _ => rfl
  | a :: l, b :: m, h => by rw [List.zip_cons_cons, List.map_cons, zip_vals (by simpa using h)]
theorem erase_perm (xs : List DV) {j : Nat} (hj : j < xs.length) : (xs[j] :: xs.eraseIdx j).Perm xs := by
  rw [List.eraseIdx_eq_take_drop_succ]
  have : (xs[j] :: (xs.take j ++ xs.drop (j + 1))).Perm (xs.take j ++ xs[j] :: xs.drop (j + 1)) := List.perm_middle.symm
  refine this.trans (List.Perm.of_eq ?_)
  rw [← List.drop_eq_getElem_cons hj, List.take_append_drop]
def envO1 (B : DV) (D : List DV) (n : Nat) (x5 : Option DV) : Env := [some (.loc 0), some B, some (.lst D), some (.loc n), some (.loc (n + 1)), x5, none, none, none, none, none, none]
theorem others_1 {G : Ctx} {S S1 : Store} {n0 : Int} {B : DV} {D Lf : List DV} {O : List (DV × DV)} {d : DV} (hB : G.base = S.length) (hF : G.fs = [F__law_next]) (f : Feed S1 n0) (s : Same S S1) (hn : n0 < 10 ^ 8) (hL : Lf ≠ []) (hl : Lf.length < 1000) (hO : O.length < 1000) (hk : Ks O) (hd : tkey d = true) :
    ∃ (j : Nat) (hj : j < Lf.length) (S2 : Store), evB G bO1 (envO1 B D S.length (some d)) (S1 ++ [.lst Lf, .dic O]) = .nx (envO1 B D S.length (some d)) (S2 ++ [.lst (Lf.eraseIdx j), .dic (dput O d Lf[j])]) ∧ Feed S2 (n0 + 1) ∧ Same S S2 := by
  have sz : (2000 : Nat) < sizeLine := by rw [sizeLine_eq]; decide
  have hp : 0 < Lf.length := List.length_pos_iff.mpr hL
  obtain ⟨r, S2, e1, a1, b1, f1, s1⟩ := next_on (m := Lf.length) [.lst Lf, .dic O] G.base f (by omega) (by omega) (by omega)
  obtain ⟨j, rfl⟩ := Int.eq_ofNat_of_zero_le a1
  have hj : j < Lf.length := by omega
  have t := s.trans s1
  have pk3 : peek (S1 ++ [.lst Lf, .dic O]) (.loc S.length) = .lst Lf := peek_lstAt (app0e s.1)
  have p1 := pop_l (b := S.length) (n := S.length) (S := S2 ++ [.lst Lf, .dic O]) (app0e t.1) hj hl
  rw [set0e t.1] at p1
  have q := sub_d (b := S.length) (n := S.length + 1) (S := S2 ++ [.lst (Lf.eraseIdx j), .dic O]) (v := Lf[j]) (app1e t.1) (hk.dok hd) (fits_up _ _ _ (Nat.le_succ _)) (by omega)
  rw [set1e t.1] at q
  refine ⟨j, hj, S2, ?_, f1, t⟩
  unfold bO1 envO1
  rw [hB] at e1
  simp only [evB, evS, evE, evEs, entry, List.length_cons, List.length_nil, List.map_cons, List.map_nil, List.cons_append, List.nil_append, List.getElem?_cons_zero, List.getElem?_cons_succ, Option.getD_some, Res.of_some, Res.bind_ok, Res.then_ok, Out.bind_nx, Out.bind_rt, asBl_bl, asBlO_bl, Option.map_some, idx_l, idx_t, len_l, len_t, peekI_, peek_bl_, peek_str_, peek_tup_, peek_lst_, peek_dic_, peek_scr_, peek_non_, lt_ii, gt_ii, ge_ii, eq_ii, add_ii, List.set_cons_zero, List.set_cons_succ, if_true, if_false, Bool.false_eq_true, decide_true, decide_false, List.replicate_succ, List.replicate_zero, Nat.reduceAdd, Nat.reduceSub, reduceCtorEq, reduceIte, hF, hB, pk3, kind_l, show mok .pop1 .lst = true from rfl, e1, p1, q]
def envO2 (B : DV) (D : List DV) (n : Nat) (x5 x9 : Option DV) : Env := [some (.loc 0), some B, some (.lst D), some (.loc n), some (.loc (n + 1)), x5, some (.loc (n + 2)), none, none, x9, none, none]
theorem app2 (S : Store) (x y z : MO) (L : Store) : (S ++ x :: y :: z :: L)[S.length + 2]? = some z := app_get S (x :: y :: z :: L) 2
theorem set2_ (S : Store) (x y z w : MO) (L : Store) : (S ++ x :: y :: z :: L).set (S.length + 2) w = S ++ x :: y :: w :: L := app_set S (x :: y :: z :: L) 2 w
theorem app2e {S L : Store} {x y z : MO} {n : Nat} (h : S.length = n) : (S ++ x :: y :: z :: L)[n + 2]? = some z := by subst h; exact app2 S x y z L
theorem set2e {S L : Store} {x y z w : MO} {n : Nat} (h : S.length = n) : (S ++ x :: y :: z :: L).set (n + 2) w = S ++ x :: y :: w :: L := by subst h; exact set2_ S x y z w L
theorem others_2 {G : Ctx} {S S1 : Store} {B : DV} {D : List DV} {Lx : MO} {O T : List (DV × DV)} {r : Row} (hB : G.base = S.length) (s : S1.length = S.length) (hO : Ks O) (hT : Ks T) (hl : T.length < 1000) (hr : r.Ok) (hd : dget O r.dot = some (rho O r.dot)) (hk : tkey (rho O r.dot) = true) :
    evB G bO2 (envO2 B D S.length (some r.dot) (some r.thing)) (S1 ++ [Lx, .dic O, .dic T]) = .nx (envO2 B D S.length (some r.dot) (some r.thing)) (S1 ++ [Lx, .dic O, .dic (dput T (rho O r.dot) (ren O r).thing)]) := by
  have sz : (2000 : Nat) < sizeLine := by rw [sizeLine_eq]; decide
  have pk4 : peek (S1 ++ [Lx, .dic O, .dic T]) (.loc (S.length + 1)) = .dic O := peek_dicL (app1e s)
  have pd : ∀ S, peek S r.dot = r.dot := fun S => peek_tk hr.dot
  have pp : ∀ S, peek S r.place = r.place := fun S => peek_tk hr.place
  have gi := dget_idx (hO.dok hr.dot)
  have q := sub_d (b := S.length) (n := S.length + 2) (S := S1 ++ [Lx, .dic O, .dic T]) (k := rho O r.dot) (v := (ren O r).thing) (app2e s) (hT.dok hk) (fits_up _ _ _ (by omega)) (by omega)
  rw [set2e s] at q
  have cz : [rho O r.place].length + [DV.str r.name, .int r.val].length ≤ sizeLine := by simp; omega
  simp only [Row.thing, ren] at q
  unfold bO2 envO2
  simp only [evB, evS, evE, evEs, entry, List.length_cons, List.length_nil, List.map_cons, List.map_nil, List.cons_append, List.nil_append, List.getElem?_cons_zero, List.getElem?_cons_succ, Option.getD_some, Res.of_some, Res.bind_ok, Res.then_ok, Out.bind_nx, Out.bind_rt, asBl_bl, asBlO_bl, Option.map_some, idx_l, idx_t, len_l, len_t, peekI_, peek_bl_, peek_str_, peek_tup_, peek_lst_, peek_dic_, peek_scr_, peek_non_, lt_ii, gt_ii, ge_ii, eq_ii, add_ii, List.set_cons_zero, List.set_cons_succ, if_true, if_false, Bool.false_eq_true, decide_true, decide_false, List.replicate_succ, List.replicate_zero, Nat.reduceAdd, Nat.reduceSub, reduceCtorEq, reduceIte, Row.thing, pk4, kind_d, mok_get2, idx3_0, pp, pd, get2_d pk4 (hO.dok hr.place), part_1, part_0, s3_fr1, gi, hd]
  rw [show (dget O r.place).getD r.place = rho O r.place from rfl, cat_t cz]
  simp only [evB, evS, evE, evEs, entry, List.length_cons, List.length_nil, List.map_cons, List.map_nil, List.cons_append, List.nil_append, List.getElem?_cons_zero, List.getElem?_cons_succ, Option.getD_some, Res.of_some, Res.bind_ok, Res.then_ok, Out.bind_nx, Out.bind_rt, asBl_bl, asBlO_bl, Option.map_some, idx_l, idx_t, len_l, len_t, peekI_, peek_bl_, peek_str_, peek_tup_, peek_lst_, peek_dic_, peek_scr_, peek_non_, lt_ii, gt_ii, ge_ii, eq_ii, add_ii, List.set_cons_zero, List.set_cons_succ, if_true, if_false, Bool.false_eq_true, decide_true, decide_false, List.replicate_succ, List.replicate_zero, Nat.reduceAdd, Nat.reduceSub, reduceCtorEq, reduceIte, hB, pk4, pd, gi, hd, q, ren]
end DP

namespace DP
open PySem
theorem dget_zip : ∀ {D vs : List DV}, D.Nodup → D.length = vs.length → ∀ (i : Nat) (hi : i < D.length) (hj : i < vs.length), dget (D.zip vs) D[i] = some vs[i]
  | d :: D, v :: vs, h, hl, 0, hi, hj => by
    simp [dget]
  | d :: D, v :: vs, h, hl, i + 1, hi, hj => by
    rw [List.nodup_cons] at h
    have hi' : i < D.length := by simpa using hi
    have hne : ¬ d = D[i] := fun e => h.1 (e ▸ List.getElem_mem hi')
    have := dget_zip h.2 (by simpa using hl) i hi' (by simpa using hj)
    simp only [List.getElem_cons_succ]
    unfold dget at this ⊢
    rw [List.zip_cons_cons, List.find?_cons]
    simp only [decide_eq_false hne]
    exact this
/-- the rows of a dict, by their dots -/
theorem sort_rows {R : List Row} (g : ∀ r ∈ R, r.Gd) (n : Nd R) : ∃ R' : List Row, (R.map Row.dot).mergeSort DV.leb = R'.map Row.dot ∧ R'.Perm R ∧ Sd R' ∧ (∀ r ∈ R', dget (kvR R) r.dot = some r.thing) := by
  refine ⟨R.mergeSort fun a b => DV.leb a.dot b.dot, ?_, List.mergeSort_perm _ _, ?_, fun r hr => kvR_row n ((List.mergeSort_perm _ _).mem_iff.mp hr)⟩
  · exact (List.map_mergeSort (f := Row.dot) (s := DV.leb) fun a _ b _ => rfl).symm
  · unfold Sd
    rw [List.map_mergeSort (f := Row.dot) (s := DV.leb) fun a _ b _ => rfl]
    exact leb_sorted _
def kvM (ms : List Mk) : List (DV × DV) := ms.map fun m => (m.dot, ackD m.n)
theorem pairs_marks : ∀ ms : List Mk, pairs (ms.map Mk.dv) = some (kvM ms)
  | [] => rfl
  | r :: ms => by
    show (pairs (ms.map Mk.dv)).map _ = _
    rw [pairs_marks ms]; rfl
theorem kvM_get {ms : List Mk} (h : (ms.map Mk.dot).Nodup) {m : Mk} (hm : m ∈ ms) : dget (kvM ms) m.dot = some (ackD m.n) := by
  induction ms with
  | nil => cases hm
  | cons x xs ih =>
    rw [List.map_cons, List.nodup_cons] at h
    unfold dget kvM
    rw [List.map_cons, List.find?_cons]
    rcases List.mem_cons.mp hm with e | e
    · subst e; simp
    · have : ¬ x.dot = m.dot := fun z => h.1 (List.mem_map.mpr ⟨m, e, z.symm⟩)
      simp only [decide_eq_false this]
      exact ih h.2 e
theorem dict_marks {ms : List Mk} (g : ∀ m ∈ ms, tkey m.dot = true) (h : (ms.map Mk.dot).Nodup) : blt .dict [.lst (ms.map Mk.dv)] = some (.dic (kvM ms)) := by
  have e : (kvM ms).all (fun p => tkey p.1) = true := by
    rw [List.all_eq_true]
    intro p hp
    obtain ⟨r, hr, rfl⟩ := List.mem_map.mp hp
    exact g r hr
  have f := fold_put (kvM ms) [] (by
    have : (kvM ms).map (·.1) = ms.map Mk.dot := by simp [kvM]
    rw [List.nil_append, this]; exact h)
  simp only [blt, pairs_marks, Option.bind_some, e, if_true, f, List.nil_append]
theorem sort_marks {ms : List Mk} (n : (ms.map Mk.dot).Nodup) : ∃ ms' : List Mk, (ms.map Mk.dot).mergeSort DV.leb = ms'.map Mk.dot ∧ ms'.Perm ms ∧ (∀ m ∈ ms', dget (kvM ms) m.dot = some (ackD m.n)) := by
  refine ⟨ms.mergeSort fun a b => DV.leb a.dot b.dot, ?_, List.mergeSort_perm _ _, fun m hm => kvM_get n ((List.mergeSort_perm _ _).mem_iff.mp hm)⟩
  exact (List.map_mergeSort (f := Mk.dot) (s := DV.leb) fun a _ b _ => rfl).symm
/-- the fresh dots -/
def fresh (n : Nat) : List DV := (List.range n).map fun (i : Nat) => Dt [1] ((i : Int) + 20)
theorem fresh_nd (n : Nat) : (fresh n).Nodup := by
  unfold fresh List.Nodup
  rw [List.pairwise_map]
  refine List.Pairwise.imp_of_mem ?_ (List.nodup_range (n := n))
  intro a b _ _ h e
  simp only [Dt, DV.tup.injEq, List.cons.injEq, DV.int.injEq] at e
  omega
theorem fresh_is {n : Nat} {d : DV} (h : d ∈ fresh n) : ∃ k : Int, 20 ≤ k ∧ k < n + 20 ∧ d = Dt [1] k := by
  obtain ⟨i, hi, rfl⟩ := List.mem_map.mp h
  have := List.mem_range.mp hi
  exact ⟨(i : Int) + 20, by omega, by omega, rfl⟩
theorem fresh_len (n : Nat) : (fresh n).length = n := by simp [fresh]
end DP

namespace DP
open PySem
theorem fin_pair {n : Nat} {S S1 : Store} {x : DV} {i : Nat} {O : List (DV × DV)} (hn : S.length = n) (hx : x.pure = true) (hi : n ≤ i) (hO : S1[i]? = some (.dic O)) (hp : ∀ p ∈ O, p.1.pure = true ∧ p.2.pure = true) : finish .drop S S1 (.tup [x, .loc i]) = .ok (.tup [x, .dic O]) (S1.take n) := by
  subst hn
  have e : freeze S.length S1 6 (.tup [x, .loc i]) = .tup [x, .dic O] := by
    rw [freeze, freezes, List.map_cons, List.map_cons, List.map_nil, (freeze_pure S.length S1 4).1 x hx, freeze, if_neg (by omega), hO]
    simp only [freezed]
    congr 3
    have : (O.map fun p => (p.1, freeze S.length S1 2 p.2)) = O.map id := List.map_congr_left fun p hp2 => by rw [(freeze_pure S.length S1 2).1 _ (hp p hp2).2]; rfl
    rw [this, List.map_id]
  have pd : ∀ O : List (DV × DV), (∀ p ∈ O, p.1.pure = true ∧ p.2.pure = true) → DV.pured O = true := fun O => by
    induction O with
    | nil => intro _; rfl
    | cons p O ih =>
      intro h
      have h1 := h p List.mem_cons_self
      simp only [DV.pured, h1.1, h1.2, ih fun q hq => h q (List.mem_cons_of_mem _ hq), Bool.and_self]
  unfold finish
  dsimp only
  rw [e, if_pos (below_pure _ _ (by simp only [DV.pure, DV.pures, hx, pd O hp, Bool.and_self]))]
theorem run_pair {fs : List Fn} {cs : List DV} {d : Def} {b : Nat} {args : List DV} {S S1 : Store} {x : DV} {i : Nat} {O : List (DV × DV)} (hl : args.length = d.nargs) (hm : d.mode = .drop) (h : evB { fs := fs, cs := cs, base := S.length } d.body (entry d.nslots args) S = .rt (.tup [x, .loc i]) S1) (hx : x.pure = true) (hi : S.length ≤ i) (hO : S1[i]? = some (.dic O)) (hp : ∀ p ∈ O, p.1.pure = true ∧ p.2.pure = true) : runDef fs cs d b args S = .ok (.tup [x, .dic O]) (S1.take S.length) := by
  unfold runDef
  have md : (if d.mode = Mode.keep then b else S.length) = S.length := by rw [hm]; rfl
  rw [if_pos hl, md, h]
  show finish d.mode S S1 _ = _
  rw [hm, fin_pair rfl hx hi hO hp]
theorem by_others_spec {S : Store} {n made : Int} {rows : List Row} {ms : List Mk} (b : Nat) (h : Feed S n) (hn : n < 10 ^ 7) (ok : BOk made rows ms) :
    ∃ rows' ms' O S', F__law_by_others b [.loc 0, mkBook made rows ms] S = .ok (.tup [mkBook made rows' ms', .dic O]) S' ∧ ROk rows' ∧ Ren O rows rows' ∧ O ≠ [] ∧ Feed S' (n + 30) ∧ Same S S' := by
  have sz : (2000 : Nat) < sizeLine := by rw [sizeLine_eq]; decide
  have len := ok.len
  generalize hG : ({ fs := [F__law_next], cs := [], base := S.length } : Ctx) = G
  have hB : G.base = S.length := by rw [← hG]
  have hF : G.fs = [F__law_next] := by rw [← hG]
  generalize hD : rows.map Row.dot ++ ms.map Mk.dot = D
  have ndD : D.Nodup := hD ▸ ok.nd
  have dD : ∀ d ∈ D, IsDot d := fun d hd => by
    rw [← hD] at hd
    rcases List.mem_append.mp hd with hd | hd
    · exact dots_are ok.gd d hd
    · obtain ⟨m, hm, rfl⟩ := List.mem_map.mp hd; exact (ok.mms m hm).dot.dot
  have lD : D.length = rows.length + ms.length := by rw [← hD]; simp
  -- the first loop
  have h1 := forL_inv (tg := .nm 5) (b := evB G bO1) (chk := isLive [.lst D] (S ++ [.lst (fresh D.length), .dic []])) (items := D)
    (fun i e S' => ∃ x5 Lf vs S2, e = envO1 (mkBook made rows ms) D S.length x5 ∧ S' = S2 ++ [.lst Lf, .dic ((D.take i).zip vs)] ∧ vs.length = i ∧ (vs ++ Lf).Perm (fresh D.length) ∧ Feed S2 (n + i) ∧ Same S S2)
    (fun i e S' _ => rfl) (fun i hi e S' ⟨x5, Lf, vs, S2, he, hS, hv, pm, f, s⟩ => ?_) _ 0 (envO1 (mkBook made rows ms) D S.length none) (S ++ [.lst (fresh D.length), .dic []]) rfl (Nat.zero_le _) ⟨none, fresh D.length, [], S, rfl, rfl, rfl, List.Perm.refl _, by simpa using h, Same.refl S⟩
  · rw [List.drop_zero] at h1
    obtain ⟨e2, S2, h1, x5, Lf, vs, S3, rfl, rfl, hv, pm, f3, s3⟩ := h1
    rw [List.take_length] at h1
    have hL : Lf = [] := by
      have := pm.length_eq
      rw [List.length_append, fresh_len] at this
      exact List.length_eq_zero_iff.mp (by omega)
    subst hL
    rw [List.append_nil] at pm
    have kf : (D.zip vs).map (·.1) = D := zip_keys hv.symm
    have vf : (D.zip vs).map (·.2) = vs := zip_vals hv.symm
    have gz := dget_zip ndD hv.symm
    generalize hO : D.zip vs = O at h1 kf vf gz
    have ren0 : Ren O rows (rows.map (ren O)) := by
      refine ⟨List.Perm.refl _, ?_, ?_, fun p hp => ?_, fun p hp => ?_, fun r hr => ?_, fun r hr => (ok.rs r hr).lo⟩
      · rw [vf]; exact pm.nodup_iff.mpr (fresh_nd _)
      · rw [kf]; exact ndD
      · have : p.2 ∈ vs := by rw [← vf]; exact List.mem_map.mpr ⟨p, hp, rfl⟩
        obtain ⟨k, h1, _, h3⟩ := fresh_is (pm.mem_iff.mp this)
        exact ⟨k, h1, h3⟩
      · exact dD _ (by rw [← kf]; exact List.mem_map.mpr ⟨p, hp, rfl⟩)
      · rw [kf, ← hD]; exact List.mem_append_left _ (List.mem_map.mpr ⟨r, hr, rfl⟩)
    have inD : ∀ r ∈ rows, r.dot ∈ O.map (·.1) := ren0.dm
    have inM : ∀ m ∈ ms, m.dot ∈ O.map (·.1) := fun m hm => by rw [kf, ← hD]; exact List.mem_append_right _ (List.mem_map.mpr ⟨m, hm, rfl⟩)
    have gO : ∀ d ∈ O.map (·.1), dget O d = some (rho O d) := fun d hd => by
      obtain ⟨p, _, _, g⟩ := dget_mem hd
      unfold rho; rw [g]; rfl
    have ksO : Ks O := fun p hp => (ren0.ky p hp).tk
    have tkO : ∀ d ∈ O.map (·.1), tkey (rho O d) = true := fun d hd => by
      obtain ⟨k, _, e, _⟩ := ren0.mem hd
      rw [e]; exact dt_tk _ _
    have rd : ∀ d ∈ O.map (·.1), IsDot (rho O d) := fun d hd => by
      obtain ⟨k, _, e, _⟩ := ren0.mem hd
      exact ⟨[1], k, e⟩
    have gd1 : ∀ r ∈ rows.map (ren O), r.Gd := fun r hr => by
      obtain ⟨q, hq, rfl⟩ := List.mem_map.mp hr
      refine ⟨rd _ (inD q hq), ?_⟩
      by_cases z : q.place ∈ O.map (·.1)
      · exact .inr (rd _ z)
      · show rho O q.place = _ ∨ IsDot (rho O q.place)
        rw [ren0.out z]
        exact (ok.gd q hq).place
    have injD : ∀ x ∈ O.map (·.1), ∀ y ∈ O.map (·.1), rho O x = rho O y → x = y := fun x hx y hy e => ren0.inj (.inl hx) (.inl hy) e
    have map_nd : ∀ l : List DV, l.Nodup → (∀ x ∈ l, x ∈ O.map (·.1)) → (l.map (rho O)).Nodup := fun l hl hs => by
      unfold List.Nodup
      rw [List.pairwise_map]
      exact List.Pairwise.imp_of_mem (fun {a b} ha hb hne e => hne (injD a (hs a ha) b (hs b hb) e)) hl
    have n1 : Nd (rows.map (ren O)) := by
      have := map_nd (rows.map Row.dot) ok.nr fun x hx => by obtain ⟨r, hr, rfl⟩ := List.mem_map.mp hx; exact inD r hr
      unfold Nd
      rw [List.map_map] at this ⊢
      exact this
    have n2 : ((ms.map fun m => (⟨rho O m.dot, m.n⟩ : Mk)).map Mk.dot).Nodup := by
      have := map_nd (ms.map Mk.dot) (List.nodup_append.mp ok.nd).2.1 fun x hx => by obtain ⟨r, hr, rfl⟩ := List.mem_map.mp hx; exact inM r hr
      rw [List.map_map] at this ⊢
      exact this
    -- the second loop
    have h2 := forL_inv (tg := .tp [5, 9]) (b := evB G bO2) (chk := isLive [.tup (rows.map Row.dv)] (S3 ++ [.lst [], .dic O, .dic []])) (items := rows.map Row.dv)
      (fun i e S' => ∃ x5 x9, e = envO2 (mkBook made rows ms) D S.length x5 x9 ∧ S' = S3 ++ [.lst [], .dic O, .dic (kvR ((rows.take i).map (ren O)))])
      (fun i e S' _ => rfl) (fun i hi e S' ⟨x5, x9, he, hS⟩ => ?_) _ 0 (envO2 (mkBook made rows ms) D S.length x5 none) (S3 ++ [.lst [], .dic O, .dic []]) rfl (Nat.zero_le _) ⟨x5, none, rfl, rfl⟩
    · rw [List.drop_zero] at h2
      obtain ⟨e4, S4, h2, y5, y9, rfl, rfl⟩ := h2
      rw [List.length_map, List.take_length] at h2
      obtain ⟨rows', er, pr, sr, gr⟩ := sort_rows gd1 n1
      obtain ⟨ms', em, pms, gm⟩ := sort_marks n2
      generalize hR : rows.map (ren O) = R at h2 er pr gr gd1 n1
      generalize hM1 : (ms.map fun m => (⟨rho O m.dot, m.n⟩ : Mk)) = M1 at em pms gm n2
      have gd' : ∀ r ∈ rows', r.Gd := fun r hr => gd1 r (pr.mem_iff.mp hr)
      have tM1 : ∀ m ∈ M1, IsDot m.dot := fun m hm => by
        rw [← hM1] at hm
        obtain ⟨q, hq, rfl⟩ := List.mem_map.mp hm
        exact rd _ (inM q hq)
      have tms : ∀ m ∈ ms', IsDot m.dot := fun m hm => tM1 m (pms.mem_iff.mp hm)
      have rk : ROk rows' := by
        refine ⟨gd', fun r hr => ?_, ?_, sr, ?_⟩
        · have := pr.mem_iff.mp hr
          rw [← hR] at this
          obtain ⟨q, hq, rfl⟩ := List.mem_map.mp this
          exact (ok.rs q hq).lf
        · exact (pr.map Row.dot).nodup_iff.mpr n1
        · have := pr.length_eq
          rw [← hR, List.length_map] at this
          omega
      have hren : Ren O rows rows' := { ren0 with perm := by rw [hR]; exact pr }
      have ds : (∀ d ∈ R.map Row.dot, IsDot d) := dots_are gd1
      have srt6 : blt .sorted [.dic (kvR R)] = some (.lst (rows'.map Row.dot)) := by rw [sorted_d, kvR_fst, sorted_dots ds, er]
      have kM : (kvM M1).map (·.1) = M1.map Mk.dot := by simp [kvM]
      have srt7 : blt .sorted [.dic (kvM M1)] = some (.lst (ms'.map Mk.dot)) := by
        rw [sorted_d, kM, sorted_dots (fun d hd => by obtain ⟨m, hm, rfl⟩ := List.mem_map.mp hd; exact tM1 m hm), em]
      have ksM : Ks (kvM M1) := fun p hp => by
        obtain ⟨m, hm, rfl⟩ := List.mem_map.mp hp
        exact (tM1 m hm).tk
      have dm7 := dict_marks (ms := M1) (fun m hm => (tM1 m hm).tk) n2
      have pk4 : peek (S3 ++ [.lst [], .dic O, .dic (kvR R)]) (.loc (S.length + 1)) = .dic O := peek_dicL (app1e s3.1)
      have pk6 : peek (S3 ++ [.lst [], .dic O, .dic (kvR R)]) (.loc (S.length + 2)) = .dic (kvR R) := peek_dicL (app2e s3.1)
      generalize hE : envO2 (mkBook made rows ms) D S.length y5 y9 = E at h2
      have c7 : evE G (.blt .dict [.comp (.tup [.idx (.var 4) (.var 5), .var 11]) (.tp [5, 11]) .seq [.idx (.var 1) (.int (6))] [] [5, 11]]) E (S3 ++ [.lst [], .dic O, .dic (kvR R)]) = .ok (.dic (kvM M1)) (S3 ++ [.lst [], .dic O, .dic (kvR R)]) := by
        rw [← hE]
        unfold envO2
        simp only [evB, evS, evE, evEs, entry, List.length_cons, List.length_nil, List.map_cons, List.map_nil, List.cons_append, List.nil_append, List.getElem?_cons_zero, List.getElem?_cons_succ, Option.getD_some, Res.of_some, Res.bind_ok, Res.then_ok, Out.bind_nx, Out.bind_rt, asBl_bl, asBlO_bl, Option.map_some, idx_l, idx_t, len_l, len_t, peekI_, peek_bl_, peek_str_, peek_tup_, peek_lst_, peek_dic_, peek_scr_, peek_non_, lt_ii, gt_ii, ge_ii, eq_ii, add_ii, List.set_cons_zero, List.set_cons_succ, if_true, if_false, Bool.false_eq_true, decide_true, decide_false, List.replicate_succ, List.replicate_zero, Nat.reduceAdd, Nat.reduceSub, reduceCtorEq, reduceIte, mk_6, mk_pk, srcArg, srcOf]
        rw [compL_pure (g := fun d => match d with
          | .tup [dot, a] => some (.tup [rho O dot, a])
          | _ => none) (isLive_ok _ _ (by simp))]
        · have e : (ms.map Mk.dv).filterMap (fun d => match d with
              | .tup [dot, a] => some (DV.tup [rho O dot, a])
              | _ => none) = M1.map Mk.dv := by
            rw [List.filterMap_map, ← hM1, List.map_map]
            exact filterMap_all fun m _ => rfl
          simp only [evB, evS, evE, evEs, entry, List.length_cons, List.length_nil, List.map_cons, List.map_nil, List.cons_append, List.nil_append, List.getElem?_cons_zero, List.getElem?_cons_succ, Option.getD_some, Res.of_some, Res.bind_ok, Res.then_ok, Out.bind_nx, Out.bind_rt, asBl_bl, asBlO_bl, Option.map_some, idx_l, idx_t, len_l, len_t, peekI_, peek_bl_, peek_str_, peek_tup_, peek_lst_, peek_dic_, peek_scr_, peek_non_, lt_ii, gt_ii, ge_ii, eq_ii, add_ii, List.set_cons_zero, List.set_cons_succ, if_true, if_false, Bool.false_eq_true, decide_true, decide_false, List.replicate_succ, List.replicate_zero, Nat.reduceAdd, Nat.reduceSub, reduceCtorEq, reduceIte, e, dm7]
        · intro d hd
          obtain ⟨m, hm, rfl⟩ := List.mem_map.mp hd
          have td := (dD m.dot (by rw [← kf]; exact inM m hm)).tk
          have pd : ∀ S, peek S m.dot = m.dot := fun S => peek_tk td
          have gi := dget_idx (ksO.dok td)
          simp only [evB, evS, evE, evEs, entry, List.length_cons, List.length_nil, List.map_cons, List.map_nil, List.cons_append, List.nil_append, List.getElem?_cons_zero, List.getElem?_cons_succ, Option.getD_some, Res.of_some, Res.bind_ok, Res.then_ok, Out.bind_nx, Out.bind_rt, asBl_bl, asBlO_bl, Option.map_some, idx_l, idx_t, len_l, len_t, peekI_, peek_bl_, peek_str_, peek_tup_, peek_lst_, peek_dic_, peek_scr_, peek_non_, lt_ii, gt_ii, ge_ii, eq_ii, add_ii, List.set_cons_zero, List.set_cons_succ, if_true, if_false, Bool.false_eq_true, decide_true, decide_false, List.replicate_succ, List.replicate_zero, Nat.reduceAdd, Nat.reduceSub, reduceCtorEq, reduceIte, Mk.dv, wipe, bindTo, List.zip_cons_cons, List.zip_nil_right, List.foldl_cons, List.foldl_nil, evC, noExc, pk4, pd, gi, gO _ (inM m hm)]
      have c8a : evE G (.blt .tuple [.comp (.tup [.var 5, .idx (.var 6) (.var 5)]) (.nm 5) .seq [.blt .sorted [.var 6]] [] [5]]) (E.set 7 (some (.dic (kvM M1)))) (S3 ++ [.lst [], .dic O, .dic (kvR R)]) = .ok (.tup (rows'.map Row.dv)) (S3 ++ [.lst [], .dic O, .dic (kvR R)]) := by
        rw [← hE]
        unfold envO2
        simp only [evB, evS, evE, evEs, entry, List.length_cons, List.length_nil, List.map_cons, List.map_nil, List.cons_append, List.nil_append, List.getElem?_cons_zero, List.getElem?_cons_succ, Option.getD_some, Res.of_some, Res.bind_ok, Res.then_ok, Out.bind_nx, Out.bind_rt, asBl_bl, asBlO_bl, Option.map_some, idx_l, idx_t, len_l, len_t, peekI_, peek_bl_, peek_str_, peek_tup_, peek_lst_, peek_dic_, peek_scr_, peek_non_, lt_ii, gt_ii, ge_ii, eq_ii, add_ii, List.set_cons_zero, List.set_cons_succ, if_true, if_false, Bool.false_eq_true, decide_true, decide_false, List.replicate_succ, List.replicate_zero, Nat.reduceAdd, Nat.reduceSub, reduceCtorEq, reduceIte, pk6, srt6, srcArg, srcOf]
        rw [compL_pure (g := fun d => (dget (kvR R) d).map fun v => DV.tup [d, v]) (isLive_ok _ _ (by simp))]
        · have e : (rows'.map Row.dot).filterMap (fun d => (dget (kvR R) d).map fun v => DV.tup [d, v]) = rows'.map Row.dv := by
            rw [List.filterMap_map]
            refine filterMap_all fun r hr => ?_
            show (dget (kvR R) r.dot).map (fun v => DV.tup [r.dot, v]) = _
            rw [gr r hr]; rfl
          simp only [evB, evS, evE, evEs, entry, List.length_cons, List.length_nil, List.map_cons, List.map_nil, List.cons_append, List.nil_append, List.getElem?_cons_zero, List.getElem?_cons_succ, Option.getD_some, Res.of_some, Res.bind_ok, Res.then_ok, Out.bind_nx, Out.bind_rt, asBl_bl, asBlO_bl, Option.map_some, idx_l, idx_t, len_l, len_t, peekI_, peek_bl_, peek_str_, peek_tup_, peek_lst_, peek_dic_, peek_scr_, peek_non_, lt_ii, gt_ii, ge_ii, eq_ii, add_ii, List.set_cons_zero, List.set_cons_succ, if_true, if_false, Bool.false_eq_true, decide_true, decide_false, List.replicate_succ, List.replicate_zero, Nat.reduceAdd, Nat.reduceSub, reduceCtorEq, reduceIte, e, tuple_l]
        · intro d hd
          obtain ⟨r, hr, rfl⟩ := List.mem_map.mp hd
          have td := (gd' r hr).dot.tk
          have pd : ∀ S, peek S r.dot = r.dot := fun S => peek_tk td
          have gi := dget_idx ((kvR_ks gd1).dok td)
          simp only [evB, evS, evE, evEs, entry, List.length_cons, List.length_nil, List.map_cons, List.map_nil, List.cons_append, List.nil_append, List.getElem?_cons_zero, List.getElem?_cons_succ, Option.getD_some, Res.of_some, Res.bind_ok, Res.then_ok, Out.bind_nx, Out.bind_rt, asBl_bl, asBlO_bl, Option.map_some, idx_l, idx_t, len_l, len_t, peekI_, peek_bl_, peek_str_, peek_tup_, peek_lst_, peek_dic_, peek_scr_, peek_non_, lt_ii, gt_ii, ge_ii, eq_ii, add_ii, List.set_cons_zero, List.set_cons_succ, if_true, if_false, Bool.false_eq_true, decide_true, decide_false, List.replicate_succ, List.replicate_zero, Nat.reduceAdd, Nat.reduceSub, reduceCtorEq, reduceIte, wipe, bindTo, evC, noExc, pk6, pd, gi, gr r hr]
      have c8b : evE G (.blt .tuple [.comp (.tup [.var 5, .idx (.var 7) (.var 5)]) (.nm 5) .seq [.blt .sorted [.var 7]] [] [5]]) (E.set 7 (some (.dic (kvM M1)))) (S3 ++ [.lst [], .dic O, .dic (kvR R)]) = .ok (.tup (ms'.map Mk.dv)) (S3 ++ [.lst [], .dic O, .dic (kvR R)]) := by
        rw [← hE]
        unfold envO2
        simp only [evB, evS, evE, evEs, entry, List.length_cons, List.length_nil, List.map_cons, List.map_nil, List.cons_append, List.nil_append, List.getElem?_cons_zero, List.getElem?_cons_succ, Option.getD_some, Res.of_some, Res.bind_ok, Res.then_ok, Out.bind_nx, Out.bind_rt, asBl_bl, asBlO_bl, Option.map_some, idx_l, idx_t, len_l, len_t, peekI_, peek_bl_, peek_str_, peek_tup_, peek_lst_, peek_dic_, peek_scr_, peek_non_, lt_ii, gt_ii, ge_ii, eq_ii, add_ii, List.set_cons_zero, List.set_cons_succ, if_true, if_false, Bool.false_eq_true, decide_true, decide_false, List.replicate_succ, List.replicate_zero, Nat.reduceAdd, Nat.reduceSub, reduceCtorEq, reduceIte, srt7, srcArg, srcOf]
        rw [compL_pure (g := fun d => (dget (kvM M1) d).map fun v => DV.tup [d, v]) (isLive_ok _ _ (by simp))]
        · have e : (ms'.map Mk.dot).filterMap (fun d => (dget (kvM M1) d).map fun v => DV.tup [d, v]) = ms'.map Mk.dv := by
            rw [List.filterMap_map]
            refine filterMap_all fun r hr => ?_
            show (dget (kvM M1) r.dot).map (fun v => DV.tup [r.dot, v]) = _
            rw [gm r hr]; rfl
          simp only [evB, evS, evE, evEs, entry, List.length_cons, List.length_nil, List.map_cons, List.map_nil, List.cons_append, List.nil_append, List.getElem?_cons_zero, List.getElem?_cons_succ, Option.getD_some, Res.of_some, Res.bind_ok, Res.then_ok, Out.bind_nx, Out.bind_rt, asBl_bl, asBlO_bl, Option.map_some, idx_l, idx_t, len_l, len_t, peekI_, peek_bl_, peek_str_, peek_tup_, peek_lst_, peek_dic_, peek_scr_, peek_non_, lt_ii, gt_ii, ge_ii, eq_ii, add_ii, List.set_cons_zero, List.set_cons_succ, if_true, if_false, Bool.false_eq_true, decide_true, decide_false, List.replicate_succ, List.replicate_zero, Nat.reduceAdd, Nat.reduceSub, reduceCtorEq, reduceIte, e, tuple_l]
        · intro d hd
          obtain ⟨r, hr, rfl⟩ := List.mem_map.mp hd
          have td := (tms r hr).tk
          have pd : ∀ S, peek S r.dot = r.dot := fun S => peek_tk td
          have gi := dget_idx (ksM.dok td)
          simp only [evB, evS, evE, evEs, entry, List.length_cons, List.length_nil, List.map_cons, List.map_nil, List.cons_append, List.nil_append, List.getElem?_cons_zero, List.getElem?_cons_succ, Option.getD_some, Res.of_some, Res.bind_ok, Res.then_ok, Out.bind_nx, Out.bind_rt, asBl_bl, asBlO_bl, Option.map_some, idx_l, idx_t, len_l, len_t, peekI_, peek_bl_, peek_str_, peek_tup_, peek_lst_, peek_dic_, peek_scr_, peek_non_, lt_ii, gt_ii, ge_ii, eq_ii, add_ii, List.set_cons_zero, List.set_cons_succ, if_true, if_false, Bool.false_eq_true, decide_true, decide_false, List.replicate_succ, List.replicate_zero, Nat.reduceAdd, Nat.reduceSub, reduceCtorEq, reduceIte, wipe, bindTo, evC, noExc, pd, gi, gm r hr]
      have key : evB G b__law_by_others.body (entry 12 [.loc 0, mkBook made rows ms]) S = .rt (.tup [mkBook made rows' ms', .loc (S.length + 1)]) (S3 ++ [.lst [], .dic O, .dic (kvR R)]) := by
        unfold b__law_by_others
        refine (evB_nx (evS_asg (v := .lst D) (S2 := S) ?_)).trans ?_
        · have ef : ∀ rows : List Row, (rows.map Row.dv).filterMap (fun d => match d with
              | .tup [dot, _] => some dot
              | _ => none) = rows.map Row.dot := fun rows => by
            rw [List.filterMap_map]
            exact filterMap_all fun r _ => rfl
          have eg : ∀ rows : List Mk, (rows.map Mk.dv).filterMap (fun d => match d with
              | .tup [dot, _] => some dot
              | _ => none) = rows.map Mk.dot := fun rows => by
            rw [List.filterMap_map]
            exact filterMap_all fun r _ => rfl
          simp only [evB, evS, evE, evEs, entry, List.length_cons, List.length_nil, List.map_cons, List.map_nil, List.cons_append, List.nil_append, List.getElem?_cons_zero, List.getElem?_cons_succ, Option.getD_some, Res.of_some, Res.bind_ok, Res.then_ok, Out.bind_nx, Out.bind_rt, asBl_bl, asBlO_bl, Option.map_some, idx_l, idx_t, len_l, len_t, peekI_, peek_bl_, peek_str_, peek_tup_, peek_lst_, peek_dic_, peek_scr_, peek_non_, lt_ii, gt_ii, ge_ii, eq_ii, add_ii, List.set_cons_zero, List.set_cons_succ, if_true, if_false, Bool.false_eq_true, decide_true, decide_false, List.replicate_succ, List.replicate_zero, Nat.reduceAdd, Nat.reduceSub, reduceCtorEq, reduceIte, mk_5, mk_6, mk_pk, srcArg, srcOf]
          rw [compL_pure (g := fun d => match d with
            | .tup [dot, _] => some dot
            | _ => none) (isLive_ok _ _ (by simp))]
          · simp only [evB, evS, evE, evEs, entry, List.length_cons, List.length_nil, List.map_cons, List.map_nil, List.cons_append, List.nil_append, List.getElem?_cons_zero, List.getElem?_cons_succ, Option.getD_some, Res.of_some, Res.bind_ok, Res.then_ok, Out.bind_nx, Out.bind_rt, asBl_bl, asBlO_bl, Option.map_some, idx_l, idx_t, len_l, len_t, peekI_, peek_bl_, peek_str_, peek_tup_, peek_lst_, peek_dic_, peek_scr_, peek_non_, lt_ii, gt_ii, ge_ii, eq_ii, add_ii, List.set_cons_zero, List.set_cons_succ, if_true, if_false, Bool.false_eq_true, decide_true, decide_false, List.replicate_succ, List.replicate_zero, Nat.reduceAdd, Nat.reduceSub, reduceCtorEq, reduceIte, ef, mk_6, mk_pk]
            rw [compL_pure (g := fun d => match d with
              | .tup [dot, _] => some dot
              | _ => none) (isLive_ok _ _ (by simp))]
            · simp only [evB, evS, evE, evEs, entry, List.length_cons, List.length_nil, List.map_cons, List.map_nil, List.cons_append, List.nil_append, List.getElem?_cons_zero, List.getElem?_cons_succ, Option.getD_some, Res.of_some, Res.bind_ok, Res.then_ok, Out.bind_nx, Out.bind_rt, asBl_bl, asBlO_bl, Option.map_some, idx_l, idx_t, len_l, len_t, peekI_, peek_bl_, peek_str_, peek_tup_, peek_lst_, peek_dic_, peek_scr_, peek_non_, lt_ii, gt_ii, ge_ii, eq_ii, add_ii, List.set_cons_zero, List.set_cons_succ, if_true, if_false, Bool.false_eq_true, decide_true, decide_false, List.replicate_succ, List.replicate_zero, Nat.reduceAdd, Nat.reduceSub, reduceCtorEq, reduceIte, eg]
              rw [cat_l (by simp; omega), hD]
              simp only [evB, evS, evE, evEs, entry, List.length_cons, List.length_nil, List.map_cons, List.map_nil, List.cons_append, List.nil_append, List.getElem?_cons_zero, List.getElem?_cons_succ, Option.getD_some, Res.of_some, Res.bind_ok, Res.then_ok, Out.bind_nx, Out.bind_rt, asBl_bl, asBlO_bl, Option.map_some, idx_l, idx_t, len_l, len_t, peekI_, peek_bl_, peek_str_, peek_tup_, peek_lst_, peek_dic_, peek_scr_, peek_non_, lt_ii, gt_ii, ge_ii, eq_ii, add_ii, List.set_cons_zero, List.set_cons_succ, if_true, if_false, Bool.false_eq_true, decide_true, decide_false, List.replicate_succ, List.replicate_zero, Nat.reduceAdd, Nat.reduceSub, reduceCtorEq, reduceIte]
            · intro d hd
              obtain ⟨m, hm, rfl⟩ := List.mem_map.mp hd
              simp only [evB, evS, evE, evEs, entry, List.length_cons, List.length_nil, List.map_cons, List.map_nil, List.cons_append, List.nil_append, List.getElem?_cons_zero, List.getElem?_cons_succ, Option.getD_some, Res.of_some, Res.bind_ok, Res.then_ok, Out.bind_nx, Out.bind_rt, asBl_bl, asBlO_bl, Option.map_some, idx_l, idx_t, len_l, len_t, peekI_, peek_bl_, peek_str_, peek_tup_, peek_lst_, peek_dic_, peek_scr_, peek_non_, lt_ii, gt_ii, ge_ii, eq_ii, add_ii, List.set_cons_zero, List.set_cons_succ, if_true, if_false, Bool.false_eq_true, decide_true, decide_false, List.replicate_succ, List.replicate_zero, Nat.reduceAdd, Nat.reduceSub, reduceCtorEq, reduceIte, Mk.dv, wipe, bindTo, List.zip_cons_cons, List.zip_nil_right, List.foldl_cons, List.foldl_nil, evC, noExc]
          · intro d hd
            obtain ⟨r, hr, rfl⟩ := List.mem_map.mp hd
            simp only [evB, evS, evE, evEs, entry, List.length_cons, List.length_nil, List.map_cons, List.map_nil, List.cons_append, List.nil_append, List.getElem?_cons_zero, List.getElem?_cons_succ, Option.getD_some, Res.of_some, Res.bind_ok, Res.then_ok, Out.bind_nx, Out.bind_rt, asBl_bl, asBlO_bl, Option.map_some, idx_l, idx_t, len_l, len_t, peekI_, peek_bl_, peek_str_, peek_tup_, peek_lst_, peek_dic_, peek_scr_, peek_non_, lt_ii, gt_ii, ge_ii, eq_ii, add_ii, List.set_cons_zero, List.set_cons_succ, if_true, if_false, Bool.false_eq_true, decide_true, decide_false, List.replicate_succ, List.replicate_zero, Nat.reduceAdd, Nat.reduceSub, reduceCtorEq, reduceIte, Row.dv, wipe, bindTo, List.zip_cons_cons, List.zip_nil_right, List.foldl_cons, List.foldl_nil, evC, noExc]
        refine (evB_nx (evS_asg (v := .loc S.length) (S2 := S ++ [.lst (fresh D.length)]) ?_)).trans ?_
        · simp only [evB, evS, evE, evEs, entry, List.length_cons, List.length_nil, List.map_cons, List.map_nil, List.cons_append, List.nil_append, List.getElem?_cons_zero, List.getElem?_cons_succ, Option.getD_some, Res.of_some, Res.bind_ok, Res.then_ok, Out.bind_nx, Out.bind_rt, asBl_bl, asBlO_bl, Option.map_some, idx_l, idx_t, len_l, len_t, peekI_, peek_bl_, peek_str_, peek_tup_, peek_lst_, peek_dic_, peek_scr_, peek_non_, lt_ii, gt_ii, ge_ii, eq_ii, add_ii, List.set_cons_zero, List.set_cons_succ, if_true, if_false, Bool.false_eq_true, decide_true, decide_false, List.replicate_succ, List.replicate_zero, Nat.reduceAdd, Nat.reduceSub, reduceCtorEq, reduceIte, srcArg]
          rw [rng1_ok (by omega) (by omega)]
          simp only [evB, evS, evE, evEs, entry, List.length_cons, List.length_nil, List.map_cons, List.map_nil, List.cons_append, List.nil_append, List.getElem?_cons_zero, List.getElem?_cons_succ, Option.getD_some, Res.of_some, Res.bind_ok, Res.then_ok, Out.bind_nx, Out.bind_rt, asBl_bl, asBlO_bl, Option.map_some, idx_l, idx_t, len_l, len_t, peekI_, peek_bl_, peek_str_, peek_tup_, peek_lst_, peek_dic_, peek_scr_, peek_non_, lt_ii, gt_ii, ge_ii, eq_ii, add_ii, List.set_cons_zero, List.set_cons_succ, if_true, if_false, Bool.false_eq_true, decide_true, decide_false, List.replicate_succ, List.replicate_zero, Nat.reduceAdd, Nat.reduceSub, reduceCtorEq, reduceIte]
          rw [compL_pure (g := fun d => match d with
            | .int k => some (Dt [1] (k + 20))
            | _ => none) (isLive_ok _ _ (by simp))]
          · have e : ((List.range ((D.length : Int)).toNat).map fun (i : Nat) => DV.int i).filterMap (fun d => match d with
                | .int k => some (Dt [1] (k + 20))
                | _ => none) = fresh D.length := by
              rw [List.filterMap_map, Int.toNat_natCast]
              exact filterMap_all fun r _ => rfl
            simp only [evB, evS, evE, evEs, entry, List.length_cons, List.length_nil, List.map_cons, List.map_nil, List.cons_append, List.nil_append, List.getElem?_cons_zero, List.getElem?_cons_succ, Option.getD_some, Res.of_some, Res.bind_ok, Res.then_ok, Out.bind_nx, Out.bind_rt, asBl_bl, asBlO_bl, Option.map_some, idx_l, idx_t, len_l, len_t, peekI_, peek_bl_, peek_str_, peek_tup_, peek_lst_, peek_dic_, peek_scr_, peek_non_, lt_ii, gt_ii, ge_ii, eq_ii, add_ii, List.set_cons_zero, List.set_cons_succ, if_true, if_false, Bool.false_eq_true, decide_true, decide_false, List.replicate_succ, List.replicate_zero, Nat.reduceAdd, Nat.reduceSub, reduceCtorEq, reduceIte, e, lay]
          · intro d hd
            obtain ⟨m, hm, rfl⟩ := List.mem_map.mp hd
            simp only [evB, evS, evE, evEs, entry, List.length_cons, List.length_nil, List.map_cons, List.map_nil, List.cons_append, List.nil_append, List.getElem?_cons_zero, List.getElem?_cons_succ, Option.getD_some, Res.of_some, Res.bind_ok, Res.then_ok, Out.bind_nx, Out.bind_rt, asBl_bl, asBlO_bl, Option.map_some, idx_l, idx_t, len_l, len_t, peekI_, peek_bl_, peek_str_, peek_tup_, peek_lst_, peek_dic_, peek_scr_, peek_non_, lt_ii, gt_ii, ge_ii, eq_ii, add_ii, List.set_cons_zero, List.set_cons_succ, if_true, if_false, Bool.false_eq_true, decide_true, decide_false, List.replicate_succ, List.replicate_zero, Nat.reduceAdd, Nat.reduceSub, reduceCtorEq, reduceIte, wipe, bindTo, evC, noExc, Dt]
        refine (evB_nx (e2 := envO1 (mkBook made rows ms) D S.length none) (S2 := S ++ [.lst (fresh D.length), .dic []]) (evS_asg (v := .loc (S.length + 1)) (by simp only [evB, evS, evE, evEs, entry, List.length_cons, List.length_nil, List.map_cons, List.map_nil, List.cons_append, List.nil_append, List.getElem?_cons_zero, List.getElem?_cons_succ, Option.getD_some, Res.of_some, Res.bind_ok, Res.then_ok, Out.bind_nx, Out.bind_rt, asBl_bl, asBlO_bl, Option.map_some, idx_l, idx_t, len_l, len_t, peekI_, peek_bl_, peek_str_, peek_tup_, peek_lst_, peek_dic_, peek_scr_, peek_non_, lt_ii, gt_ii, ge_ii, eq_ii, add_ii, List.set_cons_zero, List.set_cons_succ, if_true, if_false, Bool.false_eq_true, decide_true, decide_false, List.replicate_succ, List.replicate_zero, Nat.reduceAdd, Nat.reduceSub, reduceCtorEq, reduceIte, lay, List.length_append, List.append_assoc]))).trans ?_
        refine (evB_nx ((evS_fors (as := [.lst D]) (S2 := S ++ [.lst (fresh D.length), .dic []]) (items := D) (by unfold envO1; simp only [evB, evS, evE, evEs, entry, List.length_cons, List.length_nil, List.map_cons, List.map_nil, List.cons_append, List.nil_append, List.getElem?_cons_zero, List.getElem?_cons_succ, Option.getD_some, Res.of_some, Res.bind_ok, Res.then_ok, Out.bind_nx, Out.bind_rt, asBl_bl, asBlO_bl, Option.map_some, idx_l, idx_t, len_l, len_t, peekI_, peek_bl_, peek_str_, peek_tup_, peek_lst_, peek_dic_, peek_scr_, peek_non_, lt_ii, gt_ii, ge_ii, eq_ii, add_ii, List.set_cons_zero, List.set_cons_succ, if_true, if_false, Bool.false_eq_true, decide_true, decide_false, List.replicate_succ, List.replicate_zero, Nat.reduceAdd, Nat.reduceSub, reduceCtorEq, reduceIte]) rfl).trans h1)).trans ?_
        refine (evB_nx (e2 := envO2 (mkBook made rows ms) D S.length x5 none) (S2 := S3 ++ [.lst [], .dic O, .dic []]) (evS_asg (v := .loc (S.length + 2)) (by simp only [evB, evS, evE, evEs, entry, List.length_cons, List.length_nil, List.map_cons, List.map_nil, List.cons_append, List.nil_append, List.getElem?_cons_zero, List.getElem?_cons_succ, Option.getD_some, Res.of_some, Res.bind_ok, Res.then_ok, Out.bind_nx, Out.bind_rt, asBl_bl, asBlO_bl, Option.map_some, idx_l, idx_t, len_l, len_t, peekI_, peek_bl_, peek_str_, peek_tup_, peek_lst_, peek_dic_, peek_scr_, peek_non_, lt_ii, gt_ii, ge_ii, eq_ii, add_ii, List.set_cons_zero, List.set_cons_succ, if_true, if_false, Bool.false_eq_true, decide_true, decide_false, List.replicate_succ, List.replicate_zero, Nat.reduceAdd, Nat.reduceSub, reduceCtorEq, reduceIte, lay, List.length_append, List.append_assoc, s3.1]))).trans ?_
        refine (evB_nx ((evS_fors (as := [.tup (rows.map Row.dv)]) (S2 := S3 ++ [.lst [], .dic O, .dic []]) (items := rows.map Row.dv) (by unfold envO2; simp only [evB, evS, evE, evEs, entry, List.length_cons, List.length_nil, List.map_cons, List.map_nil, List.cons_append, List.nil_append, List.getElem?_cons_zero, List.getElem?_cons_succ, Option.getD_some, Res.of_some, Res.bind_ok, Res.then_ok, Out.bind_nx, Out.bind_rt, asBl_bl, asBlO_bl, Option.map_some, idx_l, idx_t, len_l, len_t, peekI_, peek_bl_, peek_str_, peek_tup_, peek_lst_, peek_dic_, peek_scr_, peek_non_, lt_ii, gt_ii, ge_ii, eq_ii, add_ii, List.set_cons_zero, List.set_cons_succ, if_true, if_false, Bool.false_eq_true, decide_true, decide_false, List.replicate_succ, List.replicate_zero, Nat.reduceAdd, Nat.reduceSub, reduceCtorEq, reduceIte, mk_5, mk_pk]) rfl).trans h2)).trans ?_
        refine (evB_nx (evS_asg c7)).trans ?_
        refine (evB_nx (evS_asg (evE_tup (evEs_same c8a (evEs_same c8b evEs_nil))))).trans ?_
        refine evB_rt ?_
        rw [← hE]
        unfold envO2
        simp only [evB, evS, evE, evEs, entry, List.length_cons, List.length_nil, List.map_cons, List.map_nil, List.cons_append, List.nil_append, List.getElem?_cons_zero, List.getElem?_cons_succ, Option.getD_some, Res.of_some, Res.bind_ok, Res.then_ok, Out.bind_nx, Out.bind_rt, asBl_bl, asBlO_bl, Option.map_some, idx_l, idx_t, len_l, len_t, peekI_, peek_bl_, peek_str_, peek_tup_, peek_lst_, peek_dic_, peek_scr_, peek_non_, lt_ii, gt_ii, ge_ii, eq_ii, add_ii, List.set_cons_zero, List.set_cons_succ, if_true, if_false, Bool.false_eq_true, decide_true, decide_false, List.replicate_succ, List.replicate_zero, Nat.reduceAdd, Nat.reduceSub, reduceCtorEq, reduceIte, mk_pk, part_0, part_1, mk_to5, mk_fr7]
        rw [cat_t (by simp; omega)]
        simp only [evB, evS, evE, evEs, entry, List.length_cons, List.length_nil, List.map_cons, List.map_nil, List.cons_append, List.nil_append, List.getElem?_cons_zero, List.getElem?_cons_succ, Option.getD_some, Res.of_some, Res.bind_ok, Res.then_ok, Out.bind_nx, Out.bind_rt, asBl_bl, asBlO_bl, Option.map_some, idx_l, idx_t, len_l, len_t, peekI_, peek_bl_, peek_str_, peek_tup_, peek_lst_, peek_dic_, peek_scr_, peek_non_, lt_ii, gt_ii, ge_ii, eq_ii, add_ii, List.set_cons_zero, List.set_cons_succ, if_true, if_false, Bool.false_eq_true, decide_true, decide_false, List.replicate_succ, List.replicate_zero, Nat.reduceAdd, Nat.reduceSub, reduceCtorEq, reduceIte]
        rw [cat_t (by simp; omega)]
        simp only [evB, evS, evE, evEs, entry, List.length_cons, List.length_nil, List.map_cons, List.map_nil, List.cons_append, List.nil_append, List.getElem?_cons_zero, List.getElem?_cons_succ, Option.getD_some, Res.of_some, Res.bind_ok, Res.then_ok, Out.bind_nx, Out.bind_rt, asBl_bl, asBlO_bl, Option.map_some, idx_l, idx_t, len_l, len_t, peekI_, peek_bl_, peek_str_, peek_tup_, peek_lst_, peek_dic_, peek_scr_, peek_non_, lt_ii, gt_ii, ge_ii, eq_ii, add_ii, List.set_cons_zero, List.set_cons_succ, if_true, if_false, Bool.false_eq_true, decide_true, decide_false, List.replicate_succ, List.replicate_zero, Nat.reduceAdd, Nat.reduceSub, reduceCtorEq, reduceIte, mkBook]
      have := run_pair (fs := [F__law_next]) (cs := []) (d := b__law_by_others) (b := b) (args := [.loc 0, mkBook made rows ms]) rfl rfl (hG ▸ key) (mk_pure made gd' fun m hm => (tms m hm).tk) (Nat.le_succ _) (app1e s3.1) (fun p hp => by
        obtain ⟨k, _, e⟩ := ren0.vl p hp
        refine ⟨(tk_facts (ren0.ky p hp).tk).choose_spec.2.2.2, ?_⟩
        rw [e]; rfl)
      refine ⟨rows', ms', O, S3, ?_, rk, hren, ?_, f3.mono (by omega), s3⟩
      · refine this.trans ?_
        rw [List.take_append_of_le_length (by rw [s3.1]; omega), ← s3.1, List.take_length]
      · intro e
        have := ok.ne
        rw [← lD, ← kf, e] at this
        simp at this
    · subst he hS
      rw [row_get hi]
      have hi' : i < rows.length := by simpa using hi
      have hm := List.getElem_mem hi'
      have q := others_2 (G := G) (B := mkBook made rows ms) (D := D) (Lx := .lst []) (T := kvR ((rows.take i).map (ren O))) hB s3.1 ksO (kvR_ks fun r hr => gd1 r (by
        obtain ⟨r', hr', rfl⟩ := List.mem_map.mp hr
        exact List.mem_map.mpr ⟨r', List.mem_of_mem_take hr', rfl⟩)) (by simp [kvR]; omega) (ok.gd _ hm).ok (gO _ (inD _ hm)) (tkO _ (inD _ hm))
      refine ⟨_, _, _, ?_, q, some rows[i].dot, some rows[i].thing, rfl, ?_⟩
      · simp only [evB, evS, evE, evEs, entry, List.length_cons, List.length_nil, List.map_cons, List.map_nil, List.cons_append, List.nil_append, List.getElem?_cons_zero, List.getElem?_cons_succ, Option.getD_some, Res.of_some, Res.bind_ok, Res.then_ok, Out.bind_nx, Out.bind_rt, asBl_bl, asBlO_bl, Option.map_some, idx_l, idx_t, len_l, len_t, peekI_, peek_bl_, peek_str_, peek_tup_, peek_lst_, peek_dic_, peek_scr_, peek_non_, lt_ii, gt_ii, ge_ii, eq_ii, add_ii, List.set_cons_zero, List.set_cons_succ, if_true, if_false, Bool.false_eq_true, decide_true, decide_false, List.replicate_succ, List.replicate_zero, Nat.reduceAdd, Nat.reduceSub, reduceCtorEq, reduceIte, envO2, Row.dv, bindTo, List.zip_cons_cons, List.zip_nil_right, List.foldl_cons, List.foldl_nil]
      · have e : dput (kvR ((rows.take i).map (ren O))) (rho O rows[i].dot) (ren O rows[i]).thing = kvR ((rows.take (i + 1)).map (ren O)) := by
          rw [dput_new]
          · rw [List.take_add_one, List.getElem?_eq_getElem hi']
            rw [Option.toList_some, List.map_append, kvR, kvR, List.map_append]; rfl
          · intro p hp e
            obtain ⟨r, hr, rfl⟩ := List.mem_map.mp hp
            obtain ⟨r', hr', rfl⟩ := List.mem_map.mp hr
            have e2 := injD r'.dot (inD _ (List.mem_of_mem_take hr')) rows[i].dot (inD _ hm) e
            have e3 := ok.nr.eq (List.mem_of_mem_take hr') hm e2
            obtain ⟨j, hj, e4⟩ := List.mem_iff_getElem.mp hr'
            rw [List.getElem_take] at e4
            rw [List.length_take] at hj
            have nr : rows.Nodup := (List.pairwise_map.mp ok.nr).imp fun h e => h (congrArg _ e)
            have := (List.getElem_inj nr).mp (e4.trans e3)
            omega
        rw [e]
  · subst he hS
    have hne : Lf ≠ [] := fun z => by
      have := pm.length_eq
      rw [z, List.append_nil, fresh_len] at this
      omega
    have ll : Lf.length ≤ D.length := by
      have := pm.length_eq
      rw [List.length_append, fresh_len] at this
      omega
    have zl : ((D.take i).zip vs).length ≤ i := by rw [List.length_zip, List.length_take]; omega
    have tkD := (dD _ (List.getElem_mem hi)).tk
    have kz : ((D.take i).zip vs).map (·.1) = D.take i := zip_keys (by rw [List.length_take]; omega)
    obtain ⟨j, hj, S5, q1, q2, q3⟩ := others_1 (G := G) (B := mkBook made rows ms) (D := D) (d := D[i]) hB hF f s (by omega) hne (by omega) (O := (D.take i).zip vs) (by omega) (fun p hp => (dD p.1 (List.mem_of_mem_take (by rw [← kz]; exact List.mem_map.mpr ⟨p, hp, rfl⟩))).tk) tkD
    refine ⟨_, _, _, rfl, q1, some D[i], Lf.eraseIdx j, vs ++ [Lf[j]], S5, rfl, ?_, by simp [hv], ?_, by simpa [Int.add_assoc] using q2, q3⟩
    · rw [dput_new]
      · rw [List.take_add_one, List.getElem?_eq_getElem hi, Option.toList_some, List.zip_append (by rw [List.length_take]; omega)]
        rfl
      · intro p hp e
        have h1 : p.1 ∈ D.take i := by rw [← kz]; exact List.mem_map.mpr ⟨p, hp, rfl⟩
        rw [e] at h1
        obtain ⟨k, hk, e4⟩ := List.mem_iff_getElem.mp h1
        rw [List.getElem_take] at e4
        rw [List.length_take] at hk
        have := (List.getElem_inj ndD).mp e4
        omega
    · refine List.Perm.trans ?_ pm
      rw [List.append_assoc]
      exact List.Perm.append_left vs (erase_perm Lf hj)
end DP

namespace DP
open PySem
/-! ### the chain -/
theorem cmpK_int (i j : Int) : cmpK (.inl i) (.inl j) = if i = j then .eq else if i < j then .lt else .gt := by
  unfold cmpK
  by_cases h : i = j
  · simp [h]
  · have : PyProof.Rows.itemLt (.inl i) (.inl j) = decide (i < j) := by simp [PyProof.Rows.itemLt]
    simp [h, this]
theorem dt_lt {i j : Int} (h : i < j) : DV.leb (Dt [0] i) (Dt [0] j) = true := by
  have e : lx (PySem.W.keyToks (Dt [0] j).toP) (PySem.W.keyToks (Dt [0] i).toP) = false := by
    simp only [Dt, DV.toP, DV.toPs, List.map_cons, List.map_nil, PySem.W.keyToks, PySem.W.keyToksAll, List.cons_append, List.nil_append, lx_cons, cmpK_self, byO]
    rw [cmpK_int, if_neg (by omega), if_neg (by omega)]
  show (!lx (PySem.W.keyToks (Dt [0] j).toP) (PySem.W.keyToks (Dt [0] i).toP)) = true
  rw [e]; rfl
def chDots (m : Nat) (last : DV) : List DV := ((List.range m).map fun (i : Nat) => Dt [0] ((i : Int) + 1)) ++ [last]
def chRow (m : Nat) (last : DV) (i : Nat) : Row := ⟨Dt [0] ((i : Int) + 1), (chDots m last).getD (i + 1) .non, Str.ofString "a", (i : Int) % 3⟩
def chRows (m : Nat) (last : DV) : List Row := (List.range m).map (chRow m last)
theorem ch_len (m : Nat) (last : DV) : (chDots m last).length = m + 1 := by simp [chDots]
theorem ch_get {m : Nat} {last : DV} {i : Nat} (h : i < m) : (chDots m last)[i]? = some (Dt [0] ((i : Int) + 1)) := by
  unfold chDots
  rw [List.getElem?_append_left (by simpa using h), List.getElem?_map, List.getElem?_range h]; rfl
theorem ch_mem {m : Nat} {last : DV} {d : DV} (h : d ∈ chDots m last) : d = last ∨ ∃ i : Nat, i < m ∧ d = Dt [0] ((i : Int) + 1) := by
  rcases List.mem_append.mp h with h | h
  · obtain ⟨i, hi, rfl⟩ := List.mem_map.mp h
    exact .inr ⟨i, List.mem_range.mp hi, rfl⟩
  · exact .inl (List.mem_singleton.mp h)
theorem ch_ok {m : Nat} {last : DV} (h0 : 0 < m) (hm : m ≤ 24) (hl : SPl last ∧ Lo last) : BOk 40 (chRows m last) [] := by
  have sd : ∀ i : Nat, i < m → SDot (Dt [0] ((i : Int) + 1)) := fun i hi => ⟨[0], _, rfl, by decide, by decide, by omega, by omega⟩
  have ln : (chRows m last).length = m := by simp [chRows]
  have ed : (chRows m last).map Row.dot = (List.range m).map fun (i : Nat) => Dt [0] ((i : Int) + 1) := by
    unfold chRows
    rw [List.map_map]; rfl
  refine ⟨fun r hr => ?_, fun m h => (nomatch h), ?_, ?_, (by rw [ln]; exact hm), by decide, (by rw [ln]; exact h0)⟩
  · obtain ⟨i, hi, rfl⟩ := List.mem_map.mp hr
    have hi := List.mem_range.mp hi
    have hp : (chRow m last i).place ∈ chDots m last := by
      show (chDots m last).getD (i + 1) .non ∈ _
      rw [List.getD_eq_getElem?_getD, List.getElem?_eq_getElem (by rw [ch_len]; omega)]
      exact List.getElem_mem _
    obtain ⟨n1, n2, n3⟩ := leaf_name (n := Str.ofString "a") (by simp)
    have hq : SPl (chRow m last i).place ∧ Lo (chRow m last i).place := by
      rcases ch_mem hp with e | ⟨j, hj, e⟩
      · rw [e]; exact hl
      · rw [e]
        exact ⟨.inr (sd j hj), fun k _ z => by simp [Dt] at z⟩
    exact ⟨sd i hi, hq.1, ⟨n1, n2, n3, by show ((i : Int) % 3).natAbs < _; omega⟩, hq.2⟩
  · rw [List.map_nil, List.append_nil, ed]
    unfold List.Nodup
    rw [List.pairwise_map]
    refine List.Pairwise.imp_of_mem ?_ (List.nodup_range (n := m))
    intro a b _ _ h e
    simp only [Dt, DV.tup.injEq, List.cons.injEq, DV.int.injEq] at e
    omega
  · unfold Sd
    rw [ed, List.pairwise_map]
    refine List.Pairwise.imp ?_ (List.pairwise_lt_range (n := m))
    intro a b h
    exact dt_lt (by omega)
theorem chain_spec {S : Store} {n : Int} (b : Nat) (h : Feed S n) (hn : n < 10 ^ 8) :
    ∃ rows S', F__law_chain_book b [.loc 0] S = .ok (mkBook 40 rows []) S' ∧ BOk 40 rows [] ∧ Feed S' (n + 2) ∧ Same S S' := by
  have sz : (2000 : Nat) < sizeLine := by rw [sizeLine_eq]; decide
  obtain ⟨r1, S1, q1, a1, b1, f1, s1⟩ := next_at (m := 14) S.length h (by omega) (by omega) (by omega)
  obtain ⟨r2, S2, q2, a2, b2, f2, s2⟩ := next_at (m := 4) S.length f1 (by omega) (by omega) (by omega)
  obtain ⟨last, hl, g2⟩ := at_mem [.tup [], .tup [], .tup [], .tup [.tup [.int 2], .int 9]] a2 b2
  have hl2 : SPl last ∧ Lo last := by
    simp only [List.mem_cons, List.not_mem_nil, or_false] at hl
    rcases hl with rfl | rfl | rfl | rfl
    · exact ⟨.inl rfl, fun k _ h => by simp [Dt] at h⟩
    · exact ⟨.inl rfl, fun k _ h => by simp [Dt] at h⟩
    · exact ⟨.inl rfl, fun k _ h => by simp [Dt] at h⟩
    · exact ⟨.inr ⟨[2], 9, rfl, by decide, by decide, by decide, by decide⟩, fun k _ h => by simp [Dt] at h⟩
  obtain ⟨m, hm⟩ := Int.eq_ofNat_of_zero_le (a := 10 + r1) (by omega)
  have sm := s1.trans s2
  have ok := ch_ok (m := m) (last := last) (by omega) (by omega) hl2
  have rg : srcOf .rng1 [.int (m : Int)] = some ((List.range m).map fun (i : Nat) => .int i) := by
    rw [rng1_ok (by omega) (by omega), Int.toNat_natCast]
  have key : evB { fs := [F__law_next], cs := [], base := S.length } b__law_chain_book.body (entry 5 [.loc 0]) S = .rt (mkBook 40 (chRows m last) []) S2 := by
    unfold b__law_chain_book
    refine (evB_nx (evS_asg (v := .int m) (S2 := S1) ?_)).trans ?_
    · simp only [evB, evS, evE, evEs, entry, List.length_cons, List.length_nil, List.map_cons, List.map_nil, List.cons_append, List.nil_append, List.getElem?_cons_zero, List.getElem?_cons_succ, Option.getD_some, Res.of_some, Res.bind_ok, Res.then_ok, Out.bind_nx, Out.bind_rt, asBl_bl, asBlO_bl, Option.map_some, idx_l, idx_t, len_l, len_t, peekI_, peek_bl_, peek_str_, peek_tup_, peek_lst_, peek_dic_, peek_scr_, peek_non_, lt_ii, gt_ii, ge_ii, eq_ii, add_ii, List.set_cons_zero, List.set_cons_succ, if_true, if_false, Bool.false_eq_true, decide_true, decide_false, List.replicate_succ, List.replicate_zero, Nat.reduceAdd, Nat.reduceSub, reduceCtorEq, reduceIte, q1, hm]
    refine (evB_nx (evS_asg (v := .lst (chDots m last)) (S2 := S2) ?_)).trans ?_
    · simp only [evB, evS, evE, evEs, entry, List.length_cons, List.length_nil, List.map_cons, List.map_nil, List.cons_append, List.nil_append, List.getElem?_cons_zero, List.getElem?_cons_succ, Option.getD_some, Res.of_some, Res.bind_ok, Res.then_ok, Out.bind_nx, Out.bind_rt, asBl_bl, asBlO_bl, Option.map_some, idx_l, idx_t, len_l, len_t, peekI_, peek_bl_, peek_str_, peek_tup_, peek_lst_, peek_dic_, peek_scr_, peek_non_, lt_ii, gt_ii, ge_ii, eq_ii, add_ii, List.set_cons_zero, List.set_cons_succ, if_true, if_false, Bool.false_eq_true, decide_true, decide_false, List.replicate_succ, List.replicate_zero, Nat.reduceAdd, Nat.reduceSub, reduceCtorEq, reduceIte, srcArg, rg]
      rw [compL_pure (g := fun d => match d with
        | .int k => some (Dt [0] (k + 1))
        | _ => none) (isLive_ok _ _ (by simp))]
      · have e : ((List.range m).map fun (i : Nat) => DV.int i).filterMap (fun d => match d with
            | .int k => some (Dt [0] (k + 1))
            | _ => none) = (List.range m).map fun (i : Nat) => Dt [0] ((i : Int) + 1) := by
          rw [List.filterMap_map]
          exact filterMap_all fun r _ => rfl
        simp only [evB, evS, evE, evEs, entry, List.length_cons, List.length_nil, List.map_cons, List.map_nil, List.cons_append, List.nil_append, List.getElem?_cons_zero, List.getElem?_cons_succ, Option.getD_some, Res.of_some, Res.bind_ok, Res.then_ok, Out.bind_nx, Out.bind_rt, asBl_bl, asBlO_bl, Option.map_some, idx_l, idx_t, len_l, len_t, peekI_, peek_bl_, peek_str_, peek_tup_, peek_lst_, peek_dic_, peek_scr_, peek_non_, lt_ii, gt_ii, ge_ii, eq_ii, add_ii, List.set_cons_zero, List.set_cons_succ, if_true, if_false, Bool.false_eq_true, decide_true, decide_false, List.replicate_succ, List.replicate_zero, Nat.reduceAdd, Nat.reduceSub, reduceCtorEq, reduceIte, e, q2, g2]
        rw [cat_l (by simp; omega)]
        simp only [evB, evS, evE, evEs, entry, List.length_cons, List.length_nil, List.map_cons, List.map_nil, List.cons_append, List.nil_append, List.getElem?_cons_zero, List.getElem?_cons_succ, Option.getD_some, Res.of_some, Res.bind_ok, Res.then_ok, Out.bind_nx, Out.bind_rt, asBl_bl, asBlO_bl, Option.map_some, idx_l, idx_t, len_l, len_t, peekI_, peek_bl_, peek_str_, peek_tup_, peek_lst_, peek_dic_, peek_scr_, peek_non_, lt_ii, gt_ii, ge_ii, eq_ii, add_ii, List.set_cons_zero, List.set_cons_succ, if_true, if_false, Bool.false_eq_true, decide_true, decide_false, List.replicate_succ, List.replicate_zero, Nat.reduceAdd, Nat.reduceSub, reduceCtorEq, reduceIte, chDots]
      · intro d hd
        obtain ⟨i, hi, rfl⟩ := List.mem_map.mp hd
        simp only [evB, evS, evE, evEs, entry, List.length_cons, List.length_nil, List.map_cons, List.map_nil, List.cons_append, List.nil_append, List.getElem?_cons_zero, List.getElem?_cons_succ, Option.getD_some, Res.of_some, Res.bind_ok, Res.then_ok, Out.bind_nx, Out.bind_rt, asBl_bl, asBlO_bl, Option.map_some, idx_l, idx_t, len_l, len_t, peekI_, peek_bl_, peek_str_, peek_tup_, peek_lst_, peek_dic_, peek_scr_, peek_non_, lt_ii, gt_ii, ge_ii, eq_ii, add_ii, List.set_cons_zero, List.set_cons_succ, if_true, if_false, Bool.false_eq_true, decide_true, decide_false, List.replicate_succ, List.replicate_zero, Nat.reduceAdd, Nat.reduceSub, reduceCtorEq, reduceIte, wipe, bindTo, evC, noExc, Dt, List.map_cons]
    refine (evB_nx (evS_asg (v := .tup ((chRows m last).map Row.dv)) (S2 := S2) ?_)).trans ?_
    · simp only [evB, evS, evE, evEs, entry, List.length_cons, List.length_nil, List.map_cons, List.map_nil, List.cons_append, List.nil_append, List.getElem?_cons_zero, List.getElem?_cons_succ, Option.getD_some, Res.of_some, Res.bind_ok, Res.then_ok, Out.bind_nx, Out.bind_rt, asBl_bl, asBlO_bl, Option.map_some, idx_l, idx_t, len_l, len_t, peekI_, peek_bl_, peek_str_, peek_tup_, peek_lst_, peek_dic_, peek_scr_, peek_non_, lt_ii, gt_ii, ge_ii, eq_ii, add_ii, List.set_cons_zero, List.set_cons_succ, if_true, if_false, Bool.false_eq_true, decide_true, decide_false, List.replicate_succ, List.replicate_zero, Nat.reduceAdd, Nat.reduceSub, reduceCtorEq, reduceIte, srcArg, rg]
      rw [compL_pure (g := fun d => match d with
        | .int k => some (chRow m last k.toNat).dv
        | _ => none) (isLive_ok _ _ (by simp))]
      · have e : ((List.range m).map fun (i : Nat) => DV.int i).filterMap (fun d => match d with
            | .int k => some (chRow m last k.toNat).dv
            | _ => none) = (chRows m last).map Row.dv := by
          unfold chRows
          rw [List.filterMap_map, List.map_map]
          exact filterMap_all fun r _ => rfl
        simp only [evB, evS, evE, evEs, entry, List.length_cons, List.length_nil, List.map_cons, List.map_nil, List.cons_append, List.nil_append, List.getElem?_cons_zero, List.getElem?_cons_succ, Option.getD_some, Res.of_some, Res.bind_ok, Res.then_ok, Out.bind_nx, Out.bind_rt, asBl_bl, asBlO_bl, Option.map_some, idx_l, idx_t, len_l, len_t, peekI_, peek_bl_, peek_str_, peek_tup_, peek_lst_, peek_dic_, peek_scr_, peek_non_, lt_ii, gt_ii, ge_ii, eq_ii, add_ii, List.set_cons_zero, List.set_cons_succ, if_true, if_false, Bool.false_eq_true, decide_true, decide_false, List.replicate_succ, List.replicate_zero, Nat.reduceAdd, Nat.reduceSub, reduceCtorEq, reduceIte, e, tuple_l]
      · intro d hd
        obtain ⟨i, hi, rfl⟩ := List.mem_map.mp hd
        have hi := List.mem_range.mp hi
        have e1 : L2.atI (chDots m last) (i : Int) = some (Dt [0] ((i : Int) + 1)) := L2.atI_nat (ch_get hi)
        have e2 : L2.atI (chDots m last) ((i : Int) + 1) = some ((chDots m last).getD (i + 1) .non) := by
          refine L2.atI_nat (j := i + 1) ?_
          rw [List.getD_eq_getElem?_getD, List.getElem?_eq_getElem (by rw [ch_len]; omega)]; rfl
        simp only [evB, evS, evE, evEs, entry, List.length_cons, List.length_nil, List.map_cons, List.map_nil, List.cons_append, List.nil_append, List.getElem?_cons_zero, List.getElem?_cons_succ, Option.getD_some, Res.of_some, Res.bind_ok, Res.then_ok, Out.bind_nx, Out.bind_rt, asBl_bl, asBlO_bl, Option.map_some, idx_l, idx_t, len_l, len_t, peekI_, peek_bl_, peek_str_, peek_tup_, peek_lst_, peek_dic_, peek_scr_, peek_non_, lt_ii, gt_ii, ge_ii, eq_ii, add_ii, List.set_cons_zero, List.set_cons_succ, if_true, if_false, Bool.false_eq_true, decide_true, decide_false, List.replicate_succ, List.replicate_zero, Nat.reduceAdd, Nat.reduceSub, reduceCtorEq, reduceIte, wipe, bindTo, evC, noExc, e1, e2, mod_ii (show (0 : Int) < 3 by decide), Int.toNat_natCast, chRow, Row.dv, Row.thing]
    refine evB_rt ?_
    simp only [evB, evS, evE, evEs, entry, List.length_cons, List.length_nil, List.map_cons, List.map_nil, List.cons_append, List.nil_append, List.getElem?_cons_zero, List.getElem?_cons_succ, Option.getD_some, Res.of_some, Res.bind_ok, Res.then_ok, Out.bind_nx, Out.bind_rt, asBl_bl, asBlO_bl, Option.map_some, idx_l, idx_t, len_l, len_t, peekI_, peek_bl_, peek_str_, peek_tup_, peek_lst_, peek_dic_, peek_scr_, peek_non_, lt_ii, gt_ii, ge_ii, eq_ii, add_ii, List.set_cons_zero, List.set_cons_succ, if_true, if_false, Bool.false_eq_true, decide_true, decide_false, List.replicate_succ, List.replicate_zero, Nat.reduceAdd, Nat.reduceSub, reduceCtorEq, reduceIte, mkBook, List.map_nil]
  have := run_rt (fs := [F__law_next]) (cs := []) (d := b__law_chain_book) (b := b) (args := [.loc 0]) rfl rfl key (mk_pure 40 ok.gd fun m h => by cases h)
  rw [take_same sm] at this
  exact ⟨_, S2, this, ok, by simpa [Int.add_assoc] using f2, sm⟩
/-! ### _law_right -/
def bR : List MS := [.ifs (.cmp .ne (.blt .repr [.call 2 [.var 0, .var 2]]) (.blt .repr [.call 3 [.var 1, .var 2]])) [.ret (.bl false)] []]
theorem right_spec {S : Store} {made : Int} {rows : List Row} {ms : List Mk} (b : Nat) (ok : ROk rows) (gm : ∀ m ∈ ms, tkey m.dot = true) (hl : ms.length ≤ 24) :
    F__law_right b [mkBook made rows ms] S = .ok (.bl true) S := by
  have len := ok.len
  generalize hG : ({ fs := [F__law_shown, F__law_places, F_outline, F__law_outline 40], cs := [], base := S.length } : Ctx) = G
  have hB : G.base = S.length := by rw [← hG]
  have hF : G.fs = [F__law_shown, F__law_places, F_outline, F__law_outline 40] := by rw [← hG]
  have h1 := law_shown_spec (b := S.length) (S := S) (BOk.bk made rows ms) ok.gd ok.nr ok.sd (by omega)
  obtain ⟨ps, h2, tp⟩ := places_spec (S := S) (made := made) S.length (fun r hr => (ok.gd r hr).ok) gm (by omega)
  have h3 := forL_inv (tg := .nm 2) (b := evB G bR) (chk := isLive [.lst ps] S) (items := ps)
    (fun i e S' => ∃ x2, e = [some (mkBook made rows ms), some (.lst ((shownR rows).map Row.dv)), x2] ∧ S' = S)
    (fun i e S' _ => rfl) (fun i hi e S' ⟨x2, he, hS⟩ => ?_) _ 0 [some (mkBook made rows ms), some (.lst ((shownR rows).map Row.dv)), none] S rfl (Nat.zero_le _) ⟨none, rfl, rfl⟩
  · rw [List.drop_zero] at h3
    obtain ⟨e2, S2, h3, x2, rfl, rfl⟩ := h3
    have key : evB G b__law_right.body (entry 3 [mkBook made rows ms]) S2 = .rt (.bl true) S2 := by
      unfold b__law_right
      refine (evB_nx (evS_asg (v := .lst ((shownR rows).map Row.dv)) (S2 := S2) ?_)).trans ?_
      · simp only [evB, evS, evE, evEs, entry, List.length_cons, List.length_nil, List.map_cons, List.map_nil, List.cons_append, List.nil_append, List.getElem?_cons_zero, List.getElem?_cons_succ, Option.getD_some, Res.of_some, Res.bind_ok, Res.then_ok, Out.bind_nx, Out.bind_rt, asBl_bl, asBlO_bl, Option.map_some, idx_l, idx_t, len_l, len_t, peekI_, peek_bl_, peek_str_, peek_tup_, peek_lst_, peek_dic_, peek_scr_, peek_non_, lt_ii, gt_ii, ge_ii, eq_ii, add_ii, List.set_cons_zero, List.set_cons_succ, if_true, if_false, Bool.false_eq_true, decide_true, decide_false, List.replicate_succ, List.replicate_zero, Nat.reduceAdd, Nat.reduceSub, reduceCtorEq, reduceIte, hF, hB, h1]
      refine (evB_nx ((evS_fors (as := [.lst ps]) (S2 := S2) (items := ps) ?_ rfl).trans h3)).trans ?_
      · simp only [evB, evS, evE, evEs, entry, List.length_cons, List.length_nil, List.map_cons, List.map_nil, List.cons_append, List.nil_append, List.getElem?_cons_zero, List.getElem?_cons_succ, Option.getD_some, Res.of_some, Res.bind_ok, Res.then_ok, Out.bind_nx, Out.bind_rt, asBl_bl, asBlO_bl, Option.map_some, idx_l, idx_t, len_l, len_t, peekI_, peek_bl_, peek_str_, peek_tup_, peek_lst_, peek_dic_, peek_scr_, peek_non_, lt_ii, gt_ii, ge_ii, eq_ii, add_ii, List.set_cons_zero, List.set_cons_succ, if_true, if_false, Bool.false_eq_true, decide_true, decide_false, List.replicate_succ, List.replicate_zero, Nat.reduceAdd, Nat.reduceSub, reduceCtorEq, reduceIte, hF, hB, h2]
      refine evB_rt ?_
      simp only [evB, evS, evE, evEs, entry, List.length_cons, List.length_nil, List.map_cons, List.map_nil, List.cons_append, List.nil_append, List.getElem?_cons_zero, List.getElem?_cons_succ, Option.getD_some, Res.of_some, Res.bind_ok, Res.then_ok, Out.bind_nx, Out.bind_rt, asBl_bl, asBlO_bl, Option.map_some, idx_l, idx_t, len_l, len_t, peekI_, peek_bl_, peek_str_, peek_tup_, peek_lst_, peek_dic_, peek_scr_, peek_non_, lt_ii, gt_ii, ge_ii, eq_ii, add_ii, List.set_cons_zero, List.set_cons_succ, if_true, if_false, Bool.false_eq_true, decide_true, decide_false, List.replicate_succ, List.replicate_zero, Nat.reduceAdd, Nat.reduceSub, reduceCtorEq, reduceIte]
    have := run_rt (fs := [F__law_shown, F__law_places, F_outline, F__law_outline 40]) (cs := []) (d := b__law_right) (b := b) (args := [mkBook made rows ms]) rfl rfl (hG ▸ key) rfl
    rw [List.take_length] at this
    exact this
  · subst he hS
    have tk := tp _ (List.getElem_mem hi)
    have o1 := outline_spec (b := S'.length) (S := S') (BOk.bk made rows ms) ok.gd ok.nr ok.sd (by omega) tk
    have o2 := law_outline_spec (b := S'.length) (S := S') ok.gd ok.nr (by omega) tk
    have rp := repr_out ok.gd ok.nr (by omega) ok.lf ps[i]
    refine ⟨[some (mkBook made rows ms), some (.lst ((shownR rows).map Row.dv)), some ps[i]], _, S', ?_, ?_, some ps[i], rfl, rfl⟩
    · simp [bindTo]
    · unfold bR
      simp only [evB, evS, evE, evEs, entry, List.length_cons, List.length_nil, List.map_cons, List.map_nil, List.cons_append, List.nil_append, List.getElem?_cons_zero, List.getElem?_cons_succ, Option.getD_some, Res.of_some, Res.bind_ok, Res.then_ok, Out.bind_nx, Out.bind_rt, asBl_bl, asBlO_bl, Option.map_some, idx_l, idx_t, len_l, len_t, peekI_, peek_bl_, peek_str_, peek_tup_, peek_lst_, peek_dic_, peek_scr_, peek_non_, lt_ii, gt_ii, ge_ii, eq_ii, add_ii, List.set_cons_zero, List.set_cons_succ, if_true, if_false, Bool.false_eq_true, decide_true, decide_false, List.replicate_succ, List.replicate_zero, Nat.reduceAdd, Nat.reduceSub, reduceCtorEq, reduceIte, hF, hB, o1, o2, rp, ne_ss]
end DP

namespace DP
open PySem
/-! ### a book's text; the law -/
/-- shown well -/
structure Shw (k w : Nat) (d : DV) : Prop where
  fl : d.flat = true
  sh : d.toP.showable = true
  dp : d.depth ≤ k
  lv : d.toP.leavesShort 13 = true
  wt : d.toP.weight ≤ w
  ok : PyData.strOk d.toP.shown = true
theorem Shw.mono {k w k' w' : Nat} {d : DV} (h : Shw k w d) (hk : k ≤ k') (hw : w ≤ w') : Shw k' w' d := ⟨h.fl, h.sh, Nat.le_trans h.dp hk, h.lv, Nat.le_trans h.wt hw, h.ok⟩
theorem Shw.int {i : Int} (h : i.natAbs < 10 ^ 12) : Shw 0 41 (.int i) := by
  have lg := log_lt h
  refine ⟨rfl, ?_, Nat.le_refl _, ?_, ?_, ?_⟩
  · simp only [DV.toP, PyData.showable, decide_eq_true_eq]; omega
  · simp only [DV.toP, PyData.leavesShort, decide_eq_true_eq]; exact PyData.shown_int_le h
  · simp only [DV.toP, PyData.weight]; split <;> omega
  · simp only [DV.toP, PyData.shown]; exact ok_of _
theorem Shw.str {n : Str} {v : Int} (h : Leaf n v) : Shw 0 41 (.str n) := by
  refine ⟨rfl, ?_, Nat.le_refl _, ?_, ?_, ?_⟩
  · simp only [DV.toP, PyData.showable]
  · simp only [DV.toP, PyData.leavesShort, Bool.and_eq_true, decide_eq_true_eq, List.all_eq_true]; exact h.cp
  · have := h.ln
    simp only [DV.toP, PyData.weight]; omega
  · simp only [DV.toP, PyData.shown]; exact h.nm
theorem Shw.all {k w : Nat} : ∀ {ds : List DV}, (∀ d ∈ ds, Shw k w d) → DV.flats ds = true ∧ PyData.showableAll (DV.toPs ds) = true ∧ DV.depths ds ≤ k ∧ PyData.leavesShortAll 13 (DV.toPs ds) = true ∧ PyData.weightAll (DV.toPs ds) ≤ ds.length * (w + 1) ∧ ∀ t ∈ PyData.shownAll (DV.toPs ds), PyData.strOk t = true
  | [], _ => by simp [DV.flats, DV.toPs, PyData.showableAll, DV.depths, PyData.leavesShortAll, PyData.weightAll, PyData.shownAll]
  | d :: ds, h => by
    obtain ⟨h1, h2, h3, h4, h5, h6⟩ := h d List.mem_cons_self
    obtain ⟨k1, k2, k3, k4, k5, k6⟩ := Shw.all fun x hx => h x (List.mem_cons_of_mem _ hx)
    refine ⟨by simp only [DV.flats, h1, k1, Bool.and_self], by simp only [DV.toPs, PyData.showableAll, h2, k2, Bool.and_self], by simp only [DV.depths]; omega, by simp only [DV.toPs, PyData.leavesShortAll, h4, k4, Bool.and_self], ?_, ?_⟩
    · simp only [DV.toPs, PyData.weightAll, List.length_cons, Nat.succ_mul]; omega
    · intro x hx
      simp only [DV.toPs, PyData.shownAll] at hx
      rcases List.mem_cons.mp hx with e | hx
      · rw [e]; exact h6
      · exact k6 x hx
theorem Shw.tup {k w n : Nat} {ds : List DV} (h : ∀ d ∈ ds, Shw k w d) (hn : ds.length ≤ n) : Shw (k + 1) (n * (w + 1) + 1) (.tup ds) := by
  obtain ⟨k1, k2, k3, k4, k5, k6⟩ := Shw.all h
  have := Nat.mul_le_mul_right (w + 1) hn
  refine ⟨by simp only [DV.flat, k1], by simp only [DV.toP, PyData.showable, k2], by simp only [DV.depth]; omega, by simp only [DV.toP, PyData.leavesShort, k4], ?_, ?_⟩
  · simp only [DV.toP, PyData.weight]; omega
  · simp only [DV.toP, PyData.shown]; exact ok_tuple k6
theorem Shw.repr {k w : Nat} {ds : List DV} (h : Shw k w (.tup ds)) (hk : k ≤ 64) (hw : w ≤ 2 ^ 20) : blt .repr [.tup ds] = some (.str (DV.tup ds).toP.shown) :=
  repr_d rfl h.fl h.sh (Nat.le_trans h.dp hk) h.lv (Nat.le_trans h.wt hw) h.ok
theorem SDot.shw {d : DV} (h : SDot d) : Shw 2 200 d := by
  obtain ⟨is, k, rfl, hl, hi, hk⟩ := h
  have h1 : Shw 1 85 (.tup (is.map .int)) := (Shw.tup (k := 0) (w := 41) (n := 2) (fun d hd => by
    obtain ⟨i, hi2, rfl⟩ := List.mem_map.mp hd
    have := hi i hi2
    exact Shw.int (by omega)) (by simpa using hl))
  refine (Shw.tup (k := 1) (w := 85) (n := 2) (fun d hd => ?_) (by simp)).mono (by omega) (by omega)
  simp only [List.mem_cons, List.not_mem_nil, or_false] at hd
  rcases hd with rfl | rfl
  · exact h1
  · exact (Shw.int (by omega)).mono (by omega) (by omega)
theorem Shw.un : Shw 2 200 (.tup []) := (Shw.tup (k := 0) (w := 0) (n := 0) (fun d hd => by cases hd) (by simp)).mono (by omega) (by omega)
theorem row_shw {r : Row} (h : r.S) : Shw 4 1300 r.dv := by
  have hp : Shw 2 200 r.place := by
    rcases h.place with e | e
    · rw [e]; exact Shw.un
    · exact e.shw
  have ht : Shw 3 604 r.thing := by
    refine (Shw.tup (k := 2) (w := 200) (n := 3) (fun d hd => ?_) (by simp)).mono (by omega) (by omega)
    simp only [List.mem_cons, List.not_mem_nil, or_false] at hd
    rcases hd with rfl | rfl | rfl
    · exact hp
    · exact (Shw.str h.lf).mono (by omega) (by omega)
    · exact (Shw.int h.lf.vl).mono (by omega) (by omega)
  refine (Shw.tup (k := 3) (w := 604) (n := 2) (fun d hd => ?_) (by simp)).mono (by omega) (by omega)
  simp only [List.mem_cons, List.not_mem_nil, or_false] at hd
  rcases hd with rfl | rfl
  · exact h.dot.shw.mono (by omega) (by omega)
  · exact ht
theorem mark_shw {m : Mk} (h : m.S) : Shw 4 1300 m.dv := by
  have h0 : Shw 1 100 (.tup [.int 0]) := (Shw.tup (k := 0) (w := 41) (n := 1) (fun d hd => by rw [List.mem_singleton.mp hd]; exact Shw.int (by decide)) (by simp)).mono (by omega) (by omega)
  have h1 : Shw 2 310 (.tup [.tup [.int 0], .int m.n, .int 0]) := by
    refine (Shw.tup (k := 1) (w := 100) (n := 3) (fun d hd => ?_) (by simp)).mono (by omega) (by omega)
    simp only [List.mem_cons, List.not_mem_nil, or_false] at hd
    rcases hd with rfl | rfl | rfl
    · exact h0
    · exact (Shw.int (by have := h.n; omega)).mono (by omega) (by omega)
    · exact (Shw.int (by decide)).mono (by omega) (by omega)
  have h2 : Shw 3 312 (ackD m.n) := (Shw.tup (k := 2) (w := 310) (n := 1) (fun d hd => by rw [List.mem_singleton.mp hd]; exact h1) (by simp)).mono (by omega) (by omega)
  refine (Shw.tup (k := 3) (w := 312) (n := 2) (fun d hd => ?_) (by simp)).mono (by omega) (by omega)
  simp only [List.mem_cons, List.not_mem_nil, or_false] at hd
  rcases hd with rfl | rfl
  · exact h.dot.shw.mono (by omega) (by omega)
  · exact h2
theorem book_repr {made : Int} {rows : List Row} {ms : List Mk} (ok : BOk made rows ms) : ∃ x, blt .repr [mkBook made rows ms] = some (.str x) := by
  have len := ok.len
  have h1 : Shw 5 40000 (.tup (rows.map Row.dv)) := (Shw.tup (k := 4) (w := 1300) (n := 24) (fun d hd => by
    obtain ⟨r, hr, rfl⟩ := List.mem_map.mp hd
    exact row_shw (ok.rs r hr)) (by simp; omega)).mono (by omega) (by omega)
  have h2 : Shw 5 40000 (.tup (ms.map Mk.dv)) := (Shw.tup (k := 4) (w := 1300) (n := 24) (fun d hd => by
    obtain ⟨r, hr, rfl⟩ := List.mem_map.mp hd
    exact mark_shw (ok.mms r hr)) (by simp; omega)).mono (by omega) (by omega)
  have i0 : ∀ i : Int, i.natAbs < 1000 → Shw 5 40000 (.int i) := fun i h => (Shw.int (by omega)).mono (by omega) (by omega)
  have h3 : Shw 6 500000 (mkBook made rows ms) := by
    refine (Shw.tup (k := 5) (w := 40000) (n := 10) (fun d hd => ?_) (by simp)).mono (by omega) (by omega)
    simp only [List.mem_cons, List.not_mem_nil, or_false] at hd
    have un := Shw.un.mono (show 2 ≤ 5 by omega) (show 200 ≤ 40000 by omega)
    rcases hd with rfl | rfl | rfl | rfl | rfl | rfl | rfl | rfl | rfl | rfl
    · exact (Shw.tup (k := 0) (w := 41) (n := 1) (fun d hd => by rw [List.mem_singleton.mp hd]; exact Shw.int (by decide)) (by simp)).mono (by omega) (by omega)
    · exact i0 _ (by decide)
    · exact i0 _ (by decide)
    · exact i0 _ (by have := ok.md; omega)
    · exact i0 _ (by decide)
    · exact h1
    · exact h2
    · exact un
    · exact un
    · exact un
  exact ⟨_, h3.repr (by omega) (by omega)⟩
theorem eq_nil_l : cmp .eq (.lst []) (.lst []) = some true := by decide +kernel
theorem all_right_spec {S : Store} {n made : Int} {rows : List Row} {ms : List Mk} (b : Nat) (h : Feed S n) (hn : n < 10 ^ 6) (ok : BOk made rows ms) :
    ∃ S', F__law_all_right b [.loc 0, mkBook made rows ms] S = .ok (.bl true) S' ∧ Feed S' (n + 33) ∧ Same S S' := by
  have len := ok.len
  generalize hG : ({ fs := [F__law_right, F__law_otherwise, F__law_by_others, F_outline], cs := [], base := S.length } : Ctx) = G
  have hB : G.base = S.length := by rw [← hG]
  have hF : G.fs = [F__law_right, F__law_otherwise, F__law_by_others, F_outline] := by rw [← hG]
  have gm : ∀ m ∈ ms, tkey m.dot = true := fun m hm => (ok.mms m hm).dot.dot.tk
  obtain ⟨x, rp⟩ := book_repr ok
  have r1 := right_spec (S := S) (made := made) S.length ok.rok gm (by omega)
  obtain ⟨rows1, S1, o1, ok1, f1, s1⟩ := otherwise_spec (made := made) S.length h (by omega) ok.rok gm
  have r2 := right_spec (S := S1) (made := made) S.length ok1 gm (by omega)
  obtain ⟨rows2, ms2, O, S2, o2, ok2, rn, hO, f2, s2⟩ := by_others_spec S.length f1 (by omega) ok
  have nn := rn.nd
  have sm := s1.trans s2
  have e0 : ∀ S' : Store, F_outline S.length [mkBook made rows ms, .tup []] S' = .ok (.tup ((OutT rows (.tup [])).map Tr.it)) S' := fun S' => outline_spec (BOk.bk made rows ms) ok.gd ok.nr ok.sd (by omega) rfl
  have e1 : ∀ S' : Store, F_outline S.length [mkBook made rows2 ms2, .tup []] S' = .ok (.tup ((OutT rows (.tup [])).map Tr.it)) S' := fun S' => by
    have := outline_spec (b := S.length) (S := S') (BOk.bk made rows2 ms2) ok2.gd ok2.nr ok2.sd (by have := ok2.len; omega) (p := .tup []) rfl
    rw [this]
    have e := rn.out_same ok.nr ok2.nr (un_dom O)
    rw [rn.un] at e
    rw [e]
  have rp0 := repr_out ok.gd ok.nr (by omega) ok.rok.lf
  have ks : Ks O := fun p hp => (rn.ky p hp).tk
  have src : srcOf .keys [.dic O] = some (O.map (·.1)) := by
    have h1 : O.isEmpty = false := by cases O with
      | nil => exact absurd rfl hO
      | cons _ _ => rfl
    have h2 : (O.all fun p => tkey p.1) = true := List.all_eq_true.mpr ks
    simp only [srcOf, h1, h2, Bool.not_false, Bool.and_self, if_true]
  have key : evB G b__law_all_right.body (entry 6 [.loc 0, mkBook made rows ms]) S = .rt (.bl true) S2 := by
    unfold b__law_all_right
    refine (evB_nx (evS_asg (v := .str x) (S2 := S) ?_)).trans ?_
    · simp only [evB, evS, evE, evEs, entry, List.length_cons, List.length_nil, List.map_cons, List.map_nil, List.cons_append, List.nil_append, List.getElem?_cons_zero, List.getElem?_cons_succ, Option.getD_some, Res.of_some, Res.bind_ok, Res.then_ok, Out.bind_nx, Out.bind_rt, asBl_bl, asBlO_bl, Option.map_some, idx_l, idx_t, len_l, len_t, peekI_, peek_bl_, peek_str_, peek_tup_, peek_lst_, peek_dic_, peek_scr_, peek_non_, lt_ii, gt_ii, ge_ii, eq_ii, add_ii, List.set_cons_zero, List.set_cons_succ, if_true, if_false, Bool.false_eq_true, decide_true, decide_false, List.replicate_succ, List.replicate_zero, Nat.reduceAdd, Nat.reduceSub, reduceCtorEq, reduceIte, mk_pk, rp]
    refine (evB_nx (e2 := [some (.loc 0), some (mkBook made rows ms), some (.str x), none, none, none]) (S2 := S1) ?_).trans ?_
    · simp only [evB, evS, evE, evEs, entry, List.length_cons, List.length_nil, List.map_cons, List.map_nil, List.cons_append, List.nil_append, List.getElem?_cons_zero, List.getElem?_cons_succ, Option.getD_some, Res.of_some, Res.bind_ok, Res.then_ok, Out.bind_nx, Out.bind_rt, asBl_bl, asBlO_bl, Option.map_some, idx_l, idx_t, len_l, len_t, peekI_, peek_bl_, peek_str_, peek_tup_, peek_lst_, peek_dic_, peek_scr_, peek_non_, lt_ii, gt_ii, ge_ii, eq_ii, add_ii, List.set_cons_zero, List.set_cons_succ, if_true, if_false, Bool.false_eq_true, decide_true, decide_false, List.replicate_succ, List.replicate_zero, Nat.reduceAdd, Nat.reduceSub, reduceCtorEq, reduceIte, hF, hB, r1, Bool.not_true, o1, r2]
    refine (evB_nx (e2 := [some (.loc 0), some (mkBook made rows ms), some (.str x), some (mkBook made rows2 ms2), some (.dic O), none]) (S2 := S2) ?_).trans ?_
    · simp only [evB, evS, evE, evEs, entry, List.length_cons, List.length_nil, List.map_cons, List.map_nil, List.cons_append, List.nil_append, List.getElem?_cons_zero, List.getElem?_cons_succ, Option.getD_some, Res.of_some, Res.bind_ok, Res.then_ok, Out.bind_nx, Out.bind_rt, asBl_bl, asBlO_bl, Option.map_some, idx_l, idx_t, len_l, len_t, peekI_, peek_bl_, peek_str_, peek_tup_, peek_lst_, peek_dic_, peek_scr_, peek_non_, lt_ii, gt_ii, ge_ii, eq_ii, add_ii, List.set_cons_zero, List.set_cons_succ, if_true, if_false, Bool.false_eq_true, decide_true, decide_false, List.replicate_succ, List.replicate_zero, Nat.reduceAdd, Nat.reduceSub, reduceCtorEq, reduceIte, hF, hB, o2, bindTo, List.zip_cons_cons, List.zip_nil_right, List.foldl_cons, List.foldl_nil]
    refine (evB_nx (e2 := [some (.loc 0), some (mkBook made rows ms), some (.str x), some (mkBook made rows2 ms2), some (.dic O), none]) (S2 := S2) ?_).trans ?_
    · simp only [evB, evS, evE, evEs, entry, List.length_cons, List.length_nil, List.map_cons, List.map_nil, List.cons_append, List.nil_append, List.getElem?_cons_zero, List.getElem?_cons_succ, Option.getD_some, Res.of_some, Res.bind_ok, Res.then_ok, Out.bind_nx, Out.bind_rt, asBl_bl, asBlO_bl, Option.map_some, idx_l, idx_t, len_l, len_t, peekI_, peek_bl_, peek_str_, peek_tup_, peek_lst_, peek_dic_, peek_scr_, peek_non_, lt_ii, gt_ii, ge_ii, eq_ii, add_ii, List.set_cons_zero, List.set_cons_succ, if_true, if_false, Bool.false_eq_true, decide_true, decide_false, List.replicate_succ, List.replicate_zero, Nat.reduceAdd, Nat.reduceSub, reduceCtorEq, reduceIte, hF, hB, e0, e1, rp0, ne_ss, mk_pk, rp]
    refine evB_rt ?_
    simp only [evB, evS, evE, evEs, entry, List.length_cons, List.length_nil, List.map_cons, List.map_nil, List.cons_append, List.nil_append, List.getElem?_cons_zero, List.getElem?_cons_succ, Option.getD_some, Res.of_some, Res.bind_ok, Res.then_ok, Out.bind_nx, Out.bind_rt, asBl_bl, asBlO_bl, Option.map_some, idx_l, idx_t, len_l, len_t, peekI_, peek_bl_, peek_str_, peek_tup_, peek_lst_, peek_dic_, peek_scr_, peek_non_, lt_ii, gt_ii, ge_ii, eq_ii, add_ii, List.set_cons_zero, List.set_cons_succ, if_true, if_false, Bool.false_eq_true, decide_true, decide_false, List.replicate_succ, List.replicate_zero, Nat.reduceAdd, Nat.reduceSub, reduceCtorEq, reduceIte, srcArg, src]
    rw [compL_pure (g := fun d => none) (isLive_ok _ _ (by simp))]
    · have e : (O.map (·.1)).filterMap (fun d => (none : Option DV)) = [] := by
        induction O.map (·.1) with
        | nil => rfl
        | cons a l ih => rw [List.filterMap_cons]; exact ih
      simp only [evB, evS, evE, evEs, entry, List.length_cons, List.length_nil, List.map_cons, List.map_nil, List.cons_append, List.nil_append, List.getElem?_cons_zero, List.getElem?_cons_succ, Option.getD_some, Res.of_some, Res.bind_ok, Res.then_ok, Out.bind_nx, Out.bind_rt, asBl_bl, asBlO_bl, Option.map_some, idx_l, idx_t, len_l, len_t, peekI_, peek_bl_, peek_str_, peek_tup_, peek_lst_, peek_dic_, peek_scr_, peek_non_, lt_ii, gt_ii, ge_ii, eq_ii, add_ii, List.set_cons_zero, List.set_cons_succ, if_true, if_false, Bool.false_eq_true, decide_true, decide_false, List.replicate_succ, List.replicate_zero, Nat.reduceAdd, Nat.reduceSub, reduceCtorEq, reduceIte, e, eq_nil_l]
    · intro d hd
      have td : tkey d = true := by
        obtain ⟨p, hp, rfl⟩ := List.mem_map.mp hd
        exact ks p hp
      have pd : ∀ S, peek S d = d := fun S => peek_tk td
      have gi := dget_idx (ks.dok td)
      obtain ⟨p, _, _, g⟩ := dget_mem hd
      have g2 : dget O d = some (rho O d) := by unfold rho; rw [g]; rfl
      obtain ⟨k, _, ek, _⟩ := rn.mem hd
      have tr : tkey (rho O d) = true := by rw [ek]; exact dt_tk _ _
      have q1 : ∀ S' : Store, F_outline S.length [mkBook made rows ms, d] S' = .ok (.tup ((OutT rows d).map Tr.it)) S' := fun S' => outline_spec (BOk.bk made rows ms) ok.gd ok.nr ok.sd (by omega) td
      have q2 : ∀ S' : Store, F_outline S.length [mkBook made rows2 ms2, rho O d] S' = .ok (.tup ((OutT rows d).map Tr.it)) S' := fun S' => by
        have := outline_spec (b := S.length) (S := S') (BOk.bk made rows2 ms2) ok2.gd ok2.nr ok2.sd (by have := ok2.len; omega) tr
        rw [this, rn.out_same ok.nr ok2.nr (.inl hd)]
      simp only [evB, evS, evE, evEs, entry, List.length_cons, List.length_nil, List.map_cons, List.map_nil, List.cons_append, List.nil_append, List.getElem?_cons_zero, List.getElem?_cons_succ, Option.getD_some, Res.of_some, Res.bind_ok, Res.then_ok, Out.bind_nx, Out.bind_rt, asBl_bl, asBlO_bl, Option.map_some, idx_l, idx_t, len_l, len_t, peekI_, peek_bl_, peek_str_, peek_tup_, peek_lst_, peek_dic_, peek_scr_, peek_non_, lt_ii, gt_ii, ge_ii, eq_ii, add_ii, List.set_cons_zero, List.set_cons_succ, if_true, if_false, Bool.false_eq_true, decide_true, decide_false, List.replicate_succ, List.replicate_zero, Nat.reduceAdd, Nat.reduceSub, reduceCtorEq, reduceIte, wipe, bindTo, evC, noExc, hF, hB, pd, gi, g2, q1, q2, rp0, ne_ss]
  have := run_rt (fs := [F__law_right, F__law_otherwise, F__law_by_others, F_outline]) (cs := []) (d := b__law_all_right) (b := b) (args := [.loc 0, mkBook made rows ms]) rfl rfl (hG ▸ key) rfl
  rw [take_same sm] at this
  exact ⟨S2, this, f2.mono (by omega), sm⟩
/-! ### the law -/
def bL : List MS := [.ifs (.not (.call 1 [.var 1, .call 2 [.var 1]])) [.ret (.bl false)] []]
theorem scr_to (ns : List Int) : slc (.scr ns) none (some 63) = some (.lst ((ns.take 63).map .int)) := by
  have e : HT.sIx ns.length 0 none = 0 := HT.sIx_none _ _
  have e2 : HT.sIx ns.length ns.length (some 63) = min 63 ns.length := HT.sIx_nat _ _ 63
  simp only [slc, cut, e, e2, List.drop_zero, Nat.sub_zero]
  congr 3
  rw [← List.take_take, List.take_length]
theorem scr_eq (ns : List Int) : cmp .eq (.scr ns) (.lst []) = some (decide (ns = [])) := by
  have d1 : (DV.scr ns).depth ≤ 64 := by simp [DV.depth]
  have d0 : (DV.lst []).depth ≤ 64 := by decide
  have f1 : (DV.scr ns).flat = true := rfl
  have f0 : (DV.lst []).flat = true := rfl
  simp only [cmp, deq, f1, f0, Bool.and_self, Bool.true_and, Bool.and_eq_true, decide_eq_true_eq]
  rw [if_pos ⟨d1, d0⟩]
  simp only [DV.toP, DV.toPs, PyData.eqv]
  cases ns with
  | nil => simp [PyData.eqvAll]
  | cons n ns => simp [PyData.eqvAll]
theorem feed_spec (ns : List Int) (h : ns.length ≤ 63) : ∃ S', F__law_feed 0 [.scr ns] [] = .ok (.loc 0) S' ∧ Feed S' 0 ∧ S'.length = 1 := by
  have sz : (2000 : Nat) < sizeLine := by rw [sizeLine_eq]; decide
  refine ⟨[.lst [.lst ((ns.take 63 ++ if ns = [] then [0] else []).map .int), .int 0, .int 0]], ?_, ⟨_, 0, 0, rfl, ?_, by omega, by omega, by omega⟩, rfl⟩
  · unfold F__law_feed runDef
    have mb : bin .mul (.lst [.int 0]) (.int (if decide (ns = []) = true then 1 else 0)) = some (.lst ((if ns = [] then [0] else []).map .int)) := by
      by_cases q : ns = []
      · simp only [q, decide_true, if_true]
        simp only [bin]
        rw [if_pos ⟨by omega, by omega, by simp; omega⟩]
        rfl
      · simp only [q, decide_false, Bool.false_eq_true, if_false]
        simp only [bin]
        rw [if_pos ⟨by omega, by omega, by simp⟩]
        rfl
    have ib : ∀ k : Bool, blt .int [.bl k] = some (.int (if k = true then 1 else 0)) := fun k => rfl
    have la : ((ns.take 63).map DV.int).length + ((if ns = [] then [(0 : Int)] else []).map DV.int).length ≤ sizeLine := by
      rw [List.length_map, List.length_map, List.length_take]
      split <;> simp <;> omega
    simp only [evB, evS, evE, evEs, entry, List.length_cons, List.length_nil, List.map_cons, List.map_nil, List.cons_append, List.nil_append, List.getElem?_cons_zero, List.getElem?_cons_succ, Option.getD_some, Res.of_some, Res.bind_ok, Res.then_ok, Out.bind_nx, Out.bind_rt, asBl_bl, asBlO_bl, Option.map_some, idx_l, idx_t, len_l, len_t, peekI_, peek_bl_, peek_str_, peek_tup_, peek_lst_, peek_dic_, peek_scr_, peek_non_, lt_ii, gt_ii, ge_ii, eq_ii, add_ii, List.set_cons_zero, List.set_cons_succ, if_true, if_false, Bool.false_eq_true, decide_true, decide_false, List.replicate_succ, List.replicate_zero, Nat.reduceAdd, Nat.reduceSub, reduceCtorEq, reduceIte, b__law_feed, part_0, part_1, scr_to, scr_eq, ib, mb, cat_l la, lay, ← List.map_append]
    rfl
  · cases ns with
    | nil => simp
    | cons n ns => simp
theorem law_true (ns : List Int) (h : ns.length ≤ 63) : ∃ S', F_law 0 [.scr ns] [] = .ok (.bl true) S' := by
  obtain ⟨S0, hf, f0, hl0⟩ := feed_spec ns h
  generalize hG : ({ fs := [F__law_feed, F__law_all_right, F__law_any_book, F__law_next, F__law_chain_book], cs := [], base := 0 } : Ctx) = G
  have hB : G.base = 0 := by rw [← hG]
  have hF : G.fs = [F__law_feed, F__law_all_right, F__law_any_book, F__law_next, F__law_chain_book] := by rw [← hG]
  have h1 := forL_inv (tg := .nm 2) (b := evB G bL) (chk := isLive [.int 4] S0) (items := (List.range 4).map fun (i : Nat) => DV.int i)
    (fun i e S' => ∃ x2, e = [some (.scr ns), some (.loc 0), x2] ∧ Feed S' (133 * i))
    (fun i e S' _ => rfl) (fun i hi e S' ⟨x2, he, f⟩ => ?_) _ 0 [some (.scr ns), some (.loc 0), none] S0 rfl (Nat.zero_le _) ⟨none, rfl, by simpa using f0⟩
  · rw [List.drop_zero] at h1
    obtain ⟨e2, S2, h1, x2, rfl, f2⟩ := h1
    rw [List.length_map, List.length_range] at f2
    obtain ⟨r, S3, q1, a1, b1, f3, s3⟩ := next_at (m := 8) 0 f2 (by omega) (by omega) (by omega)
    obtain ⟨rows, S4, q2, ok, f4, s4⟩ := chain_spec 0 f3 (by omega)
    obtain ⟨S5, q3, f5, s5⟩ := all_right_spec 0 f4 (by omega) ok
    have key : ∃ S6, evB G b_law.body (entry 3 [.scr ns]) [] = .rt (.bl true) S6 := by
      unfold b_law
      refine ⟨if 0 < r then S3 else S5, ?_⟩
      refine (evB_nx (evS_asg (v := .loc 0) (S2 := S0) ?_)).trans ?_
      · simp only [evB, evS, evE, evEs, entry, List.length_cons, List.length_nil, List.map_cons, List.map_nil, List.cons_append, List.nil_append, List.getElem?_cons_zero, List.getElem?_cons_succ, Option.getD_some, Res.of_some, Res.bind_ok, Res.then_ok, Out.bind_nx, Out.bind_rt, asBl_bl, asBlO_bl, Option.map_some, idx_l, idx_t, len_l, len_t, peekI_, peek_bl_, peek_str_, peek_tup_, peek_lst_, peek_dic_, peek_scr_, peek_non_, lt_ii, gt_ii, ge_ii, eq_ii, add_ii, List.set_cons_zero, List.set_cons_succ, if_true, if_false, Bool.false_eq_true, decide_true, decide_false, List.replicate_succ, List.replicate_zero, Nat.reduceAdd, Nat.reduceSub, reduceCtorEq, reduceIte, hF, hB, hf]
      refine (evB_nx ((evS_fors (as := [.int 4]) (S2 := S0) (by simp only [evB, evS, evE, evEs, entry, List.length_cons, List.length_nil, List.map_cons, List.map_nil, List.cons_append, List.nil_append, List.getElem?_cons_zero, List.getElem?_cons_succ, Option.getD_some, Res.of_some, Res.bind_ok, Res.then_ok, Out.bind_nx, Out.bind_rt, asBl_bl, asBlO_bl, Option.map_some, idx_l, idx_t, len_l, len_t, peekI_, peek_bl_, peek_str_, peek_tup_, peek_lst_, peek_dic_, peek_scr_, peek_non_, lt_ii, gt_ii, ge_ii, eq_ii, add_ii, List.set_cons_zero, List.set_cons_succ, if_true, if_false, Bool.false_eq_true, decide_true, decide_false, List.replicate_succ, List.replicate_zero, Nat.reduceAdd, Nat.reduceSub, reduceCtorEq, reduceIte]) (rng1_ok (by omega) (by omega))).trans h1)).trans ?_
      refine evB_rt ?_
      by_cases hr : 0 < r
      · simp only [evB, evS, evE, evEs, entry, List.length_cons, List.length_nil, List.map_cons, List.map_nil, List.cons_append, List.nil_append, List.getElem?_cons_zero, List.getElem?_cons_succ, Option.getD_some, Res.of_some, Res.bind_ok, Res.then_ok, Out.bind_nx, Out.bind_rt, asBl_bl, asBlO_bl, Option.map_some, idx_l, idx_t, len_l, len_t, peekI_, peek_bl_, peek_str_, peek_tup_, peek_lst_, peek_dic_, peek_scr_, peek_non_, lt_ii, gt_ii, ge_ii, eq_ii, add_ii, List.set_cons_zero, List.set_cons_succ, if_true, if_false, Bool.false_eq_true, decide_true, decide_false, List.replicate_succ, List.replicate_zero, Nat.reduceAdd, Nat.reduceSub, reduceCtorEq, reduceIte, hF, hB, q1, hr]
      · simp only [evB, evS, evE, evEs, entry, List.length_cons, List.length_nil, List.map_cons, List.map_nil, List.cons_append, List.nil_append, List.getElem?_cons_zero, List.getElem?_cons_succ, Option.getD_some, Res.of_some, Res.bind_ok, Res.then_ok, Out.bind_nx, Out.bind_rt, asBl_bl, asBlO_bl, Option.map_some, idx_l, idx_t, len_l, len_t, peekI_, peek_bl_, peek_str_, peek_tup_, peek_lst_, peek_dic_, peek_scr_, peek_non_, lt_ii, gt_ii, ge_ii, eq_ii, add_ii, List.set_cons_zero, List.set_cons_succ, if_true, if_false, Bool.false_eq_true, decide_true, decide_false, List.replicate_succ, List.replicate_zero, Nat.reduceAdd, Nat.reduceSub, reduceCtorEq, reduceIte, hF, hB, q1, hr, q2, q3]
    obtain ⟨S6, key⟩ := key
    have := run_rt (fs := [F__law_feed, F__law_all_right, F__law_any_book, F__law_next, F__law_chain_book]) (cs := []) (d := b_law) (b := 0) (args := [.scr ns]) (S := []) rfl rfl (hG ▸ key) rfl
    exact ⟨_, this⟩
  · subst he
    rw [List.length_map, List.length_range] at hi
    obtain ⟨rows, ms, S3, q1, ok, f3, s3⟩ := any_book_spec 0 f (by omega)
    obtain ⟨S4, q2, f4, s4⟩ := all_right_spec 0 f3 (by omega) ok
    refine ⟨[some (.scr ns), some (.loc 0), some (.int i)], _, S4, ?_, ?_, some (.int i), rfl, f4.mono (by omega)⟩
    · simp [bindTo]
    · unfold bL
      simp only [evB, evS, evE, evEs, entry, List.length_cons, List.length_nil, List.map_cons, List.map_nil, List.cons_append, List.nil_append, List.getElem?_cons_zero, List.getElem?_cons_succ, Option.getD_some, Res.of_some, Res.bind_ok, Res.then_ok, Out.bind_nx, Out.bind_rt, asBl_bl, asBlO_bl, Option.map_some, idx_l, idx_t, len_l, len_t, peekI_, peek_bl_, peek_str_, peek_tup_, peek_lst_, peek_dic_, peek_scr_, peek_non_, lt_ii, gt_ii, ge_ii, eq_ii, add_ii, List.set_cons_zero, List.set_cons_succ, if_true, if_false, Bool.false_eq_true, decide_true, decide_false, List.replicate_succ, List.replicate_zero, Nat.reduceAdd, Nat.reduceSub, reduceCtorEq, reduceIte, hF, hB, q1, q2, Bool.not_true]
end DP

namespace HH
open PySem PySem.Spec PyProof.Rows L2 DP
def top (i : Nat) : Stmt := PySem.Challenge.pw_gonemarks_k75_outlines.main.body.getD i (.Pass ⟨0, 0, 0, 0⟩)
def loose0 : List PySem.Str := ["THINGS", "shown", "signs_of", "part_of", "outline_of", "outline", "_law_feed", "_law_next", "_law_any_thing", "_law_any_book", "_law_shown", "_law_places", "_law_outline", "_law_by_others", "_law_otherwise", "_law_right", "_law_chain_book", "_law_all_right"]
def loose : List PySem.Str := loose0
def d_shown : He.DefD := ⟨("shown", none), "shown", "shown", L2.defArgs (top 2), L2.defBody (top 2), L2.defScope (top 2), [], []⟩
def d_signs_of : He.DefD := ⟨("signs_of", none), "signs_of", "signs_of", L2.defArgs (top 3), L2.defBody (top 3), L2.defScope (top 3), [], []⟩
def d_part_of : He.DefD := ⟨("part_of", none), "part_of", "part_of", L2.defArgs (top 4), L2.defBody (top 4), L2.defScope (top 4), [], []⟩
def d_outline_of : He.DefD := ⟨("outline_of", none), "outline_of", "outline_of", L2.defArgs (top 5), L2.defBody (top 5), L2.defScope (top 5), [], []⟩
def d_outline : He.DefD := ⟨("outline", none), "outline", "outline", L2.defArgs (top 6), L2.defBody (top 6), L2.defScope (top 6), [], []⟩
def d__law_feed : He.DefD := ⟨("_law_feed", none), "_law_feed", "_law_feed", L2.defArgs (top 8), L2.defBody (top 8), L2.defScope (top 8), [], []⟩
def d__law_next : He.DefD := ⟨("_law_next", none), "_law_next", "_law_next", L2.defArgs (top 9), L2.defBody (top 9), L2.defScope (top 9), [], []⟩
def d__law_any_thing : He.DefD := ⟨("_law_any_thing", none), "_law_any_thing", "_law_any_thing", L2.defArgs (top 10), L2.defBody (top 10), L2.defScope (top 10), [], []⟩
def d__law_any_book : He.DefD := ⟨("_law_any_book", none), "_law_any_book", "_law_any_book", L2.defArgs (top 11), L2.defBody (top 11), L2.defScope (top 11), [], []⟩
def d__law_shown : He.DefD := ⟨("_law_shown", none), "_law_shown", "_law_shown", L2.defArgs (top 12), L2.defBody (top 12), L2.defScope (top 12), [], []⟩
def d__law_places : He.DefD := ⟨("_law_places", none), "_law_places", "_law_places", L2.defArgs (top 13), L2.defBody (top 13), L2.defScope (top 13), [], []⟩
def d__law_outline : He.DefD := ⟨("_law_outline", none), "_law_outline", "_law_outline", L2.defArgs (top 14), L2.defBody (top 14), L2.defScope (top 14), [], []⟩
def d__law_by_others : He.DefD := ⟨("_law_by_others", none), "_law_by_others", "_law_by_others", L2.defArgs (top 15), L2.defBody (top 15), L2.defScope (top 15), [], []⟩
def d__law_otherwise : He.DefD := ⟨("_law_otherwise", none), "_law_otherwise", "_law_otherwise", L2.defArgs (top 16), L2.defBody (top 16), L2.defScope (top 16), [], []⟩
def d__law_right : He.DefD := ⟨("_law_right", none), "_law_right", "_law_right", L2.defArgs (top 17), L2.defBody (top 17), L2.defScope (top 17), [], []⟩
def d__law_chain_book : He.DefD := ⟨("_law_chain_book", none), "_law_chain_book", "_law_chain_book", L2.defArgs (top 18), L2.defBody (top 18), L2.defScope (top 18), [], []⟩
def d__law_all_right : He.DefD := ⟨("_law_all_right", none), "_law_all_right", "_law_all_right", L2.defArgs (top 19), L2.defBody (top 19), L2.defScope (top 19), [], []⟩
def d_law : He.DefD := ⟨("law", none), "law", "law", L2.defArgs (top 20), L2.defBody (top 20), L2.defScope (top 20), [], []⟩
def fn0 : List He.DefD := [d_shown, d_signs_of, d_part_of, d_outline_of, d_outline, d__law_feed, d__law_next, d__law_any_thing, d__law_any_book, d__law_shown, d__law_places, d__law_outline, d__law_by_others, d__law_otherwise, d__law_right, d__law_chain_book, d__law_all_right, d_law]
def fn : List He.DefD := fn0
def fa0 : List He.Fa := [.glo "shown", .glo "signs_of", .glo "part_of", .glo "outline_of", .glo "outline", .glo "_law_feed", .glo "_law_next", .glo "_law_any_thing", .glo "_law_any_book", .glo "_law_shown", .glo "_law_places", .glo "_law_outline", .glo "_law_by_others", .glo "_law_otherwise", .glo "_law_right", .glo "_law_chain_book", .glo "_law_all_right", .glo "law", .free "dict", .free "int", .free "len", .free "repr", .free "sorted", .free "tuple", .free "range", .int "THINGS" (5)]
def fa : List He.Fa := fa0
abbrev R : PySem.W.OpenRow := PySem.W.OpenLaw.row PySem.Challenge.rw_gonemarks_k75_outlines
abbrev hk : PySem.W.Hook := He.hookD 4 fa fn
def ob (s : PySem.W.SharedT) : He.AlD := He.obsDG 4 fa fn (HandSHeadRun.getT s)
theorem ob_eq (s : PySem.W.SharedT) : ob s = hk.obs s.abs := He.obsDG_eq (HandSHeadRun.getT_eq s)
theorem run (w : World) : HandSHeadRun.RunEq R (PySem.W.view R.prog [20]) hk ob 1500 loose w := by
  intro os
  kernel_rfl
def n_shown : Nm := { N := ["book", "found", "more", "dot", "thing"], sc := L2.defScope (top 2), fn := fun _ => true, fs := [], cs := ["THINGS"], bs := [.sorted, .tuple], rng := false }
theorem c_shown : cpB n_shown DP.b_shown.body (L2.defBody (top 2)) = true := by decide +kernel
theorem s_shown : FnScope n_shown.N ["book"] (L2.defScope (top 2)) := ⟨by decide +kernel, by decide +kernel, by decide +kernel, by decide +kernel, by decide +kernel, by decide +kernel, by decide +kernel⟩
def n_signs_of : Nm := { N := ["thing", "inner"], sc := L2.defScope (top 3), fn := fun _ => true, fs := [], cs := [], bs := [], rng := false }
theorem c_signs_of : cpB n_signs_of DP.b_signs_of.body (L2.defBody (top 3)) = true := by decide +kernel
theorem s_signs_of : FnScope n_signs_of.N ["thing", "inner"] (L2.defScope (top 3)) := ⟨by decide +kernel, by decide +kernel, by decide +kernel, by decide +kernel, by decide +kernel, by decide +kernel, by decide +kernel⟩
def n_part_of : Nm := { N := ["thing", "inner"], sc := L2.defScope (top 4), fn := fun _ => true, fs := [], cs := [], bs := [], rng := false }
theorem c_part_of : cpB n_part_of DP.b_part_of.body (L2.defBody (top 4)) = true := by decide +kernel
theorem s_part_of : FnScope n_part_of.N ["thing", "inner"] (L2.defScope (top 4)) := ⟨by decide +kernel, by decide +kernel, by decide +kernel, by decide +kernel, by decide +kernel, by decide +kernel, by decide +kernel⟩
def n_outline_of : Nm := { N := ["things", "place", "inner", "order", "at", "found", "signs", "one", "dot", "thing", "rows", "signed", "row", "k"], sc := L2.defScope (top 5), fn := fun _ => true, fs := ["signs_of", "part_of"], cs := [], bs := [.len, .sorted, .tuple], rng := true }
theorem c_outline_of : cpB n_outline_of DP.b_outline_of.body (L2.defBody (top 5)) = true := by decide +kernel
theorem s_outline_of : FnScope n_outline_of.N ["things", "place"] (L2.defScope (top 5)) := ⟨by decide +kernel, by decide +kernel, by decide +kernel, by decide +kernel, by decide +kernel, by decide +kernel, by decide +kernel⟩
def n_outline : Nm := { N := ["book", "place"], sc := L2.defScope (top 6), fn := fun _ => true, fs := ["outline_of", "shown"], cs := [], bs := [], rng := false }
theorem c_outline : cpB n_outline DP.b_outline.body (L2.defBody (top 6)) = true := by decide +kernel
theorem s_outline : FnScope n_outline.N ["book", "place"] (L2.defScope (top 6)) := ⟨by decide +kernel, by decide +kernel, by decide +kernel, by decide +kernel, by decide +kernel, by decide +kernel, by decide +kernel⟩
def n__law_feed : Nm := { N := ["_law_script"], sc := L2.defScope (top 8), fn := fun _ => true, fs := [], cs := [], bs := [.int], rng := false }
theorem c__law_feed : cpB n__law_feed DP.b__law_feed.body (L2.defBody (top 8)) = true := by decide +kernel
theorem s__law_feed : FnScope n__law_feed.N ["_law_script"] (L2.defScope (top 8)) := ⟨by decide +kernel, by decide +kernel, by decide +kernel, by decide +kernel, by decide +kernel, by decide +kernel, by decide +kernel⟩
def n__law_next : Nm := { N := ["_law_feed_here", "_law_many", "_law_at", "_law_cell", "_law_first", "_law_found"], sc := L2.defScope (top 9), fn := fun _ => true, fs := [], cs := [], bs := [.len], rng := false }
theorem c__law_next : cpB n__law_next DP.b__law_next.body (L2.defBody (top 9)) = true := by decide +kernel
theorem s__law_next : FnScope n__law_next.N ["_law_feed_here", "_law_many"] (L2.defScope (top 9)) := ⟨by decide +kernel, by decide +kernel, by decide +kernel, by decide +kernel, by decide +kernel, by decide +kernel, by decide +kernel⟩
def n__law_any_thing : Nm := { N := ["_law_feed_here", "_law_dots", "_law_place", "_law_name"], sc := L2.defScope (top 10), fn := fun _ => true, fs := ["_law_next"], cs := [], bs := [.len], rng := false }
theorem c__law_any_thing : cpB n__law_any_thing DP.b__law_any_thing.body (L2.defBody (top 10)) = true := by decide +kernel
theorem s__law_any_thing : FnScope n__law_any_thing.N ["_law_feed_here", "_law_dots"] (L2.defScope (top 10)) := ⟨by decide +kernel, by decide +kernel, by decide +kernel, by decide +kernel, by decide +kernel, by decide +kernel, by decide +kernel⟩
def n__law_any_book : Nm := { N := ["_law_feed_here", "_law_seats", "_law_things", "_law_marks", "_law_k", "_law_dots", "_law_dot", "_law_held"], sc := L2.defScope (top 11), fn := fun _ => true, fs := ["_law_next", "_law_any_thing"], cs := [], bs := [.sorted, .tuple], rng := true }
theorem c__law_any_book : cpB n__law_any_book DP.b__law_any_book.body (L2.defBody (top 11)) = true := by decide +kernel
theorem s__law_any_book : FnScope n__law_any_book.N ["_law_feed_here"] (L2.defScope (top 11)) := ⟨by decide +kernel, by decide +kernel, by decide +kernel, by decide +kernel, by decide +kernel, by decide +kernel, by decide +kernel⟩
def n__law_shown : Nm := { N := ["_law_book", "_law_held", "_law_found", "_law_dot", "_law_here", "_law_step"], sc := L2.defScope (top 12), fn := fun _ => true, fs := [], cs := [], bs := [.dict, .len, .sorted], rng := true }
theorem c__law_shown : cpB n__law_shown DP.b__law_shown.body (L2.defBody (top 12)) = true := by decide +kernel
theorem s__law_shown : FnScope n__law_shown.N ["_law_book"] (L2.defScope (top 12)) := ⟨by decide +kernel, by decide +kernel, by decide +kernel, by decide +kernel, by decide +kernel, by decide +kernel, by decide +kernel⟩
def n__law_places : Nm := { N := ["_law_book", "_law_found", "_law_dot", "_law_thing", "_law_acks"], sc := L2.defScope (top 13), fn := fun _ => true, fs := [], cs := [], bs := [], rng := false }
theorem c__law_places : cpB n__law_places DP.b__law_places.body (L2.defBody (top 13)) = true := by decide +kernel
theorem s__law_places : FnScope n__law_places.N ["_law_book"] (L2.defScope (top 13)) := ⟨by decide +kernel, by decide +kernel, by decide +kernel, by decide +kernel, by decide +kernel, by decide +kernel, by decide +kernel⟩
def n__law_outline : Nm := { N := ["_law_some", "_law_place", "_law_dot", "_law_thing"], sc := L2.defScope (top 14), fn := fun _ => true, fs := ["_law_outline"], cs := [], bs := [.sorted, .tuple], rng := false }
theorem c__law_outline : cpB n__law_outline DP.b__law_outline.body (L2.defBody (top 14)) = true := by decide +kernel
theorem s__law_outline : FnScope n__law_outline.N ["_law_some", "_law_place"] (L2.defScope (top 14)) := ⟨by decide +kernel, by decide +kernel, by decide +kernel, by decide +kernel, by decide +kernel, by decide +kernel, by decide +kernel⟩
def n__law_by_others : Nm := { N := ["_law_feed_here", "_law_book", "_law_dots", "_law_left", "_law_other", "_law_dot", "_law_things", "_law_marks", "_law_rows", "_law_thing", "_law_k", "_law_acks"], sc := L2.defScope (top 15), fn := fun _ => true, fs := ["_law_next"], cs := [], bs := [.dict, .len, .sorted, .tuple], rng := true }
theorem c__law_by_others : cpB n__law_by_others DP.b__law_by_others.body (L2.defBody (top 15)) = true := by decide +kernel
theorem s__law_by_others : FnScope n__law_by_others.N ["_law_feed_here", "_law_book"] (L2.defScope (top 15)) := ⟨by decide +kernel, by decide +kernel, by decide +kernel, by decide +kernel, by decide +kernel, by decide +kernel, by decide +kernel⟩
def n__law_otherwise : Nm := { N := ["_law_feed_here", "_law_book", "_law_at", "_law_way", "_law_places_here", "_law_fresh", "_law_more", "_law_dot", "_law_thing", "_law_one", "_law_other"], sc := L2.defScope (top 16), fn := fun _ => true, fs := ["_law_next"], cs := [], bs := [.len], rng := false }
theorem c__law_otherwise : cpB n__law_otherwise DP.b__law_otherwise.body (L2.defBody (top 16)) = true := by decide +kernel
theorem s__law_otherwise : FnScope n__law_otherwise.N ["_law_feed_here", "_law_book"] (L2.defScope (top 16)) := ⟨by decide +kernel, by decide +kernel, by decide +kernel, by decide +kernel, by decide +kernel, by decide +kernel, by decide +kernel⟩
def n__law_right : Nm := { N := ["_law_book", "_law_some", "_law_place"], sc := L2.defScope (top 17), fn := fun _ => true, fs := ["_law_shown", "_law_places", "outline", "_law_outline"], cs := [], bs := [.repr], rng := false }
theorem c__law_right : cpB n__law_right DP.b__law_right.body (L2.defBody (top 17)) = true := by decide +kernel
theorem s__law_right : FnScope n__law_right.N ["_law_book"] (L2.defScope (top 17)) := ⟨by decide +kernel, by decide +kernel, by decide +kernel, by decide +kernel, by decide +kernel, by decide +kernel, by decide +kernel⟩
def n__law_chain_book : Nm := { N := ["_law_feed_here", "_law_many", "_law_dots", "_law_held", "_law_k"], sc := L2.defScope (top 18), fn := fun _ => true, fs := ["_law_next"], cs := [], bs := [.tuple], rng := true }
theorem c__law_chain_book : cpB n__law_chain_book DP.b__law_chain_book.body (L2.defBody (top 18)) = true := by decide +kernel
theorem s__law_chain_book : FnScope n__law_chain_book.N ["_law_feed_here"] (L2.defScope (top 18)) := ⟨by decide +kernel, by decide +kernel, by decide +kernel, by decide +kernel, by decide +kernel, by decide +kernel, by decide +kernel⟩
def n__law_all_right : Nm := { N := ["_law_feed_here", "_law_book", "_law_kept", "_law_others", "_law_other", "_law_dot"], sc := L2.defScope (top 19), fn := fun _ => true, fs := ["_law_right", "_law_otherwise", "_law_by_others", "outline"], cs := [], bs := [.repr], rng := false }
theorem c__law_all_right : cpB n__law_all_right DP.b__law_all_right.body (L2.defBody (top 19)) = true := by decide +kernel
theorem s__law_all_right : FnScope n__law_all_right.N ["_law_feed_here", "_law_book"] (L2.defScope (top 19)) := ⟨by decide +kernel, by decide +kernel, by decide +kernel, by decide +kernel, by decide +kernel, by decide +kernel, by decide +kernel⟩
def n_law : Nm := { N := ["_law_script", "_law_feed_here", "_law_k"], sc := L2.defScope (top 20), fn := fun _ => true, fs := ["_law_feed", "_law_all_right", "_law_any_book", "_law_next", "_law_chain_book"], cs := [], bs := [], rng := true }
theorem c_law : cpB n_law DP.b_law.body (L2.defBody (top 20)) = true := by decide +kernel
theorem s_law : FnScope n_law.N ["_law_script"] (L2.defScope (top 20)) := ⟨by decide +kernel, by decide +kernel, by decide +kernel, by decide +kernel, by decide +kernel, by decide +kernel, by decide +kernel⟩
section
variable {P : Program} {w : World} {K : PySem.W.Frag} {mg : Str → Option Value} {base : Heap} (X : K.In base) (G : base.Ns mainGlobals mg) (Y : He.SaysD fa fn K)
include X G Y
theorem glo (i : Nat) {x : Str} (h : fa[i]? = some (.glo x)) : mg x = some (.ref (He.ga K x)) := He.glo_ok X G (Y.fact i h)
theorem fre (i : Nat) {x : Str} (h : fa[i]? = some (.free x)) : mg x = none := He.free_ok X G (Y.fact i h)
theorem i_shown : CalleeK P w K mg base 1 DP.F_shown "shown" := by
    obtain ⟨fd, FD⟩ := Y.def_ 0 (d := d_shown) rfl
    exact def_G (n := n_shown) (ps := ["book"]) FD (glo X G Y 0 rfl) (fun _ _ _ _ _ _ us hl => match us, hl with | [_], _ => rfl) s_shown rfl rfl c_shown rfl rfl (.inl rfl) (fun f h => by cases f <;> first | (exact absurd h (by decide)) | exact fre X G Y 22 rfl | exact fre X G Y 23 rfl) (fun h => by cases h) (fun k d h => match k, d, h with
  | 0, _, h => by
      cases h
      obtain ⟨t, e⟩ := He.int_ok X G (Y.fact 25 rfl)
      exact ⟨_, .int (5), _, rfl, e, ⟨t, rfl⟩, fun _ _ _ _ _ => rfl⟩
  | _ + 1, _, h => by cases h) (fun i x h => by simp [n_shown] at h)
theorem i_signs_of : CalleeK P w K mg base 1 DP.F_signs_of "signs_of" := by
    obtain ⟨fd, FD⟩ := Y.def_ 1 (d := d_signs_of) rfl
    exact def_G (n := n_signs_of) (ps := ["thing", "inner"]) FD (glo X G Y 1 rfl) (fun _ _ _ _ _ _ us hl => match us, hl with | [_, _], _ => rfl) s_signs_of rfl rfl c_signs_of rfl rfl (.inl rfl) (fun f h => by cases f <;> first | (exact absurd h (by decide)) ) (fun h => by cases h) (fun k d h => by simp at h) (fun i x h => by simp [n_signs_of] at h)
theorem i_part_of : CalleeK P w K mg base 1 DP.F_part_of "part_of" := by
    obtain ⟨fd, FD⟩ := Y.def_ 2 (d := d_part_of) rfl
    exact def_G (n := n_part_of) (ps := ["thing", "inner"]) FD (glo X G Y 2 rfl) (fun _ _ _ _ _ _ us hl => match us, hl with | [_, _], _ => rfl) s_part_of rfl rfl c_part_of rfl rfl (.inl rfl) (fun f h => by cases f <;> first | (exact absurd h (by decide)) ) (fun h => by cases h) (fun k d h => by simp at h) (fun i x h => by simp [n_part_of] at h)
theorem i_outline_of : CalleeK P w K mg base 2 DP.F_outline_of "outline_of" := by
    obtain ⟨fd, FD⟩ := Y.def_ 3 (d := d_outline_of) rfl
    exact def_G (n := n_outline_of) (ps := ["things", "place"]) FD (glo X G Y 3 rfl) (fun _ _ _ _ _ _ us hl => match us, hl with | [_, _], _ => rfl) s_outline_of rfl rfl c_outline_of rfl rfl (.inl rfl) (fun f h => by cases f <;> first | (exact absurd h (by decide)) | exact fre X G Y 20 rfl | exact fre X G Y 22 rfl | exact fre X G Y 23 rfl) (fun h => fre X G Y 24 rfl) (fun k d h => by simp at h) (fun i x h => match i, x, h with
  | 0, _, h => by cases h; exact ⟨_, rfl, (i_signs_of X G Y).mono (by decide)⟩
  | 1, _, h => by cases h; exact ⟨_, rfl, (i_part_of X G Y).mono (by decide)⟩
  | _ + 2, _, h => by cases h)
theorem i_outline : CalleeK P w K mg base 3 DP.F_outline "outline" := by
    obtain ⟨fd, FD⟩ := Y.def_ 4 (d := d_outline) rfl
    exact def_G (n := n_outline) (ps := ["book", "place"]) FD (glo X G Y 4 rfl) (fun _ _ _ _ _ _ us hl => match us, hl with | [_, _], _ => rfl) s_outline rfl rfl c_outline rfl rfl (.inl rfl) (fun f h => by cases f <;> first | (exact absurd h (by decide)) ) (fun h => by cases h) (fun k d h => by simp at h) (fun i x h => match i, x, h with
  | 0, _, h => by cases h; exact ⟨_, rfl, (i_outline_of X G Y).mono (by decide)⟩
  | 1, _, h => by cases h; exact ⟨_, rfl, (i_shown X G Y).mono (by decide)⟩
  | _ + 2, _, h => by cases h)
theorem i__law_feed : CalleeK P w K mg base 1 DP.F__law_feed "_law_feed" := by
    obtain ⟨fd, FD⟩ := Y.def_ 5 (d := d__law_feed) rfl
    exact def_G (n := n__law_feed) (ps := ["_law_script"]) FD (glo X G Y 5 rfl) (fun _ _ _ _ _ _ us hl => match us, hl with | [_], _ => rfl) s__law_feed rfl rfl c__law_feed rfl rfl (.inr rfl) (fun f h => by cases f <;> first | (exact absurd h (by decide)) | exact fre X G Y 19 rfl) (fun h => by cases h) (fun k d h => by simp at h) (fun i x h => by simp [n__law_feed] at h)
theorem i__law_next : CalleeK P w K mg base 1 DP.F__law_next "_law_next" := by
    obtain ⟨fd, FD⟩ := Y.def_ 6 (d := d__law_next) rfl
    exact def_G (n := n__law_next) (ps := ["_law_feed_here", "_law_many"]) FD (glo X G Y 6 rfl) (fun _ _ _ _ _ _ us hl => match us, hl with | [_, _], _ => rfl) s__law_next rfl rfl c__law_next rfl rfl (.inl rfl) (fun f h => by cases f <;> first | (exact absurd h (by decide)) | exact fre X G Y 20 rfl) (fun h => by cases h) (fun k d h => by simp at h) (fun i x h => by simp [n__law_next] at h)
theorem i__law_any_thing : CalleeK P w K mg base 2 DP.F__law_any_thing "_law_any_thing" := by
    obtain ⟨fd, FD⟩ := Y.def_ 7 (d := d__law_any_thing) rfl
    exact def_G (n := n__law_any_thing) (ps := ["_law_feed_here", "_law_dots"]) FD (glo X G Y 7 rfl) (fun _ _ _ _ _ _ us hl => match us, hl with | [_, _], _ => rfl) s__law_any_thing rfl rfl c__law_any_thing rfl rfl (.inl rfl) (fun f h => by cases f <;> first | (exact absurd h (by decide)) | exact fre X G Y 20 rfl) (fun h => by cases h) (fun k d h => by simp at h) (fun i x h => match i, x, h with
  | 0, _, h => by cases h; exact ⟨_, rfl, (i__law_next X G Y).mono (by decide)⟩
  | _ + 1, _, h => by cases h)
theorem i__law_any_book : CalleeK P w K mg base 3 DP.F__law_any_book "_law_any_book" := by
    obtain ⟨fd, FD⟩ := Y.def_ 8 (d := d__law_any_book) rfl
    exact def_G (n := n__law_any_book) (ps := ["_law_feed_here"]) FD (glo X G Y 8 rfl) (fun _ _ _ _ _ _ us hl => match us, hl with | [_], _ => rfl) s__law_any_book rfl rfl c__law_any_book rfl rfl (.inl rfl) (fun f h => by cases f <;> first | (exact absurd h (by decide)) | exact fre X G Y 22 rfl | exact fre X G Y 23 rfl) (fun h => fre X G Y 24 rfl) (fun k d h => by simp at h) (fun i x h => match i, x, h with
  | 0, _, h => by cases h; exact ⟨_, rfl, (i__law_next X G Y).mono (by decide)⟩
  | 1, _, h => by cases h; exact ⟨_, rfl, (i__law_any_thing X G Y).mono (by decide)⟩
  | _ + 2, _, h => by cases h)
theorem i__law_shown : CalleeK P w K mg base 1 DP.F__law_shown "_law_shown" := by
    obtain ⟨fd, FD⟩ := Y.def_ 9 (d := d__law_shown) rfl
    exact def_G (n := n__law_shown) (ps := ["_law_book"]) FD (glo X G Y 9 rfl) (fun _ _ _ _ _ _ us hl => match us, hl with | [_], _ => rfl) s__law_shown rfl rfl c__law_shown rfl rfl (.inl rfl) (fun f h => by cases f <;> first | (exact absurd h (by decide)) | exact fre X G Y 18 rfl | exact fre X G Y 20 rfl | exact fre X G Y 22 rfl) (fun h => fre X G Y 24 rfl) (fun k d h => by simp at h) (fun i x h => by simp [n__law_shown] at h)
theorem i__law_places : CalleeK P w K mg base 1 DP.F__law_places "_law_places" := by
    obtain ⟨fd, FD⟩ := Y.def_ 10 (d := d__law_places) rfl
    exact def_G (n := n__law_places) (ps := ["_law_book"]) FD (glo X G Y 10 rfl) (fun _ _ _ _ _ _ us hl => match us, hl with | [_], _ => rfl) s__law_places rfl rfl c__law_places rfl rfl (.inl rfl) (fun f h => by cases f <;> first | (exact absurd h (by decide)) ) (fun h => by cases h) (fun k d h => by simp at h) (fun i x h => by simp [n__law_places] at h)
theorem r__law_outline : ∀ m : Nat, CalleeK P w K mg base (0 + m) (DP.F__law_outline m) "_law_outline"
  | 0 => by obtain ⟨fd, FD⟩ := Y.def_ 11 (d := d__law_outline) rfl; exact never_G FD (glo X G Y 11 rfl) (ps := ["_law_some", "_law_place"]) (fun _ _ _ _ _ _ us hl => match us, hl with | [_, _], _ => rfl)
  | m + 1 => by
    have ih := r__law_outline m
    obtain ⟨fd, FD⟩ := Y.def_ 11 (d := d__law_outline) rfl
    exact def_G (n := n__law_outline) (ps := ["_law_some", "_law_place"]) FD (glo X G Y 11 rfl) (fun _ _ _ _ _ _ us hl => match us, hl with | [_, _], _ => rfl) s__law_outline rfl rfl c__law_outline rfl rfl (.inl rfl) (fun f h => by cases f <;> first | (exact absurd h (by decide)) | exact fre X G Y 22 rfl | exact fre X G Y 23 rfl) (fun h => by cases h) (fun k d h => by simp at h) (fun i x h => match i, x, h with
  | 0, _, h => by cases h; exact ⟨_, rfl, ih⟩
  | _ + 1, _, h => by cases h)
theorem i__law_outline : CalleeK P w K mg base 41 (DP.F__law_outline 40) "_law_outline" := (r__law_outline X G Y 40).mono (by decide)
theorem i__law_by_others : CalleeK P w K mg base 2 DP.F__law_by_others "_law_by_others" := by
    obtain ⟨fd, FD⟩ := Y.def_ 12 (d := d__law_by_others) rfl
    exact def_G (n := n__law_by_others) (ps := ["_law_feed_here", "_law_book"]) FD (glo X G Y 12 rfl) (fun _ _ _ _ _ _ us hl => match us, hl with | [_, _], _ => rfl) s__law_by_others rfl rfl c__law_by_others rfl rfl (.inl rfl) (fun f h => by cases f <;> first | (exact absurd h (by decide)) | exact fre X G Y 18 rfl | exact fre X G Y 20 rfl | exact fre X G Y 22 rfl | exact fre X G Y 23 rfl) (fun h => fre X G Y 24 rfl) (fun k d h => by simp at h) (fun i x h => match i, x, h with
  | 0, _, h => by cases h; exact ⟨_, rfl, (i__law_next X G Y).mono (by decide)⟩
  | _ + 1, _, h => by cases h)
theorem i__law_otherwise : CalleeK P w K mg base 2 DP.F__law_otherwise "_law_otherwise" := by
    obtain ⟨fd, FD⟩ := Y.def_ 13 (d := d__law_otherwise) rfl
    exact def_G (n := n__law_otherwise) (ps := ["_law_feed_here", "_law_book"]) FD (glo X G Y 13 rfl) (fun _ _ _ _ _ _ us hl => match us, hl with | [_, _], _ => rfl) s__law_otherwise rfl rfl c__law_otherwise rfl rfl (.inl rfl) (fun f h => by cases f <;> first | (exact absurd h (by decide)) | exact fre X G Y 20 rfl) (fun h => by cases h) (fun k d h => by simp at h) (fun i x h => match i, x, h with
  | 0, _, h => by cases h; exact ⟨_, rfl, (i__law_next X G Y).mono (by decide)⟩
  | _ + 1, _, h => by cases h)
theorem i__law_right : CalleeK P w K mg base 42 DP.F__law_right "_law_right" := by
    obtain ⟨fd, FD⟩ := Y.def_ 14 (d := d__law_right) rfl
    exact def_G (n := n__law_right) (ps := ["_law_book"]) FD (glo X G Y 14 rfl) (fun _ _ _ _ _ _ us hl => match us, hl with | [_], _ => rfl) s__law_right rfl rfl c__law_right rfl rfl (.inl rfl) (fun f h => by cases f <;> first | (exact absurd h (by decide)) | exact fre X G Y 21 rfl) (fun h => by cases h) (fun k d h => by simp at h) (fun i x h => match i, x, h with
  | 0, _, h => by cases h; exact ⟨_, rfl, (i__law_shown X G Y).mono (by decide)⟩
  | 1, _, h => by cases h; exact ⟨_, rfl, (i__law_places X G Y).mono (by decide)⟩
  | 2, _, h => by cases h; exact ⟨_, rfl, (i_outline X G Y).mono (by decide)⟩
  | 3, _, h => by cases h; exact ⟨_, rfl, (i__law_outline X G Y).mono (by decide)⟩
  | _ + 4, _, h => by cases h)
theorem i__law_chain_book : CalleeK P w K mg base 2 DP.F__law_chain_book "_law_chain_book" := by
    obtain ⟨fd, FD⟩ := Y.def_ 15 (d := d__law_chain_book) rfl
    exact def_G (n := n__law_chain_book) (ps := ["_law_feed_here"]) FD (glo X G Y 15 rfl) (fun _ _ _ _ _ _ us hl => match us, hl with | [_], _ => rfl) s__law_chain_book rfl rfl c__law_chain_book rfl rfl (.inl rfl) (fun f h => by cases f <;> first | (exact absurd h (by decide)) | exact fre X G Y 23 rfl) (fun h => fre X G Y 24 rfl) (fun k d h => by simp at h) (fun i x h => match i, x, h with
  | 0, _, h => by cases h; exact ⟨_, rfl, (i__law_next X G Y).mono (by decide)⟩
  | _ + 1, _, h => by cases h)
theorem i__law_all_right : CalleeK P w K mg base 43 DP.F__law_all_right "_law_all_right" := by
    obtain ⟨fd, FD⟩ := Y.def_ 16 (d := d__law_all_right) rfl
    exact def_G (n := n__law_all_right) (ps := ["_law_feed_here", "_law_book"]) FD (glo X G Y 16 rfl) (fun _ _ _ _ _ _ us hl => match us, hl with | [_, _], _ => rfl) s__law_all_right rfl rfl c__law_all_right rfl rfl (.inl rfl) (fun f h => by cases f <;> first | (exact absurd h (by decide)) | exact fre X G Y 21 rfl) (fun h => by cases h) (fun k d h => by simp at h) (fun i x h => match i, x, h with
  | 0, _, h => by cases h; exact ⟨_, rfl, (i__law_right X G Y).mono (by decide)⟩
  | 1, _, h => by cases h; exact ⟨_, rfl, (i__law_otherwise X G Y).mono (by decide)⟩
  | 2, _, h => by cases h; exact ⟨_, rfl, (i__law_by_others X G Y).mono (by decide)⟩
  | 3, _, h => by cases h; exact ⟨_, rfl, (i_outline X G Y).mono (by decide)⟩
  | _ + 4, _, h => by cases h)
theorem i_law {fd : FuncData} (FD : FunD K "law" "law" (L2.defArgs (top 20)) (L2.defBody (top 20)) (L2.defScope (top 20)) [] [] (He.ga K "law") fd) : FnG P w K mg base 44 (He.ga K "law") fd ["_law_script"] (spD P w K DP.F_law) :=
  def_F (n := n_law) (ps := ["_law_script"]) FD s_law rfl rfl c_law rfl rfl (.inl rfl) (fun f h => by cases f <;> first | (exact absurd h (by decide)) ) (fun h => fre X G Y 24 rfl) (fun k d h => by simp at h) (fun i x h => match i, x, h with
  | 0, _, h => by cases h; exact ⟨_, rfl, (i__law_feed X G Y).mono (by decide)⟩
  | 1, _, h => by cases h; exact ⟨_, rfl, (i__law_all_right X G Y).mono (by decide)⟩
  | 2, _, h => by cases h; exact ⟨_, rfl, (i__law_any_book X G Y).mono (by decide)⟩
  | 3, _, h => by cases h; exact ⟨_, rfl, (i__law_next X G Y).mono (by decide)⟩
  | 4, _, h => by cases h; exact ⟨_, rfl, (i__law_chain_book X G Y).mono (by decide)⟩
  | _ + 5, _, h => by cases h)
end
end HH
open PySem PySem.W PySem.Calls PyProof.Rows in
theorem PySem.Challenge.cw_gonemarks_k75_outlines_holds : PySem.Challenge.rw_gonemarks_k75_outlines.Holds := by
  w_on; o_law
  refine HandSHeadRun.head_any (r := OpenLaw.row PySem.Challenge.rw_gonemarks_k75_outlines) (q := view (OpenLaw.row PySem.Challenge.rw_gonemarks_k75_outlines).prog [20]) (H := HH.hk) (ob := HH.ob) (M := 1500) (loose := HH.loose) (d := HandSHeadRun.topDef (OpenLaw.row PySem.Challenge.rw_gonemarks_k75_outlines).prog 20) (kwd := []) HH.ob_eq
    (by kernel_rfl) (fun s => by kernel_rfl) HH.run (by kernel_rfl) (by kernel_rfl) (by kernel_rfl) (by rfl) (by first | assumption | decide +kernel) (by decide +kernel) ⟨rfl, rfl, rfl, rfl, rfl, by decide +kernel⟩ ?hw ?hc
  case hw => w_witness2
  case hc =>
    refine DP.walk_G (f := DP.F_law) (k := 44) (x := "_law_script") (n := 63) (by rfl) (by decide) (by rfl) ⟨by rfl, by decide, by decide⟩ DP.law_true ?_
    rintro w mg fa h ⟨K, inK, Y⟩ G hm
    have e := (HH.glo inK G Y 17 rfl).symm.trans hm
    cases e
    obtain ⟨fd, FD⟩ := Y.def_ 17 (d := HH.d_law) rfl
    exact ⟨K, fd, inK, fun s u => DP.bind_F FD (ps := ["_law_script"]) (fun _ _ _ _ _ _ us hl => match us, hl with | [_], _ => rfl) s [u] rfl, fun base X G => HH.i_law X G Y FD⟩
