import PyProof.Rows.All
import HandS.ForMost
import HandS.ForExc
import HandS.Walk
import HandS.Deep
import HandS.IsInst
import HandS.CallSlots
import HandS.Lambda
import HandS.Conv
import HandS.More
import HandS.Style
import HandS.StrMore
import HandS.TupAny
import HandS.ExcOwn
import HandS.WordsExc
import PyProof.Rows.SortShellAny
import PyProof.CollectStr
import HandS.Strs
import HandS.RaiseMore
import KE.GoesEnum
import HandS.NoneIn
import HandS.Small
import HandS.ExcIs
import HandS.TryMany
import HandS.Defaults
import HandS.Head0
import HandS.Head1
import HandS.Head2
import HandS.HeadHook1
import HandS.HeadHook2
import HandS.HeadHook3
import HandS.HeadHook4
import HandS.HeadWalk
import PyProof.ExcBaseAll.ValueError
import PySem.Challenge.RW_loopsapart_k01_rows_free_pairs_and_error
import Wide.All
import OpenK.AllK
import Wide.FinOn
import KE.KStateDown
import HandS.HeadEnd
set_option Elab.async false
set_option linter.all false
set_option maxRecDepth 100000
set_option autoImplicit false
/-! E0: data as trees, a small language over slots, its evaluator (plain Lean). -/
namespace Ev

/-- data, as trees -/
inductive D where
  | non | bl (b : Bool) | int (i : Int) | str (s : List Nat)
  | tup (xs : List D) | lst (xs : List D) | dic (kvs : List (D × D)) | scr (ns : List Int) | ktp (xs : List D)
  deriving Inhabited

/-- the longest text or list -/
abbrev szL : Nat := 16777216

mutual
/-- == -/
def D.eqv : D → D → Bool
  | .non, .non => true
  | .bl a, .bl b => a == b
  | .bl a, .int j => (if a then 1 else 0) == j
  | .int i, .bl b => i == (if b then 1 else 0)
  | .int i, .int j => i == j
  | .str x, .str y => x == y
  | .lst xs, .lst ys => D.eqvs xs ys
  | .tup xs, .tup ys => D.eqvs xs ys
  | _, _ => false
  termination_by structural d => d
def D.eqvs : List D → List D → Bool
  | [], [] => true
  | x :: xs, y :: ys => D.eqv x y && D.eqvs xs ys
  | _, _ => false
  termination_by structural d => d
end
mutual
/-- how deep -/
def D.dep : D → Nat
  | .tup xs => D.deps xs + 1
  | .lst xs => D.deps xs + 1
  | _ => 0
  termination_by structural d => d
def D.deps : List D → Nat
  | [] => 0
  | x :: xs => max (D.dep x) (D.deps xs)
  termination_by structural d => d
end
mutual
/-- no dict within -/
def D.nod : D → Bool
  | .tup xs => D.nods xs
  | .lst xs => D.nods xs
  | .dic _ => false
  | .scr _ => false
  | .ktp _ => false
  | _ => true
  termination_by structural d => d
def D.nods : List D → Bool
  | [] => true
  | x :: xs => D.nod x && D.nods xs
  termination_by structural d => d
end

def D.isDic : D → Bool
  | .dic _ => true
  | _ => false
/-- what may be a key: an int, a text -/
def D.isKey : D → Bool
  | .int _ => true
  | .str _ => true
  | _ => false
/-- .. or a tuple of such -/
def D.isTKey : D → Bool
  | .tup xs => xs.all D.isKey
  | _ => false

def ltL : List Nat → List Nat → Bool
  | [], [] => false
  | [], _ :: _ => true
  | _ :: _, [] => false
  | x :: xs, y :: ys => Nat.blt x y || (x == y && ltL xs ys)

def insL (x : List Nat) : List (List Nat) → List (List Nat)
  | [] => [x]
  | y :: ys => if ltL y x then y :: insL x ys else x :: y :: ys
def sortL : List (List Nat) → List (List Nat)
  | [] => []
  | x :: xs => insL x (sortL xs)
/-- the different ones, by their first place -/
def dedupL : List (List Nat) → List (List Nat) → List (List Nat)
  | _, [] => []
  | seen, x :: xs => if seen.contains x then dedupL seen xs else x :: dedupL (x :: seen) xs

structure Exc where
  cls : Nat
  val : D := .non

inductive SV where
  | fz (d : D) | ow (d : D)
  deriving Inhabited
abbrev Env := List (Option SV)

inductive Out (α : Type) where
  | ok (a : α) (ρ : Env) | ex (x : Exc) (ρ : Env) | no

@[inline] def Out.bind {α β : Type} : Out α → (α → Env → Out β) → Out β
  | .ok a ρ, f => f a ρ
  | .ex x ρ, _ => .ex x ρ
  | .no, _ => .no

/-- a value: frozen data, something new, or what a slot owns -/
inductive VR where
  | im (d : D) | fr (d : D) | sl (i : Nat)

/-- a function's result: is it new, what, and what its first argument holds now; an exception; nothing is said -/
inductive FR where
  | ok (fresh : Bool) (d : D) (s : D) | ex (x : Exc) (s : D) | no
structure FSem where
  mu : Bool
  run : List D → FR

inductive BOp where
  | add | sub | mul | fdiv | mod | pow
inductive COp where
  | eq | ne | lt | le | gt | ge | mem | nmem
inductive BF where
  | len | abs | int | bool | str | max1 | min2 | sum | all | any | sorted | sortset | lenset | list | tuple | dict | emptyset
inductive MF where
  | join | find | startswith | get2 | sindex | lindex
inductive Ty where
  | int | bool | str | tuple | list
inductive IK where
  | val | range1 | range2 | range3 | enum | zip

inductive Tgt where
  | nm (i : Nat) | tp (ts : List Nat) | tp2 (i : Nat) (ts : List Nat)

mutual
inductive ME where
  | cst (d : D)
  | glo (g : Nat)
  | var (i : Nat)
  | bin (o : BOp) (a b : ME)
  | neg (a : ME)
  | cmp (o : COp) (a b : ME)
  | isn (a : ME) | notn (a : ME)
  | chain (o1 o2 : COp) (a b c : ME)
  | and (a b : ME) | or (a b : ME) | not (a : ME)
  | ite (c a b : ME)
  | tup (as : MEs) | lst (as : MEs) | dct (ks vs : MEs)
  | idx (a b : ME)
  | slc (a lo hi : ME) | slcL (a lo : ME) | slcH (a hi : ME) | rev (a : ME)
  | call (f : Nat) (as : MEs)
  | callm (f i : Nat) (as : MEs)
  | blt (b : BF) (as : MEs)
  | meth (m : MF) (o : ME) (as : MEs)
  | pop (i : Nat)
  | gmem (g : Nat) (a : ME) (neg : Bool) | gidx (g : Nat) (a : ME)
  | isin (a : ME) (t : Ty)
  | comp (elt : ME) (tg : Tgt) (k : IK) (its : MEs) (cond : ME) (own : List Nat)
  | comp2 (elt : ME) (tg : Tgt) (k : IK) (its : MEs) (cond : ME) (tg2 : Tgt) (k2 : IK) (its2 : MEs) (cond2 : ME) (own : List Nat)
  | lam (f : Nat) (body : ME)
inductive MEs where
  | nil | cons (a : ME) (r : MEs)
end

/-- what an except suite does: return a value, or one of two by whether the error is of a class -/
inductive HB where
  | ret (d : D) | retIs (c : Nat) (d1 d2 : D)

mutual
inductive MS where
  | pass | brk | cont
  | expr (e : ME)
  | ret (e : ME) | retN
  | asg (t : Tgt) (e : ME)
  | par (i j : Nat) (a b : ME)
  | setidx (i : Nat) (k v : ME)
  | append (i : Nat) (e : ME)
  | ifs (c : ME) (a b : MSs)
  | fors (t : Tgt) (k : IK) (its : MEs) (body : MSs)
  | forkeys (t : Tgt) (e : ME) (body : MSs)
  | whl (c : ME) (body : MSs)
  | raise (c : Nat) | raiseV (c : Nat) (e : ME)
  | tryx (body : MSs) (hs : List (Nat × HB))
inductive MSs where
  | nil | cons (a : MS) (r : MSs)
end

/-- the tables of an evaluation: functions, functions that call a lambda, globals, subclasses, is slot 0 locked -/
structure EC where
  Φ : Nat → Option FSem
  Λ : Nat → Option (Option D × List (Nat × HB))
  Γ : Nat → Option D
  sub : Nat → Nat → Bool
  lk : Bool

inductive PK where
  | hit (d : D) | miss | bad
/-- what the except clauses make of an error -/
def pick (sub : Nat → Nat → Bool) (x : Exc) : List (Nat × HB) → PK
  | [] => .miss
  | (c, h) :: r => if sub x.cls c then match h with
      | .ret d => .hit d
      | .retIs c' d1 d2 => match x.val with
        | .non => .hit (if sub x.cls c' then d1 else d2)
        | _ => .bad
    else pick sub x r
def slotAt (ρ : Env) (i : Nat) : Option SV := (ρ[i]?).getD none
def ownAt (ρ : Env) (i : Nat) : Option D := match slotAt ρ i with
  | some (.ow d) => some d
  | _ => none
/-- what stands in a slot, owned or frozen -/
def anyAt (ρ : Env) (i : Nat) : Option D := match slotAt ρ i with
  | some (.ow d) => some d
  | some (.fz d) => some d
  | none => none
/-- what a value holds at a state -/
def VR.look (ρ : Env) : VR → Option D
  | .im d => some d
  | .fr d => some d
  | .sl i => anyAt ρ i

section
variable (C : EC)
/-- a value is frozen -/
def frz (r : VR) (ρ : Env) : Out D := match r with
  | .im d => .ok d ρ
  | .fr d => .ok d ρ
  | .sl i => if C.lk && i == 0 then .no else match slotAt ρ i with
    | some (.ow d) => .ok d (ρ.set i (some (.fz d)))
    | some (.fz d) => .ok d ρ
    | none => .no
def lookO (r : VR) (ρ : Env) : Out D := match r.look ρ with
  | some d => .ok d ρ
  | none => .no
/-- slot i is to be written: not the locked one, and there is such a slot -/
def wr (ρ : Env) (i : Nat) : Bool := !(C.lk && i == 0) && decide (i < ρ.length)

/- (bounds by Nat.blt, that the kernel does not unfold on open numbers) -/
def small64 (i : Int) : Bool := Nat.blt i.natAbs 18446744073709551616
def leSz (i : Int) : Bool := Nat.ble i.toNat szL
def rep {α : Type} (n : Nat) (xs : List α) : List α := (List.replicate n xs).flatten
def bop : BOp → D → D → Option VR
  | .add, .int i, .int j => some (.im (.int (i + j)))
  | .add, .str s, .str t => if s.length + t.length ≤ szL then some (.im (.str (s ++ t))) else none
  | .add, .lst xs, .lst ys => if xs.length + ys.length ≤ szL then some (.fr (.lst (xs ++ ys))) else none
  | .add, .tup xs, .tup ys => if xs.length + ys.length ≤ szL then some (.im (.tup (xs ++ ys))) else none
  | .sub, .int i, .int j => some (.im (.int (i - j)))
  | .mul, .int i, .int j => if small64 i || small64 j then some (.im (.int (i * j))) else none
  | .mul, .str s, .int j => if 0 ≤ j ∧ j ≤ 1000 ∧ s.length ≤ 1000 then some (.im (.str (rep j.toNat s))) else none
  | .mul, .lst xs, .int j => if 0 ≤ j ∧ j ≤ 1000 ∧ xs.length ≤ 1000 then some (.fr (.lst (rep j.toNat xs))) else none
  | .fdiv, .int i, .int j => if j ≠ 0 ∧ j.natAbs < 1073741824 then some (.im (.int (i.fdiv j))) else none
  | .mod, .int i, .int j => if j ≠ 0 then some (.im (.int (i.fmod j))) else none
  | .pow, .int i, .int j => if 0 ≤ j ∧ j ≤ 1000000 ∧ i.natAbs < 2 ^ 64 then some (.im (.int (i ^ j.toNat))) else none
  | _, _, _ => none

def D.len : D → Option Nat
  | .str s => some s.length
  | .lst xs => some xs.length
  | .tup xs => some xs.length
  | .scr ns => some ns.length
  | .ktp xs => some xs.length
  | _ => none
def lookK (ps : List (D × D)) (k : D) : Option D := (ps.find? fun p => D.eqv p.1 k).map (·.2)
def putK (k v : D) (ps : List (D × D)) : List (D × D) :=
  if ps.any (fun p => D.eqv p.1 k) then ps.map fun p => if D.eqv p.1 k then (p.1, v) else p else ps ++ [(k, v)]
/-- may k be asked of a dict with these keys -/
def keyFits (ps : List (D × D)) (k : D) : Bool := match ps with
  | [] => k.isKey || k.isTKey
  | p :: _ => (p.1.isKey && k.isKey) || (p.1.isTKey && k.isTKey)
def memD (x : D) : List D → Bool
  | [] => false
  | y :: ys => D.eqv y x || memD x ys
/-- in -/
def isIn (x : D) : D → Option Bool
  | .str s => match x with
    | .str [c] => some (s.contains c)
    | _ => none
  | .lst ys => if x.nod && D.nods ys && (Nat.ble x.dep 60 || Nat.ble (D.deps ys) 60) then some (memD x ys) else none
  | .tup ys => if x.nod && D.nods ys && (Nat.ble x.dep 60 || Nat.ble (D.deps ys) 60) then some (memD x ys) else none
  | .dic ps => if keyFits ps x then some (lookK ps x).isSome else none
  | _ => none
def eqO (x y : D) : Option Bool :=
  if x.nod && y.nod && (Nat.ble x.dep 60 || Nat.ble y.dep 60) then some (D.eqv x y) else match x, y with
    | .dic ps, .dic [] => if ps.all (·.1.isKey) then some ps.isEmpty else none
    | _, _ => none
def cop : COp → D → D → Option Bool
  | .eq, x, y => eqO x y
  | .ne, x, y => (eqO x y).map (!·)
  | .lt, .int i, .int j => some (decide (i < j))
  | .le, .int i, .int j => some (decide (i ≤ j))
  | .gt, .int i, .int j => some (decide (j < i))
  | .ge, .int i, .int j => some (decide (j ≤ i))
  | .lt, .str i, .str j => some (ltL i j)
  | .gt, .str i, .str j => some (ltL j i)
  | .le, .str i, .str j => some (!ltL j i)
  | .ge, .str i, .str j => some (!ltL i j)
  | .mem, x, y => isIn x y
  | .nmem, x, y => (isIn x y).map (!·)
  | _, _, _ => none

def ixN (n : Nat) (i : Int) : Option Nat := if 0 ≤ i then (if i < n then some i.toNat else none) else if -(n : Int) ≤ i then some (i + n).toNat else none
def atI {α : Type} (xs : List α) (i : Int) : Option α := (ixN xs.length i).bind fun j => xs[j]?
def idxD : D → D → Option D
  | .lst xs, .int i => atI xs i
  | .tup xs, .int i => atI xs i
  | .str s, .int i => (atI s i).map fun c => .str [c]
  | .dic ps, k => if keyFits ps k then lookK ps k else none
  | .scr ns, .int i => (atI ns i).map .int
  | _, _ => none
def sIx (n d : Nat) : Option Int → Nat
  | none => d
  | some v => if v < 0 then (v + (n : Int)).toNat else min v.toNat n
def cut {α : Type} (xs : List α) (lo hi : Option Int) : List α :=
  (xs.drop (sIx xs.length 0 lo)).take (sIx xs.length xs.length hi - sIx xs.length 0 lo)
def slcD (x : D) (l h : Option Int) : Option VR := match x with
  | .str s => some (.im (.str (cut s l h)))
  | .tup xs => some (.im (.tup (cut xs l h)))
  | .lst xs => some (.fr (.lst (cut xs l h)))
  | _ => none
def revD : D → Option VR
  | .str s => some (.im (.str s.reverse))
  | .tup xs => some (.im (.tup xs.reverse))
  | .lst xs => some (.fr (.lst xs.reverse))
  | _ => none

def intsO : List D → Option (List Int)
  | [] => some []
  | .int i :: r => (intsO r).map (i :: ·)
  | _ => none
def strsO : List D → Option (List (List Nat))
  | [] => some []
  | .str i :: r => (strsO r).map (i :: ·)
  | _ => none
def boolsO : List D → Option (List Bool)
  | [] => some []
  | .bl i :: r => (boolsO r).map (i :: ·)
  | _ => none
def maxI (m : Int) : List Int → Int
  | [] => m
  | x :: r => maxI (if x > m then x else m) r
def sumI : List Int → Int
  | [] => 0
  | x :: r => x + sumI r
def allB : List Bool → Bool
  | [] => true
  | b :: r => b && allB r
def anyB : List Bool → Bool
  | [] => false
  | b :: r => b || anyB r
def joinL (sep : List Nat) : List (List Nat) → List Nat
  | [] => []
  | [x] => x
  | x :: r => x ++ sep ++ joinL sep r
def sumN : List (List Nat) → Nat
  | [] => 0
  | x :: r => x.length + sumN r
def chars (s : List Nat) : List D := s.map fun c => .str [c]
/-- the things that a walk gives -/
def itemsOf : D → Option (List D)
  | .lst xs => some xs
  | .tup xs => some xs
  | .ktp xs => some xs
  | .str s => some (chars s)
  | _ => none
def charsL (s : List Nat) : List (List Nat) := s.map fun c => [c]
/-- the texts of a list, a text's signs, a dict's keys -/
def strsOf : D → Option (List (List Nat))
  | .lst xs => strsO xs
  | .str s => some (charsL s)
  | .dic ps => if Nat.ble ps.length szL then strsO (ps.map (·.1)) else none
  | _ => none
/-- what a set is made of here -/
def strsS : D → Option (List (List Nat))
  | .lst xs => strsO xs
  | .str s => some (charsL s)
  | _ => none
def digits : Nat → Nat → List Nat → List Nat
  | 0, _, acc => acc
  | f + 1, n, acc => if n < 10 then (48 + n) :: acc else digits f (n / 10) ((48 + n % 10) :: acc)
def natS (n : Nat) : List Nat := digits (n + 1) n []
def intS (i : Int) : List Nat := if i < 0 then 45 :: natS i.natAbs else natS i.natAbs
mutual
/-- repr, of intsO, plain texts, tuples, lists -/
def reprD : D → Option (List Nat)
  | .non => some [78, 111, 110, 101]
  | .bl true => some [84, 114, 117, 101]
  | .bl false => some [70, 97, 108, 115, 101]
  | .int i => some (intS i)
  | .str s => if s.all (fun c => Nat.blt 31 c && Nat.blt c 127 && c != 39 && c != 92) then some (39 :: s ++ [39]) else none
  | .tup [] => some [40, 41]
  | .tup [x] => (reprD x).map fun r => 40 :: r ++ [44, 41]
  | .tup (x :: xs) => (reprD x).bind fun r => (reprDs xs).map fun q => 40 :: r ++ q ++ [41]
  | .lst [] => some [91, 93]
  | .lst (x :: xs) => (reprD x).bind fun r => (reprDs xs).map fun q => 91 :: r ++ q ++ [93]
  | .dic _ => none
  | .scr _ => none
  | .ktp _ => none
  termination_by structural d => d
def reprDs : List D → Option (List Nat)
  | [] => some []
  | x :: xs => (reprD x).bind fun r => (reprDs xs).map fun q => 44 :: 32 :: r ++ q
  termination_by structural d => d
end
def strD : D → Option (List Nat)
  | .str s => some s
  | d => reprD d
def pairsOf : List D → Option (List (D × D))
  | [] => some []
  | .tup [k, v] :: r => (pairsOf r).map ((k, v) :: ·)
  | _ => none
def mergeD (acc : List (D × D)) : List (D × D) → List (D × D)
  | [] => acc
  | p :: r => mergeD (putK p.1 p.2 acc) r
def natsFrom (lo : Int) : Nat → List D
  | 0 => []
  | n + 1 => .int lo :: natsFrom (lo + 1) n
def stepsFrom (lo c : Int) : Nat → List D
  | 0 => []
  | n + 1 => .int lo :: stepsFrom (lo + c) c n

def bfn : BF → List D → Option VR
  | .len, [x] => x.len.map fun n => .im (.int n)
  | .abs, [.int i] => some (.im (.int (if i < 0 then -i else i)))
  | .int, [.int i] => some (.im (.int i))
  | .bool, [.bl b] => some (.im (.bl b))
  | .str, [.str s] => some (.im (.str s))
  | .max1, [.lst xs] => match intsO xs with
    | some (m :: r) => some (.im (.int (maxI m r)))
    | _ => none
  | .min2, [.int i, .int j] => some (.im (.int (if j < i then j else i)))
  | .sum, [.lst xs] => (intsO xs).map fun l => .im (.int (sumI l))
  | .all, [.lst xs] => (boolsO xs).map fun l => .im (.bl (allB l))
  | .any, [.lst xs] => (boolsO xs).map fun l => .im (.bl (anyB l))
  | .sorted, [x] => (strsOf x).map fun l => .fr (.lst ((sortL l).map .str))
  | .sortset, [x] => (strsS x).bind fun l => if Nat.blt (l.length + 1) 4096 then some (.fr (.lst ((sortL (dedupL [] l)).map .str))) else none
  | .lenset, [x] => (strsOf x).map fun l => .im (.int (dedupL [] l).length)
  | .list, [.lst xs] => some (.fr (.lst xs))
  | .list, [.tup xs] => some (.fr (.lst xs))
  | .list, [.str s] => some (.fr (.lst (chars s)))
  | .list, [.dic ps] => if ps.all (·.1.isKey) then some (.fr (.lst (ps.map (·.1)))) else none
  | .tuple, [.lst xs] => some (.im (.tup xs))
  | .tuple, [.tup xs] => some (.im (.tup xs))
  | .dict, [.lst xs] => match pairsOf xs with
    | some ps => if ps.all (·.1.isKey) then some (.fr (.dic (mergeD [] ps))) else none
    | none => none
  | _, _ => none

def idxOf (x : D) : Nat → List D → Option Nat
  | _, [] => none
  | n, y :: ys => if D.eqv y x then some n else idxOf x (n + 1) ys
def findC (c : Nat) : Nat → List Nat → Option Nat
  | _, [] => none
  | n, y :: ys => if y == c then some n else findC c (n + 1) ys
def pre : List Nat → List Nat → Bool
  | [], _ => true
  | _ :: _, [] => false
  | x :: xs, y :: ys => x == y && pre xs ys
def mfn : MF → D → List D → Option VR
  | .join, .str sep, [x] => match x with
    | .lst xs => (strsO xs).bind fun l => if sumN l + l.length * sep.length ≤ szL then some (.im (.str (joinL sep l))) else none
    | .tup xs => (strsO xs).bind fun l => if sumN l + l.length * sep.length ≤ szL then some (.im (.str (joinL sep l))) else none
    | _ => none
  | .find, .str s, [.str [c]] => some (.im (.int (match findC c 0 s with | some n => (n : Int) | none => -1)))
  | .startswith, .str s, [.str t] => some (.im (.bl (pre t s)))
  | .get2, .dic ps, [k, x] => if keyFits ps k then some (.im ((lookK ps k).getD x)) else none
  | .sindex, .str s, [.str [c]] => (findC c 0 s).map fun n => .im (.int (n : Int))
  | .lindex, .lst xs, [x] => if x.nod && D.nods xs && Nat.ble x.dep 60 && Nat.ble (D.deps xs) 60 then (idxOf x 0 xs).map fun n => .im (.int (n : Int)) else none
  | _, _, _ => none

def D.flat1 : D → Bool
  | .dic _ => false
  | .scr _ => false
  | .ktp _ => false
  | _ => true
def mkind : MF → D → Bool
  | .get2, .dic _ => true
  | .lindex, .lst _ => true
  | .join, .str _ => true
  | .find, .str _ => true
  | .startswith, .str _ => true
  | .sindex, .str _ => true
  | _, _ => false
def tyIs : D → Ty → Bool
  | .bl _, .bool => true
  | .bl _, .int => true
  | .int _, .int => true
  | .str _, .str => true
  | .tup _, .tuple => true
  | .lst _, .list => true
  | _, _ => false

def pairUp : List D → List D → List D
  | x :: xs, y :: ys => .tup [x, y] :: pairUp xs ys
  | _, _ => []
def enumFrom (n : Int) : List D → List D
  | [] => []
  | x :: xs => .tup [.int n, x] :: enumFrom (n + 1) xs
def small62 (i : Int) : Bool := Nat.blt i.natAbs 4611686018427387904
def walkOf : IK → List D → Option (List D)
  | .val, [x] => itemsOf x
  | .range1, [.int j] => if small62 j && leSz j then some (natsFrom 0 j.toNat) else none
  | .range2, [.int i, .int j] => if small62 i && small62 j && leSz (j - i) then some (natsFrom i (j - i).toNat) else none
  | .range3, [.int i, .int j, .int k] => if small62 i && small62 j && k == -1 && leSz (i - j) then some (stepsFrom i (-1) (i - j).toNat) else none
  | .enum, [x] => (itemsOf x).map (enumFrom 0)
  | .zip, [x, y] => (itemsOf x).bind fun l => (itemsOf y).map fun l' => pairUp l l'
  | _, _ => none

/-- frozen data into slots -/
def setNm (i : Nat) (d : D) (ρ : Env) : Option Env := if wr C ρ i then some (ρ.set i (some (.fz d))) else none
def setNms : List Nat → List D → Env → Option Env
  | [], [], ρ => some ρ
  | i :: is, d :: ds, ρ => (setNm C i d ρ).bind (setNms is ds)
  | _, _, _ => none
def seqOf : D → Option (List D)
  | .tup xs => some xs
  | .lst xs => some xs
  | _ => none
def setT : Tgt → D → Env → Option Env
  | .nm i, d, ρ => setNm C i d ρ
  | .tp is, .tup ds, ρ => setNms C is ds ρ
  | .tp is, .lst ds, ρ => setNms C is ds ρ
  | .tp2 i is, .tup [x, .tup ds], ρ => (setNm C i x ρ).bind (setNms C is ds)
  | _, _, _ => none
/-- a value into a target: what is new, or a slot's own, is owned by the name -/
def setV (t : Tgt) (r : VR) (ρ : Env) : Option Env := match t, r with
  | .nm i, .fr d => if wr C ρ i then some (ρ.set i (some (.ow d))) else none
  | t, .fr d => setT C t d ρ
  | t, .im d => setT C t d ρ
  | t, .sl j => match frz C (.sl j) ρ with
    | .ok d ρ' => setT C t d ρ'
    | _ => none

def wipeE (ρ : Env) : List Nat → Env
  | [] => ρ
  | v :: vs => (wipeE ρ vs).set v none
def backE (ρ ρ' : Env) : List Nat → Env
  | [] => ρ'
  | v :: vs => (backE ρ ρ' vs).set v ((ρ[v]?).getD none)

def ofO (o : Option VR) (ρ : Env) : Out VR := match o with
  | some r => .ok r ρ
  | none => .no
def boolO (o : Option Bool) (ρ : Env) : Out VR := match o with
  | some b => .ok (.im (.bl b)) ρ
  | none => .no
/-- a truth -/
def asB (r : VR) (ρ : Env) : Out Bool := match r with
  | .im (.bl b) => .ok b ρ
  | _ => .no

def tgVars : Tgt → List Nat
  | .nm i => [i]
  | .tp ts => ts
  | .tp2 i ts => i :: ts
/-- each turn starts with the block's own names unset -/
def compLoop (own : List Nat) (tg : Tgt) (cond : Env → Out Bool) (elt : Env → Out D) : List D → Env → List D → Out (List D)
  | [], ρ, acc => .ok acc.reverse ρ
  | d :: ds, ρ, acc => match setT C tg d ρ with
    | none => .no
    | some ρ1 => (cond ρ1).bind fun b ρ2 => if b then (elt ρ2).bind fun x ρ3 => compLoop own tg cond elt ds (wipeE ρ3 own) (x :: acc) else compLoop own tg cond elt ds (wipeE ρ2 own) acc
/-- the inner loop of a comprehension with two fors -/
def compIn (tg : Tgt) (cond : Env → Out Bool) (elt : Env → Out D) : List D → Env → List D → Out (List D)
  | [], ρ, acc => .ok acc ρ
  | d :: ds, ρ, acc => match setT C tg d ρ with
    | none => .no
    | some ρ1 => (cond ρ1).bind fun b ρ2 => if b then if Nat.blt acc.length szL then (elt ρ2).bind fun x ρ3 => compIn tg cond elt ds (wipeE ρ3 (tgVars tg)) (x :: acc) else .no else compIn tg cond elt ds (wipeE ρ2 (tgVars tg)) acc
def compOut (own : List Nat) (tg : Tgt) (cond : Env → Out Bool) (inner : Env → List D → Out (List D)) : List D → Env → List D → Out (List D)
  | [], ρ, acc => .ok acc.reverse ρ
  | d :: ds, ρ, acc => match setT C tg d ρ with
    | none => .no
    | some ρ1 => (cond ρ1).bind fun b ρ2 => if b then (inner ρ2 acc).bind fun acc' ρ3 => compOut own tg cond inner ds (wipeE ρ3 own) acc' else compOut own tg cond inner ds (wipeE ρ2 own) acc

/-- nothing but an end without an exception -/
def noEx {α : Type} : Out α → Out α
  | .ex _ _ => .no
  | o => o

def callF (S : FSem) (ds : List D) (ρ : Env) : Out VR := if S.mu then .no else match S.run ds with
  | .ok f d _ => .ok (if f then .fr d else .im d) ρ
  | .ex x _ => .ex x ρ
  | .no => .no
def callM (S : FSem) (i : Nat) (ds : List D) (ρ : Env) : Out VR := if S.mu then match ownAt ρ i with
    | some d0 => match S.run (d0 :: ds) with
      | .ok f d s => .ok (if f then .fr d else .im d) (ρ.set i (some (.ow s)))
      | .ex x s => .ex x (ρ.set i (some (.ow s)))
      | .no => .no
    | none => .no
  else .no

def looks (ρ : Env) : List VR → Option (List D)
  | [] => some []
  | r :: rs => (r.look ρ).bind fun d => (looks ρ rs).map (d :: ·)
mutual
def ev : ME → Env → Out VR
  | .cst d, ρ => .ok (.im d) ρ
  | .glo g, ρ => match C.Γ g with
    | some d => if d.isDic then .no else .ok (.im d) ρ
    | none => .no
  | .var i, ρ => match slotAt ρ i with
    | some (.fz d) => .ok (.im d) ρ
    | some (.ow _) => .ok (.sl i) ρ
    | none => .no
  | .bin o a b, ρ => (ev a ρ).bind fun ra ρ1 => (ev b ρ1).bind fun rb ρ2 => match ra.look ρ2, rb.look ρ2 with
    | some x, some y => ofO (bop o x y) ρ2
    | _, _ => .no
  | .neg a, ρ => (ev a ρ).bind fun ra ρ1 => match ra with
    | .im (.int i) => .ok (.im (.int (-i))) ρ1
    | _ => .no
  | .cmp o a b, ρ => (ev a ρ).bind fun ra ρ1 => (ev b ρ1).bind fun rb ρ2 => match ra.look ρ2, rb.look ρ2 with
    | some x, some y => boolO (cop o x y) ρ2
    | _, _ => .no
  | .isn a, ρ => (ev a ρ).bind fun ra ρ1 => match ra with
    | .im .non => .ok (.im (.bl true)) ρ1
    | _ => .ok (.im (.bl false)) ρ1
  | .notn a, ρ => (ev a ρ).bind fun ra ρ1 => match ra with
    | .im .non => .ok (.im (.bl false)) ρ1
    | _ => .ok (.im (.bl true)) ρ1
  | .chain o1 o2 a b c, ρ => (ev a ρ).bind fun ra ρ1 => (ev b ρ1).bind fun rb ρ2 => match ra.look ρ2, rb with
    | some x, .im y => match cop o1 x y with
      | some true => (ev c ρ2).bind fun rc ρ3 => match rc.look ρ3 with
        | some z => boolO (cop o2 y z) ρ3
        | none => .no
      | some false => .ok (.im (.bl false)) ρ2
      | none => .no
    | _, _ => .no
  | .and a b, ρ => ((ev a ρ).bind asB).bind fun t ρ1 => if t then ev b ρ1 else .ok (.im (.bl false)) ρ1
  | .or a b, ρ => ((ev a ρ).bind asB).bind fun t ρ1 => if t then .ok (.im (.bl true)) ρ1 else ev b ρ1
  | .not a, ρ => ((ev a ρ).bind asB).bind fun t ρ1 => .ok (.im (.bl (!t))) ρ1
  | .ite c a b, ρ => ((ev c ρ).bind asB).bind fun t ρ1 => if t then ev a ρ1 else ev b ρ1
  | .tup as, ρ => (evs as ρ).bind fun ds ρ1 => if ds.length ≤ szL then .ok (.im (.tup ds)) ρ1 else .no
  | .lst as, ρ => (evs as ρ).bind fun ds ρ1 => if ds.length ≤ szL then .ok (.fr (.lst ds)) ρ1 else .no
  | .dct ks vs, ρ => (evs ks ρ).bind fun kd ρ1 => (evs vs ρ1).bind fun vd ρ2 => match kd, vd with
    | [], [] => .ok (.fr (.dic [])) ρ2
    | [k], [v] => if k.isKey then .ok (.fr (.dic [(k, v)])) ρ2 else .no
    | _, _ => .no
  | .idx a b, ρ => (ev a ρ).bind fun ra ρ1 => (ev b ρ1).bind fun rb ρ2 => match ra.look ρ2, rb.look ρ2 with
    | some x, some y => match idxD x y with
      | some d => .ok (.im d) ρ2
      | none => .no
    | _, _ => .no
  | .slc a lo hi, ρ => (ev a ρ).bind fun ra ρ1 => (ev lo ρ1).bind fun rl ρ2 => match rl with
    | .im (.int l) => (ev hi ρ2).bind fun rh ρ3 => match ra.look ρ3, rh with
      | some x, .im (.int h) => ofO (slcD x (some l) (some h)) ρ3
      | _, _ => .no
    | _ => .no
  | .slcL a lo, ρ => (ev a ρ).bind fun ra ρ1 => (ev lo ρ1).bind fun rl ρ2 => match ra.look ρ2, rl with
    | some x, .im (.int l) => ofO (slcD x (some l) none) ρ2
    | _, _ => .no
  | .slcH a hi, ρ => (ev a ρ).bind fun ra ρ1 => (ev hi ρ1).bind fun rh ρ2 => match ra.look ρ2, rh with
    | some x, .im (.int h) => ofO (slcD x none (some h)) ρ2
    | _, _ => .no
  | .rev a, ρ => (ev a ρ).bind fun ra ρ1 => match ra.look ρ1 with
    | some x => ofO (revD x) ρ1
    | none => .no
  | .call f as, ρ => match C.Φ f with
    | none => .no
    | some S => (evs as ρ).bind fun ds ρ1 => callF S ds ρ1
  | .callm f i as, ρ => match C.Φ f with
    | none => .no
    | some S => match ownAt ρ i with
      | some _ => (evs as ρ).bind fun ds ρ1 => callM S i ds ρ1
      | none => .no
  | .blt b as, ρ => (evl as ρ).bind fun rs ρ1 => match looks ρ1 rs with
    | some ds => ofO (bfn b ds) ρ1
    | none => .no
  | .meth m o as, ρ => (ev o ρ).bind fun ro ρ1 => match ro.look ρ1 with
    | none => .no
    | some x0 => if mkind m x0 then (evs as ρ1).bind fun ds ρ2 => match ro.look ρ2 with
        | some x => ofO (mfn m x ds) ρ2
        | none => .no
      else .no
  | .pop i, ρ => match ownAt ρ i with
    | some (.lst xs) => match xs.getLast? with
      | some x => .ok (.im x) (ρ.set i (some (.ow (.lst xs.dropLast))))
      | none => .no
    | _ => .no
  | .gmem g a neg, ρ => (ev a ρ).bind fun ra ρ1 => match C.Γ g, ra with
    | some (.dic ps), .im (.str s) => .ok (.im (.bl ((lookK ps (.str s)).isSome != neg))) ρ1
    | _, _ => .no
  | .gidx g a, ρ => (ev a ρ).bind fun ra ρ1 => match C.Γ g, ra with
    | some (.dic ps), .im (.str s) => match lookK ps (.str s) with
      | some d => .ok (.im d) ρ1
      | none => .no
    | _, _ => .no
  | .isin a t, ρ => (ev a ρ).bind fun ra ρ1 => match ra.look ρ1 with
    | some x => if x.flat1 then .ok (.im (.bl (tyIs x t))) ρ1 else .no
    | none => .no
  | .comp elt tg k its cond own, ρ => (evs its ρ).bind fun ds ρ1 => match walkOf k ds with
    | some l => (noEx (compLoop C own tg (fun ρ => (ev cond ρ).bind asB) (fun ρ => (ev elt ρ).bind (frz C)) l (wipeE ρ1 own) [])).bind fun r ρ2 => .ok (.fr (.lst r)) (backE ρ1 ρ2 own)
    | none => .no
  | .comp2 elt tg k its cond tg2 k2 its2 cond2 own, ρ => (evs its ρ).bind fun ds ρ1 => match walkOf k ds with
    | some l => (noEx (compOut C own tg (fun ρ => (ev cond ρ).bind asB) (fun ρ acc => (evs its2 ρ).bind fun ds2 ρ2 => match walkOf k2 ds2 with
        | some l2 => compIn C tg2 (fun ρ => (ev cond2 ρ).bind asB) (fun ρ => (ev elt ρ).bind (frz C)) l2 (wipeE ρ2 (tgVars tg2)) acc
        | none => .no) l (wipeE ρ1 own) [])).bind fun r ρ2 => .ok (.fr (.lst r)) (backE ρ1 ρ2 own)
    | none => .no
  | .lam f body, ρ => match C.Λ f with
    | none => .no
    | some (df, hs) => match (ev body ρ).bind (frz C) with
      | .ok d ρ1 => .ok (.im (df.getD d)) ρ1
      | .ex x ρ1 => match pick C.sub x hs with
        | .hit d => .ok (.im d) ρ1
        | _ => .no
      | .no => .no
  termination_by structural m => m
/-- arguments, frozen one by one -/
def evs : MEs → Env → Out (List D)
  | .nil, ρ => .ok [] ρ
  | .cons a r, ρ => ((ev a ρ).bind (frz C)).bind fun d ρ1 => (evs r ρ1).bind fun ds ρ2 => .ok (d :: ds) ρ2
  termination_by structural m => m
/-- arguments, as values -/
def evl : MEs → Env → Out (List VR)
  | .nil, ρ => .ok [] ρ
  | .cons a r, ρ => (ev a ρ).bind fun d ρ1 => (evl r ρ1).bind fun ds ρ2 => .ok (d :: ds) ρ2
  termination_by structural m => m
end

/-! ### statements -/
inductive OS where
  | nx (ρ : Env) | rt (r : VR) (ρ : Env) | bk (ρ : Env) | ct (ρ : Env) | ex (x : Exc) (ρ : Env) | no

def Out.then {α : Type} : Out α → (α → Env → OS) → OS
  | .ok a ρ, f => f a ρ
  | .ex x ρ, _ => .ex x ρ
  | .no, _ => .no

def forLoop (t : Tgt) (body : Env → OS) : List D → Env → OS
  | [], ρ => .nx ρ
  | d :: ds, ρ => match setT C t d ρ with
    | none => .no
    | some ρ1 => match body ρ1 with
      | .nx ρ2 => forLoop t body ds ρ2
      | .ct ρ2 => forLoop t body ds ρ2
      | .bk ρ2 => .nx ρ2
      | o => o
def onlyNx : OS → OS
  | .nx ρ => .nx ρ
  | _ => .no
def whlLoop (c : Env → Out Bool) (body : Env → OS) : Nat → Env → OS
  | 0, _ => .no
  | n + 1, ρ => (c ρ).then fun b ρ1 => if b then match body ρ1 with
      | .nx ρ2 => whlLoop c body n ρ2
      | .ct ρ2 => whlLoop c body n ρ2
      | .bk ρ2 => .nx ρ2
      | o => o
    else .nx ρ1
def handle (x : Exc) (ρ : Env) (hs : List (Nat × HB)) : OS := match pick C.sub x hs with
  | .hit d => .rt (.im d) ρ
  | .miss => .ex x ρ
  | .bad => .no
def notSl : VR → Bool
  | .sl _ => false
  | _ => true
def dOf : VR → D
  | .im d => d
  | .fr d => d
  | .sl _ => .non
/-- a value of its own into a slot -/
def setOne (i : Nat) (r : VR) (ρ : Env) : Env := match r with
  | .fr d => ρ.set i (some (.ow d))
  | .im d => ρ.set i (some (.fz d))
  | .sl _ => ρ
/-- into what slot i owns -/
def setAt (i : Nat) (kd d : D) (ρ : Env) : OS := match ownAt ρ i with
  | some (.lst xs) => match kd with
    | .int n => match ixN xs.length n with
      | some j => .nx (ρ.set i (some (.ow (.lst (xs.set j d)))))
      | none => .no
    | _ => .no
  | some (.dic ps) => if keyFits ps kd && Nat.blt ps.length szL then .nx (ρ.set i (some (.ow (.dic (putK kd d ps))))) else .no
  | _ => .no
variable (fuel : Nat)
mutual
def ex : MS → Env → OS
  | .pass, ρ => .nx ρ
  | .brk, ρ => .bk ρ
  | .cont, ρ => .ct ρ
  | .expr e, ρ => (ev C e ρ).then fun _ ρ1 => .nx ρ1
  | .ret e, ρ => (ev C e ρ).then fun r ρ1 => .rt r ρ1
  | .retN, ρ => .rt (.im .non) ρ
  | .asg t e, ρ => (ev C e ρ).then fun r ρ1 => match setV C t r ρ1 with
    | some ρ2 => .nx ρ2
    | none => .no
  | .par i j a b, ρ => (ev C a ρ).then fun ra ρ1 => (ev C b ρ1).then fun rb ρ2 =>
    if notSl ra && notSl rb && wr C ρ2 i && wr C ρ2 j && i != j then .nx (setOne j rb (setOne i ra ρ2)) else .no
  | .setidx i k v, ρ => ((ev C v ρ).bind (frz C)).then fun d ρ1 => match ownAt ρ1 i with
    | none => .no
    | some _ => ((ev C k ρ1).bind (frz C)).then fun kd ρ2 => setAt i kd d ρ2
  | .append i e, ρ => match ownAt ρ i with
    | some (.lst _) => ((ev C e ρ).bind (frz C)).then fun d ρ1 => match ownAt ρ1 i with
      | some (.lst xs) => if Nat.blt xs.length szL then .nx (ρ1.set i (some (.ow (.lst (xs ++ [d]))))) else .no
      | _ => .no
    | _ => .no
  | .ifs c a b, ρ => ((ev C c ρ).bind asB).then fun t ρ1 => if t then exs a ρ1 else exs b ρ1
  | .fors t k its body, ρ => (evs C its ρ).then fun ds ρ1 => match walkOf k ds with
    | some l => forLoop C t (fun ρ => exs body ρ) l ρ1
    | none => .no
  | .forkeys t e body, ρ => ((ev C e ρ).bind (frz C)).then fun d ρ1 => match d with
    | .dic ps => if ps.all (·.1.isKey) then onlyNx (forLoop C t (fun ρ => exs body ρ) (ps.map (·.1)) ρ1) else .no
    | _ => .no
  | .whl c body, ρ => whlLoop (fun ρ => (ev C c ρ).bind asB) (fun ρ => exs body ρ) fuel ρ
  | .raise c, ρ => .ex ⟨c, .non⟩ ρ
  | .raiseV c e, ρ => ((ev C e ρ).bind (frz C)).then fun d ρ1 => .ex ⟨c, d⟩ ρ1
  | .tryx body hs, ρ => match exs body ρ with
    | .ex x ρ1 => handle C x ρ1 hs
    | o => o
  termination_by structural m => m
def exs : MSs → Env → OS
  | .nil, ρ => .nx ρ
  | .cons a r, ρ => match ex a ρ with
    | .nx ρ1 => exs r ρ1
    | o => o
  termination_by structural m => m
end
end

/-- a def's slots at its entry -/
def initE (N : Nat) (mu : Bool) (ds : List D) : Env := match mu, ds with
  | true, d :: r => some (.ow d) :: r.map (fun d => some (.fz d)) ++ List.replicate (N - ds.length) none
  | _, ds => ds.map (fun d => some (.fz d)) ++ List.replicate (N - ds.length) none
def finV (r : VR) (ρ : Env) (s : D) : FR := match r with
  | .im d => .ok false d s
  | .fr d => .ok true d s
  | .sl i => match ownAt ρ i with
    | some d => .ok true d s
    | none => .no
def finR (mu : Bool) : OS → FR
  | .nx ρ => if mu then match ownAt ρ 0 with
      | some s => .ok false .non s
      | none => .no
    else .ok false .non .non
  | .rt r ρ => if mu then match ownAt ρ 0, r with
      | some _, .sl 0 => .no
      | some s, r => finV r ρ s
      | none, _ => .no
    else finV r ρ .non
  | .ex x ρ => if mu then match ownAt ρ 0 with
      | some s => .ex x s
      | none => .no
    else .ex x .non
  | _ => .no
/-- a def: n parameters, N slots, its body -/
structure Fd where
  n : Nat
  N : Nat
  mu : Bool
  body : MSs
def Fd.run (C : EC) (f : Fd) (fuel : Nat) (ds : List D) : FR :=
  if ds.length = f.n then finR f.mu (exs { C with lk := f.mu } fuel f.body (initE f.N f.mu ds)) else .no
end Ev

/-! E0b: orders of texts, sortL, dedupL (plain). -/
namespace Ev
theorem ltL_irr : ∀ x : List Nat, ltL x x = false
  | [] => rfl
  | a :: r => by
    show (Nat.blt a a || (a == a && ltL r r)) = false
    rw [ltL_irr r, Bool.and_false, Bool.or_false]
    exact Bool.eq_false_iff.mpr fun h => Nat.lt_irrefl _ (Nat.blt_eq.mp h)
theorem ltL_cons {a b : Nat} {r t : List Nat} : ltL (a :: r) (b :: t) = true ↔ a < b ∨ (a = b ∧ ltL r t = true) := by
  show (Nat.blt a b || (a == b && ltL r t)) = true ↔ _
  rw [Bool.or_eq_true, Bool.and_eq_true, Nat.blt_eq, beq_iff_eq]
theorem ltL_tr : ∀ {x y z : List Nat}, ltL x y = true → ltL y z = true → ltL x z = true
  | [], [], _, h, _ => by cases h
  | [], _ :: _, [], _, h => by cases h
  | [], _ :: _, _ :: _, _, _ => rfl
  | _ :: _, [], _, h, _ => by cases h
  | _ :: _, _ :: _, [], _, h => by cases h
  | a :: r, b :: t, c :: u, h1, h2 => by
    rw [ltL_cons] at h1 h2 ⊢
    rcases h1 with h1 | ⟨rfl, h1⟩ <;> rcases h2 with h2 | ⟨rfl, h2⟩
    · exact .inl (Nat.lt_trans h1 h2)
    · exact .inl h1
    · exact .inl h2
    · exact .inr ⟨rfl, ltL_tr h1 h2⟩
theorem ltL_tot : ∀ {x y : List Nat}, ltL x y = false → ltL y x = false → x = y
  | [], [], _, _ => rfl
  | [], _ :: _, h, _ => by cases h
  | _ :: _, [], _, h => by cases h
  | a :: r, b :: t, h1, h2 => by
    have n1 := Bool.eq_false_iff.mp h1
    have n2 := Bool.eq_false_iff.mp h2
    rw [ne_eq, ltL_cons] at n1 n2
    have e : a = b := by
      rcases Nat.lt_trichotomy a b with h | h | h
      · exact absurd (.inl h) n1
      · exact h
      · exact absurd (.inl h) n2
    subst e
    rw [ltL_tot (Bool.eq_false_iff.mpr fun h => n1 (.inr ⟨rfl, h⟩)) (Bool.eq_false_iff.mpr fun h => n2 (.inr ⟨rfl, h⟩))]
/-- rising -/
def RiseL (l : List (List Nat)) : Prop := l.Pairwise fun a b => ltL b a = false
theorem le_trL {x y z : List Nat} (h1 : ltL y x = false) (h2 : ltL z y = false) : ltL z x = false := by
  refine Bool.eq_false_iff.mpr fun h => ?_
  cases h3 : ltL x y with
  | true =>
    have := ltL_tr h h3
    rw [h2] at this
    cases this
  | false =>
    have e := ltL_tot h3 h1
    subst e
    rw [h2] at h
    cases h
theorem insL_perm (x : List Nat) : ∀ l, (insL x l).Perm (x :: l)
  | [] => List.Perm.refl _
  | y :: ys => by
    unfold insL
    split
    · exact ((insL_perm x ys).cons y).trans (List.Perm.swap ..)
    · exact List.Perm.refl _
theorem insL_rise {x : List Nat} : ∀ {l}, RiseL l → RiseL (insL x l)
  | [], _ => List.pairwise_singleton _ _
  | y :: ys, h => by
    obtain ⟨h1, h2⟩ := List.pairwise_cons.mp h
    unfold insL
    split
    · rename_i c
      refine List.pairwise_cons.mpr ⟨fun z hz => ?_, insL_rise h2⟩
      rcases List.mem_cons.mp ((insL_perm x ys).mem_iff.mp hz) with rfl | hz
      · exact Bool.eq_false_iff.mpr fun q => by
          have := ltL_tr c q
          rw [ltL_irr] at this
          cases this
      · exact h1 z hz
    · rename_i c
      have c : ltL y x = false := Bool.eq_false_iff.mpr c
      refine List.pairwise_cons.mpr ⟨fun z hz => ?_, h⟩
      rcases List.mem_cons.mp hz with rfl | hz
      · exact c
      · exact le_trL c (h1 z hz)
theorem sortL_perm : ∀ l, (sortL l).Perm l
  | [] => List.Perm.refl _
  | x :: xs => (insL_perm x (sortL xs)).trans ((sortL_perm xs).cons x)
theorem sortL_rise : ∀ l, RiseL (sortL l)
  | [] => List.Pairwise.nil
  | x :: xs => insL_rise (sortL_rise xs)
theorem rise_unique : ∀ {l m : List (List Nat)}, l.Perm m → RiseL l → RiseL m → l = m
  | [], m, p, _, _ => (List.Perm.nil_eq p)
  | x :: l, [], p, _, _ => by have := p.length_eq; simp at this
  | x :: l, y :: m, p, h1, h2 => by
    obtain ⟨a1, a2⟩ := List.pairwise_cons.mp h1
    obtain ⟨b1, b2⟩ := List.pairwise_cons.mp h2
    have e : x = y := by
      have hx : x ∈ y :: m := p.mem_iff.mp List.mem_cons_self
      have hy : y ∈ x :: l := p.mem_iff.mpr List.mem_cons_self
      rcases List.mem_cons.mp hx with h | hx
      · exact h
      rcases List.mem_cons.mp hy with h | hy
      · exact h.symm
      exact ltL_tot (b1 x hx) (a1 y hy) |>.symm ▸ rfl
    subst e
    rw [rise_unique (List.Perm.cons_inv p) a2 b2]
theorem nodup_len {α : Type} [BEq α] [LawfulBEq α] : ∀ {ys xs : List α}, ys.Nodup → (∀ y ∈ ys, y ∈ xs) → ys.length ≤ xs.length
  | [], xs, _, _ => Nat.zero_le _
  | y :: ys, xs, h, m => by
    obtain ⟨h1, h2⟩ := List.nodup_cons.mp h
    have hy := m y List.mem_cons_self
    have ih := nodup_len (ys := ys) (xs := xs.erase y) h2 fun z hz => (List.mem_erase_of_ne fun e => h1 (by rw [← e]; exact hz)).mpr (m z (List.mem_cons_of_mem _ hz))
    rw [List.length_erase_of_mem hy] at ih
    have := List.length_pos_of_mem hy
    rw [List.length_cons]
    omega
theorem dedup_in : ∀ (l seen : List (List Nat)) (k : List Nat), k ∈ dedupL seen l ↔ k ∈ l ∧ k ∉ seen
  | [], seen, k => by simp [dedupL]
  | x :: l, seen, k => by
    unfold dedupL
    split
    · rename_i c
      have c : x ∈ seen := by simpa using c
      rw [dedup_in l seen k, List.mem_cons]
      constructor
      · exact fun ⟨a, b⟩ => ⟨.inr a, b⟩
      · rintro ⟨rfl | a, b⟩
        · exact absurd c b
        · exact ⟨a, b⟩
    · rename_i c
      have c : x ∉ seen := by simpa using c
      rw [List.mem_cons, dedup_in l (x :: seen) k, List.mem_cons, List.mem_cons]
      constructor
      · rintro (rfl | ⟨a, b⟩)
        · exact ⟨.inl rfl, c⟩
        · exact ⟨.inr a, fun h => b (.inr h)⟩
      · rintro ⟨rfl | a, b⟩
        · exact .inl rfl
        · by_cases e : k = x
          · exact .inl e
          · exact .inr ⟨a, fun h => h.elim e b⟩
theorem dedup_nodup : ∀ (l seen : List (List Nat)), (dedupL seen l).Nodup
  | [], seen => List.nodup_nil
  | x :: l, seen => by
    unfold dedupL
    split
    · exact dedup_nodup l seen
    · exact List.nodup_cons.mpr ⟨fun h => ((dedup_in l (x :: seen) x).mp h).2 List.mem_cons_self, dedup_nodup l (x :: seen)⟩
theorem perm_of_mem {α : Type} [BEq α] [LawfulBEq α] {xs ys : List α} (h1 : xs.Nodup) (h2 : ys.Nodup) (h : ∀ k, k ∈ xs ↔ k ∈ ys) : xs.Perm ys := by
  refine List.perm_iff_count.mpr fun k => ?_
  rw [h1.count, h2.count]
  by_cases c : k ∈ xs
  · rw [if_pos c, if_pos ((h k).mp c)]
  · rw [if_neg c, if_neg fun q => c ((h k).mpr q)]
end Ev

/-! E1: data as trees, what stands for them in the abstract heap, frozen and owned things. -/
namespace Ev
open PySem PySem.Spec L2
open PyProof.Rows hiding St

/-- a text of code points, not too long -/
def OkS (s : List Nat) : Prop := (∀ c ∈ s, c < 0x110000) ∧ s.length ≤ szL
abbrev mkS (s : List Nat) : Str := ⟨s.toArray⟩
def keyD : Key → D
  | .inl i => .int i
  | .inr x => .str x.cps.toList

def OkK (k : Key) : Prop := match k with
  | .inl _ => True
  | .inr x => OkS x.cps.toList
/-! ### data in a heap -/
mutual
inductive Rep (K : PySem.W.Frag) (G : Hp) : V → D → Prop where
  | non : Rep K G .non .non
  | bl (b : Bool) : Rep K G (.bl b) (.bl b)
  | int (i : Int) : Rep K G (.int i) (.int i)
  | str {s : List Nat} (h : OkS s) : Rep K G (.str (mkS s)) (.str s)
  | tup {a : Addr} {vs : List V} {ds : List D} : G a = some (.tup vs) → Reps K G vs ds → Rep K G (.ref a) (.tup ds)
  | ktp {a : Addr} {vs : List V} {ds : List D} : SqT K G a vs → Reps K G vs ds → Rep K G (.ref a) (.ktp ds)
  | lst {a : Addr} {vs : List V} {ds : List D} : G a = some (.lst vs) → Reps K G vs ds → Rep K G (.ref a) (.lst ds)
  | scr {a : Addr} {ns : List Int} : SqL K G a (ns.map V.int) → Rep K G (.ref a) (.scr ns)
  | dK {a : Addr} {kvs : List (Key × V)} {ps : List (D × D)} : G a = some (.dK kvs) → RepK K G kvs ps → Rep K G (.ref a) (.dic ps)
  | dT {a : Addr} {kvs : List (List Key × V)} {ps : List (D × D)} : G a = some (.dT kvs) → kvs ≠ [] → RepT K G kvs ps → Rep K G (.ref a) (.dic ps)
inductive Reps (K : PySem.W.Frag) (G : Hp) : List V → List D → Prop where
  | nil : Reps K G [] []
  | cons {v : V} {vs : List V} {d : D} {ds : List D} : Rep K G v d → Reps K G vs ds → Reps K G (v :: vs) (d :: ds)
inductive RepK (K : PySem.W.Frag) (G : Hp) : List (Key × V) → List (D × D) → Prop where
  | nil : RepK K G [] []
  | cons {k : Key} {v : V} {d : D} {kvs : List (Key × V)} {ps : List (D × D)} : OkK k → Rep K G v d → RepK K G kvs ps → RepK K G ((k, v) :: kvs) ((keyD k, d) :: ps)
inductive RepT (K : PySem.W.Frag) (G : Hp) : List (List Key × V) → List (D × D) → Prop where
  | nil : RepT K G [] []
  | cons {k : List Key} {v : V} {d : D} {kvs : List (List Key × V)} {ps : List (D × D)} : (∀ j ∈ k, OkK j) → Rep K G v d → RepT K G kvs ps → RepT K G ((k, v) :: kvs) ((.tup (k.map keyD), d) :: ps)
end

def Gle (G G' : Hp) : Prop := ∀ a o, G a = some o → G' a = some o
theorem Gle.refl (G : Hp) : Gle G G := fun _ _ h => h
theorem Gle.trans {G G1 G2 : Hp} (a : Gle G G1) (b : Gle G1 G2) : Gle G G2 := fun c o h => b c o (a c o h)
/-- lists and tuples, as they stand; dicts, perhaps locked -/
def isSeq : HO → Bool
  | .lst _ => true
  | .tup _ => true
  | .frz _ (.lst _) => true
  | _ => false
def isDic : HO → Bool
  | .dK _ => true
  | .dT _ => true
  | _ => false
def isD (o : HO) : Bool := isSeq o || isDic o
def Sub (G H : Hp) : Prop := ∀ a o, G a = some o → (isSeq o = true ∧ H a = some o) ∨ (isDic o = true ∧ Rd H a o)
theorem Sub.rd {G H : Hp} (s : Sub G H) {a : Addr} {o : HO} (h : G a = some o) : Rd H a o := (s a o h).elim (fun q => .inl q.2) fun q => q.2
theorem Sub.lst {G H : Hp} (s : Sub G H) {a : Addr} {vs : List V} (h : G a = some (.lst vs)) : H a = some (.lst vs) := by
  rcases s a _ h with q | q
  · exact q.2
  · exact absurd q.1 (by simp [isDic])
theorem Sub.tup {G H : Hp} (s : Sub G H) {a : Addr} {vs : List V} (h : G a = some (.tup vs)) : H a = some (.tup vs) := by
  rcases s a _ h with q | q
  · exact q.2
  · exact absurd q.1 (by simp [isDic])
theorem Sub.frz {G H : Hp} (s : Sub G H) {a : Addr} {ob : Obj} {u : HO} (h : G a = some (.frz ob u)) : H a = some (.frz ob u) := by
  rcases s a _ h with q | q
  · exact q.2
  · exact absurd q.1 (by simp [isDic])

section
variable {K : PySem.W.Frag} {G G' H H' : Hp} {a : Addr} {vs : List V} {ds : List D} {v : V} {d : D}
theorem sqT_mono (g : Gle G G') (h : SqT K G a vs) : SqT K G' a vs := by
  rcases h with (h | ⟨o, h⟩) | h
  · exact .inl (.inl (g _ _ h))
  · exact .inl (.inr ⟨o, g _ _ h⟩)
  · exact .inr h
theorem sqL_mono (g : Gle G G') (h : SqL K G a vs) : SqL K G' a vs := by
  rcases h with (h | ⟨o, h⟩) | h
  · exact .inl (.inl (g _ _ h))
  · exact .inl (.inr ⟨o, g _ _ h⟩)
  · exact .inr h
theorem sqT_sub (g : Sub G H) (h : SqT K G a vs) : SqT K H a vs := by
  rcases h with (h | ⟨o, h⟩) | h
  · exact .inl (.inl (g.tup h))
  · exact .inl (.inr ⟨o, g.frz h⟩)
  · exact .inr h
theorem sqL_sub (g : Sub G H) (h : SqL K G a vs) : SqL K H a vs := by
  rcases h with (h | ⟨o, h⟩) | h
  · exact .inl (.inl (g.lst h))
  · exact .inl (.inr ⟨o, g.frz h⟩)
  · exact .inr h
mutual
theorem Rep.mono (g : Gle G G') : ∀ {v : V} {d : D}, Rep K G v d → Rep K G' v d
  | _, _, .non => .non
  | _, _, .bl b => .bl b
  | _, _, .int i => .int i
  | _, _, .str h => .str h
  | _, _, .tup h r => .tup (g _ _ h) (Reps.mono g r)
  | _, _, .ktp h r => .ktp (sqT_mono g h) (Reps.mono g r)
  | _, _, .lst h r => .lst (g _ _ h) (Reps.mono g r)
  | _, _, .scr h => .scr (sqL_mono g h)
  | _, _, .dK h r => .dK (g _ _ h) (RepK.mono g r)
  | _, _, .dT h n r => .dT (g _ _ h) n (RepT.mono g r)
theorem Reps.mono (g : Gle G G') : ∀ {vs : List V} {ds : List D}, Reps K G vs ds → Reps K G' vs ds
  | _, _, .nil => .nil
  | _, _, .cons h r => .cons (Rep.mono g h) (Reps.mono g r)
theorem RepK.mono (g : Gle G G') : ∀ {vs : List (Key × V)} {ds : List (D × D)}, RepK K G vs ds → RepK K G' vs ds
  | _, _, .nil => .nil
  | _, _, .cons o h r => .cons o (Rep.mono g h) (RepK.mono g r)
theorem RepT.mono (g : Gle G G') : ∀ {vs : List (List Key × V)} {ds : List (D × D)}, RepT K G vs ds → RepT K G' vs ds
  | _, _, .nil => .nil
  | _, _, .cons o h r => .cons o (Rep.mono g h) (RepT.mono g r)
end
theorem Reps.length : ∀ {vs : List V} {ds : List D}, Reps K G vs ds → vs.length = ds.length
  | _, _, .nil => rfl
  | _, _, .cons _ r => congrArg (· + 1) r.length
theorem Reps.get : ∀ {vs : List V} {ds : List D} {i : Nat} {d : D}, Reps K G vs ds → ds[i]? = some d → ∃ v, vs[i]? = some v ∧ Rep K G v d
  | _, _, i, d, .nil, e => by simp at e
  | _, _, 0, d, .cons h r, e => by simp at e; subst e; exact ⟨_, rfl, h⟩
  | _, _, i + 1, d, .cons h r, e => by
    obtain ⟨v, e1, h1⟩ := Reps.get (i := i) (d := d) r (by simpa using e)
    exact ⟨v, by simpa using e1, h1⟩
theorem Reps.append : ∀ {vs ws : List V} {ds es : List D}, Reps K G vs ds → Reps K G ws es → Reps K G (vs ++ ws) (ds ++ es)
  | _, _, _, _, .nil, r => r
  | _, _, _, _, .cons h r, r' => .cons h (r.append r')
theorem Reps.take : ∀ {vs : List V} {ds : List D} (n : Nat), Reps K G vs ds → Reps K G (vs.take n) (ds.take n)
  | _, _, 0, _ => .nil
  | _, _, _ + 1, .nil => .nil
  | _, _, n + 1, .cons h r => .cons h (Reps.take n r)
theorem Reps.drop : ∀ {vs : List V} {ds : List D} (n : Nat), Reps K G vs ds → Reps K G (vs.drop n) (ds.drop n)
  | _, _, 0, r => r
  | _, _, _ + 1, .nil => .nil
  | _, _, n + 1, .cons h r => Reps.drop n r
theorem Reps.set {v : V} {d : D} (h : Rep K G v d) : ∀ {vs : List V} {ds : List D} (i : Nat), Reps K G vs ds → Reps K G (vs.set i v) (ds.set i d)
  | _, _, _, .nil => .nil
  | _, _, 0, .cons _ r => .cons h r
  | _, _, n + 1, .cons q r => .cons q (Reps.set h n r)
theorem Reps.reverse : ∀ {vs : List V} {ds : List D}, Reps K G vs ds → Reps K G vs.reverse ds.reverse
  | _, _, .nil => .nil
  | _, _, .cons h r => by
    rw [List.reverse_cons, List.reverse_cons]
    exact (Reps.reverse r).append (.cons h .nil)

/-- an owned thing at a: its content is data, it itself is not frozen -/
def Own (K : PySem.W.Frag) (G H : Hp) (a : Addr) : D → Prop
  | .lst ds => ∃ vs, H a = some (.lst vs) ∧ Reps K G vs ds
  | .dic ps => (∃ kvs, H a = some (.dK kvs) ∧ RepK K G kvs ps) ∨ (∃ kvs, H a = some (.dT kvs) ∧ kvs ≠ [] ∧ RepT K G kvs ps)
  | _ => False
theorem Own.mono {d : D} (g : Gle G G') (k : ∀ o, H a = some o → H' a = some o) (h : Own K G H a d) : Own K G' H' a d := by
  cases d <;> simp only [Own] at h ⊢
  case lst ds => obtain ⟨vs, e, r⟩ := h; exact ⟨vs, k _ e, r.mono g⟩
  case dic ps =>
    rcases h with ⟨kvs, e, r⟩ | ⟨kvs, e, n, r⟩
    · exact .inl ⟨kvs, k _ e, r.mono g⟩
    · exact .inr ⟨kvs, k _ e, n, r.mono g⟩
theorem Own.at_ {d : D} (h : Own K G H a d) : ∃ o, H a = some o ∧ isD o = true ∧ (∀ ps, o ≠ .tbl ps) := by
  cases d <;> simp only [Own] at h
  case lst ds => obtain ⟨vs, e, r⟩ := h; exact ⟨_, e, rfl, fun _ => by simp⟩
  case dic ps =>
    rcases h with ⟨kvs, e, r⟩ | ⟨kvs, e, _, r⟩
    · exact ⟨_, e, rfl, fun _ => by simp⟩
    · exact ⟨_, e, rfl, fun _ => by simp⟩
/-- an owned thing is frozen -/
theorem Own.freeze {d : D} (h : Own K G H a d) (n : G a = none) (s : Sub G H) : ∃ o, H a = some o ∧ Gle G (upd G a o) ∧ Sub (upd G a o) H ∧ Rep K (upd G a o) (.ref a) d := by
  obtain ⟨o, e, hd, _⟩ := h.at_
  have gl : Gle G (upd G a o) := fun b u q => by rw [upd_ne (ne_of_none q n)]; exact q
  refine ⟨o, e, gl, fun b u q => ?_, ?_⟩
  · by_cases hb : b = a
    · subst hb; rw [upd_same] at q; cases q
      rcases Bool.or_eq_true_iff.mp hd with z | z
      · exact .inl ⟨z, e⟩
      · exact .inr ⟨z, .inl e⟩
    · rw [upd_ne hb] at q; exact s b u q
  · cases d <;> simp only [Own] at h
    case lst ds =>
      obtain ⟨vs, e', r⟩ := h
      rw [e] at e'; cases e'
      exact .lst upd_same (r.mono gl)
    case dic ps =>
      rcases h with ⟨kvs, e', r⟩ | ⟨kvs, e', n', r⟩
      · rw [e] at e'; cases e'
        exact .dK upd_same (r.mono gl)
      · rw [e] at e'; cases e'
        exact .dT upd_same n' (r.mono gl)
end

/-! ### slots -/
def SlotV (K : PySem.W.Frag) (G H : Hp) (v : V) : SV → Prop
  | .fz d => Rep K G v d
  | .ow d => ∃ a, v = .ref a ∧ G a = none ∧ Own K G H a d
/-- a is owned by a slot -/
def OwnedA (ρ : Env) (σ : St) (a : Addr) : Prop := ∃ (i : Nat) (d : D), ρ[i]? = some (some (SV.ow d)) ∧ σ[i]? = some (some (V.ref a))

structure RE (K : PySem.W.Frag) (T : List (Addr × Str)) (G H : Hp) (ρ : Env) (σ : St) : Prop where
  sub : Sub G H
  len : σ.length = ρ.length
  slot : ∀ (i : Nat) (sv : SV), ρ[i]? = some (some sv) → ∃ v, σ[i]? = some (some v) ∧ SlotV K G H v sv
  dist : ∀ (i j : Nat) (d e : D) (a : Addr), ρ[i]? = some (some (.ow d)) → ρ[j]? = some (some (.ow e)) → σ[i]? = some (some (.ref a)) → σ[j]? = some (some (.ref a)) → i = j
  tabs : LamX.Tabs T H

/-- nothing of ours is at a: nothing, or a table of code objects -/
def Fr (H : Hp) (a : Addr) : Prop := ∀ o, H a = some o → ∃ ps, o = .tbl ps
theorem Fr.no {H : Hp} {a : Addr} (h : H a = none) : Fr H a := fun o e => by rw [h] at e; cases e
theorem Fr.abs {H : Hp} {a : Addr} {o : HO} {p : Prop} (f : Fr H a) (e : H a = some o) (t : ∀ ps, o ≠ .tbl ps) : p := by
  obtain ⟨ps, z⟩ := f o e
  exact absurd z (t ps)
/-- from one state to a later one, the slots' values being the same -/
structure Stp (ρ : Env) (σ : St) (G H : Hp) (ρ' : Env) (G' H' : Hp) : Prop where
  gle : Gle G G'
  frame : ∀ a o, H a = some o → ¬ OwnedA ρ σ a → (∀ ps, o ≠ .tbl ps) → H' a = some o
  new : ∀ a, G' a ≠ none → G a ≠ none ∨ OwnedA ρ σ a ∨ Fr H a
  own : ∀ a, OwnedA ρ' σ a → OwnedA ρ σ a
  keep : ∀ a, Fr H' a → Fr H a

section
variable {K : PySem.W.Frag} {T : List (Addr × Str)} {G G' G1 H H' H1 : Hp} {ρ ρ' ρ1 : Env} {σ : St} {a : Addr} {d : D}
theorem RE.ownedA (R : RE K T G H ρ σ) (h : OwnedA ρ σ a) : G a = none ∧ ∃ d, Own K G H a d := by
  obtain ⟨i, d, e1, e2⟩ := h
  obtain ⟨v, e3, a', rfl, n, o⟩ := R.slot i _ e1
  rw [e2] at e3; cases e3
  exact ⟨n, d, o⟩
theorem RE.owned_some (R : RE K T G H ρ σ) (h : OwnedA ρ σ a) : ∃ o, H a = some o ∧ isD o = true ∧ (∀ ps, o ≠ .tbl ps) := by
  obtain ⟨_, d, o⟩ := R.ownedA h
  exact o.at_
theorem RE.sub_none (s : Sub G H) (h : H a = none) : G a = none := by
  cases q : G a with
  | none => rfl
  | some o =>
    rcases s.rd q with e | ⟨_, e⟩ <;> (rw [h] at e; cases e)
theorem Stp.refl : Stp ρ σ G H ρ G H := ⟨Gle.refl _, fun _ _ h _ _ => h, fun _ h => .inl h, fun _ h => h, fun _ h => h⟩
theorem Stp.trans (a : Stp ρ σ G H ρ1 G1 H1) (b : Stp ρ1 σ G1 H1 ρ' G' H') : Stp ρ σ G H ρ' G' H' where
  gle := a.gle.trans b.gle
  frame := fun c o h n t => b.frame c o (a.frame c o h n t) (fun z => n (a.own c z)) t
  new := fun c h => by
    rcases b.new c h with h | h | h
    · exact a.new c h
    · exact .inr (.inl (a.own c h))
    · exact .inr (.inr (a.keep c h))
  own := fun c h => a.own c (b.own c h)
  keep := fun c h => a.keep c (b.keep c h)

/-- the heap grows, the slots stay -/
theorem RE.ext (R : RE K T G H ρ σ) (k : ∀ a o, H a = some o → H' a = some o) : RE K T G H' ρ σ where
  sub := fun a o h => by
    rcases R.sub a o h with ⟨h1, h2⟩ | ⟨h1, e | ⟨u, e⟩⟩
    · exact .inl ⟨h1, k _ _ h2⟩
    · exact .inr ⟨h1, .inl (k _ _ e)⟩
    · exact .inr ⟨h1, .inr ⟨u, k _ _ e⟩⟩
  len := R.len
  slot := fun i sv h => by
    obtain ⟨v, e, q⟩ := R.slot i sv h
    refine ⟨v, e, ?_⟩
    cases sv with
    | fz d => exact q
    | ow d => obtain ⟨a, rfl, n, o⟩ := q; exact ⟨a, rfl, n, o.mono (Gle.refl _) fun o h => k _ _ h⟩
  dist := R.dist
  tabs := R.tabs.ext k
theorem keeps_ne (k : ∀ a o, H a = some o → H' a = some o) : ∀ a, Fr H' a → Fr H a := fun a h o e => h o (k a o e)
theorem Stp.ext (k : ∀ a o, H a = some o → H' a = some o) : Stp ρ σ G H ρ G H' :=
  ⟨Gle.refl _, fun a o h _ _ => k a o h, fun _ h => .inl h, fun _ h => h, keeps_ne k⟩
theorem upd_keeps {p : Addr} {o : HO} (n : H p = none) : ∀ a u, H a = some u → upd H p o a = some u := fun a u h => by
  rw [upd_ne (ne_of_none h n)]; exact h
/-- more is frozen: nothing owned -/
theorem RE.grow (R : RE K T G H ρ σ) (g : Gle G G') (s : Sub G' H) (n : ∀ a, OwnedA ρ σ a → G' a = none) : RE K T G' H ρ σ where
  sub := s
  len := R.len
  slot := fun i sv h => by
    obtain ⟨v, e, q⟩ := R.slot i sv h
    refine ⟨v, e, ?_⟩
    cases sv with
    | fz d => exact Rep.mono g q
    | ow d => obtain ⟨a, rfl, _, o⟩ := q; exact ⟨a, rfl, n a ⟨i, d, h, e⟩, o.mono g fun o h => h⟩
  dist := R.dist
  tabs := R.tabs
theorem Sub.upd {p : Addr} {o : HO} (s : Sub G H) (e : H p = some o) (hd : isD o = true) : Sub (upd G p o) H := fun b u q => by
  by_cases hb : b = p
  · subst hb; rw [upd_same] at q; cases q
    rcases Bool.or_eq_true_iff.mp hd with z | z
    · exact .inl ⟨z, e⟩
    · exact .inr ⟨z, .inl e⟩
  · rw [upd_ne hb] at q; exact s b u q
/-- a new frozen thing is laid -/
theorem RE.lay {p : Addr} {o : HO} (R : RE K T G H ρ σ) (n : H p = none) (hd : isD o = true) :
    RE K T (upd G p o) (upd H p o) ρ σ ∧ Stp ρ σ G H ρ (upd G p o) (upd H p o) ∧ Gle G (upd G p o) := by
  have gn := RE.sub_none R.sub n
  have gl : Gle G (L2.upd G p o) := upd_keeps gn
  have R1 : RE K T G (L2.upd H p o) ρ σ := R.ext (upd_keeps n)
  refine ⟨R1.grow gl (R1.sub.upd upd_same hd) fun a h => ?_, ⟨gl, fun a u h _ _ => upd_keeps n a u h, fun a h => ?_, fun _ h => h, keeps_ne (upd_keeps n)⟩, gl⟩
  · have e := R.ownedA h
    obtain ⟨u, hu, _⟩ := R.owned_some h
    rw [upd_ne (ne_of_none hu n)]; exact e.1
  · by_cases ha : a = p
    · subst ha; exact .inr (.inr (.no n))
    · rw [upd_ne ha] at h; exact .inl h
end
end Ev

/-! E2: how outcomes stand in the heap; operators. -/
namespace Ev
open PySem PySem.Spec L2
open PyProof.Rows hiding St

/-- how a value stands; H0: the heap ahead of its making -/
def RV (K : PySem.W.Frag) (σ : St) (H0 G H : Hp) (ρ : Env) (v : V) : VR → Prop
  | .im d => Rep K G v d
  | .fr d => ∃ a, v = .ref a ∧ Fr H0 a ∧ G a = none ∧ ¬ OwnedA ρ σ a ∧ Own K G H a d
  | .sl i => σ[i]? = some (some v) ∧ (∃ a, v = .ref a) ∧ ∃ d, ρ[i]? = some (some (.ow d)) ∨ ρ[i]? = some (some (.fz d))
/-- v holds d now -/
def Now (K : PySem.W.Frag) (G H : Hp) (v : V) (d : D) : Prop := Rep K G v d ∨ ∃ a, v = .ref a ∧ Own K G H a d

theorem slotAt_some {ρ : Env} {i : Nat} {sv : SV} : slotAt ρ i = some sv ↔ ρ[i]? = some (some sv) := by
  unfold slotAt
  cases h : ρ[i]? with
  | none => simp
  | some o => simp
theorem ownAt_some {ρ : Env} {i : Nat} {d : D} : ownAt ρ i = some d ↔ ρ[i]? = some (some (.ow d)) := by
  unfold ownAt
  rw [← slotAt_some]
  cases h : slotAt ρ i with
  | none => simp
  | some sv => cases sv <;> simp
theorem anyAt_some {ρ : Env} {i : Nat} {d : D} : anyAt ρ i = some d ↔ ρ[i]? = some (some (.ow d)) ∨ ρ[i]? = some (some (.fz d)) := by
  rw [← slotAt_some, ← slotAt_some]
  unfold anyAt
  cases h : slotAt ρ i with
  | none => simp
  | some sv => cases sv <;> simp
section
variable {K : PySem.W.Frag} {T : List (Addr × Str)} {G G' H H' H0 H00 : Hp} {ρ ρ' : Env} {σ : St} {v : V} {r : VR} {d : D}
theorem RV.older (k : ∀ a, Fr H0 a → Fr H00 a) (h : RV K σ H0 G H ρ v r) : RV K σ H00 G H ρ v r := by
  cases r with
  | im d => exact h
  | fr d => exact h.imp fun a q => ⟨q.1, k a q.2.1, q.2.2⟩
  | sl i => exact h
theorem RV.keep (R : RE K T G H ρ σ) (S : Stp ρ σ G H ρ' G' H') (h : RV K σ H0 G H ρ v r) (hs : ∀ i, r = .sl i → ∃ d, ρ'[i]? = some (some (.ow d)) ∨ ρ'[i]? = some (some (.fz d))) : RV K σ H0 G' H' ρ' v r := by
  cases r with
  | im d => exact Rep.mono S.gle h
  | fr d =>
    obtain ⟨a, rfl, n0, n, no, o⟩ := h
    have k : ∀ u, H a = some u → H' a = some u := fun u e => by
      obtain ⟨u', e', _, t⟩ := o.at_
      rw [e] at e'; cases e'
      exact S.frame a u e no t
    refine ⟨a, rfl, n0, ?_, fun z => no (S.own a z), o.mono S.gle k⟩
    cases q : G' a with
    | none => rfl
    | some u =>
      rcases S.new a (by rw [q]; simp) with z | z | z
      · exact absurd n z
      · exact absurd z no
      · obtain ⟨u', e', _, t⟩ := o.at_
        exact z.abs e' t
  | sl i => exact ⟨h.1, h.2.1, hs i rfl⟩
theorem RV.now (R : RE K T G H ρ σ) (h : RV K σ H0 G H ρ v r) (e : r.look ρ = some d) : Now K G H v d := by
  cases r with
  | im d' => simp only [VR.look] at e; cases e; exact .inl h
  | fr d' => simp only [VR.look] at e; cases e; obtain ⟨a, rfl, _, _, _, o⟩ := h; exact .inr ⟨a, rfl, o⟩
  | sl i =>
    simp only [VR.look] at e
    obtain ⟨h1, _⟩ := h
    rcases anyAt_some.mp e with e' | e'
    · obtain ⟨v', e2, a, rfl, _, o⟩ := R.slot i _ e'
      rw [h1] at e2; cases e2
      exact .inr ⟨a, rfl, o⟩
    · obtain ⟨v', e2, r⟩ := R.slot i _ e'
      rw [h1] at e2; cases e2
      exact .inl r
/-- a slot's value at a later state: it still owns -/
theorem look_keep {i : Nat} (e : (VR.sl i).look ρ' = some d) : ∃ d, ρ'[i]? = some (some (.ow d)) ∨ ρ'[i]? = some (some (.fz d)) := ⟨d, anyAt_some.mp e⟩
theorem RV.keep' {d : D} (R : RE K T G H ρ σ) (S : Stp ρ σ G H ρ' G' H') (h : RV K σ H0 G H ρ v r) (e : r.look ρ' = some d) : RV K σ H0 G' H' ρ' v r :=
  h.keep R S fun i hi => by subst hi; exact look_keep e

theorem Now.lst {ds : List D} (s : Sub G H) (h : Now K G H v (.lst ds)) : ∃ a vs, v = .ref a ∧ H a = some (.lst vs) ∧ Reps K G vs ds := by
  rcases h with h | ⟨a, rfl, o⟩
  · cases h with
    | lst e r => exact ⟨_, _, rfl, s.lst e, r⟩
  · obtain ⟨vs, e, r⟩ := o; exact ⟨a, vs, rfl, e, r⟩
theorem Now.tup {ds : List D} (s : Sub G H) (h : Now K G H v (.tup ds)) : ∃ a vs, v = .ref a ∧ G a = some (.tup vs) ∧ H a = some (.tup vs) ∧ Reps K G vs ds := by
  rcases h with h | ⟨a, rfl, o⟩
  · cases h with
    | tup e r => exact ⟨_, _, rfl, e, s.tup e, r⟩
  · exact False.elim o
theorem Now.ktp {ds : List D} (s : Sub G H) (h : Now K G H v (.ktp ds)) : ∃ a vs, v = .ref a ∧ SqT K H a vs ∧ Reps K G vs ds := by
  rcases h with h | ⟨a, rfl, o⟩
  · cases h with
    | ktp e r => exact ⟨_, _, rfl, sqT_sub s e, r⟩
  · exact False.elim o
theorem Now.str {x : List Nat} (h : Now K G H v (.str x)) : v = .str (mkS x) ∧ OkS x := by
  rcases h with h | ⟨a, rfl, o⟩
  · cases h with
    | str k => exact ⟨rfl, k⟩
  · exact False.elim o
theorem Now.int {i : Int} (h : Now K G H v (.int i)) : v = .int i := by
  rcases h with h | ⟨a, rfl, o⟩
  · cases h; rfl
  · exact False.elim o
theorem Now.bl {i : Bool} (h : Now K G H v (.bl i)) : v = .bl i := by
  rcases h with h | ⟨a, rfl, o⟩
  · cases h; rfl
  · exact False.elim o
theorem Now.non (h : Now K G H v .non) : v = .non := by
  rcases h with h | ⟨a, rfl, o⟩
  · cases h; rfl
  · exact False.elim o
theorem Now.dic {ps : List (D × D)} (s : Sub G H) (h : Now K G H v (.dic ps)) : ∃ a, v = .ref a ∧ ((∃ kvs, Rd H a (.dK kvs) ∧ RepK K G kvs ps) ∨ ∃ kvs, Rd H a (.dT kvs) ∧ kvs ≠ [] ∧ RepT K G kvs ps) := by
  rcases h with h | ⟨a, rfl, o⟩
  · cases h with
    | dK e r => exact ⟨_, rfl, .inl ⟨_, s.rd e, r⟩⟩
    | dT e n r => exact ⟨_, rfl, .inr ⟨_, s.rd e, n, r⟩⟩
  · rcases o with ⟨kvs, e, r⟩ | ⟨kvs, e, n, r⟩
    · exact ⟨a, rfl, .inl ⟨_, .inl e, r⟩⟩
    · exact ⟨a, rfl, .inr ⟨_, .inl e, n, r⟩⟩
theorem Now.scr {ns : List Int} (s : Sub G H) (h : Now K G H v (.scr ns)) : ∃ a, v = .ref a ∧ SqL K H a (ns.map V.int) := by
  rcases h with h | ⟨a, rfl, o⟩
  · cases h with
    | scr e => exact ⟨_, rfl, sqL_sub s e⟩
  · exact False.elim o

/-! ### exceptions, outcomes -/
/-- the exception x: its class (by cA), its value in its own dict -/
def XR (cA : Nat → Addr) (K : PySem.W.Frag) (G H : Hp) (x : Exc) (c : Value) (dd : Option Addr) : Prop :=
  c = .ref (cA x.cls) ∧ match x.val with
    | .int i => ∃ a f, dd = some a ∧ H a = some (.xd [(f, V.int i)])
    | _ => dd = none

/-- what an outcome promises: wants Q of its value, W of its exception -/
def PostG {α β : Type} (K : PySem.W.Frag) (T : List (Addr × Str)) (cA : Nat → Addr) (W : WX) (σ : St) (ρ : Env) (G H : Hp) (o : Out α) (Rf : Hp → Hp → Env → β → α → Prop) (Q : β → Hp → Prop) : Prop := match o with
  | .ok a ρ' => ∀ y H' G', RE K T G' H' ρ' σ → Stp ρ σ G H ρ' G' H' → Rf G' H' ρ' y a → Q y H'
  | .ex x ρ' => ∀ c dd H' G', RE K T G' H' ρ' σ → Stp ρ σ G H ρ' G' H' → XR cA K G' H' x c dd → W c dd σ H'
  | .no => False
section
variable {cA : Nat → Addr} {W : WX} {α β γ δ : Type} {o : Out α} {Rf : Hp → Hp → Env → β → α → Prop} {Q Q' : β → Hp → Prop}
theorem PostG.imp (h : PostG K T cA W σ ρ G H o Rf Q) (i : ∀ y H', Q y H' → Q' y H') : PostG K T cA W σ ρ G H o Rf Q' := by
  cases o with
  | ok a ρ' => exact fun y H' G' R S r => i y H' (h y H' G' R S r)
  | ex x ρ' => exact h
  | no => exact h
theorem PostG.bind {R2 : Hp → Hp → Env → δ → γ → Prop} {Q2 : δ → Hp → Prop} {f : α → Env → Out γ} (Rf : Hp → Hp → Env → β → α → Prop) (h : PostG K T cA W σ ρ G H (o.bind f) R2 Q2) :
    PostG K T cA W σ ρ G H o Rf (fun y H1 => ∃ G1 ρ1 a, RE K T G1 H1 ρ1 σ ∧ Stp ρ σ G H ρ1 G1 H1 ∧ Rf G1 H1 ρ1 y a ∧ PostG K T cA W σ ρ1 G1 H1 (f a ρ1) R2 Q2) := by
  cases o with
  | ok a ρ1 =>
    intro y H1 G1 R1 S1 r1
    refine ⟨G1, ρ1, a, R1, S1, r1, ?_⟩
    simp only [Out.bind] at h
    cases q : f a ρ1 with
    | ok b ρ2 => rw [q] at h; exact fun z H2 G2 R2 S2 r2 => h z H2 G2 R2 (S1.trans S2) r2
    | ex x ρ2 => rw [q] at h; exact fun c dd H2 G2 R2 S2 r2 => h c dd H2 G2 R2 (S1.trans S2) r2
    | no => rw [q] at h; exact h
  | ex x ρ1 => exact h
  | no => exact h
theorem PostG.weak {Rg : Hp → Hp → Env → β → α → Prop} (h : PostG K T cA W σ ρ G H o Rf Q) (i : ∀ G' H' ρ' y a, Stp ρ σ G H ρ' G' H' → Rg G' H' ρ' y a → Rf G' H' ρ' y a) : PostG K T cA W σ ρ G H o Rg Q := by
  cases o with
  | ok a ρ' => exact fun y H' G' R S r => h y H' G' R S (i _ _ _ _ _ S r)
  | ex x ρ' => exact h
  | no => exact h
/-- what is reached is so now -/
theorem PostG.here {a : α} (h : PostG K T cA W σ ρ G H (.ok a ρ) Rf Q) (R : RE K T G H ρ σ) {y : β} (r : Rf G H ρ y a) : Q y H := h y H G R Stp.refl r
end

/-! ### new things -/
theorem Now.keeps (k : ∀ a o, H a = some o → H' a = some o) (g : Gle G G') (h : Now K G H v d) : Now K G' H' v d := by
  rcases h with h | ⟨a, rfl, o⟩
  · exact .inl (h.mono g)
  · exact .inr ⟨a, rfl, o.mono g fun u e => k a u e⟩
/-- a new list or dict that nobody has frozen -/
theorem new_fr {p : Addr} {o : HO} (R : RE K T G H ρ σ) (n : H p = none) (h : Own K G (upd H p o) p d) :
    RE K T G (upd H p o) ρ σ ∧ Stp ρ σ G H ρ G (upd H p o) ∧ RV K σ H G (upd H p o) ρ (.ref p) (.fr d) := by
  refine ⟨R.ext (upd_keeps n), Stp.ext (upd_keeps n), p, rfl, .no n, RE.sub_none R.sub n, fun z => ?_, h⟩
  obtain ⟨u, e, _⟩ := R.owned_some z
  rw [n] at e; cases e
/-- a new tuple -/
theorem new_tup {p : Addr} {vs : List V} {ds : List D} (R : RE K T G H ρ σ) (n : H p = none) (r : Reps K G vs ds) :
    RE K T (upd G p (.tup vs)) (upd H p (.tup vs)) ρ σ ∧ Stp ρ σ G H ρ (upd G p (.tup vs)) (upd H p (.tup vs)) ∧ RV K σ H (upd G p (.tup vs)) (upd H p (.tup vs)) ρ (.ref p) (.im (.tup ds)) := by
  obtain ⟨R1, S1, gl⟩ := R.lay n (o := .tup vs) rfl
  exact ⟨R1, S1, Rep.tup upd_same (r.mono gl)⟩
end

/-! ### operators by values -/
def opB : BOp → Operator
  | .add => .Add
  | .sub => .Sub
  | .mul => .Mult
  | .fdiv => .FloorDiv
  | .mod => .Mod
  | .pow => .Pow
def rRepS : R2 := fun x y H Q => ∃ (s : List Nat) (j : Int), x = .str (mkS s) ∧ y = .int j ∧ (0 ≤ j ∧ j ≤ 1000 ∧ s.length ≤ 1000) ∧ Q (.str (mkS (rep j.toNat s))) H
theorem foldl_app {α : Type} (s : Array α) : ∀ (n : Nat) (acc : Array α), (List.replicate n s).foldl (· ++ ·) acc = acc ++ (List.replicate n s.toList).flatten.toArray
  | 0, acc => by simp
  | n + 1, acc => by
    rw [List.replicate_succ, List.foldl_cons, foldl_app s n, List.replicate_succ, List.flatten_cons]
    apply Array.ext'
    simp
theorem rep_length {α : Type} (s : List α) (n : Nat) : (rep n s).length = n * s.length := by
  unfold rep
  induction n with
  | zero => simp
  | succ n ih => rw [List.replicate_succ, List.flatten_cons, List.length_append, ih, Nat.succ_mul, Nat.add_comm]
theorem op_repS {X : Cx} : OpR X (binaryOp .Mult) rRepS := by
  intro pins s σ H x y v u Q I rx ry h
  obtain ⟨z, j, rfl, rfl, ⟨h0, h1, h2⟩, q⟩ := h
  obtain ⟨t, rfl⟩ := rx
  obtain ⟨t', rfl⟩ := ry
  have hl : (mkS z).length = z.length := by simp [Str.length]
  have fin : ∀ t2 s2, Inv X pins σ H s2 → EP X pins σ Q (.str (mkS (rep j.toNat z)) t2) s2 := fun t2 s2 I2 => ⟨.str _, H, I2, ⟨_, rfl⟩, q⟩
  have mz : z.length * j.toNat ≤ 1000000 := by
    have := Nat.mul_le_mul h2 (show j.toNat ≤ 1000 by omega)
    omega
  refine PySem.P.mul_str ?_ (fun g1 _ => ?_) (fun g1 _ => ?_) ?_
  · rw [decide_eq_false (by omega), decide_eq_false (by omega)]; rfl
  · rw [hl]
    have hj : j ≤ 1000 := h1
    have : (2 ^ 63 - 1 : Int) / j ≥ 9223372036854775 := by
      apply Int.le_ediv_of_mul_le (by omega)
      have : (9223372036854775 : Int) * j ≤ 9223372036854775 * 1000 := by omega
      omega
    omega
  · unfold Builtin.Str.tooLong
    rw [hl, sizeLine_eq]
    exact decide_eq_false (by omega)
  · by_cases c1 : j < 1
    · have e0 : j.toNat = 0 := by omega
      rw [if_pos c1]
      refine ⟨by decide, ?_⟩
      have e : mkS (rep j.toNat z) = Str.empty := by rw [e0]; rfl
      have := fin s.toks { s with toks := s.toks + 1 } (I.tok _)
      rw [e] at this
      exact this
    · rw [if_neg c1]
      by_cases c2 : (j == 1 || (mkS z).length == 0) = true
      · rw [if_pos c2]
        have e : rep j.toNat z = z := by
          rw [hl] at c2
          rcases Bool.or_eq_true_iff.mp c2 with q2 | q2
          · have : j = 1 := by simpa using q2
            subst this
            simp [rep]
          · have : z = [] := by simpa using q2
            subst this
            unfold rep; induction j.toNat with
            | zero => rfl
            | succ n ih => rw [List.replicate_succ, List.flatten_cons, ih]; rfl
        have := fin t s I
        rw [e] at this
        exact this
      · rw [if_neg c2]
        have e : (⟨(List.replicate j.toNat (mkS z).cps).foldl (· ++ ·) #[]⟩ : Str) = mkS (rep j.toNat z) := by
          rw [foldl_app]
          simp [mkS, rep]
        rw [e]
        refine ⟨?_, fin s.toks { s with toks := s.toks + 1 } (I.tok _)⟩
        have : (mkS (rep j.toNat z)).length = j.toNat * z.length := by
          show (rep j.toNat z).toArray.size = _
          rw [List.size_toArray, rep_length]
        rw [this, Nat.mul_comm, sizeLine_eq]
        omega
def rB (K : PySem.W.Frag) : BOp → R2
  | .add => fun x y H Q => rI0 (fun i j => .int (i + j)) x y H Q ∨ (fun x y H Q => ∃ i j, x = .str i ∧ y = .str j ∧ i.length + j.length ≤ sizeLine ∧ Q (.str (i ++ j)) H) x y H Q ∨ rCat x y H Q ∨ rCatA K x y H Q
  | .sub => rI0 fun i j => .int (i - j)
  | .mul => fun x y H Q => rI CMul (fun i j => .int (i * j)) x y H Q ∨ rRepS x y H Q ∨ rRep x y H Q
  | .fdiv => rI CDivN fun i j => .int (i.fdiv j)
  | .mod => rI (fun _ j => j ≠ 0) fun i j => .int (i.fmod j)
  | .pow => rI CPow fun i j => .int (i ^ j.toNat)
theorem opB_ok {X : Cx} : ∀ o : BOp, OpR X (binaryOp (opB o)) (rB X.K o)
  | .add => op_add.or (op_add_str.or (op_cat.or op_catA))
  | .sub => op_sub
  | .mul => op_mul.or (op_repS.or op_rep)
  | .fdiv => op_fdivN
  | .mod => op_modN
  | .pow => op_pow
theorem OkS.app {s t : List Nat} (h1 : OkS s) (h2 : OkS t) (hl : s.length + t.length ≤ szL) : OkS (s ++ t) :=
  ⟨fun c hc => (List.mem_append.mp hc).elim (h1.1 c) (h2.1 c), by rw [List.length_append]; exact hl⟩
theorem OkS.rep {s : List Nat} (h : OkS s) {n : Nat} (hl : n * s.length ≤ szL) : OkS (Ev.rep n s) := by
  refine ⟨fun c hc => ?_, by rw [rep_length]; exact hl⟩
  unfold Ev.rep at hc
  obtain ⟨l, hl, hc⟩ := List.mem_flatten.mp hc
  exact h.1 c ((List.mem_replicate.mp hl).2 ▸ hc)
theorem mkS_app (s t : List Nat) : mkS s ++ mkS t = mkS (s ++ t) := by
  show Str.append _ _ = _
  simp [Str.append, mkS]
theorem Reps.rep {K : PySem.W.Frag} {G : Hp} {vs : List V} {ds : List D} (r : Reps K G vs ds) : ∀ n, Reps K G (Ev.rep n vs) (Ev.rep n ds)
  | 0 => .nil
  | n + 1 => by
    unfold Ev.rep
    rw [List.replicate_succ, List.flatten_cons, List.replicate_succ, List.flatten_cons]
    exact r.append (Reps.rep r n)
theorem small64_iff {i : Int} : small64 i = true ↔ -(2 ^ 64) < i ∧ i < 2 ^ 64 := by
  unfold small64
  rw [Nat.blt_eq]
  omega
section
variable {K : PySem.W.Frag} {T : List (Addr × Str)} {G H : Hp} {ρ : Env} {σ : St} {v u : V} {x y : D} {res : VR} {Q : VK}
theorem bop_sound (o : BOp) (R : RE K T G H ρ σ) (hx : Now K G H v x) (hy : Now K G H u y) (h : bop o x y = some res)
    (q : ∀ v' H' G', RE K T G' H' ρ σ → Stp ρ σ G H ρ G' H' → RV K σ H G' H' ρ v' res → Q v' H') : rB K o v u H Q := by
  have imm : ∀ {v' : V} {d : D}, res = .im d → Rep K G v' d → Q v' H := fun {v' d} e r => q v' H G R Stp.refl (by rw [e]; exact r)
  cases o with
  | sub =>
    cases x <;> cases y <;> simp only [bop] at h <;> try cases h
    exact ⟨_, _, hx.int, hy.int, imm rfl (.int _)⟩
  | fdiv =>
    cases x <;> cases y <;> simp only [bop] at h <;> try cases h
    split at h <;> cases h
    rename_i c
    exact ⟨_, _, hx.int, hy.int, c, imm rfl (.int _)⟩
  | mod =>
    cases x <;> cases y <;> simp only [bop] at h <;> try cases h
    split at h <;> cases h
    rename_i c
    exact ⟨_, _, hx.int, hy.int, c, imm rfl (.int _)⟩
  | pow =>
    cases x <;> cases y <;> simp only [bop] at h <;> try cases h
    split at h <;> cases h
    rename_i c
    exact ⟨_, _, hx.int, hy.int, c, imm rfl (.int _)⟩
  | add =>
    cases x <;> cases y <;> simp only [bop] at h <;> try cases h
    · exact .inl ⟨_, _, hx.int, hy.int, imm rfl (.int _)⟩
    · split at h <;> cases h
      rename_i c
      obtain ⟨rfl, k1⟩ := hx.str
      obtain ⟨rfl, k2⟩ := hy.str
      refine .inr (.inl ⟨_, _, rfl, rfl, ?_, ?_⟩)
      · simpa [Str.length, sizeLine_eq] using c
      · rw [mkS_app]
        exact imm rfl (.str (k1.app k2 c))
    · split at h <;> cases h
      rename_i c
      obtain ⟨a, vs, rfl, _, e1, r1⟩ := hx.tup R.sub
      obtain ⟨b, ws, rfl, _, e2, r2⟩ := hy.tup R.sub
      have l1 := r1.length
      have l2 := r2.length
      refine .inr (.inr (.inr ⟨a, b, vs, ws, rfl, rfl, .of e1, .of e2, ?_, fun z => ?_, fun z1 z2 => ?_, fun z1 z2 p np => ?_⟩))
      · rw [l1, l2, sizeLine_eq]; exact c
      · subst z
        cases r1
        rcases hy with hy | ⟨_, _, o⟩
        · exact imm rfl hy
        · exact False.elim o
      · subst z2
        cases r2
        rw [List.append_nil] at imm
        rcases hx with hx | ⟨_, _, o⟩
        · exact imm rfl hx
        · exact False.elim o
      · obtain ⟨R1, S1, r⟩ := new_tup R np (r1.append r2)
        exact q _ _ _ R1 S1 r
    · split at h <;> cases h
      rename_i c
      obtain ⟨a, vs, rfl, e1, r1⟩ := hx.lst R.sub
      obtain ⟨b, ws, rfl, e2, r2⟩ := hy.lst R.sub
      refine .inr (.inr (.inl ⟨a, b, vs, ws, rfl, rfl, e1, e2, ?_, fun p np => ?_⟩))
      · rw [r1.length, r2.length, sizeLine_eq]; exact c
      · obtain ⟨R1, S1, r⟩ := new_fr R np (d := .lst _) (o := .lst (vs ++ ws)) ⟨_, upd_same, r1.append r2⟩
        exact q _ _ _ R1 S1 r
  | mul =>
    cases x <;> cases y <;> simp only [bop] at h <;> try cases h
    · split at h <;> cases h
      rename_i c
      refine .inl ⟨_, _, hx.int, hy.int, ?_, imm rfl (.int _)⟩
      rcases Bool.or_eq_true_iff.mp c with z | z
      · exact .inl (small64_iff.mp z)
      · exact .inr (small64_iff.mp z)
    · split at h <;> cases h
      rename_i c
      obtain ⟨rfl, k1⟩ := hx.str
      refine .inr (.inl ⟨_, _, rfl, hy.int, c, imm rfl (.str (k1.rep ?_))⟩)
      rename_i z j
      have := Nat.mul_le_mul (show j.toNat ≤ 1000 by omega) c.2.2
      show _ ≤ 16777216
      omega
    · split at h <;> cases h
      rename_i c
      obtain ⟨a, vs, rfl, e1, r1⟩ := hx.lst R.sub
      rename_i xs j
      have hm := Nat.mul_le_mul c.2.2 (show j.toNat ≤ 1000 by omega)
      refine .inr (.inr ⟨a, j, vs, rfl, hy.int, e1, by omega, by omega, ?_, fun p np => ?_⟩)
      · rw [r1.length, sizeLine_eq]; omega
      · obtain ⟨R1, S1, r⟩ := new_fr R np (d := .lst _) (o := .lst (Ev.rep j.toNat vs)) ⟨_, upd_same, r1.rep _⟩
        exact q _ _ _ R1 S1 r
end
end Ev

/-! E3: comparisons by values. -/
namespace Ev
open PySem PySem.Spec L2
open PyProof.Rows hiding St

mutual
def toP : D → PyData
  | .non => .none
  | .bl b => .bool b
  | .int i => .int i
  | .str s => .str (mkS s)
  | .tup xs => .tuple (toPs xs)
  | .lst xs => .list (toPs xs)
  | .dic _ => .none
  | .scr _ => .none
  | .ktp _ => .none
  termination_by structural d => d
def toPs : List D → List PyData
  | [] => []
  | x :: xs => toP x :: toPs xs
  termination_by structural d => d
end
theorem mkS_eq (x y : List Nat) : (mkS x == mkS y) = (x == y) := by
  by_cases h : x = y
  · subst h; simp
  · have : ¬ mkS x = mkS y := fun e => h (by injection e with e; simpa using e)
    rw [beq_eq_false_iff_ne.mpr this, beq_eq_false_iff_ne.mpr h]
mutual
theorem eqv_toP : ∀ (x y : D), x.nod = true → y.nod = true → D.eqv x y = PyData.eqv (toP x) (toP y)
  | .tup xs, .tup ys, h, k => by
    simp only [D.nod] at h k
    simp only [D.eqv, toP, PyData.eqv]
    exact eqvs_toP xs ys h k
  | .lst xs, .lst ys, h, k => by
    simp only [D.nod] at h k
    simp only [D.eqv, toP, PyData.eqv]
    exact eqvs_toP xs ys h k
  | .str x, .str y, _, _ => by simp only [D.eqv, toP, PyData.eqv, mkS_eq]
  | .non, y, _, k => by cases y <;> simp [D.eqv, toP, PyData.eqv, D.nod] at k ⊢
  | .bl a, y, _, k => by cases y <;> simp [D.eqv, toP, PyData.eqv, D.nod] at k ⊢
  | .int a, y, _, k => by cases y <;> simp [D.eqv, toP, PyData.eqv, D.nod] at k ⊢
  | .str a, .non, _, k => by simp [D.eqv, toP, PyData.eqv]
  | .str a, .bl _, _, k => by simp [D.eqv, toP, PyData.eqv]
  | .str a, .int _, _, k => by simp [D.eqv, toP, PyData.eqv]
  | .str a, .tup _, _, k => by simp [D.eqv, toP, PyData.eqv]
  | .str a, .lst _, _, k => by simp [D.eqv, toP, PyData.eqv]
  | .tup a, .non, _, k => by simp [D.eqv, toP, PyData.eqv]
  | .tup a, .bl _, _, k => by simp [D.eqv, toP, PyData.eqv]
  | .tup a, .int _, _, k => by simp [D.eqv, toP, PyData.eqv]
  | .tup a, .str _, _, k => by simp [D.eqv, toP, PyData.eqv]
  | .tup a, .lst _, _, k => by simp [D.eqv, toP, PyData.eqv]
  | .lst a, .non, _, k => by simp [D.eqv, toP, PyData.eqv]
  | .lst a, .bl _, _, k => by simp [D.eqv, toP, PyData.eqv]
  | .lst a, .int _, _, k => by simp [D.eqv, toP, PyData.eqv]
  | .lst a, .str _, _, k => by simp [D.eqv, toP, PyData.eqv]
  | .lst a, .tup _, _, k => by simp [D.eqv, toP, PyData.eqv]
  | .dic _, _, h, _ => by simp [D.nod] at h
  | .scr _, _, h, _ => by simp [D.nod] at h
  | .ktp _, _, h, _ => by simp [D.nod] at h
  | .str _, .dic _, _, k => by simp [D.nod] at k
  | .tup _, .dic _, _, k => by simp [D.nod] at k
  | .lst _, .dic _, _, k => by simp [D.nod] at k
  | .str _, .scr _, _, k => by simp [D.nod] at k
  | .tup _, .scr _, _, k => by simp [D.nod] at k
  | .lst _, .scr _, _, k => by simp [D.nod] at k
  | .str _, .ktp _, _, k => by simp [D.nod] at k
  | .tup _, .ktp _, _, k => by simp [D.nod] at k
  | .lst _, .ktp _, _, k => by simp [D.nod] at k
theorem eqvs_toP : ∀ (xs ys : List D), D.nods xs = true → D.nods ys = true → D.eqvs xs ys = PyData.eqvAll (toPs xs) (toPs ys)
  | [], [], _, _ => by simp [D.eqvs, toPs, PyData.eqvAll]
  | x :: xs, y :: ys, h, k => by
    simp only [D.nods, Bool.and_eq_true] at h k
    simp only [D.eqvs, toPs, PyData.eqvAll]
    rw [eqv_toP x y h.1 k.1, eqvs_toP xs ys h.2 k.2]
  | [], _ :: _, _, _ => by simp [D.eqvs, toPs, PyData.eqvAll]
  | _ :: _, [], _, _ => by simp [D.eqvs, toPs, PyData.eqvAll]
end
mutual
theorem dep_toP : ∀ (x : D), x.nod = true → (toP x).depth = x.dep
  | .tup xs, h => by simp only [D.nod] at h; simp only [toP, PyData.depth, D.dep, deps_toP xs h]
  | .lst xs, h => by simp only [D.nod] at h; simp only [toP, PyData.depth, D.dep, deps_toP xs h]
  | .non, _ => by simp [toP, PyData.depth, D.dep]
  | .bl _, _ => by simp [toP, PyData.depth, D.dep]
  | .int _, _ => by simp [toP, PyData.depth, D.dep]
  | .str _, _ => by simp [toP, PyData.depth, D.dep]
  | .dic _, h => by simp [D.nod] at h
  | .scr _, h => by simp [D.nod] at h
  | .ktp _, h => by simp [D.nod] at h
theorem deps_toP : ∀ (x : List D), D.nods x = true → PyData.depthAll (toPs x) = D.deps x
  | [], _ => by simp [toPs, PyData.depthAll, D.deps]
  | x :: xs, h => by
    simp only [D.nods, Bool.and_eq_true] at h
    simp only [toPs, PyData.depthAll, D.deps, dep_toP x h.1, deps_toP xs h.2]
end
section
variable {K : PySem.W.Frag} {G H : Hp}
theorem strOk_of {s : List Nat} (h : OkS s) : PyData.strOk (mkS s) = true := by
  unfold PyData.strOk
  simp only [Array.all_eq_true]
  intro i hi
  simp only [List.size_toArray] at hi
  simpa using h.1 s[i] (List.getElem_mem hi)
mutual
theorem dp_of (s : Sub G H) : ∀ {v : V} {d : D}, Rep K G v d → d.nod = true → Dp K H v (toP d) ∧ (toP d).canLay0 = true
  | _, _, .non, _ => ⟨by simpa [toP] using Dp.non, by simp [toP, PyData.canLay0]⟩
  | _, _, .bl b, _ => ⟨by simpa [toP] using Dp.bl b, by simp [toP, PyData.canLay0]⟩
  | _, _, .int i, _ => ⟨by simpa [toP] using Dp.int i, by simp [toP, PyData.canLay0]⟩
  | _, _, .str k, _ => ⟨by simpa [toP] using Dp.str _, by simpa [toP, PyData.canLay0] using strOk_of k⟩
  | _, _, .tup h r, k => by
    simp only [D.nod] at k
    have q := dps_of s r k
    simp only [toP, PyData.canLay0]
    exact ⟨.tup (.of (s.tup h)) q.1, q.2⟩
  | _, _, .lst h r, k => by
    simp only [D.nod] at k
    have q := dps_of s r k
    simp only [toP, PyData.canLay0]
    exact ⟨.lst (.inl (.inl (s.lst h))) q.1, q.2⟩
  | _, _, .scr _, k => by simp [D.nod] at k
  | _, _, .ktp _ _, k => by simp [D.nod] at k
  | _, _, .dK _ _, k => by simp [D.nod] at k
  | _, _, .dT _ _ _, k => by simp [D.nod] at k
theorem dps_of (s : Sub G H) : ∀ {vs : List V} {ds : List D}, Reps K G vs ds → D.nods ds = true → DpAll K H vs (toPs ds) ∧ PyData.canLayAll0 (toPs ds) = true
  | _, _, .nil, _ => ⟨by simpa [toPs] using DpAll.nil, by simp [toPs, PyData.canLayAll0]⟩
  | _, _, .cons h r, k => by
    simp only [D.nods, Bool.and_eq_true] at k
    have q1 := dp_of s h k.1
    have q2 := dps_of s r k.2
    simp only [toPs, PyData.canLayAll0, q1.2, q2.2, Bool.and_self, and_true]
    exact .cons q1.1 q2.1
end
theorem dp_now (s : Sub G H) {v : V} {d : D} (h : Now K G H v d) (n : d.nod = true) : Dp K H v (toP d) ∧ (toP d).canLay0 = true := by
  rcases h with h | ⟨a, rfl, o⟩
  · exact dp_of s h n
  · cases d <;> simp only [Own] at o
    case lst ds =>
      obtain ⟨vs, e, r⟩ := o
      simp only [D.nod] at n
      have q := dps_of s r n
      simp only [toP, PyData.canLay0]
      exact ⟨.lst (.inl (.inl e)) q.1, q.2⟩
    case dic ps => simp [D.nod] at n
end

/-! ### rules -/
def rEqN (K : PySem.W.Frag) : R2 := fun x y H Q => ∃ d e, Dp K H x d ∧ Dp K H y e ∧ d.canLay0 = true ∧ e.canLay0 = true ∧ min d.depth e.depth ≤ 60 ∧ Q (.bl (PyData.eqv d e)) H
def rNeN (K : PySem.W.Frag) : R2 := fun x y H Q => ∃ d e, Dp K H x d ∧ Dp K H y e ∧ d.canLay0 = true ∧ e.canLay0 = true ∧ min d.depth e.depth ≤ 60 ∧ Q (.bl (!PyData.eqv d e)) H
def rInN (K : PySem.W.Frag) : R2 := fun x y H Q => ∃ d ds, Dp K H x d ∧ (Dp K H y (.list ds) ∨ Dp K H y (.tuple ds)) ∧ d.canLay0 = true ∧ PyData.canLayAll0 ds = true ∧ min (PyData.depthAll ds) d.depth ≤ 60 ∧ Q (.bl (ds.any fun z => PyData.eqv z d)) H
def rNotInN (K : PySem.W.Frag) : R2 := fun x y H Q => ∃ d ds, Dp K H x d ∧ (Dp K H y (.list ds) ∨ Dp K H y (.tuple ds)) ∧ d.canLay0 = true ∧ PyData.canLayAll0 ds = true ∧ min (PyData.depthAll ds) d.depth ≤ 60 ∧ Q (.bl (!ds.any fun z => PyData.eqv z d)) H
section
variable {X : Cx}
theorem op_eqN (hu : X.A.units + 65 < cLine) : OpR X (compareOp .Eq) (rEqN X.K) := by
  intro pins s σ H x y v u Q I rx ry h
  obtain ⟨d, e, hd, he, sd, se, hm, q⟩ := h
  obtain ⟨as, r1⟩ := Dp.reads I d x v hd rx
  obtain ⟨bs, r2⟩ := Dp.reads I e y u he ry
  exact SeqAt.compareEq_reads r1 r2 sd se (by omega) ⟨.bl _, H, I, rfl, q⟩
theorem op_neN (hu : X.A.units + 65 < cLine) : OpR X (compareOp .NotEq) (rNeN X.K) := by
  intro pins s σ H x y v u Q I rx ry h
  obtain ⟨d, e, hd, he, sd, se, hm, q⟩ := h
  obtain ⟨as, r1⟩ := Dp.reads I d x v hd rx
  obtain ⟨bs, r2⟩ := Dp.reads I e y u he ry
  exact SeqAt.compareNe_reads r1 r2 sd se (by omega) ⟨.bl _, H, I, rfl, q⟩
theorem op_inN (hu : X.A.units + 65 < cLine) : OpR X (compareOp .In) (rInN X.K) := by
  intro pins s σ H x y v u Q I rx ry h
  obtain ⟨d, ds, hd, he | he, sd, se, hm, q⟩ := h
  · obtain ⟨as, r1⟩ := Dp.reads I d x v hd rx
    obtain ⟨bs, r2⟩ := Dp.reads I (.list ds) y u he ry
    exact SeqAt.in_list_reads r2 r1 se sd (by omega) ⟨.bl _, H, I, rfl, q⟩
  · obtain ⟨as, r1⟩ := Dp.reads I d x v hd rx
    obtain ⟨bs, r2⟩ := Dp.reads I (.tuple ds) y u he ry
    exact SeqAt.in_tuple_reads r2 r1 se sd (by omega) ⟨.bl _, H, I, rfl, q⟩
theorem op_notInN (hu : X.A.units + 65 < cLine) : OpR X (compareOp .NotIn) (rNotInN X.K) := by
  intro pins s σ H x y v u Q I rx ry h
  obtain ⟨d, ds, hd, he | he, sd, se, hm, q⟩ := h
  · obtain ⟨as, r1⟩ := Dp.reads I d x v hd rx
    obtain ⟨bs, r2⟩ := Dp.reads I (.list ds) y u he ry
    exact SeqAt.notIn_list_reads r2 r1 se sd (by omega) ⟨.bl _, H, I, rfl, q⟩
  · obtain ⟨as, r1⟩ := Dp.reads I d x v hd rx
    obtain ⟨bs, r2⟩ := Dp.reads I (.tuple ds) y u he ry
    exact SeqAt.notIn_tuple_reads r2 r1 se sd (by omega) ⟨.bl _, H, I, rfl, q⟩
/-- a dict beside the empty one -/
def rEq0 (b : Bool) : R2 := fun x y H Q => ∃ a c kvs, x = .ref a ∧ y = .ref c ∧ Rd H a (.dK kvs) ∧ Rd H c (.dK []) ∧ Q (.bl (if b then kvs.isEmpty else !kvs.isEmpty)) H
theorem op_eq0 (hu : X.A.units + 65 < cLine) : OpR X (compareOp .Eq) (rEq0 true) := by
  intro pins s σ H x y v u Q I rx ry h
  obtain ⟨a, c, kvs, rfl, rfl, h1, h2, q⟩ := h
  cases rx; cases ry
  obtain ⟨_, ya, va, ra, da⟩ := dk_rd I.hok h1
  obtain ⟨_, yb, vb, rb, db⟩ := dk_rd I.hok h2
  have el := ra.length
  cases rb
  refine PySem.W.keq_eq (knd := mixKind X.prog X.w) (r := true) ya yb da db (by omega) (fun e => ?_) ⟨.bl _, H, I, ?_, q⟩
  · cases va with
    | nil => exact .nil
    | cons => simp at e
  · cases ra with
    | nil => rfl
    | cons => rfl
theorem op_ne0 (hu : X.A.units + 65 < cLine) : OpR X (compareOp .NotEq) (rEq0 false) := by
  intro pins s σ H x y v u Q I rx ry h
  obtain ⟨a, c, kvs, rfl, rfl, h1, h2, q⟩ := h
  cases rx; cases ry
  obtain ⟨_, ya, va, ra, da⟩ := dk_rd I.hok h1
  obtain ⟨_, yb, vb, rb, db⟩ := dk_rd I.hok h2
  cases rb
  refine PySem.W.keq_ne (knd := mixKind X.prog X.w) (r := true) ya yb da db (by omega) (fun e => ?_) ⟨.bl _, H, I, ?_, q⟩
  · cases va with
    | nil => exact .nil
    | cons => simp at e
  · cases ra with
    | nil => rfl
    | cons => rfl
/-- what a dict holds at a key, also where an empty one is asked of a tuple -/
def DGetE (H : Hp) (a : Addr) (y : V) (r : Option V) : Prop := DGet H a y r ∨ (Rd H a (.dK []) ∧ (∃ (b : Addr) (k : List Key), y = .ref b ∧ H b = some (.tup (k.map kV))) ∧ r = none)
theorem empty_T {P : Program} {w : World} {h : Heap} {a : Addr} (d : h.DictOf (mixKind P w) a ([] : List (Key × Value))) : h.DictOfH (tupleKind (mixKind P w)) a [] := by
  obtain ⟨o, es, ep, h1, h2, h3, h4, h5, h6⟩ := d
  refine ⟨o, es, ep, h1, h2, h3, ?_, fun x hx => absurd hx (by simp), by simp⟩
  generalize es.toList = l at h5
  cases h5
  rfl
def rInD' (neg : Bool) : R2 := fun x y H Q => ∃ a o, y = .ref a ∧ DGetE H a x o ∧ Q (.bl (o.isSome != neg)) H
theorem op_inDic (hu : X.A.units + 65 < cLine) : OpR X (compareOp .In) (rInD' false) := by
  intro pins s σ H x y v u Q I rx ry h
  obtain ⟨a, o, rfl, g | ⟨g, ⟨b, k, rfl, e⟩, rfl⟩, q⟩ := h
  · cases ry
    refine d_in (by omega) I g rx fun s' I' => ⟨.bl _, H, I', rfl, ?_⟩
    rw [Bool.bne_false] at q
    exact q
  · cases rx; cases ry
    obtain ⟨_, ya, va, ra, da⟩ := dk_rd I.hok g
    cases ra
    refine wpAny_in_heap (tupleKind_room_in1 (by omega)) (key_of I.hok e) ya (empty_T da) ⟨.bl _, H, I.tok _, rfl, ?_⟩
    exact q
theorem op_notInDic (hu : X.A.units + 65 < cLine) : OpR X (compareOp .NotIn) (rInD' true) := by
  intro pins s σ H x y v u Q I rx ry h
  obtain ⟨a, o, rfl, g | ⟨g, ⟨b, k, rfl, e⟩, rfl⟩, q⟩ := h
  · cases ry
    refine d_notIn (by omega) I g rx fun s' I' => ⟨.bl _, H, I', rfl, ?_⟩
    rw [Bool.bne_true] at q
    exact q
  · cases rx; cases ry
    obtain ⟨_, ya, va, ra, da⟩ := dk_rd I.hok g
    cases ra
    refine wpAny_notIn_heap (tupleKind_room_in1 (by omega)) (key_of I.hok e) ya (empty_T da) ⟨.bl _, H, I.tok _, rfl, ?_⟩
    exact q
end

def opC : COp → CmpOp
  | .eq => .Eq
  | .ne => .NotEq
  | .lt => .Lt
  | .le => .LtE
  | .gt => .Gt
  | .ge => .GtE
  | .mem => .In
  | .nmem => .NotIn
def rC (K : PySem.W.Frag) : COp → R2
  | .eq => fun x y H Q => rEqN K x y H Q ∨ rEq0 true x y H Q
  | .ne => fun x y H Q => rNeN K x y H Q ∨ rEq0 false x y H Q
  | .lt => fun x y H Q => rI0 (fun i j => .bl (decide (i < j))) x y H Q ∨ (fun x y H Q => ∃ i j, x = .str i ∧ y = .str j ∧ Q (.bl (decide (i.cps.toList < j.cps.toList))) H) x y H Q
  | .le => fun x y H Q => rI0 (fun i j => .bl (decide (i ≤ j))) x y H Q ∨ (fun x y H Q => ∃ i j, x = .str i ∧ y = .str j ∧ Q (.bl (!decide (j.cps.toList < i.cps.toList))) H) x y H Q
  | .gt => fun x y H Q => rI0 (fun i j => .bl (decide (j < i))) x y H Q ∨ (fun x y H Q => ∃ i j, x = .str i ∧ y = .str j ∧ Q (.bl (decide (j.cps.toList < i.cps.toList))) H) x y H Q
  | .ge => fun x y H Q => rI0 (fun i j => .bl (decide (j ≤ i))) x y H Q ∨ (fun x y H Q => ∃ i j, x = .str i ∧ y = .str j ∧ Q (.bl (!decide (i.cps.toList < j.cps.toList))) H) x y H Q
  | .mem => fun x y H Q => rInN K x y H Q ∨ rInD' false x y H Q ∨ (fun x y H Q => ∃ (c : Nat) (z : Str), x = .str ⟨#[c]⟩ ∧ y = .str z ∧ Q (.bl (decide (c ∈ z.cps.toList))) H) x y H Q
  | .nmem => fun x y H Q => rNotInN K x y H Q ∨ rInD' true x y H Q ∨ (fun x y H Q => ∃ (c : Nat) (z : Str), x = .str ⟨#[c]⟩ ∧ y = .str z ∧ Q (.bl (!decide (c ∈ z.cps.toList))) H) x y H Q
theorem opC_ok {X : Cx} (hu : X.A.units + 65 < cLine) : ∀ o : COp, OpR X (compareOp (opC o)) (rC X.K o)
  | .eq => (op_eqN hu).or (op_eq0 hu)
  | .ne => (op_neN hu).or (op_ne0 hu)
  | .lt => op_lt.or op_lt_str
  | .le => op_le.or op_le_str
  | .gt => op_gt.or op_gt_str
  | .ge => op_ge.or op_ge_str
  | .mem => (op_inN hu).or ((op_inDic hu).or op_in_sign)
  | .nmem => (op_notInN hu).or ((op_notInDic hu).or op_notIn_sign)

theorem ltL_iff : ∀ (x y : List Nat), ltL x y = decide (x < y)
  | [], [] => by simp [ltL]
  | [], _ :: _ => by simp [ltL]
  | _ :: _, [] => by simp [ltL]
  | a :: x, b :: y => by
    simp only [ltL, ltL_iff x y, List.cons_lt_cons_iff]
    have hb : Nat.blt a b = decide (a < b) := by
      by_cases h : a < b
      · rw [decide_eq_true h]; exact (Nat.blt_eq ▸ h : Nat.blt a b = true)
      · rw [decide_eq_false h]
        cases q : Nat.blt a b with
        | false => rfl
        | true => exact absurd (Nat.blt_eq ▸ q) h
    rw [hb]
    by_cases h : a < b
    · simp [h]
    · by_cases e : a = b
      · subst e; simp
      · simp [h, e]
theorem memD_any (x : D) (n : x.nod = true) : ∀ (ys : List D), D.nods ys = true → memD x ys = (toPs ys).any fun z => PyData.eqv z (toP x)
  | [], _ => by simp [memD, toPs]
  | y :: ys, h => by
    simp only [D.nods, Bool.and_eq_true] at h
    simp only [memD, toPs, List.any_cons, eqv_toP y x h.1 n, memD_any x n ys h.2]
/-! ### keys -/
theorem eqv_key : ∀ (k : Key) (j : Key), D.eqv (keyD k) (keyD j) = decide (k = j)
  | .inl i, .inl j => by
    simp only [keyD, D.eqv]
    by_cases h : i = j
    · subst h; simp
    · rw [beq_eq_false_iff_ne.mpr h, decide_eq_false (fun q => h (Sum.inl.inj q))]
  | .inr x, .inr y => by
    simp only [keyD, D.eqv]
    by_cases h : x = y
    · subst h; simp
    · have : ¬ x.cps.toList = y.cps.toList := fun e => h (by cases x; cases y; simpa using e)
      rw [beq_eq_false_iff_ne.mpr this, decide_eq_false (fun q => h (Sum.inr.inj q))]
  | .inl i, .inr y => by simp [keyD, D.eqv]
  | .inr x, .inl j => by simp [keyD, D.eqv]
theorem eqvs_keys : ∀ (k j : List Key), D.eqvs (k.map keyD) (j.map keyD) = decide (k = j)
  | [], [] => by simp [D.eqvs]
  | [], _ :: _ => by simp [D.eqvs]
  | _ :: _, [] => by simp [D.eqvs]
  | a :: k, b :: j => by
    simp only [List.map_cons, D.eqvs, eqv_key, eqvs_keys k j]
    by_cases h : a = b <;> by_cases h2 : k = j <;> simp [h, h2]
section
variable {K : PySem.W.Frag} {G H : Hp}
theorem rep_keyO {v : V} {d : D} (h : Rep K G v d) (k : d.isKey = true) : ∃ j : Key, v = kV j ∧ d = keyD j ∧ OkK j := by
  cases h <;> simp [D.isKey] at k
  · exact ⟨.inl _, rfl, rfl, trivial⟩
  · exact ⟨.inr _, rfl, by simp [keyD], by simpa [OkK]⟩
theorem rep_key {v : V} {d : D} (h : Rep K G v d) (k : d.isKey = true) : ∃ j : Key, v = kV j ∧ d = keyD j := by
  obtain ⟨j, a, b, _⟩ := rep_keyO h k
  exact ⟨j, a, b⟩
theorem reps_keysO : ∀ {vs : List V} {ds : List D}, Reps K G vs ds → ds.all D.isKey = true → ∃ j : List Key, vs = j.map kV ∧ ds = j.map keyD ∧ ∀ k ∈ j, OkK k
  | _, _, .nil, _ => ⟨[], rfl, rfl, fun _ h => nomatch h⟩
  | _, _, .cons h r, k => by
    simp only [List.all_cons, Bool.and_eq_true] at k
    obtain ⟨j, rfl, rfl, o⟩ := rep_keyO h k.1
    obtain ⟨js, rfl, rfl, os⟩ := reps_keysO r k.2
    exact ⟨j :: js, rfl, rfl, fun i hi => by rcases List.mem_cons.mp hi with rfl | hi; exact o; exact os i hi⟩
theorem reps_keys {vs : List V} {ds : List D} (r : Reps K G vs ds) (k : ds.all D.isKey = true) : ∃ j : List Key, vs = j.map kV ∧ ds = j.map keyD := by
  obtain ⟨j, a, b, _⟩ := reps_keysO r k
  exact ⟨j, a, b⟩
/-- a tuple of keys that was made (not one of the module's) -/
theorem repK_look {k : Key} : ∀ {kvs : List (Key × V)} {ps : List (D × D)}, RepK K G kvs ps → (lookK ps (keyD k) = none ∧ valV kvs k = none) ∨ ∃ d v, lookK ps (keyD k) = some d ∧ valV kvs k = some v ∧ Rep K G v d
  | _, _, .nil => .inl ⟨rfl, rfl⟩
  | _, _, .cons (k := j) (v := v) (d := d) _ h r => by
    by_cases e : j = k
    · subst e
      refine .inr ⟨d, v, ?_, valV_pos rfl, h⟩
      simp [lookK, List.find?_cons, eqv_key]
    · have e1 : ∀ (ps : List (D × D)), lookK ((keyD j, d) :: ps) (keyD k) = lookK ps (keyD k) := fun ps => by simp [lookK, List.find?_cons, eqv_key, e]
      rw [e1, valV_neg e]
      exact repK_look r
theorem repT_look {k : List Key} : ∀ {kvs : List (List Key × V)} {ps : List (D × D)}, RepT K G kvs ps → (lookK ps (.tup (k.map keyD)) = none ∧ valV kvs k = none) ∨ ∃ d v, lookK ps (.tup (k.map keyD)) = some d ∧ valV kvs k = some v ∧ Rep K G v d
  | _, _, .nil => .inl ⟨rfl, rfl⟩
  | _, _, .cons (k := j) (v := v) (d := d) _ h r => by
    by_cases e : j = k
    · subst e
      refine .inr ⟨d, v, ?_, valV_pos rfl, h⟩
      simp [lookK, List.find?_cons, D.eqv, eqvs_keys]
    · have e1 : ∀ (ps : List (D × D)), lookK ((.tup (j.map keyD), d) :: ps) (.tup (k.map keyD)) = lookK ps (.tup (k.map keyD)) := fun ps => by simp [lookK, List.find?_cons, D.eqv, eqvs_keys, e]
      rw [e1, valV_neg e]
      exact repT_look r
theorem keyD_isKey (k : Key) : (keyD k).isKey = true := by cases k <;> rfl
theorem keyD_isTKey (k : Key) : (keyD k).isTKey = false := by cases k <;> rfl
theorem eqv_key_tup (k : Key) (x : List D) : D.eqv (.tup x) (keyD k) = false := by cases k <;> simp [keyD, D.eqv]
end

section
variable {K : PySem.W.Frag} {T : List (Addr × Str)} {G H : Hp} {ρ : Env} {σ : St} {v u : V} {x y : D} {res : VR} {Q : VK}
theorem rep_tkey (s : Sub G H) {v : V} {d : D} (h : Now K G H v d) (k : d.isTKey = true) : ∃ (b : Addr) (j : List Key), v = .ref b ∧ H b = some (.tup (j.map kV)) ∧ d = .tup (j.map keyD) := by
  cases d <;> simp only [D.isTKey] at k <;> try cases k
  obtain ⟨a, vs, rfl, _, e, r⟩ := h.tup s
  obtain ⟨j, rfl, rfl⟩ := reps_keys r k
  exact ⟨a, j, rfl, e, rfl⟩
theorem now_key {v : V} {d : D} (h : Now K G H v d) (k : d.isKey = true) : ∃ j : Key, v = kV j ∧ d = keyD j := by
  rcases h with h | ⟨a, rfl, o⟩
  · exact rep_key h k
  · cases d <;> simp [D.isKey] at k <;> exact False.elim o
/-- a dict that fits a key, asked -/
theorem dic_get (s : Sub G H) {ps : List (D × D)} (hy : Now K G H u (.dic ps)) (hx : Now K G H v x) (f : keyFits ps x = true) :
    ∃ a o, u = .ref a ∧ DGetE H a v o ∧ ((lookK ps x = none ∧ o = none) ∨ ∃ d w, lookK ps x = some d ∧ o = some w ∧ Rep K G w d) := by
  obtain ⟨a, rfl, ⟨kvs, e, r⟩ | ⟨kvs, e, n, r⟩⟩ := hy.dic s
  · have key : ∀ j : Key, v = kV j → x = keyD j → ∃ a' o, V.ref a = .ref a' ∧ DGetE H a' v o ∧ ((lookK ps x = none ∧ o = none) ∨ ∃ d w, lookK ps x = some d ∧ o = some w ∧ Rep K G w d) := by
      rintro j rfl rfl
      refine ⟨a, valV kvs j, rfl, .inl (.inl ⟨kvs, j, e, rfl, rfl⟩), ?_⟩
      rcases repK_look (k := j) r with ⟨h1, h2⟩ | ⟨d, w, h1, h2, h3⟩
      · exact .inl ⟨h1, h2⟩
      · exact .inr ⟨d, w, h1, h2, h3⟩
    cases r with
    | nil =>
      simp only [keyFits, Bool.or_eq_true] at f
      rcases f with f | f
      · obtain ⟨j, e1, e2⟩ := now_key hx f
        exact key j e1 e2
      · obtain ⟨b, j, rfl, eb, rfl⟩ := rep_tkey s hx f
        exact ⟨a, none, rfl, .inr ⟨e, ⟨b, j, rfl, eb⟩, rfl⟩, .inl ⟨rfl, rfl⟩⟩
    | cons _ h r =>
      simp only [keyFits, keyD_isKey, keyD_isTKey, Bool.true_and, Bool.false_and, Bool.or_false] at f
      obtain ⟨j, e1, e2⟩ := now_key hx f
      exact key j e1 e2
  · cases r with
    | nil => exact absurd rfl n
    | cons ok h r =>
      rename_i k w d kvs ps
      have hk : (D.tup (k.map keyD)).isKey = false := rfl
      simp only [keyFits, hk, Bool.false_and, Bool.false_or, Bool.and_eq_true] at f
      obtain ⟨b, j, rfl, eb, rfl⟩ := rep_tkey s hx f.2
      refine ⟨a, valV ((k, w) :: kvs) j, rfl, .inl (.inr ⟨_, j, b, e, rfl, eb, rfl⟩), ?_⟩
      rcases repT_look (k := j) (.cons ok h r : RepT K G ((k, w) :: kvs) _) with ⟨h1, h2⟩ | ⟨d', w', h1, h2, h3⟩
      · exact .inl ⟨h1, h2⟩
      · exact .inr ⟨d', w', h1, h2, h3⟩
theorem isKey_dK (s : Sub G H) {ps : List (D × D)} (hy : Now K G H u (.dic ps)) (f : ps.all (·.1.isKey) = true) : ∃ a kvs, u = .ref a ∧ Rd H a (.dK kvs) ∧ kvs.isEmpty = ps.isEmpty := by
  obtain ⟨a, rfl, ⟨kvs, e, r⟩ | ⟨kvs, e, n, r⟩⟩ := hy.dic s
  · refine ⟨a, kvs, rfl, e, ?_⟩
    cases r <;> rfl
  · cases r with
    | nil => exact absurd rfl n
    | cons _ h r => simp [D.isKey] at f
theorem eqO_cases {b : Bool} (h : eqO x y = some b) : (x.nod = true ∧ y.nod = true ∧ min x.dep y.dep ≤ 60 ∧ D.eqv x y = b) ∨ ∃ ps, x = .dic ps ∧ y = .dic [] ∧ ps.all (·.1.isKey) = true ∧ ps.isEmpty = b := by
  unfold eqO at h
  split at h
  · rename_i c
    simp only [Bool.and_eq_true, Bool.or_eq_true, Nat.ble_eq] at c
    cases h
    exact .inl ⟨c.1.1, c.1.2, by omega, rfl⟩
  · split at h
    · split at h
      · cases h
        exact .inr ⟨_, rfl, rfl, by assumption, rfl⟩
      · cases h
    · cases h
theorem isIn_cases {b : Bool} (h : isIn x y = some b) : (∃ s c, x = .str [c] ∧ y = .str s ∧ s.contains c = b) ∨ (∃ ys, (y = .lst ys ∨ y = .tup ys) ∧ x.nod = true ∧ D.nods ys = true ∧ min (D.deps ys) x.dep ≤ 60 ∧ memD x ys = b) ∨
    ∃ ps, y = .dic ps ∧ keyFits ps x = true ∧ (lookK ps x).isSome = b := by
  cases y <;> simp only [isIn] at h <;> try cases h
  · split at h
    · cases h; exact .inl ⟨_, _, rfl, rfl, rfl⟩
    · cases h
  · split at h
    · rename_i c
      simp only [Bool.and_eq_true, Bool.or_eq_true, Nat.ble_eq] at c
      cases h
      exact .inr (.inl ⟨_, .inr rfl, c.1.1, c.1.2, by omega, rfl⟩)
    · cases h
  · split at h
    · rename_i c
      simp only [Bool.and_eq_true, Bool.or_eq_true, Nat.ble_eq] at c
      cases h
      exact .inr (.inl ⟨_, .inl rfl, c.1.1, c.1.2, by omega, rfl⟩)
    · cases h
  · split at h
    · cases h; exact .inr (.inr ⟨_, rfl, by assumption, rfl⟩)
    · cases h
theorem mem_dec (s : List Nat) (c : Nat) : decide (c ∈ (mkS s).cps.toList) = s.contains c := by
  by_cases h : c ∈ s <;> simp [h]
theorem cop_sound (o : COp) {b : Bool} (s : Sub G H) (hx : Now K G H v x) (hy : Now K G H u y) (h : cop o x y = some b) (q : Q (.bl b) H) : rC K o v u H Q := by
  cases o with
  | eq =>
    rcases eqO_cases h with ⟨n1, n2, hm, rfl⟩ | ⟨ps, rfl, rfl, hk, rfl⟩
    · obtain ⟨d1, c1⟩ := dp_now s hx n1
      obtain ⟨d2, c2⟩ := dp_now s hy n2
      exact .inl ⟨_, _, d1, d2, c1, c2, by rw [dep_toP x n1, dep_toP y n2]; exact hm, by rw [← eqv_toP x y n1 n2]; exact q⟩
    · obtain ⟨a, kvs, rfl, e, el⟩ := isKey_dK s hx hk
      obtain ⟨c, kvs', rfl, e', el'⟩ := isKey_dK s hy rfl
      have : kvs' = [] := by simpa using el'
      subst this
      exact .inr ⟨a, c, kvs, rfl, rfl, e, e', by rw [if_pos rfl, el]; exact q⟩
  | ne =>
    obtain ⟨b', h', rfl⟩ := Option.map_eq_some_iff.mp (show (eqO x y).map (!·) = some b from h)
    rcases eqO_cases h' with ⟨n1, n2, hm, rfl⟩ | ⟨ps, rfl, rfl, hk, rfl⟩
    · obtain ⟨d1, c1⟩ := dp_now s hx n1
      obtain ⟨d2, c2⟩ := dp_now s hy n2
      exact .inl ⟨_, _, d1, d2, c1, c2, by rw [dep_toP x n1, dep_toP y n2]; exact hm, by rw [← eqv_toP x y n1 n2]; exact q⟩
    · obtain ⟨a, kvs, rfl, e, el⟩ := isKey_dK s hx hk
      obtain ⟨c, kvs', rfl, e', el'⟩ := isKey_dK s hy rfl
      have : kvs' = [] := by simpa using el'
      subst this
      exact .inr ⟨a, c, kvs, rfl, rfl, e, e', by rw [if_neg Bool.false_ne_true, el]; exact q⟩
  | lt =>
    cases x <;> cases y <;> simp only [cop] at h <;> try cases h
    · exact .inl ⟨_, _, hx.int, hy.int, q⟩
    · obtain ⟨rfl, _⟩ := hx.str
      obtain ⟨rfl, _⟩ := hy.str
      exact .inr ⟨_, _, rfl, rfl, by rw [← ltL_iff]; exact q⟩
  | gt =>
    cases x <;> cases y <;> simp only [cop] at h <;> try cases h
    · exact .inl ⟨_, _, hx.int, hy.int, q⟩
    · obtain ⟨rfl, _⟩ := hx.str
      obtain ⟨rfl, _⟩ := hy.str
      exact .inr ⟨_, _, rfl, rfl, by rw [← ltL_iff]; exact q⟩
  | le =>
    cases x <;> cases y <;> simp only [cop] at h <;> try cases h
    · exact .inl ⟨_, _, hx.int, hy.int, q⟩
    · obtain ⟨rfl, _⟩ := hx.str
      obtain ⟨rfl, _⟩ := hy.str
      exact .inr ⟨_, _, rfl, rfl, by rw [← ltL_iff]; exact q⟩
  | ge =>
    cases x <;> cases y <;> simp only [cop] at h <;> try cases h
    · exact .inl ⟨_, _, hx.int, hy.int, q⟩
    · obtain ⟨rfl, _⟩ := hx.str
      obtain ⟨rfl, _⟩ := hy.str
      exact .inr ⟨_, _, rfl, rfl, by rw [← ltL_iff]; exact q⟩
  | mem =>
    rcases isIn_cases h with ⟨z, c, rfl, rfl, rfl⟩ | ⟨ys, e, n1, n2, hm, rfl⟩ | ⟨ps, rfl, f, rfl⟩
    · obtain ⟨rfl, _⟩ := hx.str
      obtain ⟨rfl, _⟩ := hy.str
      exact .inr (.inr ⟨c, _, rfl, rfl, by rw [mem_dec]; exact q⟩)
    · obtain ⟨d1, c1⟩ := dp_now s hx n1
      have n3 : y.nod = true := by rcases e with rfl | rfl <;> simpa [D.nod] using n2
      obtain ⟨d2, c2⟩ := dp_now s hy n3
      refine .inl ⟨toP x, toPs ys, d1, ?_, c1, ?_, by rw [dep_toP x n1, deps_toP ys n2]; exact hm, by rw [← memD_any x n1 ys n2]; exact q⟩
      · rcases e with rfl | rfl
        · simp only [toP] at d2; exact .inl d2
        · simp only [toP] at d2; exact .inr d2
      · rcases e with rfl | rfl <;> simpa [toP, PyData.canLay0] using c2
    · obtain ⟨a, o, rfl, g, hl⟩ := dic_get s hy hx f
      refine .inr (.inl ⟨a, o, rfl, g, ?_⟩)
      rcases hl with ⟨h1, rfl⟩ | ⟨d, w, h1, rfl, _⟩ <;> (rw [h1] at q; exact q)
  | nmem =>
    obtain ⟨b', h', rfl⟩ := Option.map_eq_some_iff.mp (show (isIn x y).map (!·) = some b from h)
    rcases isIn_cases h' with ⟨z, c, rfl, rfl, rfl⟩ | ⟨ys, e, n1, n2, hm, rfl⟩ | ⟨ps, rfl, f, rfl⟩
    · obtain ⟨rfl, _⟩ := hx.str
      obtain ⟨rfl, _⟩ := hy.str
      exact .inr (.inr ⟨c, _, rfl, rfl, by rw [mem_dec]; exact q⟩)
    · obtain ⟨d1, c1⟩ := dp_now s hx n1
      have n3 : y.nod = true := by rcases e with rfl | rfl <;> simpa [D.nod] using n2
      obtain ⟨d2, c2⟩ := dp_now s hy n3
      refine .inl ⟨toP x, toPs ys, d1, ?_, c1, ?_, by rw [dep_toP x n1, deps_toP ys n2]; exact hm, by rw [← memD_any x n1 ys n2]; exact q⟩
      · rcases e with rfl | rfl
        · simp only [toP] at d2; exact .inl d2
        · simp only [toP] at d2; exact .inr d2
      · rcases e with rfl | rfl <;> simpa [toP, PyData.canLay0] using c2
    · obtain ⟨a, o, rfl, g, hl⟩ := dic_get s hy hx f
      refine .inr (.inl ⟨a, o, rfl, g, ?_⟩)
      rcases hl with ⟨h1, rfl⟩ | ⟨d, w, h1, rfl, _⟩ <;> (rw [h1] at q; exact q)
end
end Ev

/-! E4: the text into the small language (first part); contexts; what is promised of a def. -/
namespace Ev
open PySem PySem.Spec L2
open PyProof.Rows hiding St

/-- names: the module's constants, its defs, those whose first argument is changed, those that call a lambda, its exceptions -/
structure NT where
  gl : List (Str × Nat)
  fn : List (Str × Nat)
  mu : List Str
  lam : List (Str × Nat)
  cl : List (Str × Nat)
  dk : List Nat := []
structure GC where
  T : List (Addr × Str)
  cA : Nat → Addr
  nt : NT

/-! ### what a def promises -/
/-- behind a call: A is what the call may have changed -/
structure Aft (T : List (Addr × Str)) (A : Addr → Prop) (G H G' H' : Hp) : Prop where
  gle : Gle G G'
  sub : Sub G' H'
  tabs : LamX.Tabs T H'
  frame : ∀ a o, H a = some o → ¬ A a → (∀ ps, o ≠ .tbl ps) → H' a = some o
  new : ∀ a, G' a ≠ none → G a ≠ none ∨ Fr H a
  keep : ∀ a, Fr H' a → Fr H a
/-- a result: new and nobody's, or frozen -/
def ResV (K : PySem.W.Frag) (H G' H' : Hp) (v : V) (f : Bool) (d : D) : Prop :=
  if f = true then ∃ a, v = .ref a ∧ Fr H a ∧ G' a = none ∧ Own K G' H' a d else Rep K G' v d
def spF (K : PySem.W.Frag) (T : List (Addr × Str)) (cA : Nat → Addr) (n : Nat) (S : FSem) : Sp := fun vs H Q E =>
  vs.length = n ∧ if S.mu = true then
    ∃ G a d0 vs' ds, vs = .ref a :: vs' ∧ Sub G H ∧ LamX.Tabs T H ∧ G a = none ∧ Own K G H a d0 ∧ Reps K G vs' ds ∧ match S.run (d0 :: ds) with
      | .ok f d s => ∀ v H' G', Aft T (· = a) G H G' H' → G' a = none → Own K G' H' a s → ResV K H G' H' v f d → Q v H'
      | .ex x s => ∀ c dd H' G', Aft T (· = a) G H G' H' → G' a = none → Own K G' H' a s → XR cA K G' H' x c dd → E c dd H'
      | .no => False
  else
    ∃ G ds, Sub G H ∧ LamX.Tabs T H ∧ Reps K G vs ds ∧ match S.run ds with
      | .ok f d _ => ∀ v H' G', Aft T (fun _ => False) G H G' H' → ResV K H G' H' v f d → Q v H'
      | .ex x _ => ∀ c dd H' G', Aft T (fun _ => False) G H G' H' → XR cA K G' H' x c dd → E c dd H'
      | .no => False
/-- the def x keeps S -/
def FnP (P : Program) (w : World) (K : PySem.W.Frag) (mg : Str → Option Value) (base : Heap) (g : GC) (k : Nat) (x : Str) (S : FSem) : Prop :=
  ∃ f fd ps, mg x = some (.ref f) ∧ PySem.W.keepIn K (.ref f) = true ∧ Binds K fd ps [] ∧ (∀ ds, S.run ds ≠ .no → ds.length = ps.length) ∧ FnOk P w K mg base (L2.CX P w) k f fd ps (spF K g.T g.cA ps.length S)
def builtNames : List Str := ["len", "abs", "int", "bool", "str", "max", "min", "sum", "all", "any", "sorted", "set", "list", "tuple", "dict", "isinstance", "range", "enumerate", "zip"]
/-- a constant -/
def vOf : D → V
  | .bl b => .bl b
  | .int i => .int i
  | .str s => .str (mkS s)
  | _ => .non
/-- an error as the clauses look at it -/
def XR0 (g : GC) (x : Exc) (cl : Value) (dd : Option Addr) : Prop := cl = .ref (g.cA x.cls) ∧ (x.val = .non → dd = none)
/-- a def that calls what it got: what it makes of the call -/
def TTW (g : GC) (sub : Nat → Nat → Bool) (L : Option D × List (Nat × HB)) : (XK → Hp → VK → Prop) → Hp → VK → Prop := fun tl H Q =>
  tl (fun cls dd H' => ∃ x : Exc, XR0 g x cls dd ∧ ∃ d, pick sub x L.2 = .hit d ∧ Q (vOf d) H') H (fun v H' => Q (match L.1 with | some d => vOf d | none => v) H')
def LamP (P : Program) (w : World) (K : PySem.W.Frag) (mg : Str → Option Value) (base : Heap) (g : GC) (sub : Nat → Nat → Bool) (x : Str) (L : Option D × List (Nat × HB)) : Prop :=
  (∀ e d, pick sub e L.2 = .hit d → ∀ G, Rep K G (vOf d) d) ∧ (∀ d, L.1 = some d → ∀ G, Rep K G (vOf d) d) ∧
  ∃ (a : Str) (f : Addr) (Ng : List Str) (pg : Arguments) (bg : List Stmt) (sg : Scope) (dV kV doc pm cdv ct oc : Value) (an od : Option Addr) (osl : Array (Option Value)),
    mg x = some (.ref f) ∧ PySem.W.keepIn K (.ref f) = true ∧ K.lookup f = some ⟨oc, od, .func (PySem.W.fnOf x x pg bg sg dV kV doc pm an cdv ct), osl⟩ ∧ PySem.W.codeIn K cdv x = true ∧ L2.Binds K (PySem.W.fnOf x x pg bg sg dV kV doc pm an cdv ct) [a] [] ∧
    FnScope Ng [a] sg ∧ Ng[0]? = some a ∧ Vis sg a ∧ (a == ("__debug__" : Str)) = false ∧ (a == ("__classdict__" : Str)) = false ∧
    ∀ X : Cx, X.prog = P → X.w = w → X.K = K → X.mg = mg → X.base = base → ∀ q, LamX.GivesTo X Ng x sg f cdv bg a q (TTW g sub L)
structure GOk (P : Program) (w : World) (K : PySem.W.Frag) (mg : Str → Option Value) (base : Heap) (g : GC) (C : EC) (k : Nat) : Prop where
  fn : ∀ x id S, g.nt.fn.lookup x = some id → C.Φ id = some S → FnP P w K mg base g k x S
  gl : ∀ x id d, g.nt.gl.lookup x = some id → C.Γ id = some d → d.isDic = false → ∃ u v, mg x = some u ∧ RelV v u ∧ Rep K (fun _ => none) v d
  bl : ∀ x, x ∈ builtNames → mg x = none
  lm : ∀ x id L, g.nt.lam.lookup x = some id → C.Λ id = some L → LamP P w K mg base g C.sub x L
structure CxOk (X : Cx) (N : List Str) (sc : Scope) (k : Nat) : Prop where
  nm : X.N = N
  nd : N.Nodup
  sc : X.env.scope = sc
  calm : X.calm = true
  room : Room k X.A
theorem CxOk.hu {X : Cx} {N : List Str} {sc : Scope} {k : Nat} (h : CxOk X N sc k) : X.A.units + 65 < cLine := by have := h.room.un; omega

/-! ### readings of the small language -/
section
variable (K : PySem.W.Frag) (g : GC) (C : EC) (W : WX)
abbrev Post1 {α β : Type} (σ : St) (ρ : Env) (G H : Hp) (o : Out α) (Rf : Hp → Hp → Env → β → α → Prop) (Q : β → Hp → Prop) : Prop := PostG K g.T g.cA W σ ρ G H o Rf Q
def tEv (m : ME) : TE := fun σ H Q => ∃ G ρ, RE K g.T G H ρ σ ∧ Post1 K g W σ ρ G H (ev C m ρ) (RV K σ H) Q
def tEvB (m : ME) : TT := fun σ H Q => ∃ G ρ, RE K g.T G H ρ σ ∧ Post1 K g W σ ρ G H ((ev C m ρ).bind asB) (fun _ _ _ b a => b = a) Q
def tEvs (m : MEs) : TA := fun σ H Q => ∃ G ρ, RE K g.T G H ρ σ ∧ Post1 K g W σ ρ G H (evs C m ρ) (fun G _ _ vs ds => Reps K G vs ds) Q
def RVs (K : PySem.W.Frag) (σ : St) (H0 G H : Hp) (ρ : Env) : List V → List VR → Prop
  | [], [] => True
  | v :: vs, r :: rs => RV K σ H0 G H ρ v r ∧ RVs K σ H0 G H ρ vs rs
  | _, _ => False
/-- several values, one of which may no longer stand: only what is looked up counts -/
def RVl (K : PySem.W.Frag) (σ : St) (H0 G H : Hp) (ρ : Env) (vs : List V) (rs : List VR) : Prop := ∀ ds, looks ρ rs = some ds → RVs K σ H0 G H ρ vs rs
def tEvl (m : MEs) : TA := fun σ H Q => ∃ G ρ, RE K g.T G H ρ σ ∧ Post1 K g W σ ρ G H (evl C m ρ) (RVl K σ H) Q
end
theorem _root_.L2.PE.imp {X : Cx} {e : Expr} {t t' : TE} (h : PE X e t) (i : ∀ σ H Q, t' σ H Q → t σ H Q) : PE X e t' := ⟨fun pins s σ H Q I q => h.run pins s σ H Q I (i σ H Q q)⟩
theorem _root_.L2.PT.imp {X : Cx} {e : Expr} {t t' : TT} (h : PT X e t) (i : ∀ σ H Q, t' σ H Q → t σ H Q) : PT X e t' := ⟨fun pins s σ H Q I q => h.run pins s σ H Q I (i σ H Q q)⟩
theorem _root_.L2.PW.imp {X : Cx} {e : Expr} {t t' : TT} (h : PW X e t) (i : ∀ σ H Q, t' σ H Q → t σ H Q) : PW X e t' := ⟨fun wh pins s σ H Q I q => h.run wh pins s σ H Q I (i σ H Q q)⟩
theorem _root_.L2.PA.imp {X : Cx} {e : List Expr} {t t' : TA} (h : PA X e t) (i : ∀ σ H Q, t' σ H Q → t σ H Q) : PA X e t' := ⟨fun pos pins s σ H Q I q => h.run pos pins s σ H Q I (i σ H Q q)⟩
theorem _root_.L2.PS.imp {X : Cx} {e : Stmt} {t t' : TS} (h : PS X e t) (i : ∀ D σ H, t' D σ H → t D σ H) : PS X e t' := ⟨fun pins s σ H D I q => h.run pins s σ H D I (i D σ H q)⟩
theorem _root_.L2.PSs.imp {X : Cx} {e : List Stmt} {t t' : TS} (h : PSs X e t) (i : ∀ D σ H, t' D σ H → t D σ H) : PSs X e t' := ⟨fun pins s σ H D I q => h.run pins s σ H D I (i D σ H q)⟩

/-! ### freezing -/
section
variable {K : PySem.W.Frag} {T : List (Addr × Str)} {G H : Hp} {ρ : Env} {σ : St} {v : V} {r : VR} {d : D} {C : EC} {cA : Nat → Addr} {W : WX}
theorem owned_set_fz {i : Nat} {d : D} {a : Addr} (h : OwnedA (ρ.set i (some (.fz d))) σ a) : OwnedA ρ σ a := by
  obtain ⟨j, e, h1, h2⟩ := h
  by_cases hj : i = j
  · subst hj
    by_cases hl : i < ρ.length
    · rw [List.getElem?_set_self hl] at h1; cases h1
    · rw [List.getElem?_eq_none (by simpa using hl)] at h1; cases h1
  · rw [List.getElem?_set_ne hj] at h1
    exact ⟨j, e, h1, h2⟩
theorem frz_ok {H0 G0 : Hp} {ρ0 : Env} (S0 : Stp ρ0 σ G0 H0 ρ G H) (R : RE K T G H ρ σ) (h : RV K σ H0 G H ρ v r) {ρ' : Env} (e : frz C r ρ = .ok d ρ') : ∃ G', RE K T G' H ρ' σ ∧ Stp ρ0 σ G0 H0 ρ' G' H ∧ Rep K G' v d := by
  cases r with
  | im d' => simp only [frz] at e; cases e; exact ⟨G, R, S0, h⟩
  | fr d' =>
    simp only [frz] at e; cases e
    obtain ⟨a, rfl, n0, n, no, o⟩ := h
    obtain ⟨u, hu, gl, sb, rp⟩ := o.freeze n R.sub
    have nn : ∀ b, OwnedA ρ σ b → b ≠ a := fun b z e => no (e ▸ z)
    refine ⟨_, R.grow gl sb fun b z => ?_, ⟨S0.gle.trans gl, S0.frame, fun b q => ?_, S0.own, S0.keep⟩, rp⟩
    · rw [upd_ne (nn b z)]; exact (R.ownedA z).1
    · by_cases hb : b = a
      · subst hb; exact .inr (.inr n0)
      · rw [upd_ne hb] at q; exact S0.new b q
  | sl i =>
    simp only [frz] at e
    split at e
    · cases e
    · split at e
      · rename_i d' ho
        cases e
        have ho' := slotAt_some.mp ho
        obtain ⟨hv, _⟩ := h
        obtain ⟨v', hv', a, rfl, n, o⟩ := R.slot i _ ho'
        rw [hv] at hv'; cases hv'
        obtain ⟨u, hu, gl, sb, rp⟩ := o.freeze n R.sub
        have own_a : OwnedA ρ σ a := ⟨i, d, ho', hv⟩
        have hlen : i < ρ.length := by
          have := (List.getElem?_eq_some_iff.mp ho').1; exact this
        have nn : ∀ (j : Nat) (e' : D) (b : Addr), (ρ.set i (some (.fz d)))[j]? = some (some (SV.ow e')) → σ[j]? = some (some (V.ref b)) → b ≠ a := fun j e' b h1 h2 eb => by
          subst eb
          by_cases hj : i = j
          · subst hj; rw [List.getElem?_set_self hlen] at h1; cases h1
          · rw [List.getElem?_set_ne hj] at h1
            exact hj (R.dist i j _ _ b ho' h1 hv h2)
        refine ⟨upd G a u, ⟨sb, by rw [List.length_set]; exact R.len, fun j sv h1 => ?_, fun j l d1 d2 b h1 h2 h3 h4 => ?_, R.tabs⟩, ⟨S0.gle.trans gl, S0.frame, fun b q => ?_, fun b z => S0.own b (owned_set_fz z), S0.keep⟩, rp⟩
        · by_cases hj : i = j
          · subst hj
            rw [List.getElem?_set_self hlen] at h1
            cases h1
            exact ⟨_, hv, rp⟩
          · rw [List.getElem?_set_ne hj] at h1
            obtain ⟨w', e2, q⟩ := R.slot j sv h1
            refine ⟨w', e2, ?_⟩
            cases sv with
            | fz d2 => exact Rep.mono gl q
            | ow d2 =>
              obtain ⟨b, rfl, n2, o2⟩ := q
              refine ⟨b, rfl, ?_, o2.mono gl fun _ h => h⟩
              rw [upd_ne (nn j d2 b (by rw [List.getElem?_set_ne hj]; exact h1) e2)]
              exact n2
        · by_cases hj : i = j
          · subst hj; rw [List.getElem?_set_self hlen] at h1; cases h1
          · by_cases hl : i = l
            · subst hl; rw [List.getElem?_set_self hlen] at h2; cases h2
            · rw [List.getElem?_set_ne hj] at h1
              rw [List.getElem?_set_ne hl] at h2
              exact R.dist j l d1 d2 b h1 h2 h3 h4
        · by_cases hb : b = a
          · subst hb; exact .inr (.inl (S0.own b own_a))
          · rw [upd_ne hb] at q; exact S0.new b q
      · rename_i d' ho
        cases e
        obtain ⟨hv, _⟩ := h
        obtain ⟨v', hv', r⟩ := R.slot i _ (slotAt_some.mp ho)
        rw [hv] at hv'; cases hv'
        exact ⟨G, R, S0, r⟩
      · cases e
theorem PostG.frz {o : Out VR} {Q : V → Hp → Prop} (h : PostG K T cA W σ ρ G H (o.bind (Ev.frz C)) (fun G' _ _ v d => Rep K G' v d) Q) : PostG K T cA W σ ρ G H o (RV K σ H) Q := by
  cases o with
  | ok r ρ1 =>
    intro y H1 G1 R1 S1 r1
    simp only [Out.bind] at h
    cases q : Ev.frz C r ρ1 with
    | ok d ρ2 =>
      rw [q] at h
      obtain ⟨G2, R2, S2, rp⟩ := frz_ok S1 R1 r1 q
      exact h y H1 G2 R2 S2 rp
    | ex x ρ2 => rw [q] at h; cases r <;> simp only [Ev.frz] at q <;> (try cases q) <;> (split at q <;> try cases q) <;> (split at q <;> cases q)
    | no => rw [q] at h; exact h.elim
  | ex x ρ1 => exact h
  | no => exact h
end
end Ev

/-! E5: expressions, by their parts. -/
namespace Ev
open PySem PySem.Spec L2
open PyProof.Rows hiding St

def plainE : Expr → Bool
  | .Starred .. => false
  | .Set .. => false
  | .GeneratorExp .. => false
  | _ => true
def nif : Expr → Bool
  | .IfExp .. => false
  | _ => true
theorem star_plain {e : Expr} (h : plainE e = true) (es : List Expr) (env : PySem.Env) : starEach (e :: es) env = (false, eval e env) :: starEach es env := by
  cases e <;> first | rfl | (simp [plainE] at h)
theorem nomark' {e : Expr} (h : plainE e = true) (op : CmpOp) : behindInMarks op e = false := by
  cases e <;> first | rfl | (simp [plainE] at h)
theorem plainIx' {e : Expr} (h : ∀ a b c p, e ≠ .Slice a b c p) : PlainIx e := by
  intro o i
  cases e <;> first | rfl | exact absurd rfl (h _ _ _ _)

section
variable {X : Cx} {g : GC} {C : EC} {W : WX}
section
variable {K : PySem.W.Frag} {σ : St} {H : Hp} {Q : VK}
theorem two_TE {m a b : ME} {k : VR → VR → Env → Out VR} (hm : ∀ ρ, ev C m ρ = (ev C a ρ).bind fun ra ρ1 => (ev C b ρ1).bind fun rb ρ2 => k ra rb ρ2) (h : tEv K g C W m σ H Q) {R : V → V → Hp → Prop}
    (fin : ∀ v u G H2 ρ ra rb, RE K g.T G H2 ρ σ → (∀ d, ra.look ρ = some d → Now K G H2 v d) → (∀ d, rb.look ρ = some d → Now K G H2 u d) → (∀ d, ra = .im d → Rep K G v d) → (∀ d, rb = .im d → Rep K G u d) →
      PostG K g.T g.cA W σ ρ G H2 (k ra rb ρ) (RV K σ H2) Q → R v u H2) :
    tEv K g C W a σ H (fun x H1 => tEv K g C W b σ H1 (fun y H2 => R x y H2)) := by
  obtain ⟨G, ρ, R0, h⟩ := h
  rw [hm] at h
  refine ⟨G, ρ, R0, (PostG.bind (RV K σ H) h).imp fun x H1 ⟨G1, ρ1, ra, R1, S1, r1, h1⟩ => ⟨G1, ρ1, R1, (PostG.bind (RV K σ H1) h1).imp fun y H2 ⟨G2, ρ2, rb, R2, S2, r2, h2⟩ => ?_⟩⟩
  refine fin x y G2 H2 ρ2 ra rb R2 (fun d e => (r1.keep' R1 S2 e).now R2 e) (fun d e => r2.now R2 e) (fun d e => ?_) (fun d e => by subst e; exact r2) ?_
  · subst e; exact Rep.mono S2.gle r1
  · exact h2.weak fun G' H' ρ' y a S q => q.older fun a z => S1.keep a (S2.keep a z)
theorem RV.ref {H0 G : Hp} {ρ : Env} {v : V} {r : VR} {T : List (Addr × Str)} (R : RE K T G H ρ σ) (h : RV K σ H0 G H ρ v r) (n : ∀ d, r ≠ .im d) : ∃ a, v = .ref a := by
  cases r with
  | im d' => exact absurd rfl (n d')
  | fr d' => obtain ⟨a, rfl, _⟩ := h; exact ⟨a, rfl⟩
  | sl i =>
    exact h.2.1
theorem one_TE {m a : ME} {k : VR → Env → Out VR} (hm : ∀ ρ, ev C m ρ = (ev C a ρ).bind fun ra ρ1 => k ra ρ1) (h : tEv K g C W m σ H Q) {R : V → Hp → Prop}
    (fin : ∀ v G H1 ρ ra, RE K g.T G H1 ρ σ → (∀ d, ra.look ρ = some d → Now K G H1 v d) → (∀ d, ra = .im d → Rep K G v d) → ((∀ d, ra ≠ .im d) → ∃ a, v = .ref a) →
      PostG K g.T g.cA W σ ρ G H1 (k ra ρ) (RV K σ H1) Q → R v H1) :
    tEv K g C W a σ H (fun x H1 => R x H1) := by
  obtain ⟨G, ρ, R0, h⟩ := h
  rw [hm] at h
  refine ⟨G, ρ, R0, (PostG.bind (RV K σ H) h).imp fun x H1 ⟨G1, ρ1, ra, R1, S1, r1, h1⟩ => ?_⟩
  exact fin x G1 H1 ρ1 ra R1 (fun d e => r1.now R1 e) (fun d e => by subst e; exact r1) (fun n => r1.ref R1 n) (h1.weak fun G' H' ρ' y a S q => q.older fun a z => S1.keep a z)
/-- a truth and what follows -/
theorem test_TE {α β : Type} {a : ME} {k : Bool → Env → Out α} {Rf : Hp → Hp → Env → β → α → Prop} {Q : β → Hp → Prop} {G : Hp} {ρ : Env} (R0 : RE K g.T G H ρ σ) (h : PostG K g.T g.cA W σ ρ G H (((ev C a ρ).bind asB).bind k) Rf Q) :
    tEvB K g C W a σ H (fun b H1 => ∃ G1 ρ1, RE K g.T G1 H1 ρ1 σ ∧ Stp ρ σ G H ρ1 G1 H1 ∧ PostG K g.T g.cA W σ ρ1 G1 H1 (k b ρ1) Rf Q) := by
  refine ⟨G, ρ, R0, (PostG.bind (fun _ _ _ b a => b = a) h).imp fun x H1 ⟨G1, ρ1, b, R1, S1, e, h1⟩ => ⟨G1, ρ1, R1, S1, e ▸ h1⟩⟩
/-- a test of a value that is a bool -/
theorem asB_TE {a : ME} {Q : Bool → Hp → Prop} (h : tEvB K g C W a σ H Q) : tEv K g C W a σ H (fun x H1 => ∃ c, x = .bl c ∧ Q c H1) := by
  obtain ⟨G, ρ, R0, h⟩ := h
  refine ⟨G, ρ, R0, (PostG.bind (RV K σ H) h).imp fun x H1 ⟨G1, ρ1, ra, R1, S1, r1, h1⟩ => ?_⟩
  unfold asB at h1
  split at h1
  · cases r1
    exact ⟨_, rfl, h1.here R1 rfl⟩
  · exact h1.elim
end
/-! ### constants, names -/
theorem pe_cst {e : Expr} {v : V} {d : D} (h : PE X e (tC v)) (r : ∀ G, Rep X.K G v d) : PE X e (tEv X.K g C W (.cst d)) := by
  refine h.imp fun σ H Q h => ?_
  obtain ⟨G, ρ, R0, h⟩ := h
  simp only [ev] at h
  exact h.here R0 (r G)
theorem pe_varE {N : List Str} {sc : Scope} {k i : Nat} {x : Str} {pos : Pos} (cx : CxOk X N sc k) (hi : N[i]? = some x) (hv : Vis sc x) (hd : (x == ("__debug__" : Str)) = false) (hcd : (x == ("__classdict__" : Str)) = false) : PE X (.Name x pos) (tEv X.K g C W (.var i)) := by
  refine (pe_var (X := X) (i := i) (by rw [cx.nm]; exact hi) (by rw [cx.sc]; exact hv) hd hcd).imp fun σ H Q h => ?_
  obtain ⟨G, ρ, R0, h⟩ := h
  simp only [ev] at h
  split at h
  · rename_i d e
    obtain ⟨v, e2, r⟩ := R0.slot i _ (slotAt_some.mp e)
    exact ⟨v, e2, h.here R0 r⟩
  · rename_i d e
    have e' := slotAt_some.mp e
    obtain ⟨v, e2, a, rfl, r⟩ := R0.slot i _ e'
    exact ⟨_, e2, h.here R0 ⟨e2, ⟨_, rfl⟩, d, .inl e'⟩⟩
  · exact h.elim
theorem pe_gloE {k id : Nat} {x : Str} {pos : Pos} (go : GOk X.prog X.w X.K X.mg X.base g C k) (hg : Gl X x) (hl : g.nt.gl.lookup x = some id) (hd : (x == ("__debug__" : Str)) = false) : PE X (.Name x pos) (tEv X.K g C W (.glo id)) := by
  cases q : C.Γ id with
  | none =>
    refine ⟨fun pins s σ H Q I h => ?_⟩
    obtain ⟨G, ρ, R0, h⟩ := h
    simp only [ev, q] at h
    exact h.elim
  | some d =>
    cases dd : d.isDic with
    | true =>
      refine ⟨fun pins s σ H Q I h => ?_⟩
      obtain ⟨G, ρ, R0, h⟩ := h
      simp only [ev, q, dd, if_true] at h
      exact h.elim
    | false =>
    obtain ⟨u, v, e1, r1, r2⟩ := go.gl x id d hl q dd
    refine (pe_glob hg e1 r1 hd).imp fun σ H Q h => ?_
    obtain ⟨G, ρ, R0, h⟩ := h
    simp only [ev, q, dd, Bool.false_eq_true, if_false] at h
    exact h.here R0 (Rep.mono (fun _ _ z => by cases z) r2)
/-! ### operators -/
section
variable {a b c : Expr} {ma mb mc : ME} {pos : Pos}
theorem pe_binE (o : BOp) (ha : PE X a (tEv X.K g C W ma)) (hb : PE X b (tEv X.K g C W mb)) : PE X (.BinOp a (opB o) b pos) (tEv X.K g C W (.bin o ma mb)) := by
  refine (pe_op (opB_ok o) ha hb).imp fun σ H Q h => ?_
  refine two_TE (fun ρ => by (simp only [ev]; try rfl)) h fun v u G H2 ρ ra rb R hx hy _ _ q => ?_
  try dsimp only at q
  split at q
  · rename_i x y ex ey
    cases e : bop o x y with
    | none => rw [e] at q; exact q.elim
    | some res =>
      rw [e] at q
      exact bop_sound o R (hx _ ex) (hy _ ey) e fun v' H' G' R' S' r' => q v' H' G' R' S' r'
  · exact q.elim
theorem pe_negE (ha : PE X a (tEv X.K g C W ma)) : PE X (.UnaryOp .USub a pos) (tEv X.K g C W (.neg ma)) := by
  refine (pe_un un_neg ha).imp fun σ H Q h => ?_
  refine one_TE (fun ρ => by (simp only [ev]; try rfl)) h fun v G H1 ρ ra R _ hi _ q => ?_
  try dsimp only at q
  split at q
  · have := hi _ rfl
    cases this
    exact ⟨_, rfl, q.here R (Rep.int _)⟩
  · exact q.elim
theorem cmp_fin {σ : St} {H : Hp} {Q : VK} {v u : V} {G : Hp} {ρ : Env} {ra rb : VR} (o : COp) (R : RE X.K g.T G H ρ σ) (hx : ∀ d, ra.look ρ = some d → Now X.K G H v d) (hy : ∀ d, rb.look ρ = some d → Now X.K G H u d)
    (q : PostG X.K g.T g.cA W σ ρ G H (match ra.look ρ, rb.look ρ with | some x, some y => boolO (cop o x y) ρ | _, _ => .no) (RV X.K σ H) Q) : rC X.K o v u H Q := by
  split at q
  · rename_i x y ex ey
    cases e : cop o x y with
    | none => rw [e] at q; exact q.elim
    | some res =>
      rw [e] at q
      exact cop_sound o R.sub (hx _ ex) (hy _ ey) e (q.here R (Rep.bl _))
  · exact q.elim
theorem pe_cmpE {N : List Str} {sc : Scope} {k : Nat} (cx : CxOk X N sc k) (o : COp) (ha : PE X a (tEv X.K g C W ma)) (hb : PE X b (tEv X.K g C W mb)) (hp : plainE b = true) : PE X (.Compare a [opC o] [b] pos) (tEv X.K g C W (.cmp o ma mb)) := by
  refine (pe_cmpR (opC_ok cx.hu o) ha hb (nomark' hp _)).imp fun σ H Q h => ?_
  exact two_TE (fun ρ => by (simp only [ev]; try rfl)) h fun v u G H2 ρ ra rb R hx hy _ _ q => cmp_fin o R hx hy q
theorem pt_cmpE {N : List Str} {sc : Scope} {k : Nat} (cx : CxOk X N sc k) (o : COp) (ha : PE X a (tEv X.K g C W ma)) (hb : PE X b (tEv X.K g C W mb)) (hp : plainE b = true) : PT X (.Compare a [opC o] [b] pos) (tEvB X.K g C W (.cmp o ma mb)) := by
  refine (pt_cmpR (opC_ok cx.hu o) ha hb (nomark' hp _)).imp fun σ H Q h => ?_
  exact two_TE (fun ρ => by (simp only [ev]; try rfl)) (asB_TE h) fun v u G H2 ρ ra rb R hx hy _ _ q => cmp_fin o R hx hy q
theorem isn_fin {σ : St} {H : Hp} {Q : VK} {v : V} {G : Hp} {ρ : Env} {ra : VR} (n : Bool) (R : RE X.K g.T G H ρ σ) (hi : ∀ d, ra = .im d → Rep X.K G v d) (hr : (∀ d, ra ≠ .im d) → ∃ a, v = .ref a)
    (q : PostG X.K g.T g.cA W σ ρ G H (match ra with | .im .non => .ok (.im (.bl n)) ρ | _ => .ok (.im (.bl (!n))) ρ) (RV X.K σ H) Q) : Q (.bl (decide (v = .non) == n)) H := by
  have fin : ∀ b, PostG X.K g.T g.cA W σ ρ G H (.ok (.im (.bl b)) ρ) (RV X.K σ H) Q → Q (.bl b) H := fun b q => q.here R (Rep.bl _)
  cases ra with
  | im d =>
    have h := hi d rfl
    cases h with
    | non => rw [decide_eq_true rfl, Bool.true_beq]; exact fin _ q
    | _ =>
      rw [decide_eq_false (by intro z; cases z), Bool.false_beq]
      exact fin _ q
  | fr d =>
    obtain ⟨a, rfl⟩ := hr (fun _ z => nomatch z)
    rw [decide_eq_false (by intro z; cases z), Bool.false_beq]
    exact fin _ q
  | sl d =>
    obtain ⟨a, rfl⟩ := hr (fun _ z => nomatch z)
    rw [decide_eq_false (by intro z; cases z), Bool.false_beq]
    exact fin _ q
theorem isn_TE {σ : St} {H : Hp} {Q : VK} (h : tEv X.K g C W (.isn ma) σ H Q) : tIsN (tEv X.K g C W ma) σ H Q := by
  refine one_TE (k := fun ra ρ => match ra with | .im .non => .ok (.im (.bl true)) ρ | _ => .ok (.im (.bl (!true))) ρ) (fun ρ => by (simp only [ev]; try rfl)) h fun v G H1 ρ ra R _ hi hr q => ?_
  have := isn_fin true R hi hr q
  simpa using this
theorem notn_TE {σ : St} {H : Hp} {Q : VK} (h : tEv X.K g C W (.notn ma) σ H Q) : tNotN (tEv X.K g C W ma) σ H Q := by
  refine one_TE (k := fun ra ρ => match ra with | .im .non => .ok (.im (.bl false)) ρ | _ => .ok (.im (.bl (!false))) ρ) (fun ρ => by (simp only [ev]; try rfl)) h fun v G H1 ρ ra R _ hi hr q => ?_
  have := isn_fin false R hi hr q
  simpa using this
theorem pe_isnE {j : Nat} {p : Pos} (ha : PE X a (tEv X.K g C W ma)) : PE X (.Compare a [.Is] [.Constant .none j p] pos) (tEv X.K g C W (.isn ma)) := (pe_cmp (pc_isN ha) rfl).imp fun _ _ _ => isn_TE
theorem pe_notnE {j : Nat} {p : Pos} (ha : PE X a (tEv X.K g C W ma)) : PE X (.Compare a [.IsNot] [.Constant .none j p] pos) (tEv X.K g C W (.notn ma)) := (pe_cmp (pc_notN ha) rfl).imp fun _ _ _ => notn_TE
theorem pt_isnE {j : Nat} {p : Pos} (ha : PE X a (tEv X.K g C W ma)) : PT X (.Compare a [.Is] [.Constant .none j p] pos) (tEvB X.K g C W (.isn ma)) := (pt_cmp (pc_isN ha) rfl).imp fun _ _ _ h => isn_TE (asB_TE h)
theorem pt_notnE {j : Nat} {p : Pos} (ha : PE X a (tEv X.K g C W ma)) : PT X (.Compare a [.IsNot] [.Constant .none j p] pos) (tEvB X.K g C W (.notn ma)) := (pt_cmp (pc_notN ha) rfl).imp fun _ _ _ h => notn_TE (asB_TE h)
theorem chain_TE {o1 o2 : COp} {σ : St} {H : Hp} {Q : VK} (h : tEv X.K g C W (.chain o1 o2 ma mb mc) σ H Q) : tChain (rC X.K o1) (rC X.K o2) (tEv X.K g C W ma) (tEv X.K g C W mb) (tEv X.K g C W mc) σ H Q := by
  refine two_TE (fun ρ => by (simp only [ev]; try rfl)) h fun v u G H2 ρ ra rb R hx hy _ hbi q => ?_
  try dsimp only at q
  split at q
  · rename_i x y ex
    have hy' := hbi _ rfl
    split at q
    · rename_i e
      refine cop_sound o1 R.sub (hx _ ex) (.inl hy') e ⟨true, rfl, ?_⟩
      rw [if_pos rfl]
      refine ⟨G, ρ, R, (PostG.bind (RV X.K σ H2) q).imp fun w H3 ⟨G3, ρ3, rc, R3, S3, r3, h3⟩ => ?_⟩
      split at h3
      · rename_i z ez
        cases e2 : cop o2 y z with
        | none => rw [e2] at h3; exact h3.elim
        | some res =>
          rw [e2] at h3
          exact cop_sound o2 R3.sub (.inl (Rep.mono S3.gle hy')) (r3.now R3 ez) e2 (h3.here R3 (Rep.bl _))
      · exact h3.elim
    · rename_i e
      refine cop_sound o1 R.sub (hx _ ex) (.inl hy') e ⟨false, rfl, ?_⟩
      rw [if_neg Bool.false_ne_true]
      exact q.here R (Rep.bl _)
    · exact q.elim
  · exact q.elim
theorem pe_chainE {N : List Str} {sc : Scope} {k : Nat} (cx : CxOk X N sc k) (o1 o2 : COp) (ha : PE X a (tEv X.K g C W ma)) (hb : PE X b (tEv X.K g C W mb)) (hc : PE X c (tEv X.K g C W mc)) (hp : plainE c = true) :
    PE X (.Compare a [opC o1, opC o2] [b, c] pos) (tEv X.K g C W (.chain o1 o2 ma mb mc)) :=
  (pe_chain (opC_ok cx.hu o1) (opC_ok cx.hu o2) ha hb hc (nomark' hp _)).imp fun _ _ _ => chain_TE
theorem pt_chainE {N : List Str} {sc : Scope} {k : Nat} (cx : CxOk X N sc k) (o1 o2 : COp) (ha : PE X a (tEv X.K g C W ma)) (hb : PE X b (tEv X.K g C W mb)) (hc : PE X c (tEv X.K g C W mc)) (hp : plainE c = true) :
    PT X (.Compare a [opC o1, opC o2] [b, c] pos) (tEvB X.K g C W (.chain o1 o2 ma mb mc)) :=
  (pt_chain (opC_ok cx.hu o1) (opC_ok cx.hu o2) ha hb hc (nomark' hp _)).imp fun _ _ _ h => chain_TE (asB_TE h)
/-! ### and, or, not, if -/
theorem pe_notE (ha : PE X a (tEv X.K g C W ma)) : PE X (.UnaryOp .Not a pos) (tEv X.K g C W (.not ma)) := by
  refine (pe_not ha).imp fun σ H Q h => ?_
  obtain ⟨G, ρ, R0, h⟩ := h
  simp only [ev] at h
  refine asB_TE ?_
  obtain ⟨G', ρ', R', h'⟩ := test_TE R0 h
  exact ⟨G', ρ', R', h'.imp fun b H1 ⟨G1, ρ1, R1, S1, h1⟩ => h1.here R1 (Rep.bl _)⟩
theorem pt_notE (ha : PT X a (tEvB X.K g C W ma)) : PT X (.UnaryOp .Not a pos) (tEvB X.K g C W (.not ma)) := by
  refine (pt_not ha).imp fun σ H Q h => ?_
  obtain ⟨G, ρ, R0, h⟩ := h
  simp only [ev] at h
  cases q : (ev C ma ρ).bind asB with
  | ok b ρ1 =>
    rw [q] at h
    refine ⟨G, ρ, R0, ?_⟩
    rw [q]
    intro y H1 G1 R1 S1 e
    subst e
    exact h (!y) H1 G1 R1 S1 rfl
  | ex x ρ1 => rw [q] at h; exact ⟨G, ρ, R0, by rw [q]; exact h⟩
  | no => rw [q] at h; exact h.elim
end
end
end Ev

/-! E6: and, or, if, displays, calls. -/
namespace Ev
open PySem PySem.Spec L2
open PyProof.Rows hiding St

theorem plain_back {es : List Expr} (h : es.all plainE = true) (pos : Pos) (env : PySem.Env) : (backTo pos (starEach es env)).any (·.1) = false := by
  induction es with
  | nil => rfl
  | cons e es ih =>
    simp only [List.all_cons, Bool.and_eq_true] at h
    rw [star_plain h.1]
    have := ih h.2
    unfold backTo at this ⊢
    simpa using this

section
variable {X : Cx} {g : GC} {C : EC} {W : WX}
section
variable {a b c : Expr} {ma mb mc : ME} {pos : Pos} {rest : List Expr}
theorem and_TE {σ : St} {H : Hp} {Q : VK} (h : tEv X.K g C W (.and ma mb) σ H Q) : tEvB X.K g C W ma σ H (fun c H1 => if c = true then tEv X.K g C W mb σ H1 Q else Q (.bl false) H1) := by
  obtain ⟨G, ρ, R0, h⟩ := h
  simp only [ev] at h
  obtain ⟨G', ρ', R', h'⟩ := test_TE R0 h
  refine ⟨G', ρ', R', h'.imp fun b H1 ⟨G1, ρ1, R1, S1, h1⟩ => ?_⟩
  cases b with
  | true =>
    rw [if_pos rfl] at h1 ⊢
    exact ⟨G1, ρ1, R1, h1.weak fun _ _ _ _ _ _ q => q.older S1.keep⟩
  | false =>
    rw [if_neg Bool.false_ne_true] at h1 ⊢
    exact h1.here R1 (Rep.bl _)
theorem or_TE {σ : St} {H : Hp} {Q : VK} (h : tEv X.K g C W (.or ma mb) σ H Q) : tEvB X.K g C W ma σ H (fun c H1 => if c = true then Q (.bl true) H1 else tEv X.K g C W mb σ H1 Q) := by
  obtain ⟨G, ρ, R0, h⟩ := h
  simp only [ev] at h
  obtain ⟨G', ρ', R', h'⟩ := test_TE R0 h
  refine ⟨G', ρ', R', h'.imp fun b H1 ⟨G1, ρ1, R1, S1, h1⟩ => ?_⟩
  cases b with
  | false =>
    rw [if_neg Bool.false_ne_true] at h1 ⊢
    exact ⟨G1, ρ1, R1, h1.weak fun _ _ _ _ _ _ q => q.older S1.keep⟩
  | true =>
    rw [if_pos rfl] at h1 ⊢
    exact h1.here R1 (Rep.bl _)
theorem pe_andE (ha : PE X a (tEv X.K g C W ma)) (hb : PE X (.BoolOp .And (b :: rest) pos) (tEv X.K g C W mb)) : PE X (.BoolOp .And (a :: b :: rest) pos) (tEv X.K g C W (.and ma mb)) :=
  (pe_and ha hb).imp fun _ _ _ h => asB_TE (and_TE h)
theorem pe_orE (ha : PE X a (tEv X.K g C W ma)) (hb : PE X (.BoolOp .Or (b :: rest) pos) (tEv X.K g C W mb)) : PE X (.BoolOp .Or (a :: b :: rest) pos) (tEv X.K g C W (.or ma mb)) :=
  (pe_or ha hb).imp fun _ _ _ h => asB_TE (or_TE h)
theorem _root_.Ev.Out.bind_assoc {α β γ : Type} (o : Out α) (f : α → Ev.Env → Out β) (h : β → Ev.Env → Out γ) : (o.bind f).bind h = o.bind fun a ρ => (f a ρ).bind h := by cases o <;> rfl
theorem and_TT {σ : St} {H : Hp} {Q : Bool → Hp → Prop} (h : tEvB X.K g C W (.and ma mb) σ H Q) : tEvB X.K g C W ma σ H (fun c H1 => if c = true then tEvB X.K g C W mb σ H1 Q else Q false H1) := by
  obtain ⟨G, ρ, R0, h⟩ := h
  simp only [ev] at h
  rw [Out.bind_assoc] at h
  obtain ⟨G', ρ', R', h'⟩ := test_TE R0 h
  refine ⟨G', ρ', R', h'.imp fun b H1 ⟨G1, ρ1, R1, S1, h1⟩ => ?_⟩
  cases b with
  | true =>
    rw [if_pos rfl] at h1 ⊢
    exact ⟨G1, ρ1, R1, h1⟩
  | false =>
    rw [if_neg Bool.false_ne_true] at h1 ⊢
    exact h1.here R1 rfl
theorem or_TT {σ : St} {H : Hp} {Q : Bool → Hp → Prop} (h : tEvB X.K g C W (.or ma mb) σ H Q) : tEvB X.K g C W ma σ H (fun c H1 => if c = true then Q true H1 else tEvB X.K g C W mb σ H1 Q) := by
  obtain ⟨G, ρ, R0, h⟩ := h
  simp only [ev] at h
  rw [Out.bind_assoc] at h
  obtain ⟨G', ρ', R', h'⟩ := test_TE R0 h
  refine ⟨G', ρ', R', h'.imp fun b H1 ⟨G1, ρ1, R1, S1, h1⟩ => ?_⟩
  cases b with
  | false =>
    rw [if_neg Bool.false_ne_true] at h1 ⊢
    exact ⟨G1, ρ1, R1, h1⟩
  | true =>
    rw [if_pos rfl] at h1 ⊢
    exact h1.here R1 rfl
theorem pw_andE (ha : PT X a (tEvB X.K g C W ma)) (hb : PW X (.BoolOp .And (b :: rest) pos) (tEvB X.K g C W mb)) : PW X (.BoolOp .And (a :: b :: rest) pos) (tEvB X.K g C W (.and ma mb)) :=
  (pw_and ha hb).imp fun _ _ _ h => and_TT h
theorem pw_orE (ha : PT X a (tEvB X.K g C W ma)) (hb : PW X (.BoolOp .Or (b :: rest) pos) (tEvB X.K g C W mb)) : PW X (.BoolOp .Or (a :: b :: rest) pos) (tEvB X.K g C W (.or ma mb)) :=
  (pw_or ha hb).imp fun _ _ _ h => or_TT h
theorem pe_iteE (hc : PT X c (tEvB X.K g C W mc)) (ha : PE X a (tEv X.K g C W ma)) (hb : PE X b (tEv X.K g C W mb)) : PE X (.IfExp c a b pos) (tEv X.K g C W (.ite mc ma mb)) := by
  refine (pe_ifExp hc ha hb).imp fun σ H Q h => ?_
  obtain ⟨G, ρ, R0, h⟩ := h
  simp only [ev] at h
  obtain ⟨G', ρ', R', h'⟩ := test_TE R0 h
  refine ⟨G', ρ', R', h'.imp fun b H1 ⟨G1, ρ1, R1, S1, h1⟩ => ?_⟩
  cases b with
  | true =>
    rw [if_pos rfl] at h1 ⊢
    exact ⟨G1, ρ1, R1, h1.weak fun _ _ _ _ _ _ q => q.older S1.keep⟩
  | false =>
    rw [if_neg Bool.false_ne_true] at h1 ⊢
    exact ⟨G1, ρ1, R1, h1.weak fun _ _ _ _ _ _ q => q.older S1.keep⟩
/-! ### arguments -/
theorem pa_nilE : PA X [] (tEvs X.K g C W .nil) := pa_nil.imp fun σ H Q h => by
  obtain ⟨G, ρ, R0, h⟩ := h
  simp only [evs] at h
  exact h.here R0 Reps.nil
theorem pa_consE {es : List Expr} {ms : MEs} (hp : plainE a = true) (ha : PE X a (tEv X.K g C W ma)) (hr : PA X es (tEvs X.K g C W ms)) : PA X (a :: es) (tEvs X.K g C W (.cons ma ms)) := by
  refine (pa_cons ha hr (star_plain hp _ _)).imp fun σ H Q h => ?_
  obtain ⟨G, ρ, R0, h⟩ := h
  simp only [evs] at h
  refine ⟨G, ρ, R0, (PostG.bind (fun G' _ _ v d => Rep X.K G' v d) h).frz.imp fun x H1 ⟨G1, ρ1, d, R1, S1, r1, h1⟩ => ?_⟩
  refine ⟨G1, ρ1, R1, (PostG.bind (fun G _ _ vs ds => Reps X.K G vs ds) h1).imp fun xs H2 ⟨G2, ρ2, ds, R2, S2, r2, h2⟩ => ?_⟩
  exact h2.here R2 (Reps.cons (Rep.mono S2.gle r1) r2)
theorem pa_nilL : PA X [] (tEvl X.K g C W .nil) := pa_nil.imp fun σ H Q h => by
  obtain ⟨G, ρ, R0, h⟩ := h
  simp only [evl] at h
  exact h.here R0 (fun _ _ => trivial)
theorem RVs.keep {K : PySem.W.Frag} {T : List (Addr × Str)} {G G' H H' H0 : Hp} {ρ ρ' : Ev.Env} {σ : St} (R : RE K T G H ρ σ) (S : Stp ρ σ G H ρ' G' H') : ∀ {vs : List V} {rs : List VR} {ds : List D}, RVs K σ H0 G H ρ vs rs → looks ρ' rs = some ds → RVs K σ H0 G' H' ρ' vs rs
  | [], [], _, _, _ => trivial
  | v :: vs, r :: rs, ds, h, e => by
    simp only [looks] at e
    cases e1 : r.look ρ' with
    | none => rw [e1] at e; cases e
    | some d =>
      rw [e1] at e
      cases e2 : looks ρ' rs with
      | none => rw [e2] at e; cases e
      | some ds' => exact ⟨h.1.keep' R S e1, RVs.keep R S h.2 e2⟩
  | [], _ :: _, _, h, _ => h.elim
  | _ :: _, [], _, h, _ => h.elim
theorem RVs.older {K : PySem.W.Frag} {G H H0 H00 : Hp} {ρ : Ev.Env} {σ : St} (k : ∀ a, Fr H0 a → Fr H00 a) : ∀ {vs : List V} {rs : List VR}, RVs K σ H0 G H ρ vs rs → RVs K σ H00 G H ρ vs rs
  | [], [], _ => trivial
  | v :: vs, r :: rs, h => ⟨h.1.older k, RVs.older k h.2⟩
  | [], _ :: _, h => h.elim
  | _ :: _, [], h => h.elim
theorem pa_consL {es : List Expr} {ms : MEs} (hp : plainE a = true) (ha : PE X a (tEv X.K g C W ma)) (hr : PA X es (tEvl X.K g C W ms)) : PA X (a :: es) (tEvl X.K g C W (.cons ma ms)) := by
  refine (pa_cons ha hr (star_plain hp _ _)).imp fun σ H Q h => ?_
  obtain ⟨G, ρ, R0, h⟩ := h
  simp only [evl] at h
  refine ⟨G, ρ, R0, (PostG.bind (RV X.K σ H) h).imp fun x H1 ⟨G1, ρ1, d, R1, S1, r1, h1⟩ => ?_⟩
  refine ⟨G1, ρ1, R1, (PostG.bind (RVl X.K σ H1) h1).imp fun xs H2 ⟨G2, ρ2, ds, R2, S2, r2, h2⟩ => ?_⟩
  refine h2.here R2 fun l e => ?_
  simp only [looks] at e
  cases e1 : d.look ρ2 with
  | none => rw [e1] at e; cases e
  | some d' =>
    rw [e1] at e
    cases e2 : looks ρ2 ds with
    | none => rw [e2] at e; cases e
    | some ds' => exact ⟨r1.keep' R1 S2 e1, (r2 _ e2).older S1.keep⟩
/-! ### displays -/
theorem pe_tupE {es : List Expr} {ms : MEs} {x1} (h : PA X es (tEvs X.K g C W ms)) : PE X (.Tuple es x1 pos) (tEv X.K g C W (.tup ms)) := by
  refine (pe_tup h).imp fun σ H Q h => ?_
  obtain ⟨G, ρ, R0, h⟩ := h
  simp only [ev] at h
  refine ⟨G, ρ, R0, (PostG.bind (fun G _ _ vs ds => Reps X.K G vs ds) h).imp fun xs H1 ⟨G1, ρ1, ds, R1, S1, r1, h1⟩ => ?_⟩
  split at h1
  · rename_i c
    refine ⟨by rw [r1.length, sizeLine_eq]; exact c, fun p np => ?_⟩
    obtain ⟨R2, S2, r2⟩ := new_tup R1 np r1
    exact h1 _ _ _ R2 S2 (r2.older S1.keep)
  · exact h1.elim
theorem pe_lstE {es : List Expr} {ms : MEs} (h : PA X es (tEvs X.K g C W ms)) : PE X (.List es pos) (tEv X.K g C W (.lst ms)) := by
  refine (pe_lst h).imp fun σ H Q h => ?_
  obtain ⟨G, ρ, R0, h⟩ := h
  simp only [ev] at h
  refine ⟨G, ρ, R0, (PostG.bind (fun G _ _ vs ds => Reps X.K G vs ds) h).imp fun xs H1 ⟨G1, ρ1, ds, R1, S1, r1, h1⟩ => ?_⟩
  split at h1
  · rename_i c
    refine ⟨by rw [r1.length, sizeLine_eq]; exact c, fun p np => ?_⟩
    obtain ⟨R2, S2, r2⟩ := new_fr R1 np (d := .lst ds) (o := .lst xs) ⟨_, upd_same, r1⟩
    exact h1 _ _ _ R2 S2 (r2.older S1.keep)
  · exact h1.elim
theorem pe_dct0E : PE X (.Dict [] [] pos) (tEv X.K g C W (.dct .nil .nil)) := by
  refine pe_dnewK.imp fun σ H Q h => ?_
  obtain ⟨G, ρ, R0, h⟩ := h
  simp only [ev, evs, Out.bind] at h
  intro p np
  obtain ⟨R2, S2, r2⟩ := new_fr R0 np (d := .dic []) (o := .dK []) (.inl ⟨_, upd_same, .nil⟩)
  exact h _ _ _ R2 S2 r2
/-! ### what is changed -/
theorem tabs_chg {T : List (Addr × Str)} {H : Hp} {p : Addr} {o o' : HO} (t : LamX.Tabs T H) (e : H p = some o) (hd : isD o = true) : LamX.Tabs T (upd H p o') := by
  have nt : ∀ ps, o ≠ .tbl ps := fun ps z => by subst z; simp [isD, isSeq, isDic] at hd
  have ne : ∀ φ, o ≠ .ext φ := fun ps z => by subst z; simp [isD, isSeq, isDic] at hd
  intro q hq
  obtain ⟨ps, h1, h2, h3⟩ := t q hq
  have np : q.1 ≠ p := fun z => nt ps (by rw [z, e] at h1; exact Option.some.inj h1)
  refine ⟨ps, by rw [upd_ne np]; exact h1, h2, fun pos cv hc => ?_⟩
  obtain ⟨c, e1, e2⟩ := h3 pos cv hc
  refine ⟨c, e1, ?_⟩
  rw [upd_ne (fun z => ?_)]
  · exact e2
  · subst z
    rw [e] at e2
    exact ne _ (Option.some.inj e2)
section
variable {K : PySem.W.Frag} {T : List (Addr × Str)} {G H : Hp} {ρ : Ev.Env} {σ : St}
/-- the heap is changed at p, which is neither frozen nor a slot's -/
theorem RE.at_p {p : Addr} {o o' : HO} (R : RE K T G H ρ σ) (n : G p = none) (no : ¬ OwnedA ρ σ p) (e : H p = some o) (hd : isD o = true) : RE K T G (upd H p o') ρ σ where
  sub := fun a u h => by
    have na : a ≠ p := fun z => by subst z; rw [n] at h; cases h
    rcases R.sub a u h with ⟨h1, h2⟩ | ⟨h1, h2 | ⟨w, h2⟩⟩
    · exact .inl ⟨h1, by rw [upd_ne na]; exact h2⟩
    · exact .inr ⟨h1, .inl (by rw [upd_ne na]; exact h2)⟩
    · exact .inr ⟨h1, .inr ⟨w, by rw [upd_ne na]; exact h2⟩⟩
  len := R.len
  slot := fun i sv h => by
    obtain ⟨v, e2, q⟩ := R.slot i sv h
    refine ⟨v, e2, ?_⟩
    cases sv with
    | fz d => exact q
    | ow d =>
      obtain ⟨a, rfl, n2, o2⟩ := q
      have na : a ≠ p := fun z => no (z ▸ ⟨i, d, h, e2⟩)
      exact ⟨a, rfl, n2, o2.mono (Gle.refl _) fun u h => by rw [upd_ne na]; exact h⟩
  dist := R.dist
  tabs := tabs_chg R.tabs e hd
theorem sub_at {p : Addr} {o' : HO} (s : Sub G H) (n : G p = none) : Sub G (upd H p o') := fun a u h => by
  have na : a ≠ p := fun z => by subst z; rw [n] at h; cases h
  rcases s a u h with ⟨h1, h2⟩ | ⟨h1, h2 | ⟨w, h2⟩⟩
  · exact .inl ⟨h1, by rw [upd_ne na]; exact h2⟩
  · exact .inr ⟨h1, .inl (by rw [upd_ne na]; exact h2)⟩
  · exact .inr ⟨h1, .inr ⟨w, by rw [upd_ne na]; exact h2⟩⟩
theorem owned_set_ow {i : Nat} {d d0 : D} {b : Addr} (h0 : ρ[i]? = some (some (.ow d0))) (h : OwnedA (ρ.set i (some (.ow d))) σ b) : OwnedA ρ σ b := by
  obtain ⟨j, e, h1, h2⟩ := h
  by_cases hj : i = j
  · subst hj; exact ⟨i, d0, h0, h2⟩
  · rw [List.getElem?_set_ne hj] at h1
    exact ⟨j, e, h1, h2⟩
/-- what slot i owns is changed (behind G grown to G', H to H') -/
theorem RE.slot_chg {G' H' : Hp} {i : Nat} {a : Addr} {d0 d : D} (R : RE K T G H ρ σ) (h0 : ρ[i]? = some (some (.ow d0))) (ha : σ[i]? = some (some (.ref a))) (g : Gle G G') (s : Sub G' H') (t : LamX.Tabs T H')
    (n : G' a = none) (o : Own K G' H' a d) (k : ∀ b u, H b = some u → b ≠ a → OwnedA ρ σ b → H' b = some u) (nn : ∀ b, OwnedA ρ σ b → G' b = none) : RE K T G' H' (ρ.set i (some (.ow d))) σ where
  sub := s
  len := by rw [List.length_set]; exact R.len
  slot := fun j sv h => by
    have hlen : i < ρ.length := (List.getElem?_eq_some_iff.mp h0).1
    by_cases hj : i = j
    · subst hj
      rw [List.getElem?_set_self hlen] at h
      cases h
      exact ⟨_, ha, a, rfl, n, o⟩
    · rw [List.getElem?_set_ne hj] at h
      obtain ⟨v, e2, q⟩ := R.slot j sv h
      refine ⟨v, e2, ?_⟩
      cases sv with
      | fz d2 => exact Rep.mono g q
      | ow d2 =>
        obtain ⟨b, rfl, n2, o2⟩ := q
        have own : OwnedA ρ σ b := ⟨j, d2, h, e2⟩
        have nb : b ≠ a := fun z => hj (R.dist i j _ _ a h0 h ha (z ▸ e2))
        exact ⟨b, rfl, nn b own, o2.mono g fun u h => k b u h nb own⟩
  dist := fun j l d1 d2 b h1 h2 h3 h4 => by
    have hlen : i < ρ.length := (List.getElem?_eq_some_iff.mp h0).1
    by_cases hj : i = j
    · by_cases hl : i = l
      · exact hj.symm.trans hl
      · subst hj
        rw [List.getElem?_set_ne hl] at h2
        exact R.dist i l _ _ b h0 h2 h3 h4
    · rw [List.getElem?_set_ne hj] at h1
      by_cases hl : i = l
      · subst hl
        exact R.dist j i _ _ b h1 h0 h3 h4
      · rw [List.getElem?_set_ne hl] at h2
        exact R.dist j l _ _ b h1 h2 h3 h4
  tabs := t
/-- a store into what slot i owns -/
theorem RE.mut {i : Nat} {a : Addr} {d0 d : D} {o' : HO} (R : RE K T G H ρ σ) (h0 : ρ[i]? = some (some (.ow d0))) (ha : σ[i]? = some (some (.ref a))) (o : Own K G (upd H a o') a d) :
    RE K T G (upd H a o') (ρ.set i (some (.ow d))) σ ∧ Stp ρ σ G H (ρ.set i (some (.ow d))) G (upd H a o') := by
  have own : OwnedA ρ σ a := ⟨i, d0, h0, ha⟩
  obtain ⟨u, hu, hd, ht⟩ := R.owned_some own
  have n := (R.ownedA own).1
  refine ⟨R.slot_chg h0 ha (Gle.refl _) (sub_at R.sub n) (tabs_chg R.tabs hu hd) n o (fun b w h nb _ => by rw [upd_ne nb]; exact h) fun b z => (R.ownedA z).1, Gle.refl _, fun b w h no _ => ?_, fun b h => .inl h, fun b h => owned_set_ow h0 h, fun b h => ?_⟩
  · rw [upd_ne (fun z => no (by rw [z]; exact own))]; exact h
  · by_cases hb : b = a
    · subst hb
      obtain ⟨w, hw, _, tw⟩ := o.at_
      exact h.abs hw tw
    · exact fun w e => h w (by rw [upd_ne hb]; exact e)
/-- the first part from a later state; what is wanted at the end is still told from the start -/
theorem _root_.Ev.PostG.bindS {α β γ δ : Type} {cA : Nat → Addr} {W : WX} {G1 H1 : Hp} {ρ1 : Ev.Env} {o : Out α} {R2 : Hp → Hp → Ev.Env → δ → γ → Prop} {Q2 : δ → Hp → Prop} {f : α → Ev.Env → Out γ} (Rf : Hp → Hp → Ev.Env → β → α → Prop) (S : Stp ρ σ G H ρ1 G1 H1)
    (h : PostG K T cA W σ ρ G H (o.bind f) R2 Q2) :
    PostG K T cA W σ ρ1 G1 H1 o Rf (fun y H2 => ∃ G2 ρ2 a, RE K T G2 H2 ρ2 σ ∧ Stp ρ1 σ G1 H1 ρ2 G2 H2 ∧ Rf G2 H2 ρ2 y a ∧ PostG K T cA W σ ρ G H (f a ρ2) R2 Q2) := by
  cases o with
  | ok a ρ2 => exact fun y H2 G2 R2 S2 r2 => ⟨G2, ρ2, a, R2, S2, r2, h⟩
  | ex x ρ2 => exact fun c dd H' G' R S' r => h c dd H' G' R (S.trans S') r
  | no => exact h
/-- from a later start -/
theorem _root_.Ev.PostG.start {α β : Type} {cA : Nat → Addr} {W : WX} {G1 H1 : Hp} {o : Out α} {Rf : Hp → Hp → Ev.Env → β → α → Prop} {Q : β → Hp → Prop} (S : Stp ρ σ G H ρ G1 H1) (h : PostG K T cA W σ ρ G H o Rf Q) : PostG K T cA W σ ρ G1 H1 o Rf Q := by
  cases o with
  | ok a ρ' => exact fun y H' G' R S' r => h y H' G' R (S.trans S') r
  | ex x ρ' => exact fun c dd H' G' R S' r => h c dd H' G' R (S.trans S') r
  | no => exact h
end
theorem dct1_ev (ma mb : ME) (ρ : Ev.Env) : ev C (.dct (.cons ma .nil) (.cons mb .nil)) ρ =
    ((ev C ma ρ).bind (frz C)).bind fun k ρ1 => ((ev C mb ρ1).bind (frz C)).bind fun v ρ2 => if k.isKey then .ok (.fr (.dic [(k, v)])) ρ2 else .no := by
  simp only [ev, evs]
  cases (ev C ma ρ).bind (frz C) with
  | ok d ρ1 =>
    simp only [Out.bind]
    cases e : (ev C mb ρ1).bind (frz C) with
    | ok d ρ2 => simp only [Out.bind] at e ⊢; rw [e]
    | ex x ρ2 => simp only [Out.bind] at e ⊢; rw [e]
    | no => simp only [Out.bind] at e ⊢; rw [e]
  | ex x ρ1 => rfl
  | no => rfl
theorem pe_dct1E (ha : PE X a (tEv X.K g C W ma)) (hb : PE X b (tEv X.K g C W mb)) : PE X (.Dict [some a] [b] pos) (tEv X.K g C W (.dct (.cons ma .nil) (.cons mb .nil))) := by
  refine (pe_disp (pps_cons ha hb pps_nil) rfl rfl (by simp) (Nat.le_of_ble_eq_true rfl)).imp fun σ H Q h => ?_
  obtain ⟨G, ρ, R0, h⟩ := h
  rw [dct1_ev] at h
  intro p np
  have S0 : Stp ρ σ G H ρ G (upd H p (.dK [])) := Stp.ext (upd_keeps np)
  have R0' := R0.ext (upd_keeps (o := .dK []) np)
  have nG : G p = none := RE.sub_none R0.sub np
  have nO : ¬ OwnedA ρ σ p := fun z => by
    obtain ⟨u, e, _⟩ := R0.owned_some z
    rw [np] at e; cases e
  refine ⟨G, ρ, R0', (PostG.bindS (fun G' _ _ v d => Rep X.K G' v d) S0 h).frz.imp fun x H1 ⟨G1, ρ1, k, R1, S1, r1, h1⟩ => ?_⟩
  refine ⟨G1, ρ1, R1, (PostG.bindS (fun G' _ _ v d => Rep X.K G' v d) (S0.trans S1) h1).frz.imp fun y H2 ⟨G2, ρ2, v, R2, S2, r2, h2⟩ => ?_⟩
  split at h2
  · rename_i ck
    have S12 := S1.trans S2
    have S02 := S0.trans S12
    have e2 : H2 p = some (.dK []) := S12.frame p _ upd_same nO (by simp)
    have nG2 : G2 p = none := by
      cases q : G2 p with
      | none => rfl
      | some u =>
        rcases S12.new p (by rw [q]; simp) with z | z | z
        · exact absurd nG z
        · exact absurd z nO
        · exact z.abs upd_same (fun _ q => nomatch q)
    have nO2 : ¬ OwnedA ρ2 σ p := fun z => nO (S12.own p z)
    obtain ⟨j, rfl, rfl, ok⟩ := rep_keyO r1 ck
    refine ⟨e2, [(j, y)], rfl, (by decide : (1 : Nat) ≤ 15), ?_⟩
    have R3 : RE X.K g.T G2 (upd H2 p (.dK [(j, y)])) ρ2 σ := R2.at_p nG2 nO2 e2 rfl
    have np' : ∀ b o, H b = some o → b ≠ p := fun b o e z => by subst z; rw [np] at e; cases e
    refine h2 (.ref p) (upd H2 p (.dK [(j, y)])) G2 R3 ⟨S02.gle, fun b u hb no ht => ?_, S02.new, S02.own, fun b hb => S02.keep b fun w e => ?_⟩ ⟨p, rfl, .no np, nG2, nO2, .inl ⟨_, upd_same, .cons ok r2 .nil⟩⟩
    · rw [upd_ne (np' b u hb)]; exact S02.frame b u hb no ht
    · by_cases hbp : b = p
      · subst hbp
        exact hb.abs upd_same (fun _ q => nomatch q)
      · exact hb w (by rw [upd_ne hbp]; exact e)
  · exact h2.elim
/-! ### calls -/
theorem RE.after {K : PySem.W.Frag} {T : List (Addr × Str)} {G H G' H' : Hp} {ρ : Ev.Env} {σ : St} (R : RE K T G H ρ σ) (A : Aft T (fun _ => False) G H G' H') : RE K T G' H' ρ σ ∧ Stp ρ σ G H ρ G' H' ∧ (∀ b, OwnedA ρ σ b → G' b = none) := by
  have nn : ∀ b, OwnedA ρ σ b → G' b = none := fun b z => by
    obtain ⟨u, e, _, t⟩ := R.owned_some z
    cases q : G' b with
    | none => rfl
    | some w =>
      rcases A.new b (by rw [q]; simp) with y | y
      · exact absurd (R.ownedA z).1 y
      · exact y.abs e t
  have kp : ∀ b u, H b = some u → isD u = true → H' b = some u := fun b u e hd => A.frame b u e (fun z => z) fun ps z => by subst z; simp [isD, isSeq, isDic] at hd
  refine ⟨⟨A.sub, R.len, fun i sv h => ?_, R.dist, A.tabs⟩, ⟨A.gle, fun b u e _ t => A.frame b u e (fun z => z) t, fun b h => ?_, fun _ h => h, A.keep⟩, nn⟩
  · obtain ⟨v, e2, q⟩ := R.slot i sv h
    refine ⟨v, e2, ?_⟩
    cases sv with
    | fz d => exact Rep.mono A.gle q
    | ow d =>
      obtain ⟨a, rfl, n2, o2⟩ := q
      obtain ⟨u, e3, hd, _⟩ := o2.at_
      exact ⟨a, rfl, nn a ⟨i, d, h, e2⟩, o2.mono A.gle fun w e4 => by rw [e3] at e4; cases e4; exact kp a u e3 hd⟩
  · rcases A.new b h with y | y
    · exact .inl y
    · exact .inr (.inr y)
theorem ResV.rv {K : PySem.W.Frag} {T : List (Addr × Str)} {G H G' H' : Hp} {ρ : Ev.Env} {σ : St} {v : V} {f : Bool} {d : D} (R : RE K T G H ρ σ) (h : ResV K H G' H' v f d) (hρ : ∀ {ρ' : Ev.Env}, (∀ b, OwnedA ρ' σ b → OwnedA ρ σ b) → True) (ρ' : Ev.Env) (ho : ∀ b, OwnedA ρ' σ b → OwnedA ρ σ b) :
    RV K σ H G' H' ρ' v (if f then .fr d else .im d) := by
  unfold ResV at h
  cases f with
  | false => rw [if_neg Bool.false_ne_true] at h ⊢; exact h
  | true =>
    rw [if_pos rfl] at h ⊢
    obtain ⟨a, rfl, n, n', o⟩ := h
    refine ⟨a, rfl, n, n', fun z => ?_, o⟩
    obtain ⟨u, e, _, t⟩ := R.owned_some (ho a z)
    exact n.abs e t
theorem call_fin {σ : St} {H1 : Hp} {Q : VK} {G1 : Hp} {ρ1 : Ev.Env} {S : FSem} {vs : List V} {ds : List D} {n : Nat} (hl : ∀ ds, S.run ds ≠ .no → ds.length = n ∨ S.mu = true) (R1 : RE X.K g.T G1 H1 ρ1 σ) (r1 : Reps X.K G1 vs ds)
    (h : PostG X.K g.T g.cA W σ ρ1 G1 H1 (callF S ds ρ1) (RV X.K σ H1) Q) : spF X.K g.T g.cA n S vs H1 Q (WE W σ) := by
  simp only [callF] at h
  split at h
  · exact h.elim
  · rename_i hm
    refine ⟨?_, ?_⟩
    · rw [r1.length]
      rcases hl ds (fun z => by rw [z] at h; exact h.elim) with e | e
      · exact e
      · exact absurd e hm
    · rw [if_neg hm]
      refine ⟨G1, ds, R1.sub, R1.tabs, r1, ?_⟩
      cases q : S.run ds with
      | ok f d s =>
        rw [q] at h
        intro v H' G' A r
        obtain ⟨R2, S2, _⟩ := R1.after A
        exact h v H' G' R2 S2 (r.rv R1 (fun _ => trivial) ρ1 fun _ z => z)
      | ex x s =>
        rw [q] at h
        intro c dd H' G' A r
        obtain ⟨R2, S2, _⟩ := R1.after A
        exact h c dd H' G' R2 S2 r
      | no => rw [q] at h; exact h.elim
end
end
end Ev

/-! E7: calls of defs; pop. -/
namespace Ev
open PySem PySem.Spec L2
open PyProof.Rows hiding St
section
variable {X : Cx} {g : GC} {C : EC} {W : WX}
variable {a b c : Expr} {ma mb mc : ME} {pos p : Pos} {es : List Expr} {ms : MEs} {x : Str} {id k : Nat} {N : List Str} {sc : Scope}
theorem pe_call0SD {CX : CXT} {k : Nat} {f : Addr} {fd : FuncData} {ps : List Str} {sp : Sp} {E : St → XK} (F : FnOk X.prog X.w X.K X.mg X.base CX k f fd ps sp) (hr : Room k X.A) (hg : Gl X x) (hm : X.mg x = some (.ref f)) (hk : PySem.W.keepIn X.K (.ref f) = true) (hb : Binds X.K fd ps [])
    (hx : ∀ σ, PassesAt CX X σ (E σ)) (hdb : (x == ("__debug__" : Str)) = false) : PE X (.Call (.Name x p) [] [] pos) (fun σ H Q => sp [] H Q (E σ)) := by
  refine ⟨fun pins s σ H Q I h => ?_⟩
  refine wpAny_Call_Name_kw (ld_glob I hg hm ?_ hdb)
  exact PySem.W.callWith_K0 I.kIn hk (run_fnSD (us := []) (vs := []) (dvs := []) F hr hb .nil (hx σ) I .nil h)
theorem tEv_no {m : ME} {e : Expr} (h : ∀ ρ, ev C m ρ = .no) : PE X e (tEv X.K g C W m) :=
  ⟨fun pins s σ H Q I q => by
    obtain ⟨G, ρ, R0, q⟩ := q
    rw [h] at q
    exact q.elim⟩
theorem pe_callE (cx : CxOk X N sc k) (go : GOk X.prog X.w X.K X.mg X.base g C k) (tk : Takes X W) (hg : Gl X x) (hl : g.nt.fn.lookup x = some id) (hdb : (x == ("__debug__" : Str)) = false) (hp : (a :: es).all plainE = true) (ha : PA X (a :: es) (tEvs X.K g C W ms)) :
    PE X (.Call (.Name x p) (a :: es) [] pos) (tEv X.K g C W (.call id ms)) := by
  simp only [List.all_cons, Bool.and_eq_true] at hp
  cases q : C.Φ id with
  | none => exact tEv_no fun ρ => by simp only [ev, q]
  | some S =>
    obtain ⟨f, fd, ps, e1, e2, e3, e4, e5⟩ := go.fn x id S hl q
    refine (pe_callSD (E := WE W) (dvs := []) (ds := []) e5 cx.room hg e1 e2 e3 .nil (passAt tk) ha hdb (star_plain hp.1 _ _) (plain_back hp.2 _ _)).imp fun σ H Q h => ?_
    obtain ⟨G, ρ, R0, h⟩ := h
    simp only [ev, q] at h
    refine ⟨G, ρ, R0, (PostG.bind (fun G _ _ vs ds => Reps X.K G vs ds) h).imp fun xs H1 ⟨G1, ρ1, ds, R1, S1, r1, h1⟩ => ?_⟩
    rw [List.append_nil]
    exact call_fin (fun ds h => .inl (e4 ds h)) R1 r1 (h1.weak fun _ _ _ _ _ _ q => q.older S1.keep)
theorem pe_call0E (cx : CxOk X N sc k) (go : GOk X.prog X.w X.K X.mg X.base g C k) (tk : Takes X W) (hg : Gl X x) (hl : g.nt.fn.lookup x = some id) (hdb : (x == ("__debug__" : Str)) = false) :
    PE X (.Call (.Name x p) [] [] pos) (tEv X.K g C W (.call id .nil)) := by
  cases q : C.Φ id with
  | none => exact tEv_no fun ρ => by simp only [ev, q]
  | some S =>
    obtain ⟨f, fd, ps, e1, e2, e3, e4, e5⟩ := go.fn x id S hl q
    refine (pe_call0SD (E := WE W) e5 cx.room hg e1 e2 e3 (passAt tk) hdb).imp fun σ H Q h => ?_
    obtain ⟨G, ρ, R0, h⟩ := h
    simp only [ev, q, evs] at h
    exact call_fin (fun ds h => .inl (e4 ds h)) R0 .nil h
/-- the state behind a call that may have changed what slot i owns -/
theorem RE.afterM {K : PySem.W.Frag} {T : List (Addr × Str)} {G H G' H' : Hp} {ρ : Ev.Env} {σ : St} {i : Nat} {a0 : Addr} {d0 s : D} (R : RE K T G H ρ σ) (h0 : ρ[i]? = some (some (.ow d0))) (ha : σ[i]? = some (some (.ref a0))) (A : Aft T (· = a0) G H G' H') (n : G' a0 = none) (o : Own K G' H' a0 s) :
    RE K T G' H' (ρ.set i (some (.ow s))) σ ∧ Stp ρ σ G H (ρ.set i (some (.ow s))) G' H' := by
  have own : OwnedA ρ σ a0 := ⟨i, d0, h0, ha⟩
  have nn : ∀ b, OwnedA ρ σ b → G' b = none := fun b z => by
    obtain ⟨u, e, _, t⟩ := R.owned_some z
    cases q : G' b with
    | none => rfl
    | some w =>
      rcases A.new b (by rw [q]; simp) with y | y
      · exact absurd (R.ownedA z).1 y
      · exact y.abs e t
  refine ⟨R.slot_chg h0 ha A.gle A.sub A.tabs n o (fun b u e nb z => ?_) nn, A.gle, fun b u e no t => A.frame b u e (fun z => no (by rw [z]; exact own)) t, fun b h => ?_, fun b h => owned_set_ow h0 h, A.keep⟩
  · obtain ⟨u', e', _, t⟩ := R.owned_some z
    rw [e] at e'; cases e'
    exact A.frame b u e nb t
  · rcases A.new b h with y | y
    · exact .inl y
    · exact .inr (.inr y)
theorem callm_fin {σ : St} {H1 : Hp} {Q : VK} {G1 : Hp} {ρ1 : Ev.Env} {S : FSem} {vs : List V} {ds : List D} {n i : Nat} {v0 : V} {d0 : D} (hl : ∀ ds, S.run ds ≠ .no → ds.length = n) (R1 : RE X.K g.T G1 H1 ρ1 σ) (r1 : Reps X.K G1 vs ds) (hv : σ[i]? = some (some v0))
    (h : PostG X.K g.T g.cA W σ ρ1 G1 H1 (callM S i ds ρ1) (RV X.K σ H1) Q) : spF X.K g.T g.cA n S (v0 :: vs) H1 Q (WE W σ) := by
  simp only [callM] at h
  split at h
  · rename_i hm
    cases q0 : ownAt ρ1 i with
    | none => rw [q0] at h; exact h.elim
    | some d0 =>
      rw [q0] at h
      dsimp only at h
      have e0 := ownAt_some.mp q0
      obtain ⟨v', e1, a0, rfl, n0, o0⟩ := R1.slot i _ e0
      rw [hv] at e1; cases e1
      refine ⟨?_, ?_⟩
      · have := hl (d0 :: ds) (fun z => by rw [z] at h; exact h.elim)
        rw [← this, List.length_cons, List.length_cons, r1.length]
      · rw [if_pos hm]
        refine ⟨G1, a0, d0, vs, ds, rfl, R1.sub, R1.tabs, n0, o0, r1, ?_⟩
        cases q : S.run (d0 :: ds) with
        | ok f d s =>
          rw [q] at h
          intro v H' G' A n' o' r
          obtain ⟨R2, S2⟩ := R1.afterM e0 hv A n' o'
          exact h v H' G' R2 S2 (r.rv R1 (fun _ => trivial) _ fun b z => owned_set_ow e0 z)
        | ex x s =>
          rw [q] at h
          intro c dd H' G' A n' o' r
          obtain ⟨R2, S2⟩ := R1.afterM e0 hv A n' o'
          exact h c dd H' G' R2 S2 r
        | no => rw [q] at h; exact h.elim
  · exact h.elim
theorem pe_callmE {i : Nat} {y : Str} {py : Pos} (cx : CxOk X N sc k) (go : GOk X.prog X.w X.K X.mg X.base g C k) (tk : Takes X W) (hg : Gl X x) (hl : g.nt.fn.lookup x = some id) (hdb : (x == ("__debug__" : Str)) = false)
    (hi : N[i]? = some y) (hv : Vis sc y) (hd : (y == ("__debug__" : Str)) = false) (hcd : (y == ("__classdict__" : Str)) = false) (hp : es.all plainE = true) (ha : PA X es (tEvs X.K g C W ms)) :
    PE X (.Call (.Name x p) (.Name y py :: es) [] pos) (tEv X.K g C W (.callm id i ms)) := by
  cases q : C.Φ id with
  | none => exact tEv_no fun ρ => by simp only [ev, q]
  | some S =>
    obtain ⟨f, fd, ps, e1, e2, e3, e4, e5⟩ := go.fn x id S hl q
    have py : PE X (.Name y py) (tVar i) := pe_var (X := X) (i := i) (by rw [cx.nm]; exact hi) (by rw [cx.sc]; exact hv) hd hcd
    refine (pe_callSD (E := WE W) (dvs := []) (ds := []) e5 cx.room hg e1 e2 e3 .nil (passAt tk) (pa_cons py ha) hdb rfl (plain_back hp _ _)).imp fun σ H Q h => ?_
    obtain ⟨G, ρ, R0, h⟩ := h
    simp only [ev, q] at h
    cases q0 : ownAt ρ i with
    | none => rw [q0] at h; exact h.elim
    | some d0 =>
      rw [q0] at h
      dsimp only at h
      obtain ⟨v0, hv0, _⟩ := R0.slot i _ (ownAt_some.mp q0)
      refine ⟨v0, hv0, G, ρ, R0, (PostG.bind (fun G _ _ vs ds => Reps X.K G vs ds) h).imp fun xs H1 ⟨G1, ρ1, ds, R1, S1, r1, h1⟩ => ?_⟩
      show spF X.K g.T g.cA ps.length S ((v0 :: xs) ++ []) H1 Q (WE W σ)
      rw [List.append_nil]
      exact callm_fin (d0 := d0) e4 R1 r1 hv0 (h1.weak fun _ _ _ _ _ _ q => q.older S1.keep)
/-! ### pop -/
theorem pe_popE {i : Nat} {y : Str} {py apos : Pos} (cx : CxOk X N sc k) (hi : N[i]? = some y) (hv : Vis sc y) (hd : (y == ("__debug__" : Str)) = false) (hcd : (y == ("__classdict__" : Str)) = false) (hline : (apos.endLine == pos.line) = true) :
    PE X (.Call (.Attribute (.Name y py) "pop" apos) [] [] pos) (tEv X.K g C W (.pop i)) := by
  have py : PE X (.Name y py) (tVar i) := pe_var (X := X) (i := i) (by rw [cx.nm]; exact hi) (by rw [cx.sc]; exact hv) hd hcd
  refine (pe_bm0 PySem.F.plainAttrs_list PySem.F.slot_list_pop PySem.F.type_list_pop mt_pop py rfl hline).imp fun σ H Q h => ?_
  obtain ⟨G, ρ, R0, h⟩ := h
  simp only [ev] at h
  split at h
  · rename_i xs q0
    have e0 := ownAt_some.mp q0
    obtain ⟨v0, hv0, a, rfl, n, vs, ea, r⟩ := R0.slot i _ e0
    split at h
    · rename_i x ex
      refine ⟨_, hv0, .inl ⟨rfl, _, .of ea⟩, ?_⟩
      have hx : xs[xs.length - 1]? = some x := by rw [← List.getLast?_eq_getElem?]; exact ex
      obtain ⟨v, e1, r1⟩ := r.get hx
      have hl := r.length
      refine ⟨a, vs, v, rfl, rfl, ea, by rw [hl]; exact e1, ?_⟩
      have rd : Reps X.K G vs.dropLast xs.dropLast := by
        rw [List.dropLast_eq_take, List.dropLast_eq_take, hl]
        exact r.take _
      obtain ⟨R1, S1⟩ := R0.mut (d := .lst xs.dropLast) (o' := .lst vs.dropLast) e0 hv0 ⟨_, upd_same, rd⟩
      exact h v _ _ R1 S1 r1
    · exact h.elim
  · exact h.elim
end
end Ev

/-! E8: subscripts, slices. -/
namespace Ev
open PySem PySem.Spec L2
open PyProof.Rows hiding St
section
variable {X : Cx} {g : GC} {C : EC} {W : WX}
theorem ix_dict (hu : X.A.units + 65 < cLine) : IxR X (fun x y H Q => ∃ a v, x = .ref a ∧ DGet H a y (some v) ∧ Q v H) := by
  intro value slice pins s σ H x y v u Q I rx ry h hs
  obtain ⟨a, z, rfl, gt, q⟩ := h
  obtain rfl : v = Value.ref a := rx
  have h₂ : wpAny (model X.prog X.w) X.A (getItem (.ref a) u) (EP X pins σ Q) X.xe s := d_getItem (by omega) I gt ry fun w' s3 I3 rw' => ⟨z, H, I3, rw', q⟩
  have hT := dict_typeIs I gt
  unfold subscriptTail
  refine wpAny_bind ?_
  rw [getitemInPython_of_ne hT.not_modules]
  refine wpAny_bind (wpAny_specialOf hT PySem.F.slot_dict_getitem.lookup ?_)
  have fin : wpAny (model X.prog X.w) X.A (subscripted slice false (.ref a) u) (fun r s₃ => wpAny (model X.prog X.w) X.A (letTemporaryGo value (.ref a) r >>= fun _ => pure r) (EP X pins σ Q) X.xe s₃) X.xe s := by
    rw [hs]
    exact wpAny_operating (wpAny_mono h₂ (fun r s₃ h₃ => wpAny_bind (wpAny_letTemporaryGo (wpAny_pure h₃))) fun _ _ x => x)
  first
    | exact wpAny_pure (wpAny_bind fin)
    | exact wpAny_bind (wpAny_pure (wpAny_bind fin))
    | exact wpAny_bind fin
def rIxA (K : PySem.W.Frag) : R2 := fun x y H Q => rIx K x y H Q ∨ (fun x y H Q => ∃ a v, x = .ref a ∧ DGet H a y (some v) ∧ Q v H) x y H Q
theorem ixA_ok (hu : X.A.units + 65 < cLine) : IxR X (rIxA X.K) := ix_seq.or (ix_dict hu)
theorem ixN_same (n : Nat) (i : Int) : Ev.ixN n i = L2.ixN n i := rfl
theorem atI_reps {K : PySem.W.Frag} {G : Hp} {vs : List V} {ds : List D} {i : Int} {d : D} (r : Reps K G vs ds) (h : Ev.atI ds i = some d) : ∃ v, L2.atI vs i = some v ∧ Rep K G v d := by
  unfold Ev.atI at h
  unfold L2.atI
  rw [r.length, ← ixN_same]
  cases e : Ev.ixN ds.length i with
  | none => rw [e] at h; cases h
  | some j =>
    rw [e] at h
    obtain ⟨v, e1, r1⟩ := r.get (show ds[j]? = some d from h)
    exact ⟨v, e1, r1⟩
theorem idx_sound {K : PySem.W.Frag} {G H : Hp} {v u : V} {x y d : D} {Q : VK} (s : Sub G H) (hx : Now K G H v x) (hy : Now K G H u y) (h : idxD x y = some d) (q : ∀ w, Rep K G w d → Q w H) : rIxA K v u H Q := by
  cases x <;> simp only [idxD] at h <;> try cases h
  case str z =>
    cases y <;> simp only [idxD] at h <;> try cases h
    obtain ⟨rfl, k⟩ := hx.str
    cases e : Ev.atI z _ with
    | none => rw [e] at h; cases h
    | some c =>
      rw [e] at h
      cases h
      have hc : c ∈ z := by
        unfold Ev.atI at e
        cases e2 : Ev.ixN z.length _ with
        | none => rw [e2] at e; cases e
        | some j => rw [e2] at e; exact List.mem_of_getElem? e
      refine .inl (.inr (.inr ⟨_, _, c, rfl, hy.int, ?_, ?_, q _ (Rep.str ⟨?_, (by decide : (1 : Nat) ≤ 16777216)⟩)⟩))
      · simpa [Str.length, sizeLine_eq] using k.2
      · exact e
      · intro c' hc'
        rw [List.mem_singleton.mp hc']
        exact k.1 c hc
  case tup xs =>
    cases y <;> simp only [idxD] at h <;> try cases h
    obtain ⟨a, vs, rfl, _, e, r⟩ := hx.tup s
    obtain ⟨w, e1, r1⟩ := atI_reps r h
    exact .inl (.inr (.inl ⟨a, vs, _, w, rfl, hy.int, .of e, e1, q w r1⟩))
  case lst xs =>
    cases y <;> simp only [idxD] at h <;> try cases h
    obtain ⟨a, vs, rfl, e, r⟩ := hx.lst s
    obtain ⟨w, e1, r1⟩ := atI_reps r h
    exact .inl (.inl ⟨a, vs, _, w, rfl, hy.int, .of e, e1, q w r1⟩)
  case scr ns =>
    cases y <;> simp only [idxD] at h <;> try cases h
    obtain ⟨a, rfl, e⟩ := hx.scr s
    cases e2 : Ev.atI ns _ with
    | none => rw [e2] at h; cases h
    | some n =>
      rw [e2] at h
      cases h
      refine .inl (.inl ⟨a, ns.map V.int, _, .int n, rfl, hy.int, e, ?_, q _ (.int n)⟩)
      unfold Ev.atI at e2
      unfold L2.atI
      rw [List.length_map, ← ixN_same]
      cases e3 : Ev.ixN ns.length _ with
      | none => rw [e3] at e2; cases e2
      | some j =>
        rw [e3] at e2
        show (ns.map V.int)[j]? = _
        rw [List.getElem?_map, show ns[j]? = some n from e2]
        rfl
  case dic ps =>
    split at h
    · rename_i f
      obtain ⟨a, o, rfl, gt, hl⟩ := dic_get s hx hy f
      rcases hl with ⟨h1, rfl⟩ | ⟨d', w, h1, rfl, r⟩
      · rw [h1] at h; cases h
      · rw [h1] at h; cases h
        rcases gt with gt | ⟨_, _, z⟩
        · exact .inr ⟨a, w, rfl, gt, q w r⟩
        · cases z
    · cases h
section
variable {a b c : Expr} {ma mb mc : ME} {pos p2 : Pos} {N : List Str} {sc : Scope} {k : Nat}
theorem pe_idxE (cx : CxOk X N sc k) (ha : PE X a (tEv X.K g C W ma)) (hb : PE X b (tEv X.K g C W mb)) (hs : PlainIx b) : PE X (.Subscript a b pos) (tEv X.K g C W (.idx ma mb)) := by
  refine (pe_ix (ixA_ok cx.hu) ha hb hs).imp fun σ H Q h => ?_
  refine two_TE (fun ρ => by (simp only [ev]; try rfl)) h fun v u G H2 ρ ra rb R hx hy _ _ q => ?_
  split at q
  · rename_i x y ex ey
    cases e : idxD x y with
    | none => rw [e] at q; exact q.elim
    | some d =>
      rw [e] at q
      exact idx_sound R.sub (hx _ ex) (hy _ ey) e fun w r => q.here R r
  · exact q.elim
/-! ### slices -/
def rSlAll (K : PySem.W.Frag) : V → Option Int → Option Int → Hp → VK → Prop := fun x lo hi H Q => rSlL K x lo hi H Q ∨ rSlS x lo hi H Q ∨ rSlA K x lo hi H Q
theorem slAll_ok : SlR X (rSlAll X.K) := sl_list.or (sl_str.or sl_tupA)
theorem OkS.cut {s : List Nat} (h : OkS s) (lo hi : Option Int) : OkS (Ev.cut s lo hi) := by
  unfold Ev.cut
  refine ⟨fun c hc => h.1 c (List.mem_of_mem_drop (List.mem_of_mem_take hc)), ?_⟩
  have := h.2
  simp only [List.length_take, List.length_drop]
  omega
theorem Reps.cut {K : PySem.W.Frag} {G : Hp} {vs : List V} {ds : List D} (r : Reps K G vs ds) (lo hi : Option Int) : Reps K G (cutV vs lo hi) (Ev.cut ds lo hi) := by
  unfold cutV Ev.cut
  rw [r.length]
  exact (r.drop _).take _
theorem slc_sound {K : PySem.W.Frag} {T : List (Addr × Str)} {G H : Hp} {ρ : Ev.Env} {σ : St} {v : V} {x : D} {lo hi : Option Int} {res : VR} {Q : VK} (R : RE K T G H ρ σ) (hx : Now K G H v x) (e : slcD x lo hi = some res)
    (q : ∀ v' H' G', RE K T G' H' ρ σ → Stp ρ σ G H ρ G' H' → RV K σ H G' H' ρ v' res → Q v' H') : rSlAll K v lo hi H Q := by
  unfold slcD at e
  cases x <;> dsimp only at e <;> try cases e
  case str z =>
    obtain ⟨rfl, k⟩ := hx.str
    refine .inr (.inl ⟨_, rfl, by simpa [Str.length, sizeLine_eq] using k.2, ?_⟩)
    have : cutS (mkS z) lo hi = mkS (Ev.cut z lo hi) := by
      unfold cutS Ev.cut
      simp only [Str.length, List.size_toArray]
      rfl
    rw [this]
    exact q _ _ _ R Stp.refl (Rep.str (k.cut lo hi))
  case tup xs =>
    obtain ⟨a, vs, rfl, eg, eh, r⟩ := hx.tup R.sub
    refine .inr (.inr ⟨a, vs, rfl, .of eh, fun z => ?_, fun z p np => ?_⟩)
    · have : Ev.cut xs lo hi = xs := by
        have hl := r.length
        rw [hl] at z
        show List.take (HT.sIx xs.length xs.length hi - HT.sIx xs.length 0 lo) (List.drop (HT.sIx xs.length 0 lo) xs) = xs
        rw [z.1, z.2]
        simp
      rw [this] at q
      exact q _ _ _ R Stp.refl (Rep.tup eg r)
    · obtain ⟨R1, S1, r1⟩ := new_tup R np (r.cut lo hi)
      exact q _ _ _ R1 S1 r1
  case lst xs =>
    obtain ⟨a, vs, rfl, e, r⟩ := hx.lst R.sub
    refine .inl ⟨a, vs, rfl, .of e, fun p np => ?_⟩
    obtain ⟨R1, S1, r1⟩ := new_fr R np (d := .lst (Ev.cut xs lo hi)) (o := .lst (cutV vs lo hi)) ⟨_, upd_same, r.cut lo hi⟩
    exact q _ _ _ R1 S1 r1
theorem pe_slcE (ha : PE X a (tEv X.K g C W ma)) (hb : PE X b (tEv X.K g C W mb)) (hc : PE X c (tEv X.K g C W mc)) : PE X (.Subscript a (.Slice (some b) (some c) none p2) pos) (tEv X.K g C W (.slc ma mb mc)) := by
  refine (pe_slice slAll_ok ha (po_some hb) (po_some hc)).imp fun σ H Q h => ?_
  obtain ⟨G, ρ, R0, h⟩ := h
  simp only [ev] at h
  refine ⟨G, ρ, R0, (PostG.bind (RV X.K σ H) h).imp fun x H1 ⟨G1, ρ1, ra, R1, S1, r1, h1⟩ => ⟨G1, ρ1, R1, (PostG.bind (RV X.K σ H1) h1).imp fun y H2 ⟨G2, ρ2, rb, R2, S2, r2, h2⟩ => ?_⟩⟩
  split at h2
  · rename_i l
    cases r2
    refine ⟨l, rfl, G2, ρ2, R2, (PostG.bind (RV X.K σ H2) h2).imp fun z H3 ⟨G3, ρ3, rc, R3, S3, r3, h3⟩ => ?_⟩
    split at h3
    · rename_i d u e1
      cases r3
      refine ⟨u, rfl, ?_⟩
      cases e : slcD d (some l) (some u) with
      | none => rw [e] at h3; exact h3.elim
      | some res =>
        rw [e] at h3
        exact slc_sound R3 ((r1.keep' R1 (S2.trans S3) e1).now R3 e1) e fun v' H' G' R' S' r' => h3 v' H' G' R' S' (r'.older fun a z => S1.keep a (S2.keep a (S3.keep a z)))
    · exact h3.elim
  · exact h2.elim
theorem pe_slcLE (ha : PE X a (tEv X.K g C W ma)) (hb : PE X b (tEv X.K g C W mb)) : PE X (.Subscript a (.Slice (some b) none none p2) pos) (tEv X.K g C W (.slcL ma mb)) := by
  refine (pe_slice slAll_ok ha (po_some hb) po_none).imp fun σ H Q h => ?_
  refine two_TE (k := fun ra rl ρ2 => match ra.look ρ2, rl with
    | some x, .im (.int l) => ofO (slcD x (some l) none) ρ2
    | _, _ => .no) (fun ρ => by (simp only [ev]; try rfl)) h fun v u G H2 ρ ra rb R hx hy _ hi q => ?_
  split at q
  · rename_i x l e1
    cases hi _ rfl
    refine ⟨l, rfl, ?_⟩
    cases e : slcD x (some l) none with
    | none => rw [e] at q; exact q.elim
    | some res =>
      rw [e] at q
      exact slc_sound R (hx _ e1) e fun v' H' G' R' S' r' => q v' H' G' R' S' r'
  · exact q.elim
theorem pe_slcHE (ha : PE X a (tEv X.K g C W ma)) (hb : PE X b (tEv X.K g C W mb)) : PE X (.Subscript a (.Slice none (some b) none p2) pos) (tEv X.K g C W (.slcH ma mb)) := by
  refine (pe_slice slAll_ok ha po_none (po_some hb)).imp fun σ H Q h => ?_
  refine two_TE (k := fun ra rl ρ2 => match ra.look ρ2, rl with
    | some x, .im (.int l) => ofO (slcD x none (some l)) ρ2
    | _, _ => .no) (fun ρ => by (simp only [ev]; try rfl)) h fun v u G H2 ρ ra rb R hx hy _ hi q => ?_
  split at q
  · rename_i x l e1
    cases hi _ rfl
    refine ⟨l, rfl, ?_⟩
    cases e : slcD x none (some l) with
    | none => rw [e] at q; exact q.elim
    | some res =>
      rw [e] at q
      exact slc_sound R (hx _ e1) e fun v' H' G' R' S' r' => q v' H' G' R' S' r'
  · exact q.elim
end
end
end Ev

/-! E9: built-ins. -/
namespace Ev
open PySem PySem.Spec L2
open PyProof.Rows hiding St

def Nows (K : PySem.W.Frag) (G H : Hp) : List V → List D → Prop
  | [], [] => True
  | v :: vs, d :: ds => Now K G H v d ∧ Nows K G H vs ds
  | _, _ => False
section
variable {K : PySem.W.Frag} {T : List (Addr × Str)} {G H H0 : Hp} {ρ : Ev.Env} {σ : St}
theorem RVs.nows (R : RE K T G H ρ σ) : ∀ {vs : List V} {rs : List VR} {ds : List D}, RVs K σ H0 G H ρ vs rs → looks ρ rs = some ds → Nows K G H vs ds
  | [], [], ds, _, e => by simp only [looks] at e; cases e; trivial
  | v :: vs, r :: rs, ds, h, e => by
    simp only [looks] at e
    cases e1 : r.look ρ with
    | none => rw [e1] at e; cases e
    | some d =>
      rw [e1] at e
      cases e2 : looks ρ rs with
      | none => rw [e2] at e; cases e
      | some ds' =>
        rw [e2] at e
        cases e
        exact ⟨h.1.now R e1, RVs.nows R h.2 e2⟩
  | [], _ :: _, _, h, _ => h.elim
  | _ :: _, [], _, h, _ => h.elim
theorem Nows.one {vs : List V} {d : D} (h : Nows K G H vs [d]) : ∃ v, vs = [v] ∧ Now K G H v d := by
  cases vs with
  | nil => exact h.elim
  | cons v vs => cases vs with
    | nil => exact ⟨v, rfl, h.1⟩
    | cons _ _ => exact h.2.elim
theorem Nows.two {vs : List V} {d e : D} (h : Nows K G H vs [d, e]) : ∃ v w, vs = [v, w] ∧ Now K G H v d ∧ Now K G H w e := by
  cases vs with
  | nil => exact h.elim
  | cons v vs => cases vs with
    | nil => exact h.2.elim
    | cons w vs => cases vs with
      | nil => exact ⟨v, w, rfl, h.1, h.2.1⟩
      | cons _ _ => exact h.2.2.elim
theorem Reps.nows (s : Sub G H) : ∀ {vs : List V} {ds : List D}, Reps K G vs ds → Nows K G H vs ds
  | _, _, .nil => trivial
  | _, _, .cons h r => ⟨.inl h, Reps.nows s r⟩
end
/-- r answers the built-in b -/
def SoundB (K : PySem.W.Frag) (b : BF) (r : List V → Hp → VK → Prop) : Prop := ∀ (T : List (Addr × Str)) (G H : Hp) (ρ : Ev.Env) (σ : St) (vs : List V) (ds : List D) (res : VR) (Q : VK), RE K T G H ρ σ → Nows K G H vs ds → bfn b ds = some res →
  (∀ v' H' G', RE K T G' H' ρ σ → Stp ρ σ G H ρ G' H' → RV K σ H G' H' ρ v' res → Q v' H') → r vs H Q
section
variable {X : Cx} {g : GC} {C : EC} {W : WX}
theorem blt_TE {b : BF} {r : List V → Hp → VK → Prop} {ms : MEs} {σ : St} {H : Hp} {Q : VK} (hs : SoundB X.K b r) (h : tEv X.K g C W (.blt b ms) σ H Q) : tCB r (tEvl X.K g C W ms) σ H Q := by
  obtain ⟨G, ρ, R0, h⟩ := h
  simp only [ev] at h
  refine ⟨G, ρ, R0, (PostG.bind (RVl X.K σ H) h).imp fun xs H1 ⟨G1, ρ1, rs, R1, S1, r1, h1⟩ => ?_⟩
  cases e : looks ρ1 rs with
  | none => rw [e] at h1; exact h1.elim
  | some ds =>
    rw [e] at h1
    dsimp only at h1
    cases e2 : bfn b ds with
    | none => rw [e2] at h1; exact h1.elim
    | some res =>
      rw [e2] at h1
      exact hs g.T G1 H1 ρ1 σ xs ds res Q R1 ((r1 ds e).nows R1 e) e2 fun v' H' G' R' S' r' => h1 v' H' G' R' S' (r'.older S1.keep)
variable {a : Expr} {es : List Expr} {ms : MEs} {x : Str} {p pos : Pos} {b : BF} {r : List V → Hp → VK → Prop}
theorem pe_bltB {id : String} (hs : SoundB X.K b r) (hc : CallR X (.builtin id) r) (hg : Gl X x) (hm : X.mg x = none) (hv : bootBuiltins x = some (.builtin id)) (hn : x ≠ "__name__") (hdb : (x == ("__debug__" : Str)) = false)
    (hp : (a :: es).all plainE = true) (ha : PA X (a :: es) (tEvl X.K g C W ms)) : PE X (.Call (.Name x p) (a :: es) [] pos) (tEv X.K g C W (.blt b ms)) := by
  simp only [List.all_cons, Bool.and_eq_true] at hp
  exact (pe_callB hc hg hm hv ha hn hdb (star_plain hp.1 _ _) (plain_back hp.2 _ _)).imp fun _ _ _ h => blt_TE hs h
theorem pe_bltT {id : String} (hs : SoundB X.K b r) (hc : CallR X (.type id) r) (hg : Gl X x) (hm : X.mg x = none) (hv : bootBuiltins x = some (.type id)) (hn : x ≠ "__name__") (hdb : (x == ("__debug__" : Str)) = false)
    (hp : (a :: es).all plainE = true) (ha : PA X (a :: es) (tEvl X.K g C W ms)) : PE X (.Call (.Name x p) (a :: es) [] pos) (tEv X.K g C W (.blt b ms)) := by
  simp only [List.all_cons, Bool.and_eq_true] at hp
  exact (pe_callTy hc hg hm hv ha hn hdb (star_plain hp.1 _ _) (plain_back hp.2 _ _)).imp fun _ _ _ h => blt_TE hs h
end
/-! ### each -/
section
variable {K : PySem.W.Frag}
theorem sound_len : SoundB K .len (fun xs H Q => ∃ x n, xs = [x] ∧ LenV K x H n ∧ Q (.int n) H) := by
  intro T G H ρ σ vs ds res Q R hn h q
  match ds, h with
  | [x], h =>
    obtain ⟨v, rfl, hx⟩ := hn.one
    simp only [bfn] at h
    obtain ⟨n, e, rfl⟩ := Option.map_eq_some_iff.mp h
    have fin : Q (.int n) H := q _ _ _ R Stp.refl (Rep.int _)
    cases x <;> simp only [D.len] at e <;> try cases e
    · obtain ⟨rfl, k⟩ := hx.str
      exact ⟨_, _, rfl, ⟨by simpa [Str.length, sizeLine_eq] using k.2, rfl⟩, by simpa [Str.length] using fin⟩
    · obtain ⟨a, ws, rfl, _, eh, r⟩ := hx.tup R.sub
      exact ⟨_, _, rfl, .inr ⟨ws, .of eh, rfl⟩, by rw [r.length]; exact fin⟩
    · obtain ⟨a, ws, rfl, eh, r⟩ := hx.lst R.sub
      exact ⟨_, _, rfl, .inl ⟨ws, .of eh, rfl⟩, by rw [r.length]; exact fin⟩
    · obtain ⟨a, rfl, eh⟩ := hx.scr R.sub
      exact ⟨_, _, rfl, .inl ⟨_, eh, rfl⟩, by rw [List.length_map]; exact fin⟩
    · obtain ⟨a, ws, rfl, eh, r⟩ := hx.ktp R.sub
      exact ⟨_, _, rfl, .inr ⟨ws, eh, rfl⟩, by rw [r.length]; exact fin⟩
theorem sound_abs : SoundB K .abs (fun xs H Q => ∃ i, xs = [.int i] ∧ Q (.int (if i < 0 then -i else i)) H) := by
  intro T G H ρ σ vs ds res Q R hn h q
  match ds, h with
  | [.int i], h =>
    obtain ⟨v, rfl, hx⟩ := hn.one
    simp only [bfn] at h
    cases h
    exact ⟨i, by rw [hx.int], q _ _ _ R Stp.refl (Rep.int _)⟩
theorem sound_int : SoundB K .int (fun xs H Q => (∃ i, xs = [.int i] ∧ Q (.int i) H) ∨ ∃ k, xs = [.bl k] ∧ Q (.int (if k then 1 else 0)) H) := by
  intro T G H ρ σ vs ds res Q R hn h q
  match ds, h with
  | [.int i], h =>
    obtain ⟨v, rfl, hx⟩ := hn.one
    simp only [bfn] at h
    cases h
    exact .inl ⟨i, by rw [hx.int], q _ _ _ R Stp.refl (Rep.int _)⟩
theorem sound_bool : SoundB K .bool (fun xs H Q => (∃ i, xs = [.int i] ∧ Q (.bl (i != 0)) H) ∨ ∃ k, xs = [.bl k] ∧ Q (.bl k) H) := by
  intro T G H ρ σ vs ds res Q R hn h q
  match ds, h with
  | [.bl i], h =>
    obtain ⟨v, rfl, hx⟩ := hn.one
    simp only [bfn] at h
    cases h
    exact .inr ⟨i, by rw [hx.bl], q _ _ _ R Stp.refl (Rep.bl _)⟩
theorem sound_min2 : SoundB K .min2 (fun xs H Q => ∃ i j, xs = [.int i, .int j] ∧ Q (.int (if j < i then j else i)) H) := by
  intro T G H ρ σ vs ds res Q R hn h q
  match ds, h with
  | [.int i, .int j], h =>
    obtain ⟨v, w, rfl, hx, hy⟩ := hn.two
    simp only [bfn] at h
    cases h
    exact ⟨i, j, by rw [hx.int, hy.int], q _ _ _ R Stp.refl (Rep.int _)⟩
theorem intsO_map : ∀ {ds : List D} {ns : List Int}, intsO ds = some ns → ds = ns.map D.int
  | [], ns, h => by simp only [intsO] at h; cases h; rfl
  | d :: ds, ns, h => by
    cases d <;> simp only [intsO] at h <;> try cases h
    obtain ⟨ns', e, rfl⟩ := Option.map_eq_some_iff.mp h
    rw [intsO_map e]; rfl
theorem boolsO_map : ∀ {ds : List D} {ns : List Bool}, boolsO ds = some ns → ds = ns.map D.bl
  | [], ns, h => by simp only [boolsO] at h; cases h; rfl
  | d :: ds, ns, h => by
    cases d <;> simp only [boolsO] at h <;> try cases h
    obtain ⟨ns', e, rfl⟩ := Option.map_eq_some_iff.mp h
    rw [boolsO_map e]; rfl
theorem strsO_map : ∀ {ds : List D} {ns : List (List Nat)}, strsO ds = some ns → ds = ns.map D.str
  | [], ns, h => by simp only [strsO] at h; cases h; rfl
  | d :: ds, ns, h => by
    cases d <;> simp only [strsO] at h <;> try cases h
    obtain ⟨ns', e, rfl⟩ := Option.map_eq_some_iff.mp h
    rw [strsO_map e]; rfl
theorem reps_ints {G : Hp} : ∀ {vs : List V} {ns : List Int}, Reps K G vs (ns.map D.int) → vs = ns.map V.int
  | _, [], .nil => rfl
  | _, n :: ns, .cons h r => by cases h; rw [reps_ints r]; rfl
theorem reps_bools {G : Hp} : ∀ {vs : List V} {ns : List Bool}, Reps K G vs (ns.map D.bl) → vs = ns.map V.bl
  | _, [], .nil => rfl
  | _, n :: ns, .cons h r => by cases h; rw [reps_bools r]; rfl
theorem reps_strs {G : Hp} : ∀ {vs : List V} {ns : List (List Nat)}, Reps K G vs (ns.map D.str) → vs = (ns.map mkS).map V.str ∧ ∀ s ∈ ns, OkS s
  | _, [], .nil => ⟨rfl, fun _ h => nomatch h⟩
  | _, n :: ns, .cons h r => by
    cases h with
    | str k =>
      obtain ⟨e, h2⟩ := reps_strs r
      rw [e]
      exact ⟨rfl, fun s hs => by rcases List.mem_cons.mp hs with rfl | hs; exact k; exact h2 s hs⟩
theorem maxI_mem : ∀ (ns : List Int) (m : Int), maxI m ns ∈ m :: ns
  | [], m => by simp [maxI]
  | x :: r, m => by
    simp only [maxI]
    have := maxI_mem r (if x > m then x else m)
    split at this <;> rename_i c
    · rw [if_pos c]; exact List.mem_cons_of_mem _ this
    · rw [if_neg c]
      rcases List.mem_cons.mp this with e | e
      · rw [e]; exact List.mem_cons_self
      · exact List.mem_cons_of_mem _ (List.mem_cons_of_mem _ e)
theorem maxI_le : ∀ (ns : List Int) (m : Int), ∀ y ∈ m :: ns, y ≤ maxI m ns
  | [], m, y, h => by simp only [List.mem_singleton] at h; subst h; exact Int.le_refl _
  | x :: r, m, y, h => by
    simp only [maxI]
    have ih := maxI_le r (if x > m then x else m)
    have h1 := ih _ List.mem_cons_self
    rcases List.mem_cons.mp h with e | h
    · subst e; split at h1 <;> rename_i c <;> split <;> omega
    · rcases List.mem_cons.mp h with e | h
      · subst e; split at h1 <;> rename_i c <;> split <;> omega
      · exact ih y (List.mem_cons_of_mem _ h)
theorem sound_max1 : SoundB K .max1 (rMax K) := by
  intro T G H ρ σ vs ds res Q R hn h q
  match ds, h with
  | [.lst xs], h =>
    obtain ⟨v, rfl, hx⟩ := hn.one
    simp only [bfn] at h
    split at h
    · rename_i m r e
      cases h
      obtain ⟨a, ws, rfl, eh, rp⟩ := hx.lst R.sub
      rw [intsO_map e] at rp
      have e2 := reps_ints rp
      subst e2
      refine ⟨a, m :: r, rfl, .of eh, by simp, fun m' hm hle => ?_⟩
      have : m' = maxI m r := Int.le_antisymm (maxI_le r m m' hm) (hle _ (maxI_mem r m))
      rw [this]
      exact q _ _ _ R Stp.refl (Rep.int _)
    · cases h
theorem sumI_sum : ∀ ns : List Int, sumI ns = ns.sum
  | [] => rfl
  | x :: r => by simp [sumI, sumI_sum r]
theorem sound_sum : SoundB K .sum (rSum K) := by
  intro T G H ρ σ vs ds res Q R hn h q
  match ds, h with
  | [.lst xs], h =>
    obtain ⟨v, rfl, hx⟩ := hn.one
    simp only [bfn] at h
    obtain ⟨ns, e, rfl⟩ := Option.map_eq_some_iff.mp h
    obtain ⟨a, ws, rfl, eh, rp⟩ := hx.lst R.sub
    rw [intsO_map e] at rp
    have e2 := reps_ints rp
    subst e2
    exact ⟨a, ns, rfl, .of eh, by rw [← sumI_sum]; exact q _ _ _ R Stp.refl (Rep.int _)⟩
theorem allB_all : ∀ ns : List Bool, allB ns = ns.all id
  | [] => rfl
  | x :: r => by simp [allB, allB_all r]
theorem anyB_any : ∀ ns : List Bool, anyB ns = ns.any id
  | [] => rfl
  | x :: r => by simp [anyB, anyB_any r]
theorem sound_all : SoundB K .all (rAll K) := by
  intro T G H ρ σ vs ds res Q R hn h q
  match ds, h with
  | [.lst xs], h =>
    obtain ⟨v, rfl, hx⟩ := hn.one
    simp only [bfn] at h
    obtain ⟨ns, e, rfl⟩ := Option.map_eq_some_iff.mp h
    obtain ⟨a, ws, rfl, eh, rp⟩ := hx.lst R.sub
    rw [boolsO_map e] at rp
    have e2 := reps_bools rp
    subst e2
    exact ⟨a, ns, rfl, .of eh, by rw [← allB_all]; exact q _ _ _ R Stp.refl (Rep.bl _)⟩
theorem sound_any : SoundB K .any (rAny K) := by
  intro T G H ρ σ vs ds res Q R hn h q
  match ds, h with
  | [.lst xs], h =>
    obtain ⟨v, rfl, hx⟩ := hn.one
    simp only [bfn] at h
    obtain ⟨ns, e, rfl⟩ := Option.map_eq_some_iff.mp h
    obtain ⟨a, ws, rfl, eh, rp⟩ := hx.lst R.sub
    rw [boolsO_map e] at rp
    have e2 := reps_bools rp
    subst e2
    exact ⟨a, ns, rfl, .of eh, by rw [← anyB_any]; exact q _ _ _ R Stp.refl (Rep.bl _)⟩
theorem sound_tuple : SoundB K .tuple (fun xs H Q => ∃ p ys, xs = [.ref p] ∧ ((SqL K H p ys ∧ ∀ l, H l = none → Q (.ref l) (upd H l (.tup ys))) ∨ (SqT K H p ys ∧ Q (.ref p) H))) := by
  intro T G H ρ σ vs ds res Q R hn h q
  match ds, h with
  | [.lst xs], h =>
    obtain ⟨v, rfl, hx⟩ := hn.one
    simp only [bfn] at h
    cases h
    obtain ⟨a, ws, rfl, eh, rp⟩ := hx.lst R.sub
    refine ⟨a, ws, rfl, .inl ⟨.of eh, fun p np => ?_⟩⟩
    obtain ⟨R1, S1, r1⟩ := new_tup R np rp
    exact q _ _ _ R1 S1 r1
  | [.tup xs], h =>
    obtain ⟨v, rfl, hx⟩ := hn.one
    simp only [bfn] at h
    cases h
    obtain ⟨a, ws, rfl, eg, eh, rp⟩ := hx.tup R.sub
    exact ⟨a, ws, rfl, .inr ⟨.of eh, q _ _ _ R Stp.refl (Rep.tup eg rp)⟩⟩
/-- list(text) -/
def rListS : List V → Hp → VK → Prop := fun xs H Q => ∃ z : List Nat, xs = [.str (mkS z)] ∧ z.length ≤ szL ∧ ∀ l, H l = none → Q (.ref l) (upd H l (.lst (z.map fun c => .str (mkS [c]))))
theorem call_list_strE {X : Cx} (hc : X.calm = true) : CallR X (.type "list") rListS := by
  intro pins s σ H xs us Q I r h
  obtain ⟨z, rfl, hz, q⟩ := h
  obtain ⟨u, rfl, t, rfl⟩ := vals1 r
  have hf : H s.heap.objs.size = none := I.hok.fresh (Nat.le_refl _)
  refine PySem.call_list_str (I.ok.hd hc) (mkS z) t (fun h' tk acc' c' hk hS' hacc => ?_) (by rw [sizeLine_eq]; simpa using hz)
  have el : acc'.toList.length = z.length := by have := hacc.1; simpa using this
  have rv : Vals (z.map fun c => V.str (mkS [c])) acc'.toList := by
    have go : ∀ (l : List Value) (y : List Nat), l.length = y.length → (∀ (j : Nat) (v : Value), l[j]? = some v → ∃ c u, y[j]? = some c ∧ v = Value.str ⟨#[c]⟩ u) → Vals (y.map fun c => V.str (mkS [c])) l := by
      intro l
      induction l with
      | nil => intro y hl _; cases y with
        | nil => exact .nil
        | cons _ _ => simp at hl
      | cons a l ih =>
        intro y hl hg
        cases y with
        | nil => simp at hl
        | cons c y =>
          obtain ⟨c', u, e1, e2⟩ := hg 0 a (by simp)
          simp at e1
          subst e1 e2
          exact .cons ⟨u, rfl⟩ (ih y (by simpa using hl) fun j v e => by simpa using hg (j + 1) v (by simpa using e))
    refine go _ _ el fun j v e => ?_
    obtain ⟨c, u, e1, e2⟩ := hacc.2 j v (by simpa using e)
    exact ⟨c, u, by simpa using e1, e2⟩
  have I' := I.laid (t' := tk) (h' := h') (a := s.heap.objs.size) (o := .lst (z.map fun c => V.str (mkS [c]))) hk (Nat.le_refl _) ⟨by rw [List.length_map, sizeLine_eq]; exact hz, acc'.toList, c', rv, by simpa using hS'⟩
  exact ⟨.ref _, _, I', rfl, q _ hf⟩
theorem reps_chars {G : Hp} {z : List Nat} (h : OkS z) : Reps K G (z.map fun c => V.str (mkS [c])) (chars z) := by
  have : ∀ (l : List Nat), (∀ c ∈ l, c < 0x110000) → Reps K G (l.map fun c => V.str (mkS [c])) (chars l) := by
    intro l
    induction l with
    | nil => intro _; exact .nil
    | cons c l ih =>
      intro hc
      exact .cons (.str ⟨fun c' hc' => by rw [List.mem_singleton.mp hc']; exact hc c List.mem_cons_self, (by decide : (1 : Nat) ≤ 16777216)⟩) (ih fun c' h' => hc c' (List.mem_cons_of_mem _ h'))
  exact this z h.1
def rListA (K : PySem.W.Frag) : List V → Hp → VK → Prop := fun xs H Q => (fun xs H Q => ∃ p ys, xs = [.ref p] ∧ (SqL K H p ys ∨ SqT K H p ys) ∧ ∀ l, H l = none → Q (.ref l) (upd H l (.lst ys))) xs H Q ∨
  (fun xs H Q => rListS xs H Q ∨ (fun xs H Q => ∃ (a : Addr) (kvs : List (Key × V)), xs = [.ref a] ∧ Rd H a (.dK kvs) ∧ ∀ p, H p = none → Q (.ref p) (upd H p (.lst (kvs.map fun kv => kV kv.1)))) xs H Q) xs H Q
theorem listA_ok {X : Cx} (hc : X.calm = true) : CallR X (.type "list") (rListA X.K) := call_list_of.or ((call_list_strE hc).or (call_listD hc))
theorem dic_keys {G H : Hp} {v : V} {ps : List (D × D)} (s : Sub G H) (h : Now K G H v (.dic ps)) (f : ps.all (·.1.isKey) = true) : ∃ a kvs, v = .ref a ∧ Rd H a (.dK kvs) ∧ RepK K G kvs ps := by
  obtain ⟨a, rfl, ⟨kvs, e, r⟩ | ⟨kvs, e, n, r⟩⟩ := h.dic s
  · exact ⟨a, kvs, rfl, e, r⟩
  · cases r with
    | nil => exact absurd rfl n
    | cons _ h r => simp [D.isKey] at f
theorem rep_keyD {G : Hp} : ∀ (k : Key), OkK k → Rep K G (kV k) (keyD k)
  | .inl i, _ => .int i
  | .inr x, h => by
    have e : x = mkS x.cps.toList := by cases x; simp [mkS]
    have : Rep K G (.str (mkS x.cps.toList)) (.str x.cps.toList) := .str h
    rw [← e] at this
    exact this
theorem repK_keys {G : Hp} : ∀ {kvs : List (Key × V)} {ps : List (D × D)}, RepK K G kvs ps → Reps K G (kvs.map fun kv => kV kv.1) (ps.map (·.1))
  | _, _, .nil => .nil
  | _, _, .cons o _ r => .cons (rep_keyD _ o) (repK_keys r)
theorem sound_list : SoundB K .list (rListA K) := by
  intro T G H ρ σ vs ds res Q R hn h q
  match ds, h with
  | [.lst xs], h =>
    obtain ⟨v, rfl, hx⟩ := hn.one
    simp only [bfn] at h
    cases h
    obtain ⟨a, ws, rfl, eh, rp⟩ := hx.lst R.sub
    refine .inl ⟨a, ws, rfl, .inl (.of eh), fun p np => ?_⟩
    obtain ⟨R1, S1, r1⟩ := new_fr R np (d := .lst xs) (o := .lst ws) ⟨_, upd_same, rp⟩
    exact q _ _ _ R1 S1 r1
  | [.tup xs], h =>
    obtain ⟨v, rfl, hx⟩ := hn.one
    simp only [bfn] at h
    cases h
    obtain ⟨a, ws, rfl, eg, eh, rp⟩ := hx.tup R.sub
    refine .inl ⟨a, ws, rfl, .inr (.of eh), fun p np => ?_⟩
    obtain ⟨R1, S1, r1⟩ := new_fr R np (d := .lst xs) (o := .lst ws) ⟨_, upd_same, rp⟩
    exact q _ _ _ R1 S1 r1
  | [.str z], h =>
    obtain ⟨v, rfl, hx⟩ := hn.one
    simp only [bfn] at h
    cases h
    obtain ⟨rfl, k⟩ := hx.str
    refine .inr (.inl ⟨z, rfl, k.2, fun p np => ?_⟩)
    obtain ⟨R1, S1, r1⟩ := new_fr R np (d := .lst (chars z)) (o := .lst (z.map fun c => V.str (mkS [c]))) ⟨_, upd_same, reps_chars k⟩
    exact q _ _ _ R1 S1 r1
  | [.dic ps], h =>
    obtain ⟨v, rfl, hx⟩ := hn.one
    simp only [bfn] at h
    split at h
    · rename_i f
      cases h
      obtain ⟨a, kvs, rfl, e, rk⟩ := dic_keys R.sub hx f
      refine .inr (.inr ⟨a, kvs, rfl, e, fun p np => ?_⟩)
      obtain ⟨R1, S1, r1⟩ := new_fr R np (d := .lst (ps.map (·.1))) (o := .lst (kvs.map fun kv => kV kv.1)) ⟨_, upd_same, repK_keys rk⟩
      exact q _ _ _ R1 S1 r1
    · cases h
end
end Ev

/-! E9c: sorted, of lists of texts, of a text, of a dict's keys. -/
namespace Ev
open PySem PySem.Spec L2
open PyProof.Rows hiding St

theorem ltL_cps : ∀ x y : List Nat, ltL x y = ltCps x y
  | [], [] => rfl
  | [], _ :: _ => rfl
  | _ :: _, [] => rfl
  | a :: r, b :: t => by
    show (Nat.blt a b || (a == b && ltL r t)) = (decide (a < b) || (a == b && ltCps r t))
    rw [ltL_cps r t]
    congr 1
    rw [Bool.eq_iff_iff, Nat.blt_eq, decide_eq_true_eq]
theorem rising_pw : ∀ {l : List Str} {p : Str}, risingS p l = true → (p :: l).Pairwise fun a b => ltCps b.cps.toList a.cps.toList = false
  | [], p, _ => List.pairwise_singleton _ _
  | x :: r, p, h => by
    simp only [risingS, Bool.and_eq_true, Bool.not_eq_true'] at h
    have ih := rising_pw h.2
    refine List.pairwise_cons.mpr ⟨fun z hz => ?_, ih⟩
    rcases List.mem_cons.mp hz with rfl | hz
    · exact h.1
    · have := (List.pairwise_cons.mp ih).1 z hz
      rw [← ltL_cps] at this ⊢
      have h1 := h.1
      rw [← ltL_cps] at h1
      exact le_trL h1 this
theorem sortedS_pw {l : List Str} (h : sortedS l = true) : l.Pairwise fun a b => ltCps b.cps.toList a.cps.toList = false := by
  cases l with
  | nil => exact List.Pairwise.nil
  | cons p r => exact rising_pw h
/-- what is sorted is sortL's -/
theorem sortedS_eq {ys : List Str} {xs : List (List Nat)} (p : ys.Perm (xs.map mkS)) (h : sortedS ys = true) : ys = (sortL xs).map mkS := by
  have e1 : ys.map (fun y => y.cps.toList) = sortL xs := by
    refine rise_unique ?_ ?_ (sortL_rise xs)
    · have q := p.map fun y => y.cps.toList
      rw [List.map_map] at q
      have e : (xs.map ((fun y : Str => y.cps.toList) ∘ mkS)) = xs := by
        conv => rhs; rw [← List.map_id xs]
        apply List.map_congr_left
        intro x _
        simp [mkS]
      rw [e] at q
      exact q.trans (sortL_perm xs).symm
    · refine List.pairwise_map.mpr ((sortedS_pw h).imp fun {a b} q => ?_)
      rw [ltL_cps]; exact q
  rw [← e1, List.map_map]
  conv => lhs; rw [← List.map_id ys]
  apply List.map_congr_left
  intro y _
  cases y
  simp [mkS]
section
variable {P : Program} {w : World} {A : Around} {E : Value → Shared → Prop} {s : Shared}
/-- sorted of what can be gathered, all texts -/
theorem sorted_of {v : Value} {C : Shared → List Str → Prop} {Q : Value → Shared → Prop}
    (coll : ∀ (R : List Value → Shared → Prop), (∀ z vs xs, C z xs → StrsAre vs xs → vs.length ≤ sizeLine → R vs z) → wpAny (model P w) A.in1 (collect v) R E s)
    (fin : ∀ z xs (y : Heap) c (out : Array Value) ys, C z xs → (∀ b o, z.heap.get? b = some o → y.get? b = some o) → y.get? z.heap.objs.size = some (seqObj "list" out c) → StrsAre out.toList ys → ys.Perm xs → sortedS ys = true → Q (.ref z.heap.objs.size) { z with heap := y }) :
    wpAny (model P w) A (call (.builtin "sorted") [v]) Q E s := by
  refine Calls.call_function_entry kind_sorted plain_sorted entry_sorted (args_sorted1 v) ?_
  unfold Builtin.«sorted»
  refine wpAny_bind (m := checkCount "sorted" 1 1 _) (wpAny_pure (wpAny_bind (coll _ fun z vs xs hC hv hz => wpAny_bind (wpAny_newList ?_ hz))))
  have mine : (z.heap.push (seqObj "list" vs.toArray 0)).get? z.heap.objs.size = some (seqObj "list" vs.toArray 0) := Heap.get?_push_size _ rfl
  refine wpAny_bind (wpAny_holding (wpAny_call_entry slot_list_sort ⟨_, mine, rfl⟩ entry_list_sort (list_sort_treeKAny strKind_oneLt (s := { z with heap := z.heap.push (seqObj "list" vs.toArray 0) }) mine hv.keysOf
    (fun v₁ v₂ rest e => keyKind_strs (by rw [← e]; exact hv)) hz fun st pm so => ⟨_, rfl, ?_⟩) (args_list_sort _)))
  obtain ⟨ys, k1, k2, k3⟩ := sorted_out_str hv pm so
  obtain ⟨c, hc⟩ := sortedHeap_at (vs := vs) (out := (arrOf st).map (·.2)) mine
  refine wpAny_pure ⟨_, rfl, fin z xs _ c _ ys hC (fun b o e => ?_) hc k1 k2 k3⟩
  have lt := Heap.lt_size e
  rw [sortedHeap_old (Nat.ne_of_lt lt) (by rw [size_push']; exact Nat.lt_succ_of_lt lt), Heap.get?_push_of_some _ e]
end
section
variable {X : Cx}
/-- sorted(xs), a list of texts -/
def rSoL (K : PySem.W.Frag) : List V → Hp → VK → Prop := fun vs H Q => ∃ (a : Addr) (xs : List Str), vs = [V.ref a] ∧ SqL K H a (xs.map V.str) ∧ ∀ ys p, ys.Perm xs → sortedS ys = true → H p = none → Q (.ref p) (upd H p (.lst (ys.map V.str)))
theorem cr_SoL : CallR X (.builtin "sorted") (rSoL X.K) := by
  rintro pins s σ H _ us Q I r ⟨a, xs, rfl, hs, q⟩
  obtain ⟨its, rv, hl, sz⟩ := I.list hs
  rw [Vals.ref1 r]
  have len := rv.length
  rw [List.length_map] at len sz
  refine PyProof.Rows.sorted_strsAny hl.isList rv.strs (len ▸ sz) fun out ys k1 k2 k3 => ?_
  obtain ⟨c, hc⟩ := PyProof.Rows.sortedAll_at s.heap its out
  refine ⟨.ref _, _, I.laid (t' := s.toks) (o := .lst (ys.map V.str)) (fun _ _ => PyProof.Rows.sortedAll_old) (Nat.le_succ _) ⟨?_, out.toList, c, vals_of_strs k1, hc⟩, rfl, q ys _ k2 k3 (I.hok.fresh (Nat.le_succ _))⟩
  rw [List.length_map, k2.length_eq]
  exact sz
/-- sorted(text) -/
def rSoT : List V → Hp → VK → Prop := fun vs H Q => ∃ z : List Nat, vs = [.str (mkS z)] ∧ z.length ≤ szL ∧ ∀ ys p, ys.Perm ((charsL z).map mkS) → sortedS ys = true → H p = none → Q (.ref p) (upd H p (.lst (ys.map V.str)))
theorem cr_SoT (hc : X.calm = true) : CallR X (.builtin "sorted") rSoT := by
  rintro pins s σ H _ us Q I r ⟨x, rfl, hx, q⟩
  obtain ⟨u, rfl, t, rfl⟩ := vals1 r
  refine sorted_of (C := fun z xs => xs = (charsL x).map mkS ∧ ∃ h tk, z = { s with heap := h, toks := tk } ∧ ∀ b o, s.heap.get? b = some o → h.get? b = some o) (fun R f => ?_) ?_
  · refine wpAny_collect_str (A := X.A.in1) (I.ok.hd hc) (mkS x) t (fun z acc hk e1 e2 e3 ha => ?_) (by rw [sizeLine_eq]; simpa [mkS] using hx)
    obtain ⟨h, g, d, tk, o⟩ := z
    obtain rfl : g = s.gens := e1
    obtain rfl : d = s.drawn := e2
    obtain rfl : o = s.os := e3
    have len : acc.toList.length = x.length := by rw [Array.length_toList, ha.1]; simp [mkS]
    refine f _ _ _ ⟨rfl, h, tk, rfl, hk⟩ (strs_at (by simp [len, charsL]) fun j v e => ?_) (by rw [len, sizeLine_eq]; exact hx)
    obtain ⟨c, t', e4, e5⟩ := ha.2 j v (by rw [← Array.getElem?_toList]; exact e)
    have e4 : x[j]? = some c := by simpa [mkS] using e4
    exact ⟨mkS [c], t', by simp [charsL, e4], e5⟩
  · rintro z xs y c out ys ⟨rfl, h, tk, rfl, hk⟩ k1 k2 k3 k4 k5
    have J : Inv X pins σ H { s with heap := h, toks := tk } := I.kept hk
    refine ⟨.ref _, _, J.laid (t' := tk) (o := .lst (ys.map V.str)) k1 (Nat.le_refl _) ⟨?_, out.toList, c, vals_of_strs k3, by simpa using k2⟩, rfl, q ys _ k4 k5 (J.hok.fresh (Nat.le_refl _))⟩
    rw [List.length_map, k4.length_eq, sizeLine_eq]
    simpa [charsL] using hx
/-- sorted(d), its keys texts -/
def rSoD : List V → Hp → VK → Prop := fun vs H Q => ∃ (a : Addr) (kvs : List (Key × V)) (ks : List Str), vs = [.ref a] ∧ Rd H a (.dK kvs) ∧ kvs.map (·.1) = ks.map Sum.inr ∧ ks.length ≤ sizeLine ∧ ∀ ys p, ys.Perm ks → sortedS ys = true → H p = none → Q (.ref p) (upd H p (.lst (ys.map V.str)))
theorem cr_SoD (hc : X.calm = true) : CallR X (.builtin "sorted") rSoD := by
  rintro pins s σ H _ us Q I r ⟨a, kvs, ks, rfl, hd, hk, hz, q⟩
  obtain ⟨u, rfl, rx⟩ := vals1 r
  cases rx
  obtain ⟨_, lo, vs, rel, dd⟩ := dk_rd I.hok hd
  obtain ⟨ep, there⟩ := dd.dictAt
  have keys : vs.map (·.1) = ks.map Sum.inr := by rw [← hk]; exact rel.keys.symm
  have len : vs.length = ks.length := by simpa using congrArg List.length keys
  refine sorted_of (C := fun z xs => xs = ks ∧ ∃ h tk, z = { s with heap := h, toks := tk } ∧ ∀ b o, s.heap.get? b = some o → h.get? b = some o) (fun R f => ?_) ?_
  · refine PySem.W.kdu_collect (PySem.W.kdl_dict (knd := mixKind X.prog X.w) (kvs := vs) (ep := ep) lo) (I.ok.hd hc) there (by rw [len]; exact hz) fun h tk acc kept ha => ?_
    have len2 : acc.toList.length = ks.length := by rw [Array.length_toList, ha.1, len]
    refine f _ _ _ ⟨rfl, h, tk, rfl, kept⟩ (strs_at len2 fun j v e => ?_) (by rw [len2]; exact hz)
    obtain ⟨k, x, e1, e2⟩ := ha.2 j v (by rw [← Array.getElem?_toList]; exact e)
    have e3 : (ks.map (Sum.inr : Str → Key))[j]? = some k := by rw [← keys, List.getElem?_map, e1]; rfl
    rw [List.getElem?_map] at e3
    obtain ⟨y, e4, rfl⟩ := Option.map_eq_some_iff.mp e3
    obtain ⟨t, et⟩ := Value.isStrOf_shape (x := y) (v := v) e2
    exact ⟨y, t, e4, et⟩
  · rintro z xs y c out ys ⟨rfl, h, tk, rfl, kept⟩ k1 k2 k3 k4 k5
    have J : Inv X pins σ H { s with heap := h, toks := tk } := I.kept kept
    refine ⟨.ref _, _, J.laid (t' := tk) (o := .lst (ys.map V.str)) k1 (Nat.le_refl _) ⟨?_, out.toList, c, vals_of_strs k3, by simpa using k2⟩, rfl, q ys _ k4 k5 (J.hok.fresh (Nat.le_refl _))⟩
    rw [List.length_map, k4.length_eq]
    exact hz
end
def rSortA (K : PySem.W.Frag) : List V → Hp → VK → Prop := fun vs H Q => rSoL K vs H Q ∨ (fun vs H Q => rSoT vs H Q ∨ rSoD vs H Q) vs H Q
theorem sortA_ok {X : Cx} (hc : X.calm = true) : CallR X (.builtin "sorted") (rSortA X.K) := cr_SoL.or ((cr_SoT hc).or (cr_SoD hc))
section
variable {K : PySem.W.Frag}
theorem reps_ofS {G : Hp} : ∀ {xs : List (List Nat)}, (∀ s ∈ xs, OkS s) → Reps K G ((xs.map mkS).map V.str) (xs.map D.str)
  | [], _ => .nil
  | x :: xs, h => .cons (.str (h x List.mem_cons_self)) (reps_ofS fun s hs => h s (List.mem_cons_of_mem _ hs))
theorem kV_inr : ∀ {kvs : List (Key × V)} {xs : List Str}, kvs.map (fun kv => kV kv.1) = xs.map V.str → kvs.map (·.1) = xs.map Sum.inr
  | [], [], _ => rfl
  | [], _ :: _, h => by cases h
  | _ :: _, [], h => by cases h
  | (k, v) :: kvs, x :: xs, h => by
    rw [List.map_cons, List.map_cons] at h
    injection h with h1 h2
    rw [List.map_cons, List.map_cons, kV_inr h2]
    cases k with
    | inl i => cases h1
    | inr y =>
      have : y = x := by injection h1
      rw [this]
theorem sound_sorted : SoundB K .sorted (rSortA K) := by
  intro T G H ρ σ vs ds res Q R hn h q
  match ds, hn, h with
  | [x], hn, h =>
    obtain ⟨v, rfl, hx⟩ := hn.one
    simp only [bfn] at h
    obtain ⟨l, e, rfl⟩ := Option.map_eq_some_iff.mp h
    have fin : ∀ p, (∀ s ∈ l, OkS s) → H p = none → Q (.ref p) (upd H p (.lst (((sortL l).map mkS).map V.str))) := fun p ok np => by
      obtain ⟨R1, S1, r1⟩ := new_fr R np (d := .lst ((sortL l).map .str)) (o := .lst (((sortL l).map mkS).map V.str)) ⟨_, upd_same, reps_ofS fun s hs => ok s ((sortL_perm l).mem_iff.mp hs)⟩
      exact q _ _ _ R1 S1 r1
    match x, hx, e with
    | .str z, hx, e =>
      simp only [strsOf] at e
      cases e
      obtain ⟨rfl, k⟩ := hx.str
      refine .inr (.inl ⟨z, rfl, k.2, fun ys p hp hs np => ?_⟩)
      rw [sortedS_eq hp hs]
      refine fin p (fun s hs => ?_) np
      obtain ⟨c, hc, rfl⟩ := List.mem_map.mp hs
      exact ⟨fun c' hc' => by rw [List.mem_singleton.mp hc']; exact k.1 c hc, (by decide : (1 : Nat) ≤ 16777216)⟩
    | .lst xs, hx, e =>
      simp only [strsOf] at e
      obtain ⟨a, ws, rfl, eh, rp⟩ := hx.lst R.sub
      rw [strsO_map e] at rp
      obtain ⟨rfl, ok⟩ := reps_strs rp
      exact .inl ⟨a, l.map mkS, rfl, .of eh, fun ys p hp hs np => by rw [sortedS_eq hp hs]; exact fin p ok np⟩
    | .dic ps, hx, e =>
      simp only [strsOf] at e
      split at e
      · rename_i hl
        have em := strsO_map e
        have f : ps.all (·.1.isKey) = true := by
          rw [List.all_eq_true]
          intro p hp
          have m : p.1 ∈ ps.map (·.1) := List.mem_map.mpr ⟨p, hp, rfl⟩
          rw [em] at m
          obtain ⟨x, _, ex⟩ := List.mem_map.mp m
          rw [← ex]; rfl
        obtain ⟨a, kvs, rfl, e3, rk⟩ := dic_keys R.sub hx f
        have rp := repK_keys rk
        rw [em] at rp
        obtain ⟨e2, ok⟩ := reps_strs rp
        refine .inr (.inr ⟨a, kvs, l.map mkS, rfl, e3, kV_inr e2, ?_, fun ys p hp hs np => by rw [sortedS_eq hp hs]; exact fin p ok np⟩)
        have := congrArg List.length em
        rw [List.length_map, List.length_map] at this
        rw [List.length_map, sizeLine_eq, ← this]
        exact Nat.ble_eq.mp hl
      · cases e
    | .non, _, e => simp [strsOf] at e
    | .bl _, _, e => simp [strsOf] at e
    | .int _, _, e => simp [strsOf] at e
    | .tup _, _, e => simp [strsOf] at e
    | .scr _, _, e => simp [strsOf] at e
    | .ktp _, _, e => simp [strsOf] at e
  | [], _, h => simp [bfn] at h
  | _ :: _ :: _, _, h => simp [bfn] at h
end
end Ev

/-! E9s: sets of texts: set(list), set(text), and sorted of them. -/
namespace Ev
open PySem PySem.Spec L2
open PyProof.Rows hiding St

section
variable {P : Program} {w : World} {Ky : Type} [DecidableEq Ky] {knd : PySem.KeyKind P w Ky}
/-- no key stands for both -/
def apart (knd : PySem.KeyKind P w Ky) (e e' : Int × Value) : Prop := ∀ k, ¬ (knd.is k e.2 = true ∧ knd.is k e'.2 = true)
/-- the set at a: its members S, their number n, its table can be walked -/
structure TxS (knd : PySem.KeyKind P w Ky) (h : Heap) (a : Addr) (S : Ky → Bool) (n : Nat) where
  mk ::
  ex : ∃ o es ep t, (h.get? a = some o ∧ o.ExactSet ∧ o.data = .set es ep t) ∧ (PySem.ElemsOf knd es.toList ∧ es.toList.Pairwise (apart knd) ∧ ∀ k, S k = true ↔ ∃ e ∈ es.toList, knd.is k e.2 = true) ∧
    (es.size < scanBound ∧ es.size = n) ∧ t.fits es.size = true ∧ Ris t.place.toList ∧ (w.params.followText "set-order" = true ∨ t.led = true)
theorem TxS.keep {h h' : Heap} {a : Addr} {S : Ky → Bool} {n : Nat} (R : TxS knd h a S n) (k : ∀ o, h.get? a = some o → h'.get? a = some o) : TxS knd h' a S n := by
  obtain ⟨o, es, ep, t, ⟨h1, h2⟩, r⟩ := R.ex
  exact ⟨o, es, ep, t, ⟨k o h1, h2⟩, r⟩
theorem apart_symm {e e' : Int × Value} (h : apart knd e e') : apart knd e' e := fun k q => h k ⟨q.2, q.1⟩
section
variable {A : Around} {E : Value → Shared → Prop} {s : Shared} {a : Addr} {S : Ky → Bool} {n : Nat}
/-- the end of an add: the entries are stored, and laid anew if there are too many -/
theorem ts_tail {g : Bool → Sem Unit} (hg : ∀ (b : Bool) (z : Shared) (Q' : Unit → Shared → Prop), Q' () z → wpAny (model P w) A (g b) Q' E z)
    {o : Obj} {es : Array (Int × Value)} {ep : Nat} {t : SetTable} (ho : s.heap.get? a = some o ∧ o.ExactSet ∧ o.data = .set es ep t)
    {fs : Array (Int × Value)} {u : SetTable} {S' : Ky → Bool} (hfs : PySem.ElemsOf knd fs.toList ∧ fs.toList.Pairwise (apart knd) ∧ ∀ k, S' k = true ↔ ∃ e ∈ fs.toList, knd.is k e.2 = true)
    (hb : fs.size < scanBound) (hu : u.fits fs.size = true) (hr : Ris u.place.toList) (hl : w.params.followText "set-order" = true ∨ u.led = true) {dum : Bool} {R : Option Bool → Shared → Prop}
    (fin : ∀ h', Heap.SameBut a s.heap h' → TxS knd h' a S' fs.size → R (some true) { s with heap := h' }) :
    wpAny (model P w) A (do storeSet a fs u; if (!dum && u.tooFull) = true then do g (relayAll u fs (SetTable.grown fs.size)).2.2; storeSet a (relayAll u fs (SetTable.grown fs.size)).1 (relayAll u fs (SetTable.grown fs.size)).2.1; pure (some true) else pure (some true)) R E s := by
  obtain ⟨ho, hx, hd⟩ := ho
  refine wpAny_bind (wpAny_storeSet_of ho hd ?_ (fits_of_scanBound hb))
  have at1 := L2.store_at (es' := fs) (t' := u) ho hd
  have same := Heap.SameBut.update s.heap a (Obj.putSet fs u)
  by_cases c : (!dum && u.tooFull) = true
  · rw [if_pos c]
    have pm := relayAll_perm u fs (SetTable.grown fs.size)
    have f3 := relayAll_fits u fs (SetTable.grown fs.size)
    have r3 := L2.relayAll_ris u fs (SetTable.grown fs.size)
    have l3 := L2.relayAll_led u fs (SetTable.grown fs.size)
    generalize relayAll u fs (SetTable.grown fs.size) = Z at pm f3 r3 l3 ⊢
    obtain ⟨gs, v, b⟩ := Z
    simp only at pm f3 r3 l3 ⊢
    have sz : gs.size = fs.size := by have := pm.length_eq; simpa using this
    refine wpAny_bind (hg _ _ _ (wpAny_bind (wpAny_storeSet_of at1 rfl ?_ (fits_of_scanBound (by rw [sz]; exact hb)))))
    have at2 := L2.store_at (es' := gs) (t' := v) at1 rfl
    refine wpAny_pure (fin _ (same.trans (Heap.SameBut.update _ a _)) ⟨_, gs, _, v, ⟨at2, hx, rfl⟩, ⟨hfs.1.perm pm, (pm.pairwise_iff fun h => apart_symm h).mpr hfs.2.1, fun k => ?_⟩, ⟨by rw [sz]; exact hb, sz⟩, f3, r3, by rw [l3]; exact hl⟩)
    rw [hfs.2.2 k]
    exact ⟨fun ⟨e, m, q⟩ => ⟨e, pm.mem_iff.mpr m, q⟩, fun ⟨e, m, q⟩ => ⟨e, pm.mem_iff.mp m, q⟩⟩
  · rw [if_neg c]
    exact wpAny_pure (fin _ same ⟨_, fs, _, u, ⟨at1, hx, rfl⟩, hfs, ⟨hb, rfl⟩, hu, hr, hl⟩)
theorem ts_add {k : Ky} {x : Value} {Q : Bool → Shared → Prop} (R : TxS knd s.heap a S n) (room : n + 1 < scanBound) (hk : knd.is k x = true) (hx : x.scannable = true)
    (fin : ∀ b h' m, m ≤ n + 1 → Heap.SameBut a s.heap h' → TxS knd h' a (fun j => S j || decide (j = k)) m → Q b { s with heap := h' }) : wpAny (model P w) A (setAddHashed a x (knd.hash k)) Q E s := by
  obtain ⟨o, es, ep, t, ⟨ho, hex, hd⟩, ⟨hel, hap, hm⟩, ⟨hb, hn⟩, hf, hr, hl⟩ := R.ex
  unfold setAddHashed setAddHashedIn
  refine wpAny_holding (wpAny_bind (wpAny_setState_of ho hd hf ?_))
  dsimp only
  rw [byScan_of hx hb hel]
  simp only [↓reduceIte]
  unfold setAddByScan
  refine wpAny_bind (wpAny_bind (wpAny_rule (wpAny_bind (wpAny_setScan_of hk ho hd hf hel ?_))))
  cases hi : List.findIdx? (fun e => knd.is k e.2) es.toList with
  | some j =>
    dsimp only
    obtain ⟨hj, pj, _⟩ := List.findIdx?_eq_some_iff_getElem.mp hi
    have old : S k = true := (hm k).mpr ⟨es.toList[j], List.getElem_mem hj, pj⟩
    refine wpAny_pure (wpAny_pure (fin _ s.heap n (by omega) (Heap.SameBut.refl a s.heap) ⟨o, es, ep, t, ⟨ho, hex, hd⟩, ⟨hel, hap, fun i => ?_⟩, ⟨hb, hn⟩, hf, hr, hl⟩))
    rw [← hm i, Bool.or_eq_true, decide_eq_true_eq]
    exact ⟨fun z => z.elim id (fun e => by rw [e]; exact old), .inl⟩
  | none =>
    dsimp only
    have new : ∀ e ∈ es.toList, knd.is k e.2 = false := fun e he => List.findIdx?_eq_none_iff.mp hi e he
    have quiet : ∀ (b : Bool) {z : Shared} {Q' : Unit → Shared → Prop}, Q' () z → wpAny (model P w) A (match b with | true => rule "set.scan.the-table-gave-way" | false => pure ()) Q' E z := fun b z Q' q => by
      cases b
      · exact wpAny_pure q
      · exact wpAny_rule q
    have pm := layNew_perm t es (knd.hash k) x
    have f1 := layNew_fits t es (knd.hash k) x
    have r1 := L2.layNew_ris t es (knd.hash k) x hr
    have l1 := L2.layNew_led t es (knd.hash k) x
    generalize layNew t es (knd.hash k) x = Z at pm f1 r1 l1 ⊢
    obtain ⟨fs, u, dum, gave⟩ := Z
    simp only at pm f1 r1 l1 ⊢
    have pc : fs.toList.Perm ((knd.hash k, x) :: es.toList) := by
      rw [Array.toList_push] at pm
      exact pm.trans (List.perm_append_singleton _ _)
    have sz : fs.size = n + 1 := by have := pc.length_eq; simp at this; omega
    have hfs : PySem.ElemsOf knd fs.toList ∧ fs.toList.Pairwise (apart knd) ∧ ∀ j, (S j || decide (j = k)) = true ↔ ∃ e ∈ fs.toList, knd.is j e.2 = true := by
      refine ⟨fun e he => ?_, (pc.pairwise_iff fun h => apart_symm h).mpr (List.pairwise_cons.mpr ⟨fun e he j q => ?_, hap⟩), fun j => ?_⟩
      · rcases List.mem_cons.mp (pc.mem_iff.mp he) with z | z
        · rw [z]; exact ⟨⟨k, hk, rfl⟩, hx⟩
        · exact hel e z
      · have ej : j = k := knd.inj _ _ _ q.1 hk
        rw [ej, new e he] at q
        exact absurd q.2 (by decide)
      · rw [Bool.or_eq_true, decide_eq_true_eq, hm j]
        constructor
        · rintro (⟨e, m, q⟩ | rfl)
          · exact ⟨e, pc.mem_iff.mpr (List.mem_cons_of_mem _ m), q⟩
          · exact ⟨_, pc.mem_iff.mpr List.mem_cons_self, hk⟩
        · rintro ⟨e, m, q⟩
          rcases List.mem_cons.mp (pc.mem_iff.mp m) with z | z
          · rw [z] at q
            exact .inr (knd.inj _ _ _ q hk)
          · exact .inl ⟨e, z, q⟩
    have hb1 : fs.size < scanBound := by rw [sz]; exact room
    have led1 : w.params.followText "set-order" = true ∨ u.led = true := by rw [l1]; exact hl
    refine wpAny_bind (quiet _ ?_)
    split
    · refine wpAny_bind ?_
      rw [hashByValue_scannable 8 hx]
      refine wpAny_pure (ts_tail ?_ ⟨ho, hex, hd⟩ hfs hb1 ?_ ?_ ?_ ?_)
      · intro b z Q' q; exact quiet b q
      · first | exact f1 | (split; exact f1; exact SetTable.fits_plain_off f1) | (split; exact SetTable.fits_plain_off f1; exact f1)
      · first | exact r1 | (split <;> exact r1)
      · first | exact led1 | (split <;> exact led1)
      · intro h' sb r; dsimp only; exact wpAny_pure (fin true h' _ (by omega) sb r)
    · refine wpAny_bind (wpAny_pure ?_)
      simp only [↓reduceIte]
      refine ts_tail ?_ ⟨ho, hex, hd⟩ hfs hb1 f1 r1 led1 ?_
      · intro b z Q' q; exact quiet b q
      · intro h' sb r; dsimp only; exact wpAny_pure (fin true h' _ (by omega) sb r)
end
end
abbrev tsk (P : Program) (w : World) := PySem.strKind P w
def inS (xs : List Str) : Str → Bool := fun k => xs.any (· == k)
section
variable {P : Program} {w : World} {A : Around} {R : Result → Shared → Prop} {it a : Addr} {fp wr : List Addr} {G : Array GenState → Array GenState → Prop} {n : Nat} {Pv : Nat → Value → Prop} {St : Nat → Shared → Prop}
theorem inS_step {xs : List Str} {i : Nat} (h : i < xs.length) (k : Str) : (inS (xs.take i) k || decide (k = xs.getD i Str.empty)) = inS (xs.take (i + 1)) k := by
  have e : xs.take (i + 1) = xs.take i ++ [xs.getD i Str.empty] := by
    rw [List.take_succ, List.getD_eq_getElem?_getD, List.getElem?_eq_getElem h]
    rfl
  unfold inS
  rw [e, List.any_append, List.any_cons, List.any_nil, Bool.or_false]
  congr 1
  rw [Bool.eq_iff_iff, decide_eq_true_eq, beq_iff_eq]
  exact eq_comm
/-- all that a walk gives is added -/
theorem ts_loop (W : WalksS P w A.in1 it fp wr G n Pv St) (na : a ∉ fp) (xs : List Str) (len : xs.length = n) (bnd : n + 1 < scanBound) (val : ∀ i v, Pv i v → ∃ t, v = .str (xs.getD i Str.empty) t) :
    ∀ (left i : Nat) (s : Shared), n - i = left → i ≤ n → St i s → (∃ m, m ≤ i ∧ TxS (tsk P w) s.heap a (inS (xs.take i)) m) →
      (∀ z, Moved (a :: wr) G s z → (∃ m, m ≤ n ∧ TxS (tsk P w) z.heap a (inS xs) m) → R (.ok (.ret .none)) z) → codeAny (model P w) A (.builtin "set.update.loop" ⟨[.ref a, .ref it], []⟩) R s := by
  have nw : a ∉ wr := fun h => na (W.sub _ h)
  have more : ∀ b ∈ wr, b ∈ a :: wr := fun b hb => List.mem_cons_of_mem _ hb
  intro left
  induction left with
  | zero =>
    intro i s hk hi st ⟨m, hm, ts⟩ fin
    obtain rfl : i = n := by omega
    refine codeAny_builtin PyProof.Rows.F.entry_set_update_loop ?_
    rw [Around.under_plainId PyProof.Rows.F.plain_set_update_loop _]
    refine wpAny_bind (W.done s _ _ st fun z mv => ?_)
    refine wpAny_pure (fin z (mv.mono more) ⟨m, hm, ?_⟩)
    rw [← len, List.take_length] at ts
    exact ts.keep fun o e => mv.heap a o nw e
  | succ left ih =>
    intro i s hk hi st ⟨m, hm, ts⟩ fin
    have lt : i < n := by omega
    refine codeAny_builtin PyProof.Rows.F.entry_set_update_loop ?_
    rw [Around.under_plainId PyProof.Rows.F.plain_set_update_loop _]
    refine wpAny_bind (W.item i s _ _ lt st fun v z hv st' mv => ?_)
    obtain ⟨t, rfl⟩ := val i v hv
    have ts' : TxS (tsk P w) z.heap a (inS (xs.take i)) m := ts.keep fun o e => mv.heap a o nw e
    show wpAny _ A.in1 (holding [Value.str (xs.getD i Str.empty) t] (setAdd a (.str (xs.getD i Str.empty) t)) >>= _) _ _ z
    refine wpAny_bind (wpAny_holding ?_)
    unfold setAdd
    refine wpAny_holding (wpAny_bind ((tsk P w).pyHash (k := xs.getD i Str.empty) (strKind_is _ _ _ _) ?_))
    refine ts_add (s := { z with toks := z.toks + 1 }) ts' (by omega) (strKind_is _ _ _ _) rfl fun b h' m' hm' sb ts2 => ?_
    rw [show (fun j => inS (xs.take i) j || decide (j = xs.getD i Str.empty)) = inS (xs.take (i + 1)) from funext fun k => inS_step (by omega) k] at ts2
    refine wpAny_pure ⟨plainId_quiet PyProof.Rows.F.plain_set_update_loop _, ih (i + 1) _ (by omega) lt (W.frame _ z _ _ st' (Nat.le_succ _) fun b hb o e => ?_) ⟨m', by omega, ts2⟩ fun y mv2 q => fin y (Moved.trans W.gtrans ((mv.mono more).then_heap (Nat.le_succ _) fun b o hb e => ?_) mv2) q⟩
    · rw [sb.2 b fun e' => na (e' ▸ hb)]; exact e
    · rw [sb.2 b fun e' => hb (e' ▸ List.mem_cons_self)]; exact e
end
/-- an empty set, as it is made -/
abbrev noneSet (w : World) : Obj := { cls := .type "set", dict := none, data := .set #[] 0 (.fresh 0 0 (!w.params.followText "set-order")) }
section
variable {P : Program} {w : World} {A : Around} {E : Value → Shared → Prop} {s : Shared}
theorem ts_none {h : Heap} {a : Addr} (e : h.get? a = some (noneSet w)) : TxS (tsk P w) h a (inS []) 0 := by
  refine ⟨_, #[], 0, _, ⟨e, ⟨rfl, rfl, rfl⟩, rfl⟩, ⟨fun e he => by simp at he, by simp, fun k => by simp [inS]⟩, ⟨by decide, rfl⟩, rfl, List.Pairwise.nil, ?_⟩
  show _ ∨ (!w.params.followText "set-order") = true
  cases w.params.followText "set-order"
  · exact .inr rfl
  · exact .inl rfl
theorem set_new1 (v : Value) {Q : Value → Shared → Prop} (h : Q (.ref s.heap.objs.size) { s with heap := s.heap.push (noneSet w) }) : codeAny (model P w) A (.call (.builtin "set.__new__") ⟨[.type "set", v], []⟩) (wants Q E) s := by
  refine codeAny_of_tree ?_
  show wpAny _ A.in1 (do checkBuiltinCall "set.__new__" ⟨[.type "set", v], []⟩; again (.builtin "set.__new__" ⟨[.type "set", v], []⟩)) _ _ s
  refine wpAny_bind (wpAny_of_eq (PySem.F.newCall_set_1 v) (wpAny_pure ⟨plainId_quiet PySem.F.plain_set_new _, codeAny_builtin PySem.F.entry_set_new ?_⟩))
  rw [Around.under_plainId PySem.F.plain_set_new _]
  unfold Builtin.«set.__new__» Builtin.Frozenset.newClass
  have := sub_set_self
  obtain ⟨s1, s2, s3, s4, s5⟩ := s
  dsimp only
  wp_walk
  refine wpAny_askSetting (wpAny_pure ?_)
  dsimp only
  simp only [newObj]
  exact wpAny_bind (wpAny_alloc (wpAny_pure (wpAny_pure h)))
/-- what set(v) leaves behind -/
def TsOut (P : Program) (w : World) (s : Shared) (xs : List Str) (z : Shared) : Prop := ∃ h' tk, z = { s with heap := h', toks := tk } ∧ (∃ m, m ≤ xs.length ∧ TxS (tsk P w) h' s.heap.objs.size (inS xs) m) ∧ ∀ b o, b < s.heap.objs.size → s.heap.get? b = some o → h'.get? b = some o
set_option maxHeartbeats 3200000 in
theorem ts_call {v : Value} {xs : List Str} {Q : Value → Shared → Prop}
    (init : ∀ {A1 : Around}, A1.handled = A.handled → wpAny (model P w) A1 (Builtin.«set.__init__» ⟨[.ref s.heap.objs.size, v], []⟩) (fun r z => r = .done (.ret .none) ∧ TsOut P w s xs z) E { s with heap := s.heap.push (noneSet w) })
    (h : ∀ z, TsOut P w s xs z → Q (.ref s.heap.objs.size) z) : wpAny (model P w) A (call (.type "set") [v]) Q E s := by
  obtain ⟨c, tl, hmro⟩ := PySem.F.called_set.mro
  have hmade := PySem.F.called_set.made
  have hsub := PySem.F.called_set.sub
  refine wpAny_call (codeAny_of_tree ?_)
  show wpAny _ _ (callAny (.type "set") _) _ _ _
  refine wpAny_pure ⟨Code.quiet_builtin _ (by decide +kernel), codeAny_builtin PySem.F.entry_type_call ?_⟩
  rw [Around.under_plain (weight_type_call_type "set" [v] []) rfl]
  have h1 := PySem.F.called_set.notType
  have h2 := PySem.F.called_set.canCreate
  have hct := PySem.F.typeCall_set_1 v
  repeat (any_goals (first | assumption | wp_step))
  refine codeAny_mono (set_new1 (P := P) v (E := E) (Q := fun obj z => obj = .ref s.heap.objs.size ∧ z = { s with heap := s.heap.push (noneSet w) }) ⟨rfl, rfl⟩) fun r z hr => ?_
  match r, hr with
  | .error e, hr => exact hr
  | .ok (.ret obj), hr =>
    obtain ⟨rfl, rfl⟩ := hr
    have got : (s.heap.push (noneSet w)).get? s.heap.objs.size = some (noneSet w) := Heap.get?_push_size _ rfl
    have ty : Shared.TypeIs { s with heap := s.heap.push (noneSet w) } (.ref s.heap.objs.size) "set" := ⟨_, got, rfl⟩
    have l1 := PySem.F.called_set.init.lookup
    have l2 := PySem.F.called_set.init.bind (.ref s.heap.objs.size)
    repeat (any_goals (first | assumption | wp_step))
    refine codeAny_mono (codeAny_call_builtin (R := wants (fun r z => r = .none ∧ TsOut P w s xs z) E) PySem.F.called_set.init.plain PySem.F.entry_set_init (check_set_init_1 ty ?_)) fun r2 z2 h2 => ?_
    · refine wpAny_mono (init ?_) (fun r z q => ?_) fun e z q => q
      · first | rfl | simp
      · obtain ⟨rfl, q⟩ := q
        exact ⟨rfl, q⟩
    · match r2, h2 with
      | .error e, h2 => exact h2
      | .ok (.ret r), h2 =>
        obtain ⟨rfl, q⟩ := h2
        repeat (any_goals (first | assumption | wp_step))
        exact h _ q
set_option maxHeartbeats 3200000 in
/-- set(xs), a list of texts -/
theorem ts_list {l : Addr} {its : Array Value} {xs : List Str} {Q : Value → Shared → Prop} (hh : A.handled = none) (hl : s.heap.IsList l its) (hi : PyProof.Rows.StrsAre its.toList xs) (bnd : xs.length + 1 < scanBound)
    (h : ∀ z, TsOut P w s xs z → Q (.ref s.heap.objs.size) z) : wpAny (model P w) A (call (.type "set") [.ref l]) Q E s := by
  refine ts_call (xs := xs) (fun {A1} ha => ?_) h
  obtain ⟨⟨oc, od, oa, os'⟩, hol, hcl, nl, hdl⟩ := hl
  simp only at hcl hdl
  subst hcl
  subst hdl
  have old : (s.heap.push (noneSet w)).get? l = some { cls := .type "list", dict := od, data := .seq its nl, slots := os' } := Heap.get?_push_of_some _ hol
  have n1 := PySem.F.sub_list_set
  have n2 := PySem.F.sub_list_frozenset
  have n3 : (Value.type "list" == Value.type "dict") = false := by decide
  have isl : (s.heap.push (noneSet w)).IsList l its := ⟨_, old, rfl, nl, rfl⟩
  have got : (s.heap.push (noneSet w)).get? s.heap.objs.size = some (noneSet w) := Heap.get?_push_size _ rfl
  have ty : Shared.TypeIs { s with heap := s.heap.push (noneSet w) } (.ref s.heap.objs.size) "set" := ⟨_, got, rfl⟩
  unfold Builtin.«set.__init__» noKeywords Builtin.Frozenset.updateFrom
  generalize hPI : pyIter = PI
  wp_walk
  subst hPI
  refine wpAny_pyIter_list isl (wpAny_bind (wpAny_runValue ?_))
  have sz : (s.heap.push (noneSet w)).objs.size = s.heap.objs.size + 1 := Heap.size_push ..
  have lt : l < s.heap.objs.size := Heap.lt_size hol
  have len : xs.length = its.size := by rw [← StrsAre.len_eq hi, Array.length_toList]
  have ne : l ≠ (s.heap.push (noneSet w)).objs.size := by rw [sz]; exact Nat.ne_of_lt (Nat.lt_succ_of_lt lt)
  have nf : s.heap.objs.size ∉ [(s.heap.push (noneSet w)).objs.size, l] := by
    rw [sz]
    simp only [List.mem_cons, List.not_mem_nil, or_false, not_or]
    exact ⟨Nat.ne_of_lt (Nat.lt_succ_self _), Nat.ne_of_gt lt⟩
  have val : ∀ (i : Nat) (v : Value), its[i]? = some v → ∃ t, v = .str (xs.getD i Str.empty) t := fun i v hv => SS.strs_at hi i v (by rw [Array.getElem?_toList]; exact hv)
  refine ts_loop ((Walks.list (by simp [ha, hh]) _ l ne its).toS) nf xs len (by omega) val (its.size - 0) 0 _ (by omega) (Nat.zero_le _) ⟨⟨_, Heap.get?_push_size _ rfl, rfl, rfl⟩, isl.push _⟩ ⟨0, Nat.le_refl _, ts_none (Heap.get?_push_of_some _ got)⟩ ?_
  rintro ⟨h', g', d', tk, o'⟩ mv ⟨m, hm, ts⟩
  obtain rfl : g' = s.gens := mv.gens
  obtain rfl : d' = s.drawn := mv.drawn
  obtain rfl : o' = s.os := mv.os
  refine wpAny_pure (wpAny_pure ⟨rfl, h', tk, rfl, ⟨m, by rw [len]; exact hm, ts⟩, fun b o hb e => ?_⟩)
  refine mv.heap b o ?_ (Heap.get?_push_of_some _ (Heap.get?_push_of_some _ e))
  rw [sz]
  simp only [List.mem_cons, List.not_mem_nil, or_false, not_or]
  exact ⟨Nat.ne_of_lt hb, Nat.ne_of_lt (Nat.lt_succ_of_lt hb)⟩
end
end Ev

/-! E9u: set(text), sorted(set(..)). -/
namespace Ev
open PySem PySem.Spec L2
open PyProof.Rows hiding St
section
variable {P : Program} {w : World} {A : Around} {E : Value → Shared → Prop} {s : Shared}
set_option maxHeartbeats 3200000 in
/-- set(x), a text -/
theorem ts_text {z : List Nat} {t : Tok} {Q : Value → Shared → Prop} (hh : A.handled = none) (bnd : z.length + 1 < scanBound)
    (h : ∀ y, TsOut P w s ((charsL z).map mkS) y → Q (.ref s.heap.objs.size) y) : wpAny (model P w) A (call (.type "set") [.str (mkS z) t]) Q E s := by
  refine ts_call (xs := (charsL z).map mkS) (fun {A1} ha => ?_) h
  have n1 := PySem.F.sub_str_set
  have n2 := PySem.F.sub_str_frozenset
  have n3 : (Value.type "str" == Value.type "dict") = false := by decide
  have got : (s.heap.push (noneSet w)).get? s.heap.objs.size = some (noneSet w) := Heap.get?_push_size _ rfl
  have ty : Shared.TypeIs { s with heap := s.heap.push (noneSet w) } (.ref s.heap.objs.size) "set" := ⟨_, got, rfl⟩
  have ty2 : Shared.TypeIs { s with heap := s.heap.push (noneSet w) } (.str (mkS z) t) "str" := rfl
  unfold Builtin.«set.__init__» noKeywords Builtin.Frozenset.updateFrom
  generalize hPI : pyIter = PI
  wp_walk
  subst hPI
  have sz : (s.heap.push (noneSet w)).objs.size = s.heap.objs.size + 1 := Heap.size_push ..
  refine wpAny_pyIter_str fun o St W hst => wpAny_bind (wpAny_runValue ?_)
  have len : ((charsL z).map mkS).length = (mkS z).cps.size := by simp [charsL, mkS]
  have len2 : (mkS z).cps.size = z.length := by simp [mkS]
  have nf : s.heap.objs.size ∉ [(s.heap.push (noneSet w)).objs.size] := by
    rw [sz, List.mem_singleton]
    exact Nat.ne_of_lt (Nat.lt_succ_self _)
  have val : ∀ (i : Nat) (v : Value), SignAt (mkS z) i v → ∃ t, v = .str (((charsL z).map mkS).getD i Str.empty) t := fun i v ⟨c, u, h1, h2⟩ => by
    have h1 : z[i]? = some c := by simpa [mkS] using h1
    refine ⟨u, ?_⟩
    rw [h2, List.getD_eq_getElem?_getD, List.getElem?_map, charsL, List.getElem?_map, h1]
    rfl
  refine ts_loop ((W _ (by simp [ha, hh])).toS) nf _ len (by omega) val ((mkS z).cps.size - 0) 0 _ (by omega) (Nat.zero_le _) hst ⟨0, Nat.le_refl _, ts_none (Heap.get?_push_of_some _ got)⟩ ?_
  rintro ⟨h', g', d', tk, o'⟩ mv ⟨m, hm, ts⟩
  obtain rfl : g' = s.gens := mv.gens
  obtain rfl : d' = s.drawn := mv.drawn
  obtain rfl : o' = s.os := mv.os
  refine wpAny_pure (wpAny_pure ⟨rfl, h', tk, rfl, ⟨m, by rw [len]; exact hm, ts⟩, fun b o hb e => ?_⟩)
  refine mv.heap b o ?_ (Heap.get?_push_of_some _ (Heap.get?_push_of_some _ e))
  rw [sz]
  simp only [List.mem_cons, List.not_mem_nil, or_false, not_or]
  exact ⟨Nat.ne_of_lt hb, Nat.ne_of_lt (Nat.lt_succ_of_lt hb)⟩
end
end Ev

/-! E9v: sorted(set(..)). -/
namespace Ev
open PySem PySem.Spec L2
open PyProof.Rows hiding St
/-- the different ones of xs, rising -/
def DiffS (xs ys : List Str) : Prop := sortedS ys = true ∧ ys.Nodup ∧ ∀ k, k ∈ ys ↔ k ∈ xs
abbrev txtOf (v : Value) : Str := match v with
  | .str k _ => k
  | _ => Str.empty
section
variable {P : Program} {w : World} {A : Around} {E : Value → Shared → Prop} {s : Shared}
theorem elem_txt {l : List (Int × Value)} (h : PySem.ElemsOf (tsk P w) l) : ∀ e ∈ l, ∃ t, e.2 = .str (txtOf e.2) t := fun e he => by
  obtain ⟨⟨k, hk, _⟩, _⟩ := h e he
  obtain ⟨t, ev⟩ := Value.isStrOf_shape (x := k) (v := e.2) hk
  exact ⟨t, by rw [ev]⟩
theorem is_txt {k : Str} {v : Value} (h : (tsk P w).is k v = true) : txtOf v = k := by
  obtain ⟨t, ev⟩ := Value.isStrOf_shape (x := k) (v := v) h
  rw [ev]
theorem strs_vals : ∀ {vs : List Value}, (∀ v ∈ vs, ∃ t, v = .str (txtOf v) t) → StrsAre vs (vs.map txtOf)
  | [], _ => .nil
  | v :: vs, h => by
    obtain ⟨t, e⟩ := h v List.mem_cons_self
    rw [List.map_cons]
    generalize txtOf v = k at e
    subst e
    exact .cons k t (strs_vals fun u hu => h u (List.mem_cons_of_mem _ hu))
theorem ts_sorted {a : Addr} {xs : List Str} {n : Nat} {Q : Value → Shared → Prop} (R : TxS (tsk P w) s.heap a (inS xs) n) (hh : A.handled = none)
    (fin : ∀ (z : Shared) (p : Addr) (out : Array Value) (c : Nat) (ys : List Str), (∀ b o, s.heap.get? b = some o → z.heap.get? b = some o) → z.gens = s.gens → z.os = s.os → s.heap.objs.size ≤ p → z.heap.get? p = some (seqObj "list" out c) →
      StrsAre out.toList ys → DiffS xs ys → Q (.ref p) z) : wpAny (model P w) A (call (.builtin "sorted") [.ref a]) Q E s := by
  obtain ⟨o, es, ep, t, ⟨ho, hex, hd⟩, ⟨hel, hap, hm⟩, ⟨hb, hn⟩, hf, hr, hl⟩ := R.ex
  have inj : ∀ e ∈ es.toList, ∃ t, e.2 = .str (txtOf e.2) t := elem_txt hel
  have mem0 : ∀ k, k ∈ es.toList.map (fun e => txtOf e.2) ↔ k ∈ xs := fun k => by
    have q := hm k
    unfold inS at q
    rw [List.any_eq_true] at q
    constructor
    · intro hk
      obtain ⟨e, he, rfl⟩ := List.mem_map.mp hk
      obtain ⟨t, et⟩ := inj e he
      obtain ⟨x, hx, ex⟩ := q.mpr ⟨e, he, by rw [et]; exact strKind_is P w _ t⟩
      rw [beq_iff_eq] at ex
      rw [← ex]; exact hx
    · intro hk
      obtain ⟨e, he, q2⟩ := q.mp ⟨k, hk, by simp⟩
      exact List.mem_map.mpr ⟨e, he, is_txt q2⟩
  have nd0 : (es.toList.map (fun e => txtOf e.2)).Nodup := by
    refine List.pairwise_map.mpr (List.Pairwise.imp_of_mem ?_ hap)
    intro e e' he he' h heq
    obtain ⟨t, et⟩ := inj e he
    obtain ⟨t', et'⟩ := inj e' he'
    refine h (txtOf e.2) ⟨by rw [et]; exact strKind_is P w _ t, ?_⟩
    rw [heq, et']; exact strKind_is P w _ t'
  refine sorted_of (C := fun z ks => ks.Perm (es.toList.map fun e => txtOf e.2) ∧ (∀ b o, s.heap.get? b = some o → z.heap.get? b = some o) ∧ z.gens = s.gens ∧ z.os = s.os ∧ s.heap.objs.size ≤ z.heap.objs.size) (fun R f => ?_) ?_
  · refine L2.collect_set (A := A.in1) hh ⟨o, ho, hex.1, hd⟩ hf hb hr hl fun y vs k1 hz g1 o1 pm => f y vs (vs.map txtOf) ⟨?_, k1, g1, o1, hz⟩ (strs_vals fun v hv => ?_) ?_
    · have := pm.map txtOf
      rw [List.map_map] at this
      exact this
    · obtain ⟨e, he, rfl⟩ := List.mem_map.mp (pm.mem_iff.mp hv)
      exact inj e he
    · rw [pm.length_eq, List.length_map, Array.length_toList]
      exact fits_of_scanBound hb
  · rintro z ks y c out ys ⟨p1, k1, g1, o1, hz⟩ k2 k3 k4 k5 k6
    exact fin _ _ out c ys (fun b u e => k2 b u (k1 b u e)) g1 o1 hz k3 k4 ⟨k6, (k5.trans p1).nodup_iff.mpr nd0, fun k => by rw [(k5.trans p1).mem_iff, mem0]⟩
end
def tSortSet (K : PySem.W.Frag) (ta : TE) : TE := fun σ H Q => ta σ H fun x H1 => ∃ xs : List Str, ((∃ l, x = .ref l ∧ SqL K H1 l (xs.map V.str)) ∨ ∃ z, x = .str (mkS z) ∧ xs = (charsL z).map mkS) ∧ xs.length + 1 < scanBound ∧
  ∀ ys p, DiffS xs ys → H1 p = none → Q (.ref p) (upd H1 p (.lst (ys.map V.str)))
section
variable {X : Cx}
theorem pe_sortset {a : Expr} {ta : TE} {p p2 q pos : Pos} (hc : X.calm = true) (hg : Gl X "sorted") (hm : X.mg "sorted" = none) (hg2 : Gl X "set") (hm2 : X.mg "set" = none) (ha : PE X a ta)
    (na : starEach [a] X.env = (false, eval a X.env) :: starEach [] X.env) : PE X (.Call (.Name "sorted" p) [.Call (.Name "set" p2) [a] [] q] [] pos) (tSortSet X.K ta) := by
  refine ⟨fun pins s σ H Q I h => ?_⟩
  refine Call_ (ld_blt I hg hm boot_sorted ?_)
  refine PyProof.Rows.callWith_builtin1 (PyProof.Rows.args_cons ?_ rfl) rfl rfl
  refine Call_ (ld_blt I hg2 hm2 boot_set ?_)
  refine PyProof.Rows.callWith_type1 (PyProof.Rows.args_cons (thn (ha.run pins s σ H _ I h) fun v s1 ⟨x, H1, I1, r1, q1⟩ => PyProof.Rows.args_nil ?_) na) na rfl
  obtain ⟨xs, hx, bnd, q1⟩ := q1
  have fin : ∀ z, TsOut X.prog X.w s1 xs z → wpAny (model X.prog X.w) X.A (spliced (backTo pos (starEach [] X.env))) (fun vs s₂ => wpAny (model X.prog X.w) X.A (call (.builtin "sorted") (Value.ref s1.heap.objs.size :: vs)) (EP X pins σ Q) X.xe s₂) X.xe z := fun z ⟨h', tk, ez, ⟨m, _, ts⟩, kept⟩ => by
    subst ez
    refine PyProof.Rows.args_nil ?_
    have I2 : Inv X pins σ H1 { s1 with heap := h', toks := tk } := I1.kept fun b o e => kept b o (Heap.lt_size e) e
    refine ts_sorted (s := { s1 with heap := h', toks := tk }) ts (I1.ok.hd hc) fun y p out c ys k g o hp hget hs hd => ?_
    have hlen : (ys.map V.str).length ≤ sizeLine := by
      have : ys.length ≤ xs.length := nodup_len hd.2.1 fun k hk => (hd.2.2 k).mp hk
      rw [List.length_map]
      exact Nat.le_trans this (fits_of_scanBound (by omega))
    have hn : H1 p = none := I2.hok.fresh hp
    have J : Inv X pins σ (upd H1 p (.lst (ys.map V.str))) y := I2.call' (ch := []) o (Un.laid k hp hn) (I2.hok.laid k hp ⟨hlen, out.toList, c, vals_of_strs hs, by rw [Array.toArray_toList]; exact hget⟩) (by rw [g]; exact I2.bare) (fun _ z => nomatch z)
    exact ⟨.ref p, _, J, rfl, q1 ys p hd hn⟩
  rcases hx with ⟨l, rfl, hq⟩ | ⟨z, rfl, rfl⟩
  · cases r1
    obtain ⟨its, r, pl, hz⟩ := I1.list hq
    exact ts_list (I1.ok.hd hc) pl.isList (by simpa using r.strs) bnd fin
  · obtain ⟨t, rfl⟩ := r1
    exact ts_text (I1.ok.hd hc) (by simpa [charsL] using bnd) fin
end
/-! the tree's side -/
theorem cps_mkS (x : List Nat) : (mkS x).cps.toList = x := by simp [mkS]
theorem mkS_cps (k : Str) : mkS k.cps.toList = k := by cases k; simp [mkS]
theorem diffS_eq {xs : List (List Nat)} {ys : List Str} (h : DiffS (xs.map mkS) ys) : ys = (sortL (dedupL [] xs)).map mkS := by
  obtain ⟨h1, h2, h3⟩ := h
  refine sortedS_eq (xs := dedupL [] xs) ?_ h1
  refine perm_of_mem h2 ?_ fun k => ?_
  · refine List.pairwise_map.mpr ((dedup_nodup xs []).imp fun {a b} n e => n ?_)
    rw [← cps_mkS a, e, cps_mkS]
  · rw [h3, List.mem_map, List.mem_map]
    constructor
    · rintro ⟨x, hx, rfl⟩
      exact ⟨x, (dedup_in xs [] x).mpr ⟨hx, by simp⟩, rfl⟩
    · rintro ⟨x, hx, rfl⟩
      exact ⟨x, ((dedup_in xs [] x).mp hx).1, rfl⟩
end Ev

/-! E9w: the tree sorted(set(x)). -/
namespace Ev
open PySem PySem.Spec L2
open PyProof.Rows hiding St
theorem sound_str {K : PySem.W.Frag} : SoundB K .str (fun xs H Q => ∃ a, xs = [.str a] ∧ Q (.str a) H) := by
  intro T G H ρ σ vs ds res Q R hn h q
  match ds, hn, h with
  | [.str s], hn, h =>
    obtain ⟨v, rfl, hx⟩ := hn.one
    simp only [bfn] at h
    cases h
    obtain ⟨rfl, k⟩ := hx.str
    exact ⟨_, rfl, q _ _ _ R Stp.refl (Rep.str k)⟩
section
variable {X : Cx} {g : GC} {C : EC} {W : WX}
def ssK (ra : VR) (ρ : Env) : Out VR := match looks ρ [ra] with
  | some ds => ofO (bfn .sortset ds) ρ
  | none => .no
theorem ev_sortset (m : ME) (ρ : Env) : ev C (.blt .sortset (.cons m .nil)) ρ = (ev C m ρ).bind fun ra ρ1 => ssK ra ρ1 := by
  simp only [ev, evl]
  cases ev C m ρ <;> rfl
theorem sortset_TE {m : ME} {σ : St} {H : Hp} {Q : VK} (h : tEv X.K g C W (.blt .sortset (.cons m .nil)) σ H Q) : tSortSet X.K (tEv X.K g C W m) σ H Q := by
  refine one_TE (k := ssK) (ev_sortset m) h fun v G H1 ρ ra R hx _ _ q => ?_
  unfold ssK at q
  cases e1 : ra.look ρ with
  | none =>
    simp only [looks, e1] at q
    exact q.elim
  | some x =>
    simp only [looks, e1, Option.bind, Option.map, bfn] at q
    have hx := hx x e1
    have go : ∀ (l : List (List Nat)), strsS x = some l → Nat.blt (l.length + 1) 4096 = true ∧ ∀ p, (∀ s ∈ l, OkS s) → H1 p = none → Q (.ref p) (upd H1 p (.lst (((sortL (dedupL [] l)).map mkS).map V.str))) := fun l hl => by
      rw [hl] at q
      cases c : Nat.blt (l.length + 1) 4096 with
      | false => simp [c, ofO] at q; exact q.elim
      | true =>
        simp only [c, if_true, ofO] at q
        refine ⟨rfl, fun p ok np => ?_⟩
        obtain ⟨R1, S1, r1⟩ := new_fr R np (d := .lst ((sortL (dedupL [] l)).map .str)) (o := .lst (((sortL (dedupL [] l)).map mkS).map V.str)) ⟨_, upd_same, reps_ofS fun s hs => ok s ((dedup_in l [] s).mp ((sortL_perm _).mem_iff.mp hs)).1⟩
        exact q _ _ _ R1 S1 r1
    cases e2 : strsS x with
    | none => rw [e2] at q; exact q.elim
    | some l =>
      obtain ⟨g1, g2⟩ := go l e2
      have bnd : l.length + 1 < scanBound := Nat.blt_eq.mp g1
      match x, hx, e2 with
      | .lst xs, hx, e2 =>
        simp only [strsS] at e2
        obtain ⟨a, ws, rfl, eh, rp⟩ := hx.lst R.sub
        rw [strsO_map e2] at rp
        obtain ⟨rfl, ok⟩ := reps_strs rp
        exact ⟨l.map mkS, .inl ⟨a, rfl, .of eh⟩, by rw [List.length_map]; exact bnd, fun ys p hd np => by rw [diffS_eq hd]; exact g2 p ok np⟩
      | .str z, hx, e2 =>
        simp only [strsS] at e2
        cases e2
        obtain ⟨rfl, k⟩ := hx.str
        refine ⟨(charsL z).map mkS, .inr ⟨z, rfl, rfl⟩, by rw [List.length_map]; exact bnd, fun ys p hd np => ?_⟩
        rw [diffS_eq hd]
        refine g2 p (fun s hs => ?_) np
        obtain ⟨c, hc, rfl⟩ := List.mem_map.mp hs
        exact ⟨fun c' hc' => by rw [List.mem_singleton.mp hc']; exact k.1 c hc, (by decide : (1 : Nat) ≤ 16777216)⟩
      | .non, _, e => simp [strsS] at e
      | .bl _, _, e => simp [strsS] at e
      | .int _, _, e => simp [strsS] at e
      | .tup _, _, e => simp [strsS] at e
      | .dic _, _, e => simp [strsS] at e
      | .scr _, _, e => simp [strsS] at e
      | .ktp _, _, e => simp [strsS] at e
theorem pe_sortsetE {a : Expr} {m : ME} {p p2 q pos : Pos} (hc : X.calm = true) (hg : Gl X "sorted") (hm : X.mg "sorted" = none) (hg2 : Gl X "set") (hm2 : X.mg "set" = none) (hp : plainE a = true) (ha : PE X a (tEv X.K g C W m)) :
    PE X (.Call (.Name "sorted" p) [.Call (.Name "set" p2) [a] [] q] [] pos) (tEv X.K g C W (.blt .sortset (.cons m .nil))) :=
  (pe_sortset hc hg hm hg2 hm2 ha (star_plain hp _ _)).imp fun _ _ _ h => sortset_TE h
end
end Ev

/-! E10: methods, isinstance. -/
namespace Ev
open PySem PySem.Spec L2
open PyProof.Rows hiding St
open Builtin.Str (occurrences)
/-! ### one sign found -/
theorem occ_stay (s sub : Str) (hi : Nat) : ∀ (l : List Nat) (st : Array Nat × Nat), 1 ≤ st.fst.size → (forIn l st (StrLaws.occBody s sub hi 1)).run.fst = st.fst
  | [], st, h => rfl
  | a :: l, st, h => by
    rw [List.forIn_cons]
    have c2 : ¬ (((st.fst.size < 1 ∧ st.snd ≤ a) ∧ a + sub.length ≤ hi) ∧ Builtin.Str.subAt s sub a = true) := fun q => by have := q.1.1.1; omega
    unfold StrLaws.occBody
    rw [if_neg c2]
    exact occ_stay s sub hi l st h
theorem occ_first (s sub : Str) (hi : Nat) : ∀ (l : List Nat) (free : Nat), (∀ i ∈ l, free ≤ i) →
    (forIn l ((#[] : Array Nat), free) (StrLaws.occBody s sub hi 1)).run.fst = (match l.find? (fun i => decide (i + sub.length ≤ hi ∧ Builtin.Str.subAt s sub i = true)) with | some i => #[i] | none => #[])
  | [], free, _ => rfl
  | a :: l, free, hf => by
    rw [List.forIn_cons, List.find?_cons]
    have ha : free ≤ a := hf a (List.mem_cons_self ..)
    by_cases hc : a + sub.length ≤ hi ∧ Builtin.Str.subAt s sub a = true
    · have c1 : (((#[] : Array Nat), free).fst.size < 1 ∧ ((#[] : Array Nat), free).snd ≤ a) ∧ a + sub.length ≤ hi := ⟨⟨by simp, ha⟩, hc.1⟩
      rw [decide_eq_true hc]
      have e : StrLaws.occBody s sub hi 1 a ((#[] : Array Nat), free) = pure (ForInStep.yield ((#[] : Array Nat).push a, a + sub.length)) := by
        unfold StrLaws.occBody
        rw [if_pos ⟨c1, hc.2⟩]
      rw [e]
      show (forIn l ((#[] : Array Nat).push a, a + sub.length) (StrLaws.occBody s sub hi 1)).run.fst = _
      rw [occ_stay _ _ _ _ _ (by simp)]
      rfl
    · rw [decide_eq_false hc]
      have e : StrLaws.occBody s sub hi 1 a ((#[] : Array Nat), free) = pure (ForInStep.yield ((#[] : Array Nat), free)) := by
        unfold StrLaws.occBody
        rw [if_neg (fun q => hc ⟨q.1.2, q.2⟩)]
      rw [e]
      exact occ_first s sub hi l free (fun i hi' => hf i (List.mem_cons_of_mem _ hi'))
theorem findC_find (c : Nat) : ∀ (s : List Nat) (k : Nat), (List.range' k (s.length + 1)).find? (fun i => decide (s[i - k]? = some c)) = findC c k s
  | [], k => by simp [findC, List.range'_succ, List.find?_cons]
  | y :: s, k => by
    simp only [findC, List.length_cons]
    rw [List.range'_succ, List.find?_cons, Nat.sub_self]
    by_cases h : y = c
    · subst h; simp
    · have h1 : decide ((y :: s)[0]? = some c) = false := by simp [h]
      have h2 : (y == c) = false := by simp [h]
      rw [h1, h2]
      simp only [Bool.false_eq_true, if_false]
      rw [← findC_find c s (k + 1)]
      have cg : ∀ (l : List Nat), (∀ i ∈ l, k + 1 ≤ i) → l.find? (fun i => decide ((y :: s)[i - k]? = some c)) = l.find? (fun i => decide (s[i - (k + 1)]? = some c)) := by
        intro l hl
        induction l with
        | nil => rfl
        | cons a l ih =>
          rw [List.find?_cons, List.find?_cons]
          have ha := hl a List.mem_cons_self
          have e : a - k = (a - (k + 1)) + 1 := by omega
          rw [e, List.getElem?_cons_succ, ih (fun i hi => hl i (List.mem_cons_of_mem _ hi))]
      exact cg _ fun i hi => by rw [List.mem_range'] at hi; obtain ⟨j, _, rfl⟩ := hi; omega
theorem occ_one (s : List Nat) (c : Nat) : occurrences (mkS s) ⟨#[c]⟩ 0 (mkS s).length 1 = (match findC c 0 s with | some i => [i] | none => []) := by
  rw [StrLaws.occ_eq, occ_first _ _ _ _ _ (fun _ _ => Nat.zero_le _), ← findC_find]
  have hl : (mkS s).length = s.length := by simp [Str.length]
  have e : (fun i => decide (i + (⟨#[c]⟩ : Str).length ≤ (mkS s).length ∧ Builtin.Str.subAt (mkS s) ⟨#[c]⟩ i = true)) = fun i => decide (s[i - 0]? = some c) := by
    funext i
    have := StrLaws.subAt_one (mkS s) c i
    by_cases h : s[i]? = some c
    · rw [decide_eq_true (this.mpr (by simpa using h)), decide_eq_true (by simpa using h)]
    · rw [decide_eq_false (fun q => h (by simpa using this.mp q)), decide_eq_false (by simpa using h)]
  rw [e, hl]
  simp only [Nat.sub_zero]
  generalize (List.range' 0 (s.length + 1)).find? (fun i => decide (s[i]? = some c)) = o
  cases o <;> rfl
theorem find_txt (s : List Nat) (c : Nat) : Txt.find (mkS s) (mkS [c]) = (match findC c 0 s with | some n => (n : Int) | none => -1) := by
  unfold Txt.find
  rw [show mkS [c] = (⟨#[c]⟩ : Str) from rfl, occ_one]
  cases findC c 0 s <;> rfl
theorem pre_take : ∀ (t s : List Nat), pre t s = ((s.take t.length == t) && decide (t.length ≤ s.length))
  | [], s => by simp [pre]
  | x :: t, [] => by simp [pre]
  | x :: t, y :: s => by
    simp only [pre, pre_take t s, List.length_cons, List.take_succ_cons]
    by_cases h : x = y
    · subst h; simp
    · have : ¬ y = x := fun e => h e.symm
      rw [beq_eq_false_iff_ne.mpr h, beq_false_of_ne (a := y :: s.take t.length) (by intro e; exact h (List.cons.inj e).1.symm)]
      rfl
theorem startswith_txt (s t : List Nat) : Txt.startswith (mkS s) (mkS t) = pre t s := by
  unfold Txt.startswith
  rw [StrLaws.subAt_eq, pre_take]
  simp only [Str.length, List.size_toArray, Nat.zero_add, List.drop_zero, Bool.and_comm]
theorem join_txt (sep : List Nat) : ∀ l : List (List Nat), Str.join (mkS sep) (l.map mkS) = mkS (joinL sep l)
  | [] => rfl
  | [x] => rfl
  | x :: y :: r => by
    simp only [List.map_cons, Str.join, joinL]
    rw [show Str.join (mkS sep) (mkS y :: r.map mkS) = mkS (joinL sep (y :: r)) from join_txt sep (y :: r), mkS_app, mkS_app]
theorem joinL_len (sep : List Nat) : ∀ l : List (List Nat), (joinL sep l).length ≤ sumN l + l.length * sep.length
  | [] => by simp [joinL]
  | [x] => by simp [joinL, sumN]
  | x :: y :: r => by
    have := joinL_len sep (y :: r)
    simp only [joinL, sumN, List.length_append, List.length_cons] at this ⊢
    rw [Nat.succ_mul]
    omega
theorem joinL_ok (sep : List Nat) (h0 : ∀ c ∈ sep, c < 0x110000) : ∀ l : List (List Nat), (∀ s ∈ l, OkS s) → ∀ c ∈ joinL sep l, c < 0x110000
  | [], _, c, hc => by simp [joinL] at hc
  | [x], h, c, hc => (h x List.mem_cons_self).1 c hc
  | x :: y :: r, h, c, hc => by
    simp only [joinL, List.mem_append] at hc
    rcases hc with (hc | hc) | hc
    · exact (h x List.mem_cons_self).1 c hc
    · exact h0 c hc
    · exact joinL_ok sep h0 (y :: r) (fun s hs => h s (List.mem_cons_of_mem _ hs)) c hc
theorem sumN_sum : ∀ l : List (List Nat), ((l.map mkS).map (·.length)).sum = sumN l
  | [] => rfl
  | x :: r => by
    have := sumN_sum r
    simp only [List.map_cons, List.sum_cons, sumN, this]
    simp [Str.length]

/-- the receiver's kind -/
def TyV (K : PySem.W.Frag) (m : MF) (x : V) (H : Hp) : Prop := match m with
  | .get2 => ∃ a, x = .ref a ∧ IsD H a
  | .lindex => tyV K "list" x H
  | _ => tyV K "str" x H
def SoundM (K : PySem.W.Frag) (m : MF) (r : V → List V → Hp → VK → Prop) : Prop := ∀ (T : List (Addr × Str)) (G H : Hp) (ρ : Ev.Env) (σ : St) (v : V) (x : D) (vs : List V) (ds : List D) (res : VR) (Q : VK), RE K T G H ρ σ → Now K G H v x → Reps K G vs ds → mfn m x ds = some res →
  (∀ v' H' G', RE K T G' H' ρ σ → Stp ρ σ G H ρ G' H' → RV K σ H G' H' ρ v' res → Q v' H') → r v vs H Q
section
variable {X : Cx} {g : GC} {C : EC} {W : WX}
theorem kind_now {K : PySem.W.Frag} {G H : Hp} {m : MF} {v : V} {x : D} (s : Sub G H) (h : Now K G H v x) (k : mkind m x = true) : TyV K m v H := by
  cases m <;> cases x <;> simp only [mkind, Bool.false_eq_true] at k
  case join.str => rw [h.str.1]; rfl
  case find.str => rw [h.str.1]; rfl
  case startswith.str => rw [h.str.1]; rfl
  case sindex.str => rw [h.str.1]; rfl
  case get2.dic =>
    obtain ⟨a, rfl, ⟨kvs, e, r⟩ | ⟨kvs, e, n, r⟩⟩ := h.dic s
    · exact ⟨a, rfl, .inl ⟨_, e⟩⟩
    · exact ⟨a, rfl, .inr ⟨_, e⟩⟩
  case lindex.lst =>
    obtain ⟨a, vs, rfl, e, r⟩ := h.lst s
    exact .inl ⟨rfl, vs, .of e⟩
theorem meth_TE {m : MF} {r : V → List V → Hp → VK → Prop} {mo : ME} {ms : MEs} {σ : St} {H : Hp} {Q : VK} (hs : SoundM X.K m r) (h : tEv X.K g C W (.meth m mo ms) σ H Q) :
    tEv X.K g C W mo σ H (fun x H1 => TyV X.K m x H1 ∧ tEvs X.K g C W ms σ H1 fun xs H2 => r x xs H2 Q) := by
  obtain ⟨G, ρ, R0, h⟩ := h
  simp only [ev] at h
  refine ⟨G, ρ, R0, (PostG.bind (RV X.K σ H) h).imp fun x H1 ⟨G1, ρ1, ro, R1, S1, r1, h1⟩ => ?_⟩
  cases e0 : ro.look ρ1 with
  | none => rw [e0] at h1; exact h1.elim
  | some x0 =>
    rw [e0] at h1
    dsimp only at h1
    split at h1
    · rename_i ck
      refine ⟨kind_now R1.sub (r1.now R1 e0) ck, G1, ρ1, R1, (PostG.bind (fun G _ _ vs ds => Reps X.K G vs ds) h1).imp fun xs H2 ⟨G2, ρ2, ds, R2, S2, r2, h2⟩ => ?_⟩
      cases e1 : ro.look ρ2 with
      | none => rw [e1] at h2; exact h2.elim
      | some x1 =>
        rw [e1] at h2
        dsimp only at h2
        cases e2 : mfn m x1 ds with
        | none => rw [e2] at h2; exact h2.elim
        | some res =>
          rw [e2] at h2
          exact hs g.T G2 H2 ρ2 σ x x1 xs ds res Q R2 ((r1.keep' R1 S2 e1).now R2 e1) r2 e2 fun v' H' G' R' S' r' => h2 v' H' G' R' S' (r'.older fun a z => S1.keep a (S2.keep a z))
    · exact h1.elim
def plainO : Expr → Bool
  | .Call .. => false
  | e => plainE e
theorem base_plain {o : Expr} (h : plainO o = true) (m : Str) (env : PySem.Env) (w : Sem Value) : attributeBase o m env w = w := by
  cases o <;> first | rfl | (simp [plainO] at h)
theorem few1 {e : Expr} (h : plainE e = true) (pos : Pos) (env : PySem.Env) : ((backTo pos (starEach [e] env)).all (fun x => !x.1) && (backToKw pos (keywordEach [] env)).all (fun x => x.1.isSome)
    && decide (([e] : List Expr).length + ([] : List Keyword).length + (if ([] : List Keyword).isEmpty then 0 else 1) < 30)) = true := by
  rw [star_plain h]; rfl
theorem few2 {e f : Expr} (h : plainE e = true) (h2 : plainE f = true) (pos : Pos) (env : PySem.Env) : ((backTo pos (starEach [e, f] env)).all (fun x => !x.1) && (backToKw pos (keywordEach [] env)).all (fun x => x.1.isSome)
    && decide (([e, f] : List Expr).length + ([] : List Keyword).length + (if ([] : List Keyword).isEmpty then 0 else 1) < 30)) = true := by
  rw [star_plain h, star_plain h2]; rfl
variable {o a b : Expr} {mo ma mb : ME} {apos cpos : Pos} {ms : MEs}
/-- a text's or a list's method with one argument -/
theorem pe_methT {m : MF} {T : String} {name : Str} {id : String} {r : V → List V → Hp → VK → Prop} (hs : SoundM X.K m r) (ht : ∀ x H, TyV X.K m x H → tyV X.K T x H) (pa : PlainAttrs T) (slot : Slot T name id) (hty : typeOf (.builtin id) = pure (.type "method_descriptor")) (hm : MtR X id r)
    (ho : PE X o (tEv X.K g C W mo)) (hpo : plainO o = true) (ha : PA X [a] (tEvs X.K g C W ms)) (hpa : plainE a = true) (hline : (apos.endLine == cpos.line) = true) : PE X (.Call (.Attribute o name apos) [a] [] cpos) (tEv X.K g C W (.meth m mo ms)) := by
  refine (pe_bm pa slot hty hm ho ha (base_plain hpo _ _ _) (few1 hpa _ _) hline (star_plain hpa _ _) rfl).imp fun σ H Q h => ?_
  obtain ⟨G, ρ, R, q⟩ := meth_TE hs h
  exact ⟨G, ρ, R, q.imp fun x H1 ⟨h1, h2⟩ => ⟨ht x H1 h1, h2⟩⟩
theorem sound_join {K : PySem.W.Frag} : SoundM K .join (fun x xs H Q => ∃ a p, ∃ ys : List Str, x = .str a ∧ xs = [.ref p] ∧ (SqL K H p (ys.map V.str) ∨ SqT K H p (ys.map V.str)) ∧
    (ys.map (·.length)).sum + ys.length * a.length ≤ 16777216 ∧ Q (.str (Txt.join a ys)) H) := by
  intro T G H ρ σ v x vs ds res Q R hx r h q
  cases x <;> simp only [mfn] at h <;> try cases h
  rename_i sep
  obtain ⟨rfl, ks⟩ := hx.str
  match ds, r, h with
  | [d], r, h =>
    obtain ⟨w, rfl, hw⟩ := (r.nows R.sub).one
    have key : ∀ (xs : List D), ∀ p ws, V.ref p = w → (SqL K H p ws ∨ SqT K H p ws) → Reps K G ws xs → (strsO xs).bind (fun l => if sumN l + l.length * sep.length ≤ szL then some (VR.im (.str (joinL sep l))) else none) = some res →
        ∃ a p, ∃ ys : List Str, V.str (mkS sep) = .str a ∧ [w] = [.ref p] ∧ (SqL K H p (ys.map V.str) ∨ SqT K H p (ys.map V.str)) ∧ (ys.map (·.length)).sum + ys.length * a.length ≤ 16777216 ∧ Q (.str (Txt.join a ys)) H := by
      rintro xs p ws rfl e rp h
      cases e1 : strsO xs with
      | none => rw [e1] at h; cases h
      | some l =>
        rw [e1] at h
        dsimp only [Option.bind] at h
        split at h
        · rename_i c
          cases h
          rw [strsO_map e1] at rp
          obtain ⟨e2, kk⟩ := reps_strs rp
          subst e2
          refine ⟨_, p, l.map mkS, rfl, rfl, e, ?_, ?_⟩
          · rw [sumN_sum, List.length_map]
            simpa [Str.length] using c
          · rw [TL.join_eq, join_txt]
            exact q _ _ _ R Stp.refl (Rep.str ⟨joinL_ok sep ks.1 l kk, Nat.le_trans (joinL_len sep l) c⟩)
        · cases h
    dsimp only at h
    cases d <;> simp only at h <;> try cases h
    · obtain ⟨p, ws, rfl, _, e, rp⟩ := hw.tup R.sub
      exact key _ p ws rfl (.inr (.of e)) rp h
    · obtain ⟨p, ws, rfl, e, rp⟩ := hw.lst R.sub
      exact key _ p ws rfl (.inl (.of e)) rp h
theorem sound_find {K : PySem.W.Frag} : SoundM K .find (fun x xs H Q => ∃ a b, x = .str a ∧ xs = [.str b] ∧ Q (.int (Txt.find a b)) H) := by
  intro T G H ρ σ v x vs ds res Q R hx r h q
  match x, ds, hx, r, h with
  | .str s, [.str [c]], hx, r, h =>
    obtain ⟨rfl, ks⟩ := hx.str
    obtain ⟨w, rfl, hw⟩ := (r.nows R.sub).one
    obtain ⟨rfl, _⟩ := hw.str
    simp only [mfn] at h
    cases h
    refine ⟨_, _, rfl, rfl, ?_⟩
    rw [find_txt]
    exact q _ _ _ R Stp.refl (Rep.int _)
theorem sound_startswith {K : PySem.W.Frag} : SoundM K .startswith (fun x xs H Q => ∃ a b, x = .str a ∧ xs = [.str b] ∧ Q (.bl (Txt.startswith a b)) H) := by
  intro T G H ρ σ v x vs ds res Q R hx r h q
  match x, ds, hx, r, h with
  | .str s, [.str t], hx, r, h =>
    obtain ⟨rfl, ks⟩ := hx.str
    obtain ⟨w, rfl, hw⟩ := (r.nows R.sub).one
    obtain ⟨rfl, _⟩ := hw.str
    simp only [mfn] at h
    cases h
    refine ⟨_, _, rfl, rfl, ?_⟩
    rw [startswith_txt]
    exact q _ _ _ R Stp.refl (Rep.bl _)
/-- d.get(k, x) -/
theorem d_get2E {pins : List (Addr × Obj)} {σ : St} {H : Hp} {s : Shared} {a : Addr} {y d : V} {u r : Value} {o : Option V} {A : Around} {E : Value → Shared → Prop} {Q : Value → Shared → Prop} (hu : A.units + 1 < cLine) (I : Inv X pins σ H s) (gt : DGetE H a y o) (ry : RelV y u) (rd : RelV d r)
    (h : ∀ w' s', Inv X pins σ H s' → RelV (o.getD d) w' → Q w' s') : wpAny (model X.prog X.w) A (call (.builtin "dict.get") [.ref a, u, r]) Q E s := by
  rcases gt with gt | ⟨e, ⟨b, k, rfl, eb⟩, rfl⟩
  · exact d_get2 hu I gt ry rd h
  · cases (show u = Value.ref b from ry)
    obtain ⟨z, hd, vs, rel, dd⟩ := dk_rd I.hok e
    cases rel
    have de := empty_T dd
    refine call_meetsIn PySem.F.slot_dict_get dd.typeIs PySem.F.entry_dict_get (PySem.F.args_dict_get_3 _ _ _) (meetsH_dict_get_default (tupleKind (mixKind X.prog X.w)) a b hd r) ⟨tupleKind_room_in1 hu, k, [], key_of I.hok eb, de, h _ _ (I.tok _) rd⟩
theorem mt_get2E (hu : X.A.units + 65 < cLine) : MtR X "dict.get" (fun x xs H Q => ∃ a y z o, x = .ref a ∧ xs = [y, z] ∧ DGetE H a y o ∧ Q (o.getD z) H) := by
  intro pins s σ H x xs v us Q I rx rxs h
  obtain ⟨a, y, z, o, rfl, rfl, gt, q⟩ := h
  cases rx
  obtain ⟨u1, u2, rfl, r1, r2⟩ := vals2 rxs
  exact d_get2E (by omega) I gt r1 r2 fun w' s' I' rw' => ⟨_, H, I', rw', q⟩
theorem sound_get2 {K : PySem.W.Frag} : SoundM K .get2 (fun x xs H Q => ∃ a y z o, x = .ref a ∧ xs = [y, z] ∧ DGetE H a y o ∧ Q (o.getD z) H) := by
  intro T G H ρ σ v x vs ds res Q R hx r h q
  match x, ds, hx, r, h with
  | .dic ps, [k, z], hx, r, h =>
    obtain ⟨w1, w2, rfl, hk, hz⟩ := (r.nows R.sub).two
    simp only [mfn] at h
    split at h
    · rename_i f
      cases h
      obtain ⟨a, o, rfl, gt, hl⟩ := dic_get R.sub hx hk f
      refine ⟨a, w1, w2, o, rfl, rfl, gt, ?_⟩
      rcases hl with ⟨h1, rfl⟩ | ⟨d, w, h1, rfl, rw'⟩
      · rw [h1] at q
        cases r with
        | cons _ r => cases r with
          | cons r2 _ => exact q _ _ _ R Stp.refl r2
      · rw [h1] at q
        exact q _ _ _ R Stp.refl rw'
    · cases h
theorem tyD_of {x : V} {H : Hp} (h : TyV X.K .get2 x H) {pins : List (Addr × Obj)} {σ : St} {s : Shared} {v : Value} (I : Inv X pins σ H s) (r : RelV x v) : s.TypeIs v "dict" ∧ ∀ a, v = .ref a → ∃ ob, s.heap.get? a = some ob ∧ ob.dict = none := by
  obtain ⟨a, rfl, d⟩ := h
  cases r
  obtain ⟨h1, h2, _⟩ := isD_at I d
  exact ⟨h1, h2⟩
theorem pe_get2E {N : List Str} {sc : Scope} {k : Nat} (cx : CxOk X N sc k) (ho : PE X o (tEv X.K g C W mo)) (hpo : plainO o = true) (ha : PA X [a, b] (tEvs X.K g C W ms)) (hpa : plainE a = true) (hpb : plainE b = true) (hline : (apos.endLine == cpos.line) = true) :
    PE X (.Call (.Attribute o "get" apos) [a, b] [] cpos) (tEv X.K g C W (.meth .get2 mo ms)) := by
  refine ⟨fun pins s σ H Q I h => ?_⟩
  refine wpAny_Call_method_late (base_plain hpo _ _ _) (few2 hpa hpb _ _) hline rfl (thn (ho.run pins s σ H _ I (meth_TE sound_get2 h)) fun v s1 ⟨x, H1, I1, r1, ty, q1⟩ => ?_)
  obtain ⟨h1, h2⟩ := tyD_of ty I1 r1
  refine ⟨"dict", "dict.get", PySem.F.plainAttrs_dict, PySem.F.slot_dict_get, PySem.F.type_dict_get, h1, h2, ?_⟩
  have hA := ha.run cpos pins s1 σ H1 _ I1 q1
  rw [star_plain hpa] at hA ⊢
  refine Calls.callWith_builtin (by rw [star_plain hpb]; rfl) (Calls.evalArgs_plain ?_)
  exact thn hA fun us s2 ⟨vs, H2, I2, r2, q2⟩ => mt_get2E cx.hu pins s2 σ H2 x vs v us Q I2 r1 r2 q2
end
end Ev

/-! E11: isinstance; the module's dicts. -/
namespace Ev
open PySem PySem.Spec L2
open PyProof.Rows hiding St
def tyS : Ty → String
  | .int => "int"
  | .bool => "bool"
  | .str => "str"
  | .tuple => "tuple"
  | .list => "list"
def tyN : D → String
  | .non => "NoneType"
  | .bl _ => "bool"
  | .int _ => "int"
  | .str _ => "str"
  | .tup _ => "tuple"
  | _ => "list"
theorem kit_all (x : D) (t : Ty) (h : x.flat1 = true) : kitB (tyN x) (tyS t) = some (tyIs x t) := by
  cases x <;> simp only [D.flat1, Bool.false_eq_true] at h <;> cases t <;> (simp only [tyN, tyS, tyIs]; decide +kernel)
theorem tyx_now {K : PySem.W.Frag} {G H : Hp} {v : V} {x : D} (s : Sub G H) (h : Now K G H v x) (f : x.flat1 = true) : TyX K H v (.type (tyN x)) := by
  cases x <;> simp only [D.flat1, Bool.false_eq_true] at f
  · rw [h.non]; exact .base .non
  · rw [h.bl]; exact .base (.bl _)
  · rw [h.int]; exact .base (.int _)
  · rw [h.str.1]; exact .base (.str _)
  · obtain ⟨a, vs, rfl, _, e, _⟩ := h.tup s; exact .base (.tup e)
  · obtain ⟨a, vs, rfl, e, _⟩ := h.lst s; exact .base (.lst e)
section
variable {X : Cx} {g : GC} {C : EC} {W : WX} {a : Expr} {ma : ME} {p p2 pos : Pos} {N : List Str} {sc : Scope} {k : Nat}
theorem pe_isinE {y : Str} (t : Ty) (ey : y = tyS t) (hgi : Gl X "isinstance") (hmi : X.mg "isinstance" = none) (hg : Gl X y) (hm : X.mg y = none) (hpa : plainE a = true) (ha : PE X a (tEv X.K g C W ma)) :
    PE X (.Call (.Name "isinstance" p) [a, .Name y p2] [] pos) (tEv X.K g C W (.isin ma t)) := by
  have hy : PE X (.Name y p2) (tC (.ty (tyS t))) := by
    subst ey
    cases t
    · exact pe_bltn (u := .type "int") hg hm (by decide +kernel) rfl
    · exact pe_bltn (u := .type "bool") hg hm (by decide +kernel) rfl
    · exact pe_bltn (u := .type "str") hg hm (by decide +kernel) rfl
    · exact pe_bltn (u := .type "tuple") hg hm (by decide +kernel) rfl
    · exact pe_bltn (u := .type "list") hg hm (by decide +kernel) rfl
  refine (pe_callB call_isi hgi hmi (by decide +kernel) (pa_cons ha (pa_cons hy pa_nil) (star_plain hpa _ _)) (by decide) (by decide) (star_plain hpa _ _) rfl).imp fun σ H Q h => ?_
  refine one_TE (fun ρ => by (simp only [ev]; try rfl)) h fun v G H1 ρ ra R hx _ _ q => ?_
  cases e : ra.look ρ with
  | none => rw [e] at q; exact q.elim
  | some x =>
    rw [e] at q
    dsimp only at q
    split at q
    · rename_i f
      exact ⟨v, .ty (tyS t), .type (tyN x), .type (tyS t), tyIs x t, rfl, .ty _, tyx_now R.sub (hx x e) f, kit_ty (kit_all x t f), q.here R (Rep.bl _)⟩
    · exact q.elim
/-! ### the module's dicts with text keys -/
/-- the dict's entries, as they stand -/
inductive GEs (K : PySem.W.Frag) : List DictEntry → List (D × D) → Prop where
  | nil : GEs K [] []
  | cons {e : DictEntry} {x : List Nat} {t : Tok} {v : V} {d : D} {es : List DictEntry} {ps : List (D × D)} : e.key = .str (mkS x) t → RelV v e.val → Rep K (fun _ => none) v d → GEs K es ps → GEs K (e :: es) ((.str x, d) :: ps)
def GDict (K : PySem.W.Frag) (w : World) (d : Addr) (ps : List (D × D)) : Prop := ∃ es n, KDict K w d es n ∧ GEs K es.toList ps
theorem isStr_mk (x : List Nat) (t : Tok) (z : List Nat) : (Value.str (mkS x) t).isStr (mkS z) = (x == z) := by
  rw [PySem.W.isStr_of]
  exact mkS_eq x z
theorem ges_find {K : PySem.W.Frag} (z : List Nat) : ∀ {es : List DictEntry} {ps : List (D × D)}, GEs K es ps → (es.find? (·.key.isStr (mkS z)) = none ∧ lookK ps (.str z) = none) ∨ ∃ e v d, es.find? (·.key.isStr (mkS z)) = some e ∧ lookK ps (.str z) = some d ∧ RelV v e.val ∧ Rep K (fun _ => none) v d
  | _, _, .nil => .inl ⟨rfl, rfl⟩
  | _, _, .cons (e := e) (x := x) (t := t) (v := v) (d := d) (es := es) (ps := ps) hk hv hd r => by
    have e1 : e.key.isStr (mkS z) = (x == z) := by rw [hk]; exact isStr_mk x t z
    rw [List.find?_cons, e1]
    by_cases h : x = z
    · subst h
      rw [beq_self_eq_true]
      exact .inr ⟨e, v, d, rfl, by simp [lookK, List.find?_cons, D.eqv], hv, hd⟩
    · rw [beq_eq_false_iff_ne.mpr h]
      have : lookK ((.str x, d) :: ps) (.str z) = lookK ps (.str z) := by simp [lookK, List.find?_cons, D.eqv, h]
      rw [this]
      exact ges_find z r
theorem ges_noref {K : PySem.W.Frag} : ∀ {es : List DictEntry} {ps : List (D × D)}, GEs K es ps → es.any (·.refKey) = false
  | _, _, .nil => rfl
  | _, _, .cons (e := e) hk _ _ r => by
    rw [List.any_cons, ges_noref r]
    unfold DictEntry.refKey
    rw [hk]
    rfl
theorem gdict_ns {K : PySem.W.Frag} {w : World} {d : Addr} {ps : List (D × D)} (h : GDict K w d ps) (z : List Nat) : ∃ es n, KDict K w d es n ∧
    ((PySem.W.nsIn K d (mkS z) = some none ∧ lookK ps (.str z) = none) ∨ ∃ u v dd, PySem.W.nsIn K d (mkS z) = some (some u) ∧ lookK ps (.str z) = some dd ∧ RelV v u ∧ Rep K (fun _ => none) v dd) := by
  obtain ⟨es, n, kd, ge⟩ := h
  refine ⟨es, n, kd, ?_⟩
  unfold PySem.W.nsIn
  rw [kd.at_]
  dsimp only
  rcases ges_find z ge with ⟨h1, h2⟩ | ⟨e, v, dd, h1, h2, h3, h4⟩
  · rw [h1]
    dsimp only
    rw [ges_noref ge]
    exact .inl ⟨rfl, h2⟩
  · rw [h1]
    exact .inr ⟨e.val, v, dd, rfl, h2, h3, h4⟩
section
variable {X : Cx} {g : GC} {C : EC} {W : WX} {a : Expr} {ma : ME} {p p2 pos : Pos} {N : List Str} {sc : Scope} {k id : Nat} {x : Str}
/-- what is known of a module's dict -/
def GdOk (K : PySem.W.Frag) (w : World) (mg : Str → Option Value) (g : GC) (C : EC) : Prop := ∀ x id ps, g.nt.gl.lookup x = some id → C.Γ id = some (.dic ps) → ∃ d, mg x = some (.ref d) ∧ GDict K w d ps
theorem gmem_fin {σ : St} {H : Hp} {Q : VK} {v : V} {G : Hp} {ρ : Ev.Env} {ra : VR} {neg : Bool} {o : Option D} (R : RE X.K g.T G H ρ σ) (hi : ∀ d, ra = .im d → Rep X.K G v d)
    (q : PostG X.K g.T g.cA W σ ρ G H (match o, ra with | some (.dic ps), .im (.str s) => .ok (.im (.bl ((lookK ps (.str s)).isSome != neg))) ρ | _, _ => .no) (RV X.K σ H) Q) :
    ∃ ps s, o = some (.dic ps) ∧ v = .str (mkS s) ∧ Q (.bl ((lookK ps (.str s)).isSome != neg)) H := by
  split at q
  · rename_i ps s
    cases hi _ rfl
    exact ⟨ps, s, rfl, rfl, q.here R (Rep.bl _)⟩
  · exact q.elim
theorem gmem_TE {neg : Bool} {σ : St} {H : Hp} {Q : VK} (h : tEv X.K g C W (.gmem id ma neg) σ H Q) : tEv X.K g C W ma σ H (fun v H1 => ∃ ps s, C.Γ id = some (.dic ps) ∧ v = .str (mkS s) ∧ Q (.bl ((lookK ps (.str s)).isSome != neg)) H1) :=
  one_TE (fun ρ => by (simp only [ev]; try rfl)) h fun v G H1 ρ ra R _ hi _ q => gmem_fin R hi q
/-- one of the module's dicts as the right side of in -/
def rKd (K : PySem.W.Frag) (w : World) (d : Addr) (ps : List (D × D)) (neg : Bool) : R2 := fun x y H Q => ∃ s, x = .str (mkS s) ∧ y = .ref d ∧ Q (.bl ((lookK ps (.str s)).isSome != neg)) H
theorem op_kd {d : Addr} {ps : List (D × D)} (h : GDict X.K X.w d ps) : OpR X (compareOp .In) (rKd X.K X.w d ps false) := by
  intro pins s σ H x y v u Q I rx ry hh
  obtain ⟨z, rfl, rfl, q⟩ := hh
  obtain ⟨es, n, kd, hz⟩ := gdict_ns h z
  rw [Bool.bne_false] at q
  rcases hz with ⟨h1, h2⟩ | ⟨u', v', dd, h1, h2, _⟩
  · exact op_in_kd kd pins s σ H _ _ v u Q I rx ry ⟨_, none, rfl, rfl, h1, by rw [h2] at q; exact q⟩
  · exact op_in_kd kd pins s σ H _ _ v u Q I rx ry ⟨_, some u', rfl, rfl, h1, by rw [h2] at q; exact q⟩
theorem op_kdn {d : Addr} {ps : List (D × D)} (h : GDict X.K X.w d ps) : OpR X (compareOp .NotIn) (rKd X.K X.w d ps true) := by
  intro pins s σ H x y v u Q I rx ry hh
  obtain ⟨z, rfl, rfl, q⟩ := hh
  obtain ⟨es, n, kd, hz⟩ := gdict_ns h z
  rw [Bool.bne_true] at q
  rcases hz with ⟨h1, h2⟩ | ⟨u', v', dd, h1, h2, _⟩
  · exact op_notIn_kd kd pins s σ H _ _ v u Q I rx ry ⟨_, none, rfl, rfl, h1, by rw [h2] at q; exact q⟩
  · exact op_notIn_kd kd pins s σ H _ _ v u Q I rx ry ⟨_, some u', rfl, rfl, h1, by rw [h2] at q; exact q⟩
theorem no_gmem {neg : Bool} (e : Expr) (h : ∀ ps, C.Γ id ≠ some (.dic ps)) (ha : PE X a (tEv X.K g C W ma)) {b : Expr} {op : CmpOp} (hb : PE X b (fun _ _ _ => False)) : True := trivial
theorem pe_gmemE (gd : GdOk X.K X.w X.mg g C) (hg : Gl X x) (hl : g.nt.gl.lookup x = some id) (hdb : (x == ("__debug__" : Str)) = false) (ha : PE X a (tEv X.K g C W ma)) (hd : ∃ ps, C.Γ id = some (.dic ps)) (neg : Bool) :
    PE X (.Compare a [if neg then .NotIn else .In] [.Name x p] pos) (tEv X.K g C W (.gmem id ma neg)) ∧ PT X (.Compare a [if neg then .NotIn else .In] [.Name x p] pos) (tEvB X.K g C W (.gmem id ma neg)) := by
  obtain ⟨ps, e⟩ := hd
  obtain ⟨d, e1, kd⟩ := gd x id ps hl e
  have hy : PE X (.Name x p) (tC (.ref d)) := pe_glob hg e1 rfl hdb
  have fin : ∀ {σ : St} {H : Hp} {Q : VK}, tEv X.K g C W (.gmem id ma neg) σ H Q → tOp (rKd X.K X.w d ps neg) (tEv X.K g C W ma) (tC (.ref d)) σ H Q := fun {σ H Q} h => by
    obtain ⟨G, ρ, R, q⟩ := gmem_TE h
    refine ⟨G, ρ, R, q.imp fun v H1 ⟨ps', s, e2, ev, q⟩ => ?_⟩
    rw [e] at e2
    cases e2
    exact ⟨s, ev, rfl, q⟩
  cases neg with
  | false => exact ⟨(pe_cmpR (op_kd kd) ha hy rfl).imp fun _ _ _ h => fin h, (pt_cmpR (op_kd kd) ha hy rfl).imp fun _ _ _ h => fin (asB_TE h)⟩
  | true => exact ⟨(pe_cmpR (op_kdn kd) ha hy rfl).imp fun _ _ _ h => fin h, (pt_cmpR (op_kdn kd) ha hy rfl).imp fun _ _ _ h => fin (asB_TE h)⟩
theorem ix_kd {d : Addr} {ps : List (D × D)} (h : GDict X.K X.w d ps) : IxR X (fun x y H Q => ∃ s dd, x = .ref d ∧ y = .str (mkS s) ∧ lookK ps (.str s) = some dd ∧ ∀ v, Rep X.K (fun _ => none) v dd → Q v H) := by
  intro value slice pins s σ H x y v u Q I rx ry hh hs
  obtain ⟨z, dd, rfl, rfl, hlk, q⟩ := hh
  obtain ⟨es, n, kd, hz⟩ := gdict_ns h z
  obtain rfl : v = Value.ref d := rx
  rcases hz with ⟨h1, h2⟩ | ⟨u', v', dd', h1, h2, h3, h4⟩
  · rw [h2] at hlk; cases hlk
  · rw [h2] at hlk; cases hlk
    have h₂ : wpAny (model X.prog X.w) X.A (getItem (.ref d) u) (EP X pins σ Q) X.xe s := op_item_kd kd pins s σ H (.ref d) _ _ u Q I rfl ry ⟨_, u', v', rfl, rfl, h1, h3, q v' h4⟩
    have hT := kd_type kd I
    unfold subscriptTail
    refine wpAny_bind ?_
    rw [getitemInPython_of_ne hT.not_modules]
    refine wpAny_bind (wpAny_specialOf hT PySem.F.slot_dict_getitem.lookup ?_)
    have fin : wpAny (model X.prog X.w) X.A (subscripted slice false (.ref d) u) (fun r s₃ => wpAny (model X.prog X.w) X.A (letTemporaryGo value (.ref d) r >>= fun _ => pure r) (EP X pins σ Q) X.xe s₃) X.xe s := by
      rw [hs]
      exact wpAny_operating (wpAny_mono h₂ (fun r s₃ h₃ => wpAny_bind (wpAny_letTemporaryGo (wpAny_pure h₃))) fun _ _ x => x)
    first
      | exact wpAny_pure (wpAny_bind fin)
      | exact wpAny_bind (wpAny_pure (wpAny_bind fin))
      | exact wpAny_bind fin
theorem pe_gidxE (gd : GdOk X.K X.w X.mg g C) (hg : Gl X x) (hl : g.nt.gl.lookup x = some id) (hdb : (x == ("__debug__" : Str)) = false) (ha : PE X a (tEv X.K g C W ma)) (hd : ∃ ps, C.Γ id = some (.dic ps)) (hs : PlainIx a) :
    PE X (.Subscript (.Name x p) a pos) (tEv X.K g C W (.gidx id ma)) := by
  obtain ⟨ps, e⟩ := hd
  obtain ⟨d, e1, kd⟩ := gd x id ps hl e
  have hy : PE X (.Name x p) (tC (.ref d)) := pe_glob hg e1 rfl hdb
  refine (pe_ix (ix_kd kd) hy ha hs).imp fun σ H Q h => ?_
  have h' : tEv X.K g C W ma σ H (fun y H1 => ∃ s dd, V.ref d = .ref d ∧ y = .str (mkS s) ∧ lookK ps (.str s) = some dd ∧ ∀ v, Rep X.K (fun _ => none) v dd → Q v H1) :=
    one_TE (fun ρ => by (simp only [ev]; try rfl)) h fun v G H1 ρ ra R _ hi _ q => by
      rw [e] at q
      split at q
      · rename_i ps' s heq _ _
        cases heq
        cases hi _ rfl
        cases e3 : lookK ps (.str s) with
        | none => rw [e3] at q; exact q.elim
        | some dd =>
          rw [e3] at q
          exact ⟨s, dd, rfl, rfl, e3, fun v r => q.here R (Rep.mono (fun _ _ z => by cases z) r)⟩
      · exact q.elim
  exact h'
end
end
end Ev

/-! E12: what is walked: lists, tuples, texts; enumerate and zip over any of them; ranges. -/
namespace Ev
open PySem PySem.Spec L2
open PyProof.Rows hiding St

inductive Src where
  | ls (a : Addr) (vs : List V) | tp (a : Addr) (vs : List V) | tx (z : Str)
def Src.items : Src → List V
  | .ls _ vs => vs
  | .tp _ vs => vs
  | .tx z => z.cps.toList.map fun c => V.str ⟨#[c]⟩
def Src.val : Src → V
  | .ls a _ => .ref a
  | .tp a _ => .ref a
  | .tx z => .str z
def Src.addr : Src → Option Addr
  | .ls a _ => some a
  | .tp a _ => some a
  | .tx _ => none
def Src.ok (K : PySem.W.Frag) (H : Hp) : Src → Prop
  | .ls a vs => SqL K H a vs
  | .tp a vs => SqT K H a vs
  | .tx _ => True
def Src.it (h : Heap) (i : Addr) (k : Nat) : Src → Prop
  | .ls a _ => h.IsListIter i a k
  | .tp a _ => h.IsTupleIter i a k
  | .tx z => ∃ t, h.IsStrIter i (strIterType z) z t k
section
variable {X : Cx} {pins : List (Addr × Obj)} {σ : St} {H : Hp} {s : Shared} {src : Src}
theorem Src.it_at {h h' : Heap} {i : Addr} {k : Nat} (st : src.it h i k) (q : ∀ o, h.get? i = some o → h'.get? i = some o) : src.it h' i k := by
  cases src with
  | ls a vs => exact Heap.IsListIter.at st q
  | tp a vs => exact Heap.IsTupleIter.at st q
  | tx z => obtain ⟨t, o, ho, r⟩ := st; exact ⟨t, o, q o ho, r⟩
theorem Src.it_obj {h : Heap} {i : Addr} {k : Nat} (st : src.it h i k) : ∃ o, h.get? i = some o ∧ ∀ v, o.data ≠ .cell v := by
  cases src with
  | ls a vs => obtain ⟨o, e, c, d⟩ := st; exact ⟨o, e, fun v z => by rw [d] at z; cases z⟩
  | tp a vs => obtain ⟨o, e, c, d⟩ := st; exact ⟨o, e, fun v z => by rw [d] at z; cases z⟩
  | tx z => obtain ⟨t, o, e, c, d⟩ := st; exact ⟨o, e, fun v z => by rw [d] at z; cases z⟩
/-- what such an iterator draws -/
theorem src_draws {A : Around} {i : Addr} {k : Nat} (hh : A.handled = none) (I : Inv X pins σ H s) (ok : src.ok X.K H) (ap : ∀ a, src.addr = some a → a ≠ i) (st : src.it s.heap i k) :
    ∃ (fp : List Addr) (P : Nat → Value → Prop) (S : Nat → Heap → Prop), Draws X.prog X.w A i fp src.items.length P S ∧ i ∈ fp ∧ (∀ b ∈ fp, b = i ∨ src.addr = some b) ∧ S k s.heap ∧
      (∀ j h, S j h → src.it h i j) ∧ ∀ j x, P j x → ∃ y, src.items[j]? = some y ∧ RelV y x := by
  cases src with
  | ls a vs =>
    obtain ⟨its, rv, p, hz⟩ := I.list ok
    have hl : its.toArray.size = vs.length := by have := rv.length; simp; omega
    have D := Draws.list (prog := X.prog) (w := X.w) hh i a (ap a rfl) its.toArray
    rw [hl] at D
    refine ⟨_, _, _, D, by simp, fun b hb => ?_, ⟨st, p.isList⟩, fun j h z => z.1, fun j x hx => ?_⟩
    · have : b = i ∨ b = a := by simpa using hb
      rcases this with z | z
      · exact .inl z
      · exact .inr (by rw [z]; rfl)
    · have hx' : its[j]? = some x := by simpa using hx
      have hj : j < vs.length := by rw [rv.length]; exact (List.getElem?_eq_some_iff.mp hx').1
      obtain ⟨u, hu, ru⟩ := rv.get (i := j) (x := vs[j]) (by simp [hj])
      rw [hu] at hx'; cases hx'
      exact ⟨vs[j], by simp [Src.items, hj], ru⟩
  | tp a vs =>
    obtain ⟨its, rv, p, hz⟩ := I.tuple ok
    have hl : its.toArray.size = vs.length := by have := rv.length; simp; omega
    have D := Draws.tuple (prog := X.prog) (w := X.w) hh i a (ap a rfl) its.toArray
    rw [hl] at D
    refine ⟨_, _, _, D, by simp, fun b hb => ?_, ⟨st, (show s.heap.IsTuple a its.toArray from p)⟩, fun j h z => z.1, fun j x hx => ?_⟩
    · have : b = i ∨ b = a := by simpa using hb
      rcases this with z | z
      · exact .inl z
      · exact .inr (by rw [z]; rfl)
    · have hx' : its[j]? = some x := by simpa using hx
      have hj : j < vs.length := by rw [rv.length]; exact (List.getElem?_eq_some_iff.mp hx').1
      obtain ⟨u, hu, ru⟩ := rv.get (i := j) (x := vs[j]) (by simp [hj])
      rw [hu] at hx'; cases hx'
      exact ⟨vs[j], by simp [Src.items, hj], ru⟩
  | tx z =>
    obtain ⟨t, st⟩ := st
    have D := Draws.text (prog := X.prog) (w := X.w) hh i z t
    have hl : (Src.tx z).items.length = z.cps.size := by simp [Src.items]
    rw [hl]
    refine ⟨_, _, _, D, by simp, fun b hb => .inl (by simpa using hb), st, fun j h q => ⟨t, q⟩, fun j x hx => ?_⟩
    obtain ⟨c, u, e1, rfl⟩ := hx
    exact ⟨.str ⟨#[c]⟩, by simp [Src.items, e1], u, rfl⟩

/-! ### enumerate -/
def ItE (K : PySem.W.Frag) (src : Src) : It :=
  ⟨fun i H => src.ok K H ∧ i < src.items.length, fun i H v H' => ∃ T x, v = .ref T ∧ H T = none ∧ H' = upd H T (.tup [.int (i : Nat), x]) ∧ src.items[i]? = some x, fun i H => src.ok K H ∧ i = src.items.length⟩
theorem turn_enumE {P : Program} {w : World} {K : PySem.W.Frag} {elts : List Expr} {kk : Nat} {tpos : Pos} (e it : Addr) (ap : ∀ a, src.addr = some a → a ≠ it ∧ a ≠ e) :
    Turn P w K (.Tuple elts kk tpos) (ItE K src) [e, it] e (fun i h => (∃ old, IsEnum h e it ((i : Nat) : Int) old) ∧ src.it h it i ∧ e ≠ it) where
  mem := by simp
  obj := fun i h st b hb => by
    obtain ⟨⟨old, he⟩, hi, _⟩ := st
    have e' : b = e ∨ b = it := by simpa using hb
    rcases e' with z | z
    · rw [z]; exact ⟨_, he, fun v q => nomatch q⟩
    · rw [z]; exact Src.it_obj hi
  keep := fun i h h' st k => let ⟨⟨old, he⟩, hi, hne⟩ := st; ⟨⟨old, k e (by simp) _ he⟩, Src.it_at hi fun o q => k it (by simp) o q, hne⟩
  item := by
    intro X hP hw hK hc i pins s σ H E I hf st hg
    subst hP hw hK
    obtain ⟨⟨old, he⟩, hit, hne⟩ := st
    obtain ⟨ok, hlt⟩ := hg
    obtain ⟨fp, P, S, D, hm, hfp, sk, hS, hP⟩ := src_draws (A := X.A.in1) (I.ok.hd hc) I ok (fun a ha => (ap a ha).1) hit
    have hef : e ∉ fp := fun z => by
      rcases hfp e z with q | q
      · exact hne q
      · exact (ap e q).2 rfl
    have hel : e < s.heap.objs.size := Heap.lt_size he
    have hil : it < s.heap.objs.size := by obtain ⟨o, q, _⟩ := Src.it_obj hit; exact Heap.lt_size q
    refine wpAny_pyNext_enum_itemD D he sk hlt hne hef fun u h' tk hPx ho hs' hT hsz hk => ?_
    obtain ⟨x, hx, ru⟩ := hP _ _ hPx
    refine ⟨_, rfl, wpAny_letOwnedTupleGo_enum (s := { s with heap := h', toks := tk + 1 }) ho fun h'' he' sb => ?_⟩
    have hT2 : h''.get? s.heap.objs.size = some { cls := .type "tuple", data := .seq #[.int i tk, u] } := (sb.2 _ (Nat.ne_of_gt hel)).trans hT
    have new : ObjOk X.prog X.w (upd H s.heap.objs.size (.tup [.int (i : Nat), x])) h'' s.heap.objs.size (.tup [.int (i : Nat), x]) :=
      ⟨by show 2 ≤ sizeLine; decide, [.int i tk, u], .cons ⟨_, rfl⟩ (.cons ru .nil), ⟨_, hT2, rfl, _, rfl⟩⟩
    have I1 : Inv X pins σ (upd H s.heap.objs.size (.tup [.int (i : Nat), x])) { s with heap := h'', toks := tk + 1 } :=
      I.turnedNew (ch := [e, it]) (fun b ob hb q => (sb.2 b (fun z => hb (by simp [z]))).trans (hk b ob (fun z => hb (by simp [z])) (fun z => hb (by simp [z])) q)) hf (Nat.le_refl _) new
    refine ⟨.ref s.heap.objs.size, _, I1, rfl, ⟨_, x, rfl, I.hok.fresh (Nat.le_refl _), rfl, hx⟩, ⟨⟨u, ?_⟩, Src.it_at (hS _ _ hs') fun o q => (sb.2 it (Ne.symm hne)).trans q, hne⟩, fun b hb => ?_⟩
    · have e1 : ((i + 1 : Nat) : Int) = (i : Int) + 1 := by omega
      rw [e1]; exact he'
    · have hb' : b < s.heap.objs.size := by
        have e' : b = e ∨ b = it := by simpa using hb
        rcases e' with z | z
        · rw [z]; exact hel
        · rw [z]; exact hil
      rw [upd_ne (Nat.ne_of_lt hb')]
      exact (hf b hb).1
  done := by
    intro X hP hw hK hc i pins s σ H E I hf st hg
    subst hP hw hK
    obtain ⟨⟨old, he⟩, hit, hne⟩ := st
    obtain ⟨ok, hend⟩ := hg
    obtain ⟨fp, P, S, D, hm, hfp, sk, hS, hP⟩ := src_draws (A := X.A.in1) (I.ok.hd hc) I ok (fun a ha => (ap a ha).1) hit
    obtain ⟨f0, f1, f2, f3, f4, f5⟩ := hf it (by simp)
    rw [hend] at sk
    exact wpAny_pyNext_enum_endD D he sk fun h' eb => ⟨rfl, I.turned (t' := s.toks) (fun b o hb q => eb b o hb q) f0 f1 f3 f4 f5⟩
  self := fun A i s Q E st h => let ⟨⟨_, he⟩, _⟩ := st; wpAny_pyIter_enum he h

/-! ### zip -/
def ItZ (K : PySem.W.Frag) (s1 s2 : Src) : It :=
  ⟨fun i H => s1.ok K H ∧ s2.ok K H ∧ i < s1.items.length ∧ i < s2.items.length, fun i H v H' => ∃ T x y, v = .ref T ∧ H T = none ∧ H' = upd H T (.tup [x, y]) ∧ s1.items[i]? = some x ∧ s2.items[i]? = some y,
    fun i H => s1.ok K H ∧ s2.ok K H ∧ i = min s1.items.length s2.items.length⟩
structure ZAp (z TI TO i1 i2 : Addr) (s1 s2 : Src) : Prop where
  n1 : TI ≠ z
  n2 : TO ≠ z
  n3 : TI ≠ TO
  n4 : TI ≠ i1
  n5 : TI ≠ i2
  n6 : i1 ≠ i2
  n7 : z ≠ i1
  n8 : z ≠ i2
  n9 : TO ≠ i1
  n10 : TO ≠ i2
  a1 : ∀ a, s1.addr = some a → a ≠ z ∧ a ≠ TO ∧ a ≠ i1 ∧ a ≠ i2
  a2 : ∀ a, s2.addr = some a → a ≠ z ∧ a ≠ TO ∧ a ≠ i1 ∧ a ≠ i2
theorem ZAp.sep {z TI TO i1 i2 : Addr} {s1 s2 : Src} (D : ZAp z TI TO i1 i2 s1 s2) {f1 f2 : List Addr} (m1 : i1 ∈ f1) (m2 : i2 ∈ f2) (h1 : ∀ b ∈ f1, b = i1 ∨ s1.addr = some b) (h2 : ∀ b ∈ f2, b = i2 ∨ s2.addr = some b) : ZipSep2 z TI TO i1 i2 f1 f2 where
  TIz := D.n1
  TOz := D.n2
  TITO := D.n3
  TIi1 := D.n4
  mem1 := m1
  zf1 := fun q => (h1 _ q).elim (fun e => D.n7 e) fun e => (D.a1 _ e).1 rfl
  Tf1 := fun q => (h1 _ q).elim (fun e => D.n9 e) fun e => (D.a1 _ e).2.1 rfl
  TIi2 := D.n5
  mem2 := m2
  zf2 := fun q => (h2 _ q).elim (fun e => D.n8 e) fun e => (D.a2 _ e).1 rfl
  Tf2 := fun q => (h2 _ q).elim (fun e => D.n10 e) fun e => (D.a2 _ e).2.1 rfl
  sep1_2 := fun q => (h2 _ q).elim (fun e => D.n6 e) fun e => (D.a2 _ e).2.2.1 rfl
  sep2_1 := fun q => (h1 _ q).elim (fun e => D.n6 e.symm) fun e => (D.a1 _ e).2.2.2 rfl
theorem turn_zipE {P : Program} {w : World} {K : PySem.W.Frag} {elts : List Expr} {kk : Nat} {tpos : Pos} {z TI TO i1 i2 : Addr} {s1 s2 : Src} (D : ZAp z TI TO i1 i2 s1 s2) :
    Turn P w K (.Tuple elts kk tpos) (ItZ K s1 s2) [z, TI, TO, i1, i2] z (fun i h => IsZip h z TI TO .none ∧ IsTupOf2 h TI (.ref i1) (.ref i2) ∧ (∃ x y, IsTupOf2 h TO x y) ∧ s1.it h i1 i ∧ s2.it h i2 i) where
  mem := by simp
  obj := fun i h st c hc => by
    obtain ⟨hz, hTI, ⟨x, y, hTO⟩, g1, g2⟩ := st
    have e' : c = z ∨ c = TI ∨ c = TO ∨ c = i1 ∨ c = i2 := by simpa using hc
    rcases e' with q | q | q | q | q
    · rw [q]; exact ⟨_, hz, fun v q => nomatch q⟩
    · rw [q]; exact ⟨_, hTI, fun v q => nomatch q⟩
    · rw [q]; exact ⟨_, hTO, fun v q => nomatch q⟩
    · rw [q]; exact Src.it_obj g1
    · rw [q]; exact Src.it_obj g2
  keep := fun i h h' st k => by
    obtain ⟨hz, hTI, ⟨x, y, hTO⟩, h1, h2⟩ := st
    exact ⟨k z (by simp) _ hz, k TI (by simp) _ hTI, ⟨x, y, k TO (by simp) _ hTO⟩, Src.it_at h1 fun o q => k i1 (by simp) o q, Src.it_at h2 fun o q => k i2 (by simp) o q⟩
  item := by
    intro X hP hw hK hc i pins s σ H E I hf st hg
    subst hP hw hK
    obtain ⟨hz, hTI, ⟨x0, y0, hTO⟩, g1, g2⟩ := st
    obtain ⟨ok1, ok2, l1, l2⟩ := hg
    obtain ⟨f1, P1, S1, D1, m1, hf1, sk1, hS1, hP1⟩ := src_draws (A := X.A.in1) (I.ok.hd hc) I ok1 (fun a ha => (D.a1 a ha).2.2.1) g1
    obtain ⟨f2, P2, S2, D2, m2, hf2, sk2, hS2, hP2⟩ := src_draws (A := X.A.in1) (I.ok.hd hc) I ok2 (fun a ha => (D.a2 a ha).2.2.2) g2
    have sep := D.sep m1 m2 hf1 hf2
    have hzl : z < s.heap.objs.size := Heap.lt_size hz
    refine wpAny_pyNext_zipD2_item sep D1 D2 hz hTI hTO sk1 sk2 l1 l2 fun u u2 h' tk p1 p2 z' TO' st1 st2 hT hsz hk => ?_
    obtain ⟨x, hx, ru⟩ := hP1 _ _ p1
    obtain ⟨y, hy, ru2⟩ := hP2 _ _ p2
    refine ⟨_, rfl, wpAny_letOwnedTupleGo_zip (s := { s with heap := h', toks := tk }) z' fun h'' z'' sb => ?_⟩
    have hT2 : h''.get? s.heap.objs.size = some { cls := .type "tuple", data := .seq #[u, u2] } := (sb.2 _ (Nat.ne_of_gt hzl)).trans hT
    have new : ObjOk X.prog X.w (upd H s.heap.objs.size (.tup [x, y])) h'' s.heap.objs.size (.tup [x, y]) :=
      ⟨by show 2 ≤ sizeLine; decide, [u, u2], .cons ru (.cons ru2 .nil), ⟨_, hT2, rfl, _, rfl⟩⟩
    have I1 : Inv X pins σ (upd H s.heap.objs.size (.tup [x, y])) { s with heap := h'', toks := tk } :=
      I.turnedNew (t' := tk) (ch := [z, TI, TO, i1, i2]) (fun c o hb q => (sb.2 c (fun q' => hb (by simp [q']))).trans (hk c o (fun q' => hb (by simp [q'])) (fun q' => hb (by simp [q'])) (fun q' => hb (by simp [q'])) (fun q' => hb (by simp [q'])) q)) hf (Nat.le_refl _) new
    refine ⟨.ref s.heap.objs.size, _, I1, rfl, ⟨_, x, y, rfl, I.hok.fresh (Nat.le_refl _), rfl, hx, hy⟩, ⟨z'', ?_, ⟨u, u2, ?_⟩, ?_, ?_⟩, fun c hcm => ?_⟩
    · exact (sb.2 _ D.n1).trans (hk _ _ D.n1 D.n3 D.n4 D.n5 hTI)
    · exact (sb.2 _ D.n2).trans TO'
    · exact Src.it_at (hS1 _ _ st1) fun o q => (sb.2 _ (Ne.symm D.n7)).trans q
    · exact Src.it_at (hS2 _ _ st2) fun o q => (sb.2 _ (Ne.symm D.n8)).trans q
    · have hlt : c < s.heap.objs.size := by
        have e' : c = z ∨ c = TI ∨ c = TO ∨ c = i1 ∨ c = i2 := by simpa using hcm
        rcases e' with q | q | q | q | q
        · rw [q]; exact hzl
        · rw [q]; exact Heap.lt_size hTI
        · rw [q]; exact Heap.lt_size hTO
        · rw [q]; obtain ⟨_, e1, _⟩ := Src.it_obj g1; exact Heap.lt_size e1
        · rw [q]; obtain ⟨_, e2, _⟩ := Src.it_obj g2; exact Heap.lt_size e2
      rw [upd_ne (Nat.ne_of_lt hlt)]
      exact (hf c hcm).1
  done := by
    intro X hP hw hK hc i pins s σ H E I hf st hg
    subst hP hw hK
    obtain ⟨hz, hTI, ⟨x0, y0, hTO⟩, g1, g2⟩ := st
    obtain ⟨ok1, ok2, hend⟩ := hg
    obtain ⟨f1, P1, S1, D1, m1, hf1, sk1, hS1, hP1⟩ := src_draws (A := X.A.in1) (I.ok.hd hc) I ok1 (fun a ha => (D.a1 a ha).2.2.1) g1
    obtain ⟨f2, P2, S2, D2, m2, hf2, sk2, hS2, hP2⟩ := src_draws (A := X.A.in1) (I.ok.hd hc) I ok2 (fun a ha => (D.a2 a ha).2.2.2) g2
    have sep := D.sep m1 m2 hf1 hf2
    exact wpAny_pyNext_zipD2_end sep D1 D2 hz hTI hTO sk1 sk2 (by omega) (by omega) (by omega) fun h' tk hk => ⟨rfl, I.turnedL (t' := tk) (ch := [z, TI, TO, i1, i2]) (fun c o hb q =>
      hk c o (fun q' => hb (by simp [q'])) (fun q' => hb (by simp [q'])) (fun q' => hb (by simp [q'])) (fun q' => hb (by simp [q'])) q) hf⟩
  self := fun A i s Q E st h => wpAny_pyIter_zip st.1 h
end
end Ev

/-! E13: what a for walks, as data. -/
namespace Ev
open PySem PySem.Spec L2
open PyProof.Rows hiding St

/-- J gives the data l, while what stands in G stays -/
structure WalkOk (K : PySem.W.Frag) (J : It) (G : Hp) (l : List D) : Prop where
  goes : ∀ i H, i < l.length → Sub G H → J.go i H
  stops : ∀ H, Sub G H → J.stop l.length H
  yields : ∀ i H v H', i < l.length → Sub G H → J.yld i H v H' → ∃ d, l[i]? = some d ∧ ((H' = H ∧ Rep K G v d) ∨ ∃ T vs ds, v = .ref T ∧ H T = none ∧ H' = upd H T (.tup vs) ∧ Reps K G vs ds ∧ d = .tup ds)
theorem WalkOk.mono {K : PySem.W.Frag} {J : It} {G G' : Hp} {l : List D} (w : WalkOk K J G l) (s : ∀ H, Sub G' H → Sub G H) (g : Gle G G') : WalkOk K J G' l :=
  ⟨fun i H h q => w.goes i H h (s H q), fun H q => w.stops H (s H q), fun i H v H' h q y => by
    obtain ⟨d, e, z⟩ := w.yields i H v H' h (s H q) y
    refine ⟨d, e, ?_⟩
    rcases z with ⟨z1, z2⟩ | ⟨T, vs, ds, z1, z2, z3, z4, z5⟩
    · exact .inl ⟨z1, z2.mono g⟩
    · exact .inr ⟨T, vs, ds, z1, z2, z3, z4.mono g, z5⟩⟩
theorem Sub.of_gle {G G' H : Hp} (g : Gle G G') (s : Sub G' H) : Sub G H := fun a o h => s a o (g a o h)

/-- the things of a source, as they are -/
def ItS (K : PySem.W.Frag) (src : Src) : It :=
  ⟨fun i H => src.ok K H ∧ i < src.items.length, fun i H v H' => H' = H ∧ src.items[i]? = some v, fun i H => src.ok K H ∧ i = src.items.length⟩
theorem Turn.weaker {P : Program} {w : World} {K : PySem.W.Frag} {tg : Expr} {J J' : It} {fp : List Addr} {it : Addr} {tn : Nat → Heap → Prop} (T : Turn P w K tg J fp it tn) (h1 : ∀ i H, J'.go i H → J.go i H) (h2 : ∀ i H, J'.stop i H → J.stop i H)
    (h3 : ∀ i H x H', J'.go i H → J.yld i H x H' → J'.yld i H x H') : Turn P w K tg J' fp it tn where
  mem := T.mem
  obj := T.obj
  keep := T.keep
  item := fun X hP hw hK hc i pins s σ H E I hf st hg => by
    refine thn (T.item X hP hw hK hc i pins s σ H E I hf st (h1 i H hg)) fun r s1 ⟨u, e, q⟩ => ⟨u, e, thn q fun _ s2 ⟨x, H', a, b, c, d⟩ => ⟨x, H', a, b, h3 i H x H' hg c, d⟩⟩
  done := fun X hP hw hK hc i pins s σ H E I hf st hg => T.done X hP hw hK hc i pins s σ H E I hf st (h2 i H hg)
  self := T.self
theorem PIE.weaker {X : Cx} {pins : List (Addr × Obj)} {σ : St} {tg : Expr} {R R' : It → Hp → Prop} {itv : Value} {s : Shared} (h : PIE X pins σ tg R itv s)
    (i : ∀ J H, R J H → ∃ J', (∀ i H, J'.go i H → J.go i H) ∧ (∀ i H, J'.stop i H → J.stop i H) ∧ (∀ i H x H', J'.go i H → J.yld i H x H' → J'.yld i H x H') ∧ R' J' H) : PIE X pins σ tg R' itv s := by
  obtain ⟨it, fp, tn, J, H', e, I, T, st, f, r⟩ := h
  obtain ⟨J', h1, h2, h3, r'⟩ := i J H' r
  exact ⟨it, fp, tn, J', H', e, I, Turn.weaker T h1 h2 h3, st, f, r'⟩
/-- iter of a source -/
theorem src_iter {X : Cx} {tg : Expr} {E : Value → Shared → Prop} {pins : List (Addr × Obj)} {σ : St} {H : Hp} {s : Shared} {R : It → Hp → Prop} {src : Src} {u : Value} (I : Inv X pins σ H s) (r : RelV src.val u) (ok : src.ok X.K H) (q : R (ItS X.K src) H) :
    wpAny (model X.prog X.w) X.A (pyIter u) (PIE X pins σ tg R) E s := by
  cases src with
  | ls a vs =>
    cases r
    obtain ⟨its, rv, p, hz⟩ := I.list ok
    have q2 : vs.length = (Src.ls a vs).items.length := rfl
    refine wpAny_pyIter_list p.isList (PIE.weaker (R := fun J H' => J = Itl X.K a ∧ H' = H) (pi_one (tk := s.toks) I _ (turn_list a _) ⟨_, Heap.get?_push_size _ rfl, rfl, rfl⟩ ⟨rfl, rfl⟩) fun J H' e => ?_)
    obtain ⟨rfl, rfl⟩ := e
    exact ⟨ItS X.K (.ls a vs), fun i H h => ⟨vs, vs[i]'(show i < vs.length from h.2), h.1, List.getElem?_eq_getElem (show i < vs.length from h.2)⟩, fun i H h => ⟨vs, h.1, Nat.le_of_eq h.2.symm⟩, fun i H x H' h y => ⟨y.1, y.2 vs h.1⟩, q⟩
  | tp a vs =>
    cases r
    obtain ⟨its, rv, p, hz⟩ := I.tuple ok
    refine wpAny_pyIter_tuple (show s.heap.IsTuple a its.toArray from p) (PIE.weaker (R := fun J H' => J = Itt X.K a ∧ H' = H) (pi_one (tk := s.toks) I _ (turn_tuple a _) ⟨_, Heap.get?_push_size _ rfl, rfl, rfl⟩ ⟨rfl, rfl⟩) fun J H' e => ?_)
    obtain ⟨rfl, rfl⟩ := e
    exact ⟨ItS X.K (.tp a vs), fun i H h => ⟨vs, vs[i]'(show i < vs.length from h.2), h.1, List.getElem?_eq_getElem (show i < vs.length from h.2)⟩, fun i H h => ⟨vs, h.1, Nat.le_of_eq h.2.symm⟩, fun i H x H' h y => ⟨y.1, y.2 vs h.1⟩, q⟩
  | tx z =>
    obtain ⟨t, rfl⟩ := r
    have w : (Src.tx z).items.length = z.cps.size := by simp [Src.items]
    have fin : ∀ ty, (ty = "str_ascii_iterator" ∨ ty = "str_iterator") → PIE X pins σ tg R (.ref s.heap.objs.size) { s with heap := s.heap.push { cls := .type ty, data := .fields #[.str z t, .int 0 0] }, toks := s.toks } := fun ty hty => by
      refine PIE.weaker (R := fun J H' => J = Its z ∧ H' = H) (pi_one (tk := s.toks) I _ (turn_str _ z t ty hty) ⟨_, Heap.get?_push_size _ rfl, rfl, rfl⟩ ⟨rfl, rfl⟩) fun J H' e => ?_
      obtain ⟨rfl, rfl⟩ := e
      refine ⟨_, fun i H h => ?_, fun i H h => ?_, fun i H x H' h y => ?_, q⟩
      · have := h.2; rw [w] at this; exact this
      · have := h.2; rw [w] at this; exact Nat.le_of_eq this.symm
      · obtain ⟨e, c, hc, rfl⟩ := y
        exact ⟨e, by simp [Src.items, hc]⟩
    cases ha : z.cps.all (· < 128)
    · exact wpAny_pyIter_wide ha (fin _ (.inr rfl))
    · exact wpAny_pyIter_ascii ha (fin _ (.inl rfl))
def Src.sz : Src → Prop
  | .tx z => z.cps.size ≤ szL
  | _ => True
theorem src_len {X : Cx} {pins : List (Addr × Obj)} {σ : St} {H : Hp} {s : Shared} {src : Src} (I : Inv X pins σ H s) (ok : src.ok X.K H) (sz : src.sz) : src.items.length ≤ szL := by
  cases src with
  | ls a vs => obtain ⟨its, rv, p, hz⟩ := I.list ok; rw [sizeLine_eq] at hz; exact hz
  | tp a vs => obtain ⟨its, rv, p, hz⟩ := I.tuple ok; rw [sizeLine_eq] at hz; exact hz
  | tx z => have q : z.cps.size ≤ szL := sz; simpa [Src.items] using q
theorem src_of {K : PySem.W.Frag} {G : Hp} {v : V} {d : D} {l : List D} (r : Rep K G v d) (e : itemsOf d = some l) : ∃ src : Src, src.val = v ∧ (∀ H, Sub G H → src.ok K H) ∧ src.sz ∧ Reps K G src.items l := by
  cases r <;> simp only [itemsOf] at e <;> try cases e
  case str s h => exact ⟨.tx (mkS s), rfl, fun _ _ => trivial, (by simpa [Src.sz] using h.2), by show Reps K G ((mkS s).cps.toList.map _) _; simpa using reps_chars h⟩
  case tup a vs h r => exact ⟨.tp a vs, rfl, fun H q => .inl (.inl (q.tup h)), trivial, r⟩
  case ktp a vs h r => exact ⟨.tp a vs, rfl, fun H q => sqT_sub q h, trivial, r⟩
  case lst a vs h r => exact ⟨.ls a vs, rfl, fun H q => .inl (.inl (q.lst h)), trivial, r⟩
theorem src_walk {K : PySem.W.Frag} {G : Hp} {src : Src} {l : List D} (h : ∀ H, Sub G H → src.ok K H) (r : Reps K G src.items l) : WalkOk K (ItS K src) G l := by
  have hl := r.length
  refine ⟨fun i H hi q => ⟨h H q, by omega⟩, fun H q => ⟨h H q, hl.symm⟩, fun i H v H' hi q y => ?_⟩
  obtain ⟨y1, y2⟩ := y
  obtain ⟨v', e1, r1⟩ := r.get (i := i) (d := l[i]) (by simp [hi])
  rw [y2] at e1; cases e1
  exact ⟨l[i], by simp [hi], .inl ⟨y1, r1⟩⟩
theorem enumFrom_get : ∀ {l : List D} {n : Int} {i : Nat} {d : D}, l[i]? = some d → (enumFrom n l)[i]? = some (.tup [.int (n + (i : Nat)), d])
  | [], _, i, _, h => by simp at h
  | x :: l, n, 0, d, h => by
    simp at h
    subst h
    simp [enumFrom]
  | x :: l, n, i + 1, d, h => by
    have := enumFrom_get (n := n + 1) (show l[i]? = some d by simpa using h)
    simp only [enumFrom, List.getElem?_cons_succ, this]
    have e : n + 1 + (i : Int) = n + ((i + 1 : Nat) : Int) := by omega
    rw [e]
theorem enumFrom_length : ∀ {l : List D} {n : Int}, (enumFrom n l).length = l.length
  | [], _ => rfl
  | x :: l, n => by simp [enumFrom, enumFrom_length (l := l)]
theorem pairUp_length : ∀ {l m : List D}, (pairUp l m).length = min l.length m.length
  | [], _ => by simp [pairUp]
  | _ :: _, [] => by simp [pairUp]
  | x :: l, y :: m => by simp [pairUp, pairUp_length (l := l) (m := m)]
theorem pairUp_get : ∀ {l m : List D} {i : Nat} {d e : D}, l[i]? = some d → m[i]? = some e → (pairUp l m)[i]? = some (.tup [d, e])
  | [], _, i, _, _, h, _ => by simp at h
  | _ :: _, [], i, _, _, _, h => by simp at h
  | x :: l, y :: m, 0, d, e, h, h2 => by
    simp at h h2
    subst h h2
    rfl
  | x :: l, y :: m, i + 1, d, e, h, h2 => by
    have := pairUp_get (show l[i]? = some d by simpa using h) (show m[i]? = some e by simpa using h2)
    simpa [pairUp] using this
theorem enum_walk {K : PySem.W.Frag} {G : Hp} {src : Src} {l : List D} (h : ∀ H, Sub G H → src.ok K H) (r : Reps K G src.items l) : WalkOk K (ItE K src) G (enumFrom 0 l) := by
  have hl := r.length
  refine ⟨fun i H hi q => ⟨h H q, by rw [enumFrom_length] at hi; omega⟩, fun H q => ⟨h H q, by rw [enumFrom_length]; exact hl.symm⟩, fun i H v H' hi q y => ?_⟩
  rw [enumFrom_length] at hi
  obtain ⟨T, x, y1, y2, y3, y4⟩ := y
  obtain ⟨v', e1, r1⟩ := r.get (i := i) (d := l[i]) (by simp [hi])
  rw [y4] at e1; cases e1
  refine ⟨_, enumFrom_get (d := l[i]) (by simp [hi]), .inr ⟨T, _, _, y1, y2, y3, .cons ?_ (.cons r1 .nil), rfl⟩⟩
  rw [Int.zero_add]
  exact .int _
theorem zip_walk {K : PySem.W.Frag} {G : Hp} {s1 s2 : Src} {l m : List D} (h : ∀ H, Sub G H → s1.ok K H) (r : Reps K G s1.items l) (h' : ∀ H, Sub G H → s2.ok K H) (r' : Reps K G s2.items m) : WalkOk K (ItZ K s1 s2) G (pairUp l m) := by
  have hl := r.length
  have hm := r'.length
  refine ⟨fun i H hi q => ?_, fun H q => ⟨h H q, h' H q, by rw [pairUp_length, hl, hm]⟩, fun i H v H' hi q y => ?_⟩
  · rw [pairUp_length] at hi
    exact ⟨h H q, h' H q, by omega, by omega⟩
  · rw [pairUp_length] at hi
    obtain ⟨T, x, z, y1, y2, y3, y4, y5⟩ := y
    have i1 : i < l.length := by omega
    have i2 : i < m.length := by omega
    obtain ⟨v', e1, r1⟩ := r.get (i := i) (d := l[i]) (by simp [i1])
    rw [y4] at e1; cases e1
    obtain ⟨v', e1, r2⟩ := r'.get (i := i) (d := m[i]) (by simp [i2])
    rw [y5] at e1; cases e1
    exact ⟨_, pairUp_get (d := l[i]) (e := m[i]) (by simp [i1]) (by simp [i2]), .inr ⟨T, _, _, y1, y2, y3, .cons r1 (.cons r2 .nil), rfl⟩⟩
theorem natsFrom_get : ∀ {n i : Nat} {lo : Int}, i < n → (natsFrom lo n)[i]? = some (.int (lo + (i : Nat)))
  | 0, i, _, h => by omega
  | n + 1, 0, lo, _ => by simp [natsFrom]
  | n + 1, i + 1, lo, h => by
    have := natsFrom_get (n := n) (i := i) (lo := lo + 1) (by omega)
    simp only [natsFrom, List.getElem?_cons_succ, this]
    have e : lo + 1 + (i : Int) = lo + ((i + 1 : Nat) : Int) := by omega
    rw [e]
theorem natsFrom_length : ∀ {n : Nat} {lo : Int}, (natsFrom lo n).length = n
  | 0, _ => rfl
  | n + 1, lo => by simp [natsFrom, natsFrom_length (n := n)]
theorem stepsFrom_get {c : Int} : ∀ {n i : Nat} {lo : Int}, i < n → (stepsFrom lo c n)[i]? = some (.int (lo + (i : Nat) * c))
  | 0, i, _, h => by omega
  | n + 1, 0, lo, _ => by simp [stepsFrom]
  | n + 1, i + 1, lo, h => by
    have := stepsFrom_get (n := n) (i := i) (lo := lo + c) (c := c) (by omega)
    simp only [stepsFrom, List.getElem?_cons_succ, this]
    have e : lo + c + (i : Int) * c = lo + ((i + 1 : Nat) : Int) * c := by
      rw [Int.natCast_add, Int.add_mul]; simp; omega
    rw [e]
theorem stepsFrom_length {c : Int} : ∀ {n : Nat} {lo : Int}, (stepsFrom lo c n).length = n
  | 0, _ => rfl
  | n + 1, lo => by simp [stepsFrom, stepsFrom_length (n := n)]
theorem range_walk {K : PySem.W.Frag} {G : Hp} {lo : Int} {n : Nat} : WalkOk K (Itr lo n) G (natsFrom lo n) :=
  ⟨fun i H hi _ => by rw [natsFrom_length] at hi; exact hi, fun H _ => by rw [natsFrom_length]; exact Nat.le_refl _, fun i H v H' hi _ y => by
    rw [natsFrom_length] at hi
    obtain ⟨y1, rfl⟩ := y
    exact ⟨_, natsFrom_get hi, .inl ⟨y1, .int _⟩⟩⟩
theorem rangeC_walk {K : PySem.W.Frag} {G : Hp} {lo c : Int} {n : Nat} : WalkOk K (Itc lo c n) G (stepsFrom lo c n) :=
  ⟨fun i H hi _ => by rw [stepsFrom_length] at hi; exact hi, fun H _ => by rw [stepsFrom_length]; exact Nat.le_refl _, fun i H v H' hi _ y => by
    rw [stepsFrom_length] at hi
    obtain ⟨y1, rfl⟩ := y
    exact ⟨_, stepsFrom_get hi, .inl ⟨y1, .int _⟩⟩⟩

/-! ### the rules -/
def itO (C : EC) (k : IK) (ms : MEs) (ρ : Ev.Env) : Out (List D) := (evs C ms ρ).bind fun ds ρ1 => match walkOf k ds with
  | some l => .ok l ρ1
  | none => .no
def tIt (K : PySem.W.Frag) (g : GC) (C : EC) (W : WX) (k : IK) (ms : MEs) : TI := fun σ H R => ∃ G ρ, RE K g.T G H ρ σ ∧ PostG K g.T g.cA W σ ρ G H (itO C k ms ρ) (fun G' _ _ J l => WalkOk K J G' l ∧ l.length ≤ szL) R
section
variable {X : Cx} {g : GC} {C : EC} {W : WX} {a b c tg : Expr} {ma mb mc : ME} {ms : MEs} {p pos : Pos} {es : List Expr}
theorem pi_valE (ha : PE X a (tEv X.K g C W ma)) : PI X tg a (tIt X.K g C W .val (.cons ma .nil)) := by
  refine ⟨fun pins s σ H R I h => ?_⟩
  obtain ⟨G, ρ, R0, h⟩ := h
  have e0 : itO C .val (.cons ma .nil) ρ = ((ev C ma ρ).bind (frz C)).bind fun d ρ1 => match itemsOf d with
      | some l => .ok l ρ1
      | none => .no := by
    simp only [itO, evs, walkOf]
    cases (ev C ma ρ).bind (frz C) <;> rfl
  rw [e0] at h
  have h' := (PostG.bind (fun G' _ _ v d => Rep X.K G' v d) h).frz
  refine thn (ha.run pins s σ H (fun v H1 => ∃ src : Src, v = src.val ∧ src.ok X.K H1 ∧ src.sz ∧ (src.items.length ≤ szL → R (ItS X.K src) H1)) I ⟨G, ρ, R0, h'.imp fun v H1 ⟨G1, ρ1, d, R1, S1, r1, h1⟩ => ?_⟩) fun u s1 ⟨x, H1, I1, r1, src, e, ok, sz, q⟩ => ?_
  · cases e : itemsOf d with
    | none => rw [e] at h1; exact h1.elim
    | some l =>
      rw [e] at h1
      obtain ⟨src, e1, ok, sz, rr⟩ := src_of r1 e
      exact ⟨src, e1.symm, ok H1 R1.sub, sz, fun hl => h1.here R1 ⟨src_walk ok rr, by rw [← rr.length]; exact hl⟩⟩
  · subst e
    exact src_iter I1 r1 ok (q (src_len I1 ok sz))
/-- from arguments to an iterator -/
theorem it_args {k : IK} {σ : St} {H : Hp} {R : It → Hp → Prop} (h : tIt X.K g C W k ms σ H R) {Q : List V → Hp → Prop}
    (fin : ∀ vs H1 G1 ds l, Sub G1 H1 → Reps X.K G1 vs ds → walkOf k ds = some l → (l.length ≤ szL → ∀ J, WalkOk X.K J G1 l → R J H1) → Q vs H1) : tEvs X.K g C W ms σ H Q := by
  obtain ⟨G, ρ, R0, h⟩ := h
  refine ⟨G, ρ, R0, (PostG.bind (fun G _ _ vs ds => Reps X.K G vs ds) h).imp fun vs H1 ⟨G1, ρ1, ds, R1, S1, r1, h1⟩ => ?_⟩
  cases e : walkOf k ds with
  | none => rw [e] at h1; exact h1.elim
  | some l =>
    rw [e] at h1
    exact fin vs H1 G1 ds l R1.sub r1 e fun hl J w => h1.here R1 ⟨w, hl⟩
theorem walk_r1 {ds l : List D} (e : walkOf .range1 ds = some l) : ∃ j, ds = [.int j] ∧ (small62 j && leSz j) = true ∧ l = natsFrom 0 j.toNat := by
  match ds, e with
  | [], e => simp [walkOf] at e
  | [d], e =>
    cases d <;> simp only [walkOf, reduceCtorEq] at e
    split at e <;> cases e
    exact ⟨_, rfl, by assumption, rfl⟩
  | _ :: _ :: _, e => simp [walkOf] at e
theorem walk_r2 {ds l : List D} (e : walkOf .range2 ds = some l) : ∃ i j, ds = [.int i, .int j] ∧ (small62 i && small62 j && leSz (j - i)) = true ∧ l = natsFrom i (j - i).toNat := by
  match ds, e with
  | [], e => simp [walkOf] at e
  | [d], e => cases d <;> simp [walkOf] at e
  | [d, d2], e =>
    cases d <;> cases d2 <;> simp only [walkOf, reduceCtorEq] at e
    split at e <;> cases e
    exact ⟨_, _, rfl, by assumption, rfl⟩
  | _ :: _ :: _ :: _, e => simp [walkOf] at e
theorem walk_r3 {ds l : List D} (e : walkOf .range3 ds = some l) : ∃ i j k, ds = [.int i, .int j, .int k] ∧ (small62 i && small62 j && k == -1 && leSz (i - j)) = true ∧ l = stepsFrom i (-1) (i - j).toNat := by
  match ds, e with
  | [], e => simp [walkOf] at e
  | [d], e => cases d <;> simp [walkOf] at e
  | [d, d2], e => simp [walkOf] at e
  | [d, d2, d3], e =>
    cases d <;> cases d2 <;> cases d3 <;> simp only [walkOf, reduceCtorEq] at e
    split at e <;> cases e
    exact ⟨_, _, _, rfl, by assumption, rfl⟩
  | _ :: _ :: _ :: _ :: _, e => simp [walkOf] at e
theorem walk_en {ds l : List D} (e : walkOf .enum ds = some l) : ∃ x m, ds = [x] ∧ itemsOf x = some m ∧ l = enumFrom 0 m := by
  match ds, e with
  | [], e => simp [walkOf] at e
  | [d], e =>
    simp only [walkOf] at e
    cases q : itemsOf d with
    | none => rw [q] at e; cases e
    | some m => rw [q] at e; cases e; exact ⟨d, m, rfl, q, rfl⟩
  | _ :: _ :: _, e => simp [walkOf] at e
theorem walk_zp {ds l : List D} (e : walkOf .zip ds = some l) : ∃ x y m n, ds = [x, y] ∧ itemsOf x = some m ∧ itemsOf y = some n ∧ l = pairUp m n := by
  match ds, e with
  | [], e => simp [walkOf] at e
  | [d], e => simp [walkOf] at e
  | [d, d2], e =>
    simp only [walkOf] at e
    cases q : itemsOf d with
    | none => rw [q] at e; cases e
    | some m =>
      rw [q] at e
      cases q2 : itemsOf d2 with
      | none => rw [q2] at e; cases e
      | some n => rw [q2] at e; cases e; exact ⟨d, d2, m, n, rfl, q, q2, rfl⟩
  | _ :: _ :: _ :: _, e => simp [walkOf] at e
theorem small62_mp {i : Int} (h : small62 i = true) : -(2 ^ 62) ≤ i ∧ i < 2 ^ 62 := by
  unfold small62 at h
  rw [Nat.blt_eq] at h
  omega
theorem leSz_mp {i : Int} (h : leSz i = true) : i.toNat ≤ szL := by
  unfold leSz at h
  exact Nat.ble_eq.mp h
theorem pi_range1E (hg : Gl X "range") (hm : X.mg "range" = none) (hp : plainE a = true) (ha : PA X [a] (tEvs X.K g C W ms)) : PI X tg (.Call (.Name "range" p) [a] [] pos) (tIt X.K g C W .range1 ms) := by
  refine ⟨fun pins s σ H R I h => (pi_range1 hg hm ha (star_plain hp _ _)).run pins s σ H R I (it_args h fun vs H1 G1 ds l sb r e fin => ?_)⟩
  obtain ⟨j, rfl, c, rfl⟩ := walk_r1 e
  cases r with
  | cons r rr =>
    cases rr
    cases r
    obtain ⟨c, c3⟩ := Bool.and_eq_true_iff.mp c
    obtain ⟨c1, c2⟩ := small62_mp c
    exact ⟨j, rfl, c1, c2, fin (by rw [natsFrom_length]; have := leSz_mp c3; omega) _ range_walk⟩
theorem pi_range2E (hg : Gl X "range") (hm : X.mg "range" = none) (hp : plainE a = true) (hp2 : plainE b = true) (ha : PA X [a, b] (tEvs X.K g C W ms)) : PI X tg (.Call (.Name "range" p) [a, b] [] pos) (tIt X.K g C W .range2 ms) := by
  have h2 : starEach [b] X.env = [(false, eval b X.env)] := star_plain hp2 _ _
  refine ⟨fun pins s σ H R I h => (pi_range2 hg hm ha (by rw [star_plain hp, h2]) h2).run pins s σ H R I (it_args h fun vs H1 G1 ds l sb r e fin => ?_)⟩
  obtain ⟨i, j, rfl, c, rfl⟩ := walk_r2 e
  cases r with
  | cons r rr =>
    cases rr with
    | cons r2 rr =>
      cases rr
      cases r
      cases r2
      obtain ⟨c, c5⟩ := Bool.and_eq_true_iff.mp c
      obtain ⟨c1, c2⟩ := Bool.and_eq_true_iff.mp c
      obtain ⟨c1, c3⟩ := small62_mp c1
      obtain ⟨c2, c4⟩ := small62_mp c2
      exact ⟨i, j, rfl, ⟨c1, c3, c2, c4⟩, fin (by rw [natsFrom_length]; have := leSz_mp c5; omega) _ range_walk⟩
theorem pi_range3E (hg : Gl X "range") (hm : X.mg "range" = none) (hp : plainE a = true) (hp2 : plainE b = true) (hp3 : plainE c = true) (ha : PA X [a, b, c] (tEvs X.K g C W ms)) : PI X tg (.Call (.Name "range" p) [a, b, c] [] pos) (tIt X.K g C W .range3 ms) := by
  refine ⟨fun pins s σ H R I h => (pi_range3 hg hm ha (star_plain hp _ _) (plain_back (es := [b, c]) (by simp [hp2, hp3]) _ _)).run pins s σ H R I (it_args h fun vs H1 G1 ds l sb r e fin => ?_)⟩
  obtain ⟨i, j, k, rfl, c, rfl⟩ := walk_r3 e
  cases r with
  | cons r rr =>
    cases rr with
    | cons r2 rr =>
      cases rr with
      | cons r3 rr =>
        cases rr
        cases r
        cases r2
        cases r3
        simp only [Bool.and_eq_true, beq_iff_eq] at c
        obtain ⟨⟨⟨c1, c2⟩, rfl⟩, c5⟩ := c
        obtain ⟨c1, c3⟩ := small62_mp c1
        obtain ⟨c2, c4⟩ := small62_mp c2
        exact ⟨i, j, -1, (i - j).toNat, rfl, RgC.neg c1 c3 c2 c4, fin (by rw [stepsFrom_length]; have := leSz_mp c5; omega) _ rangeC_walk⟩
/-! ### enumerate, zip -/
theorem src_begins {H : Hp} {pins : List (Addr × Obj)} {σ : St} {s : Shared} {src : Src} {u : Value} (I : Inv X pins σ H s) (r : RelV src.val u) (ok : src.ok X.K H) :
    ∃ (o : Obj) (Hs : Heap → Prop), Begins u o Hs ∧ Hs s.heap ∧ (∀ h i, h.get? i = some o → src.it h i 0) ∧ ∀ a, src.addr = some a → a < s.heap.objs.size := by
  cases src with
  | ls a vs =>
    cases r
    obtain ⟨its, rv, p, hz⟩ := I.list ok
    exact ⟨_, _, begins_list a its.toArray, p.isList, fun h i e => ⟨_, e, rfl, rfl⟩, fun b hb => by cases hb; exact p.lt⟩
  | tp a vs =>
    cases r
    obtain ⟨its, rv, p, hz⟩ := I.tuple ok
    have p' : s.heap.IsTuple a its.toArray := p
    exact ⟨_, _, begins_tuple a its.toArray, p', fun h i e => ⟨_, e, rfl, rfl⟩, fun b hb => by cases hb; obtain ⟨o, e, _⟩ := p'; exact Heap.lt_size e⟩
  | tx z =>
    obtain ⟨t, rfl⟩ := r
    exact ⟨_, _, begins_text z t, trivial, fun h i e => ⟨t, _, e, rfl, rfl⟩, fun b hb => by cases hb⟩
theorem pi_zipE {elts : List Expr} {kk : Nat} {tpos : Pos} (hg : Gl X "zip") (hm : X.mg "zip" = none) (hp : plainE a = true) (hp2 : plainE b = true) (ha : PA X [a, b] (tEvs X.K g C W ms)) :
    PI X (.Tuple elts kk tpos) (.Call (.Name "zip" p) [a, b] [] pos) (tIt X.K g C W .zip ms) := by
  refine ⟨fun pins s σ H R I h => ?_⟩
  have h' : tEvs X.K g C W ms σ H (fun vs H1 => ∃ s1 s2 : Src, vs = [s1.val, s2.val] ∧ s1.ok X.K H1 ∧ s2.ok X.K H1 ∧ s1.sz ∧ (s1.items.length ≤ szL → R (ItZ X.K s1 s2) H1)) := it_args h fun vs H1 G1 ds l sb r e fin => by
    obtain ⟨x, y, m, n, rfl, e1, e2, rfl⟩ := walk_zp e
    cases r with
    | cons r rr =>
      cases rr with
      | cons r2 rr =>
        cases rr
        obtain ⟨s1, q1, k1, z1, w1⟩ := src_of r e1
        obtain ⟨s2, q2, k2, z2, w2⟩ := src_of r2 e2
        exact ⟨s1, s2, by rw [q1, q2], k1 _ sb, k2 _ sb, z1, fun hl => fin (by rw [pairUp_length, ← w1.length]; omega) _ (zip_walk k1 w1 k2 w2)⟩
  refine Call_ (ld_blt I hg hm PyProof.Rows.boot_zip (PyProof.Rows.callWith_type1 (thn (ha.run pos pins s σ H _ I h') fun us s1 ⟨vs, H1, I1, r1, q1⟩ => ?_) (star_plain hp _ _) (plain_back (es := [b]) (by simp [hp2]) _ _)))
  obtain ⟨t1, t2, rfl, ok1, ok2, z1, q⟩ := q1
  replace q := q (src_len I1 ok1 z1)
  cases r1 with
  | cons r rr =>
    cases rr with
    | cons r' rr =>
      cases rr
      obtain ⟨o1, S1, B1, hs1, it1, la⟩ := src_begins I1 r ok1
      obtain ⟨o2, S2, B2, hs2, it2, lb⟩ := src_begins I1 r' ok2
      refine zip_begins2 B1 B2 hs1 hs2 fun h' hz hTI hTO g1 g2 hsz hk => wpAny_pyIter_zip hz ?_
      have I2 : Inv X pins σ H1 { s1 with heap := h' } := I1.kept (t' := s1.toks) hk
      have ap : ZAp (s1.heap.objs.size + 4) (s1.heap.objs.size + 2) (s1.heap.objs.size + 3) s1.heap.objs.size (s1.heap.objs.size + 1) t1 t2 := by
        have k1 : ∀ a, t1.addr = some a → ∀ j : Nat, a ≠ s1.heap.objs.size + j := fun a ha j z => by
          have := la a ha
          rw [z] at this
          exact absurd this (Nat.not_lt.mpr (Nat.le_add_right _ _))
        have k2 : ∀ a, t2.addr = some a → ∀ j : Nat, a ≠ s1.heap.objs.size + j := fun a ha j z => by
          have := lb a ha
          rw [z] at this
          exact absurd this (Nat.not_lt.mpr (Nat.le_add_right _ _))
        have nn : ∀ i j : Nat, i ≠ j → s1.heap.objs.size + i ≠ s1.heap.objs.size + j := fun i j h e => h (Nat.add_left_cancel e)
        have n0 : ∀ i : Nat, 0 ≠ i → s1.heap.objs.size ≠ s1.heap.objs.size + i := fun i h => nn 0 i h
        exact ⟨nn 2 4 (by decide), nn 3 4 (by decide), nn 2 3 (by decide), nn 2 0 (by decide), nn 2 1 (by decide), nn 0 1 (by decide), nn 4 0 (by decide), nn 4 1 (by decide), nn 3 0 (by decide), nn 3 1 (by decide),
          fun a ha => ⟨k1 a ha 4, k1 a ha 3, k1 a ha 0, k1 a ha 1⟩, fun a ha => ⟨k2 a ha 4, k2 a ha 3, k2 a ha 0, k2 a ha 1⟩⟩
      refine ⟨s1.heap.objs.size + 4, [s1.heap.objs.size + 4, s1.heap.objs.size + 2, s1.heap.objs.size + 3, s1.heap.objs.size, s1.heap.objs.size + 1], _, _, H1, rfl, I2, turn_zipE ap, ⟨hz, hTI, ⟨_, _, hTO⟩, it1 _ _ g1, it2 _ _ g2⟩, fun c hcm => ?_, q⟩
      have hle : s1.heap.objs.size ≤ c := by
        simp only [List.mem_cons, List.mem_nil_iff, or_false] at hcm
        rcases hcm with z | z | z | z | z <;> rw [z] <;> first | exact Nat.le_add_right _ _ | exact Nat.le_refl _
      exact I1.fpOk hle (I1.hok.fresh hle)
end
end Ev

/-! E13b: enumerate(v) over a list, a tuple, a text. -/
namespace Ev
open PySem PySem.Spec L2
open PyProof.Rows hiding St

set_option maxHeartbeats 1000000 in
theorem meets_en1 {v : Value} {o : Obj} {Hs : Heap → Prop} (B : Begins v o Hs) :
    Meets (Builtin.«enumerate.__new__» ⟨[.type "enumerate", v], []⟩) (fun _ R s => Hs s.heap ∧
      R (.ok (.ret (.ref (s.heap.push o).objs.size))) { s with heap := (s.heap.push o).push { cls := .type "enumerate", data := .fields #[.none, .bool false, .ref s.heap.objs.size, rawInt 0, .none, .none] } }) := by
  refine .of_wp fun prog w A R s h => ?_
  obtain ⟨hp, gs, dr, tk, os⟩ := s
  obtain ⟨b0, h⟩ := h
  have hsub := sub_enumerate
  have it1 : ∀ {A' : Around} {E' : Value → Shared → Prop} {Q' : Value → Shared → Prop}, Q' (.ref hp.objs.size) ⟨hp.push o, gs, dr, tk, os⟩ → wpAny (model prog w) A' (pyIter v) Q' E' ⟨hp, gs, dr, tk, os⟩ := fun q => B.iter prog w _ _ ⟨hp, gs, dr, tk, os⟩ _ b0 q
  wp_walk using it1
  refine wpAny_stack_any fun st => wpAny_pure ?_
  split
  · rename_i c _ _ _ _ _
    cases (c == Value.type "enumerate") <;> (wp_walk using it1; exact ⟨_, rfl, h⟩)
  · wp_walk using it1
    exact ⟨_, rfl, h⟩
section
variable {X : Cx} {g : GC} {C : EC} {W : WX} {a : Expr} {ms : MEs} {p pos : Pos}
theorem en_begins {prog : Program} {w : World} {A : Around} {E : Value → Shared → Prop} {s : Shared} {v : Value} {o : Obj} {Hs : Heap → Prop} {Q : Value → Shared → Prop} (B : Begins v o Hs) (b0 : Hs s.heap)
    (h : ∀ h', IsEnum h' (s.heap.objs.size + 1) s.heap.objs.size 0 .none → h'.get? s.heap.objs.size = some o → (∀ b u, s.heap.get? b = some u → h'.get? b = some u) → Q (.ref (s.heap.objs.size + 1)) { s with heap := h' }) :
    wpAny (model prog w) A (call (.type "enumerate") [v]) Q E s := by
  refine callType_new F.called_enumerate (by decide) (F.typeCall_enumerate_1 _) (F.newCall_enumerate_1 _) (fun obj => F.args_object_init_2 obj _) F.entry_enumerate_new (meets_en1 B) ⟨b0, ?_⟩
  have sz : (s.heap.push o).objs.size = s.heap.objs.size + 1 := Heap.size_push ..
  show _ ∧ _
  rw [sz]
  have e1 := Heap.get?_push_size (s.heap.push o) (o := { cls := .type "enumerate", data := .fields #[.none, .bool false, .ref s.heap.objs.size, rawInt 0, .none, .none] }) rfl
  rw [sz] at e1
  exact ⟨⟨_, e1, rfl⟩, h _ e1 (Heap.get?_push_of_some _ (Heap.get?_push_size _ B.free)) fun b u q => Heap.get?_push_of_some _ (Heap.get?_push_of_some _ q)⟩
theorem pi_enumE {elts : List Expr} {kk : Nat} {tpos : Pos} (hg : Gl X "enumerate") (hm : X.mg "enumerate" = none) (hp : plainE a = true) (ha : PA X [a] (tEvs X.K g C W ms)) :
    PI X (.Tuple elts kk tpos) (.Call (.Name "enumerate" p) [a] [] pos) (tIt X.K g C W .enum ms) := by
  refine ⟨fun pins s σ H R I h => ?_⟩
  have h' : tEvs X.K g C W ms σ H (fun vs H1 => ∃ s1 : Src, vs = [s1.val] ∧ s1.ok X.K H1 ∧ s1.sz ∧ (s1.items.length ≤ szL → R (ItE X.K s1) H1)) := it_args h fun vs H1 G1 ds l sb r e fin => by
    obtain ⟨x, m, rfl, e1, rfl⟩ := walk_en e
    cases r with
    | cons r rr =>
      cases rr
      obtain ⟨s1, q1, k1, z1, w1⟩ := src_of r e1
      exact ⟨s1, by rw [q1], k1 _ sb, z1, fun hl => fin (by rw [enumFrom_length, ← w1.length]; exact hl) _ (enum_walk k1 w1)⟩
  refine Call_ (ld_blt I hg hm boot_enumerate (PyProof.Rows.callWith_type1 (thn (ha.run pos pins s σ H _ I h') fun us s1 ⟨vs, H1, I1, r1, q1⟩ => ?_) (star_plain hp _ _) rfl))
  obtain ⟨t1, rfl, ok1, z1, q⟩ := q1
  replace q := q (src_len I1 ok1 z1)
  cases r1 with
  | cons r rr =>
    cases rr
    obtain ⟨o1, S1, B1, hs1, it1, la⟩ := src_begins I1 r ok1
    refine en_begins B1 hs1 fun h' he g1 hk => wpAny_pyIter_enum he ?_
    have I2 : Inv X pins σ H1 { s1 with heap := h' } := I1.kept (t' := s1.toks) hk
    refine ⟨s1.heap.objs.size + 1, [s1.heap.objs.size + 1, s1.heap.objs.size], _, _, H1, rfl, I2, turn_enumE (s1.heap.objs.size + 1) s1.heap.objs.size (fun b hb => ?_), ⟨⟨.none, he⟩, it1 _ _ g1, Nat.succ_ne_self _⟩, fun b hb => ?_, q⟩
    · have lt := la b hb
      exact ⟨Nat.ne_of_lt lt, Nat.ne_of_lt (Nat.lt_succ_of_lt lt)⟩
    · have hle : s1.heap.objs.size ≤ b := by
        simp only [List.mem_cons, List.mem_nil_iff, or_false] at hb
        rcases hb with z | z <;> rw [z] <;> first | exact Nat.le_add_right _ _ | exact Nat.le_refl _
      exact I1.fpOk hle (I1.hok.fresh hle)
end
end Ev

/-! E14: stores into slots, targets; the slots of a block. -/
namespace Ev
open PySem PySem.Spec L2
open PyProof.Rows hiding St

section
variable {K : PySem.W.Frag} {T : List (Addr × Str)} {G H G' H' : Hp} {ρ ρ' : Ev.Env} {σ : St} {v : V} {d : D} {i : Nat}
/-- a slot is set: to frozen data, or to a thing of its own -/
theorem RE.set_ (R : RE K T G H ρ σ) (sv : SV) (hs : SlotV K G H v sv) (no : ∀ d a, sv = .ow d → v = .ref a → ¬ OwnedA ρ σ a) (hi : i < ρ.length) : RE K T G H (ρ.set i (some sv)) (σ.set i (some v)) where
  sub := R.sub
  len := by rw [List.length_set, List.length_set]; exact R.len
  slot := fun j s2 h => by
    by_cases hj : i = j
    · subst hj
      rw [List.getElem?_set_self hi] at h
      cases h
      exact ⟨v, List.getElem?_set_self (by rw [R.len]; exact hi), hs⟩
    · rw [List.getElem?_set_ne hj] at h ⊢
      exact R.slot j s2 h
  dist := fun j l d1 d2 a h1 h2 h3 h4 => by
    have hi' : i < σ.length := by rw [R.len]; exact hi
    by_cases hj : i = j
    · subst hj
      rw [List.getElem?_set_self hi] at h1
      rw [List.getElem?_set_self hi'] at h3
      cases h1; cases h3
      by_cases hl : i = l
      · exact hl
      · rw [List.getElem?_set_ne hl] at h2 h4
        exact absurd ⟨l, d2, h2, h4⟩ (no d1 a rfl rfl)
    · rw [List.getElem?_set_ne hj] at h1 h3
      by_cases hl : i = l
      · subst hl
        rw [List.getElem?_set_self hi] at h2
        rw [List.getElem?_set_self hi'] at h4
        cases h2; cases h4
        exact absurd ⟨j, d1, h1, h3⟩ (no d2 a rfl rfl)
      · rw [List.getElem?_set_ne hl] at h2 h4
        exact R.dist j l d1 d2 a h1 h2 h3 h4
  tabs := R.tabs
theorem owned_set {sv : SV} {a : Addr} (hi : i < ρ.length) (hl : σ.length = ρ.length) (h : OwnedA (ρ.set i (some sv)) (σ.set i (some v)) a) : OwnedA ρ σ a ∨ (v = .ref a ∧ ∃ d, sv = .ow d) := by
  obtain ⟨j, e, h1, h2⟩ := h
  by_cases hj : i = j
  · subst hj
    rw [List.getElem?_set_self hi] at h1
    rw [List.getElem?_set_self (by omega)] at h2
    cases h1; cases h2
    exact .inr ⟨rfl, e, rfl⟩
  · rw [List.getElem?_set_ne hj] at h1 h2
    exact .inl ⟨j, e, h1, h2⟩
end

/-! ### targets -/
def gNames : List Nat → TGs
  | [] => gNil
  | i :: is => gCons (gName i) (gNames is)
def gSeq (K : PySem.W.Frag) (n : Nat) (t : TGs) : TG := fun v σ H Q => gTup K n t v σ H Q ∨ gUnl K n t v σ H Q
def gTg (K : PySem.W.Frag) : Tgt → TG
  | .nm i => gName i
  | .tp is => gSeq K is.length (gNames is)
  | .tp2 i is => gSeq K 2 (gCons (gName i) (gCons (gSeq K is.length (gNames is)) gNil))
theorem _root_.L2.PG.or {X : Cx} {t : Expr} {a b : TG} (h1 : PG X t a) (h2 : PG X t b) : PG X t (fun v σ H Q => a v σ H Q ∨ b v σ H Q) :=
  ⟨fun pins s σ H v u Q I r h => h.elim (fun q => h1.run pins s σ H v u Q I r q) fun q => h2.run pins s σ H v u Q I r q⟩
section
variable {K : PySem.W.Frag} {T : List (Addr × Str)} {G H G' H' : Hp} {ρ ρ' : Ev.Env} {σ σ' : St} {v : V} {d : D} {i : Nat} {C : EC} {a : Addr}
/-- the slots vs have been set to frozen data: ρ, σ to ρ', σ' -/
structure SetS (K : PySem.W.Frag) (T : List (Addr × Str)) (C : EC) (vs : List Nat) (G H : Hp) (ρ : Ev.Env) (σ : St) (ρ' : Ev.Env) (σ' : St) : Prop where
  re : RE K T G H ρ' σ'
  own : ∀ a, OwnedA ρ' σ' a → OwnedA ρ σ a
  out : ∀ j, j ∉ vs → σ'[j]? = σ[j]? ∧ ρ'[j]? = ρ[j]?
  len : σ'.length = σ.length
  lk : C.lk = true → σ'[0]? = σ[0]? ∧ ρ'[0]? = ρ[0]?
theorem SetS.refl (R : RE K T G H ρ σ) : SetS K T C [] G H ρ σ ρ σ := ⟨R, fun _ h => h, fun _ _ => ⟨rfl, rfl⟩, rfl, fun _ => ⟨rfl, rfl⟩⟩
theorem SetS.trans {vs ws : List Nat} {ρ1 : Ev.Env} {σ1 : St} (a : SetS K T C vs G H ρ σ ρ1 σ1) (b : SetS K T C ws G H ρ1 σ1 ρ' σ') : SetS K T C (vs ++ ws) G H ρ σ ρ' σ' :=
  ⟨b.re, fun c h => a.own c (b.own c h), fun j h => by
    simp only [List.mem_append, not_or] at h
    exact ⟨(b.out j h.2).1.trans (a.out j h.1).1, (b.out j h.2).2.trans (a.out j h.1).2⟩, b.len.trans a.len, fun h => ⟨(b.lk h).1.trans (a.lk h).1, (b.lk h).2.trans (a.lk h).2⟩⟩
theorem wr_iff {ρ : Ev.Env} {i : Nat} : wr C ρ i = true ↔ ¬ (C.lk = true ∧ i = 0) ∧ i < ρ.length := by
  unfold wr; cases C.lk <;> simp
theorem setNm_ok (R : RE K T G H ρ σ) (r : Rep K G v d) (e : setNm C i d ρ = some ρ') : SetS K T C [i] G H ρ σ ρ' (σ.set i (some v)) := by
  unfold setNm at e
  split at e <;> cases e
  rename_i c
  obtain ⟨c1, c2⟩ := wr_iff.mp c
  refine ⟨R.set_ (.fz d) r (fun _ _ z => nomatch z) c2, fun a h => ?_, fun j h => ?_, by rw [List.length_set], fun h => ?_⟩
  · rcases owned_set c2 R.len h with q | ⟨_, _, q⟩
    · exact q
    · cases q
  · have hj : i ≠ j := fun z => h (by simp [z])
    rw [List.getElem?_set_ne hj, List.getElem?_set_ne hj]
    exact ⟨rfl, rfl⟩
  · have hj : i ≠ 0 := fun z => c1 ⟨h, z⟩
    rw [List.getElem?_set_ne hj, List.getElem?_set_ne hj]
    exact ⟨rfl, rfl⟩
theorem setNms_ok : ∀ {is : List Nat} {vs : List V} {ds : List D} {ρ ρ' : Ev.Env} {σ : St} {Q : St → Hp → Prop}, RE K T G H ρ σ → Reps K G vs ds → setNms C is ds ρ = some ρ' → (∀ σ', SetS K T C is G H ρ σ ρ' σ' → Q σ' H) → gNames is vs σ H Q ∧ vs.length = is.length
  | [], _, _, ρ, ρ', σ, Q, R, .nil, e, q => by
    simp only [setNms] at e
    cases e
    exact ⟨⟨rfl, q σ (SetS.refl R)⟩, rfl⟩
  | i :: is, _, _, ρ, ρ', σ, Q, R, .cons (v := v) (d := d) r rr, e, q => by
    simp only [setNms] at e
    cases e1 : setNm C i d ρ with
    | none => rw [e1] at e; cases e
    | some ρ1 =>
      rw [e1] at e
      have S1 := setNm_ok R r e1
      obtain ⟨h1, h2⟩ := setNms_ok (Q := Q) S1.re rr e fun σ' S2 => q σ' (S1.trans S2)
      exact ⟨⟨_, _, rfl, h1⟩, by simp [h2]⟩
  | [], _, _, ρ, ρ', σ, Q, R, .cons r rr, e, q => by simp [setNms] at e
  | i :: is, _, _, ρ, ρ', σ, Q, R, .nil, e, q => by simp [setNms] at e
theorem gSeq_ok {n : Nat} {t : TGs} {Q : St → Hp → Prop} {ds : List D} {x : D} (s : Sub G H) (hx : x = .tup ds ∨ x = .lst ds) (r : Rep K G v x) (q : ∀ vs, Reps K G vs ds → t vs σ H Q ∧ vs.length = n) : gSeq K n t v σ H Q := by
  rcases hx with rfl | rfl
  · cases r with
    | tup e r => obtain ⟨h1, h2⟩ := q _ r; exact .inl ⟨_, _, rfl, .inl (.inl (s.tup e)), h2, h1⟩
  · cases r with
    | lst e r => obtain ⟨h1, h2⟩ := q _ r; exact .inr ⟨_, _, rfl, .inl (.inl (s.lst e)), h2, h1⟩
theorem setT_two {is : List Nat} (e : setT C (.tp2 i is) d ρ = some ρ') : ∃ x ds, d = .tup [x, .tup ds] ∧ (setNm C i x ρ).bind (setNms C is ds) = some ρ' := by
  match d, e with
  | .tup [x, .tup ds], e => exact ⟨x, ds, rfl, by simpa only [setT] using e⟩
  | .tup [], e => simp [setT] at e
  | .tup [_], e => simp [setT] at e
  | .tup (_ :: _ :: _ :: _), e => simp [setT] at e
  | .tup [x, .lst ds], e => simp [setT] at e
  | .tup [x, .non], e => simp [setT] at e
  | .tup [x, .bl _], e => simp [setT] at e
  | .tup [x, .int _], e => simp [setT] at e
  | .tup [x, .str _], e => simp [setT] at e
  | .tup [x, .dic _], e => simp [setT] at e
  | .tup [x, .scr _], e => simp [setT] at e
  | .tup [x, .ktp _], e => simp [setT] at e
  | .non, e => simp [setT] at e
  | .bl _, e => simp [setT] at e
  | .int _, e => simp [setT] at e
  | .str _, e => simp [setT] at e
  | .lst _, e => simp [setT] at e
  | .dic _, e => simp [setT] at e
  | .scr _, e => simp [setT] at e
  | .ktp _, e => simp [setT] at e
theorem setT_ok {t : Tgt} {Q : St → Hp → Prop} (R : RE K T G H ρ σ) (r : Rep K G v d) (e : setT C t d ρ = some ρ') (q : ∀ σ', SetS K T C (tgVars t) G H ρ σ ρ' σ' → Q σ' H) : gTg K t v σ H Q := by
  cases t with
  | nm i => exact q _ (setNm_ok R r e)
  | tp is =>
    cases d <;> simp only [setT] at e <;> try cases e
    · exact gSeq_ok R.sub (.inl rfl) r fun vs rr => setNms_ok R rr e q
    · exact gSeq_ok R.sub (.inr rfl) r fun vs rr => setNms_ok R rr e q
  | tp2 i is =>
    obtain ⟨x, ds, rfl, e'⟩ := setT_two e
    clear e
    rename _ = some ρ' => e
    refine gSeq_ok R.sub (.inl rfl) r fun vs rr => ?_
    cases rr with
    | cons r1 rr =>
      cases rr with
      | cons r2 rr =>
        cases rr
        cases e1 : setNm C i x ρ with
        | none => rw [e1] at e; cases e
        | some ρ1 =>
          rw [e1] at e
          have S1 := setNm_ok R r1 e1
          refine ⟨⟨_, _, rfl, _, _, rfl, gSeq_ok R.sub (.inl rfl) r2 fun ws r3 => setNms_ok S1.re r3 e fun σ' S2 => ⟨rfl, q σ' (S1.trans S2)⟩⟩, rfl⟩
end
/-! ### the slots of a block -/
theorem wipeE_length (ρ : Ev.Env) : ∀ vs : List Nat, (wipeE ρ vs).length = ρ.length
  | [] => rfl
  | v :: vs => by unfold wipeE; rw [List.length_set, wipeE_length ρ vs]
theorem wipeE_out {ρ : Ev.Env} {i : Nat} : ∀ {vs : List Nat}, i ∉ vs → (wipeE ρ vs)[i]? = ρ[i]?
  | [], _ => rfl
  | v :: vs, h => by
    simp only [List.mem_cons, not_or] at h
    unfold wipeE
    rw [List.getElem?_set_ne (fun e => h.1 e.symm)]
    exact wipeE_out h.2
theorem wipeE_in {ρ : Ev.Env} {i : Nat} : ∀ {vs : List Nat}, i ∈ vs → i < ρ.length → (wipeE ρ vs)[i]? = some none
  | v :: vs, h, hi => by
    unfold wipeE
    by_cases e : v = i
    · subst e
      rw [List.getElem?_set_self (by rw [wipeE_length]; exact hi)]
    · rw [List.getElem?_set_ne e]
      exact wipeE_in ((List.mem_cons.mp h).resolve_left fun z => e z.symm) hi
theorem wipeE_some {ρ : Ev.Env} {i : Nat} {vs : List Nat} {x : SV} (h : (wipeE ρ vs)[i]? = some (some x)) : ρ[i]? = some (some x) ∧ i ∉ vs := by
  by_cases m : i ∈ vs
  · by_cases hi : i < ρ.length
    · rw [wipeE_in m hi] at h; cases h
    · rw [List.getElem?_eq_none (by rw [wipeE_length]; omega)] at h; cases h
  · exact ⟨by rw [wipeE_out m] at h; exact h, m⟩
theorem wipe_in {σ : St} {i : Nat} : ∀ {vs : List Nat}, i ∈ vs → i < σ.length → (wipe σ vs)[i]? = some none
  | v :: vs, h, hi => by
    unfold wipe
    by_cases e : v = i
    · subst e
      rw [List.getElem?_set_self (by rw [wipe_length]; exact hi)]
    · rw [List.getElem?_set_ne e]
      exact wipe_in ((List.mem_cons.mp h).resolve_left fun z => e z.symm) hi
theorem wipe_eq {σ σ' : St} {vs : List Nat} (hl : σ'.length = σ.length) (h : ∀ j, j ∉ vs → σ'[j]? = σ[j]?) : wipe σ' vs = wipe σ vs := by
  apply List.ext_getElem?
  intro j
  by_cases m : j ∈ vs
  · by_cases hj : j < σ.length
    · rw [wipe_in m hj, wipe_in m (by omega)]
    · rw [List.getElem?_eq_none (by rw [wipe_length]; omega), List.getElem?_eq_none (by rw [wipe_length]; omega)]
  · rw [wipe_out m, wipe_out m]; exact h j m
theorem wipe_wipe {σ : St} {vs ws : List Nat} (h : ∀ j ∈ ws, j ∈ vs) : wipe (wipe σ ws) vs = wipe σ vs := wipe_eq (wipe_length _ _) fun j m => wipe_out fun z => m (h j z)
theorem backE_length (ρ ρ' : Ev.Env) : ∀ vs : List Nat, (backE ρ ρ' vs).length = ρ'.length
  | [] => rfl
  | v :: vs => by unfold backE; rw [List.length_set, backE_length ρ ρ' vs]
theorem backE_out {ρ ρ' : Ev.Env} {i : Nat} : ∀ {vs : List Nat}, i ∉ vs → (backE ρ ρ' vs)[i]? = ρ'[i]?
  | [], _ => rfl
  | v :: vs, h => by
    simp only [List.mem_cons, not_or] at h
    unfold backE
    rw [List.getElem?_set_ne (fun e => h.1 e.symm)]
    exact backE_out h.2
theorem backE_in {ρ ρ' : Ev.Env} {i : Nat} : ∀ {vs : List Nat}, i ∈ vs → i < ρ'.length → (backE ρ ρ' vs)[i]? = some ((ρ[i]?).getD none)
  | v :: vs, h, hi => by
    unfold backE
    by_cases e : v = i
    · subst e
      rw [List.getElem?_set_self (by rw [backE_length]; exact hi)]
    · rw [List.getElem?_set_ne e]
      exact backE_in ((List.mem_cons.mp h).resolve_left fun z => e z.symm) hi
section
variable {K : PySem.W.Frag} {T : List (Addr × Str)} {G H G' H' : Hp} {ρ ρ' : Ev.Env} {σ σ' : St} {v : V} {d : D} {i : Nat} {C : EC} {a : Addr} {vs : List Nat}
theorem owned_wipe (h : OwnedA (wipeE ρ vs) (wipe σ vs) a) : ∃ (i : Nat) (d : D), i ∉ vs ∧ ρ[i]? = some (some (SV.ow d)) ∧ σ[i]? = some (some (V.ref a)) := by
  obtain ⟨i, d, h1, h2⟩ := h
  obtain ⟨h1, m⟩ := wipeE_some h1
  exact ⟨i, d, m, h1, (wipe_some h2).1⟩
theorem owned_wiped (h : OwnedA (wipeE ρ vs) (wipe σ vs) a) : OwnedA ρ σ a := by
  obtain ⟨i, d, _, h1, h2⟩ := owned_wipe h
  exact ⟨i, d, h1, h2⟩
/-- fewer slots are known -/
theorem RE.wipe (R : RE K T G H ρ σ) (vs : List Nat) : RE K T G H (wipeE ρ vs) (L2.wipe σ vs) where
  sub := R.sub
  len := by rw [wipe_length, wipeE_length]; exact R.len
  slot := fun i sv h => by
    obtain ⟨h1, m⟩ := wipeE_some h
    obtain ⟨v, e, q⟩ := R.slot i sv h1
    exact ⟨v, by rw [wipe_out m]; exact e, q⟩
  dist := fun i j d e a h1 h2 h3 h4 => R.dist i j d e a (wipeE_some h1).1 (wipeE_some h2).1 (wipe_some h3).1 (wipe_some h4).1
  tabs := R.tabs
/-- a block is over -/
theorem RE.block {G1 H1 : Hp} {ρ1 ρ2 : Ev.Env} (R1 : RE K T G1 H1 ρ1 σ) (R2 : RE K T G' H' ρ2 (L2.wipe σ vs)) (S : Stp (wipeE ρ1 vs) (L2.wipe σ vs) G1 H1 ρ2 G' H') : RE K T G' H' (backE ρ1 ρ2 vs) σ ∧ Stp ρ1 σ G1 H1 (backE ρ1 ρ2 vs) G' H' := by
  have len2 : ρ2.length = ρ1.length := by rw [← R2.len, wipe_length, R1.len]
  -- what a slot of the block's names owned stays
  have hidden : ∀ {j : Nat} {d : D} {a : Addr}, j ∈ vs → ρ1[j]? = some (some (.ow d)) → σ[j]? = some (some (.ref a)) → ¬ OwnedA (wipeE ρ1 vs) (L2.wipe σ vs) a := fun {j d a} m h1 h2 z => by
    obtain ⟨i, e, n, q1, q2⟩ := owned_wipe z
    exact n (R1.dist j i d e a h1 q1 h2 q2 ▸ m)
  have oldG : ∀ {j : Nat} {d : D} {a : Addr}, j ∈ vs → ρ1[j]? = some (some (.ow d)) → σ[j]? = some (some (.ref a)) → G' a = none ∧ ∀ u, H1 a = some u → H' a = some u := fun {j d a} m h1 h2 => by
    have hid := hidden m h1 h2
    have own : OwnedA ρ1 σ a := ⟨j, d, h1, h2⟩
    obtain ⟨u, hu, _, ht⟩ := R1.owned_some own
    refine ⟨?_, fun w e => ?_⟩
    · cases q : G' a with
      | none => rfl
      | some w =>
        rcases S.new a (by rw [q]; simp) with z | z | z
        · exact absurd (R1.ownedA own).1 z
        · exact absurd z hid
        · exact z.abs hu ht
    · rw [hu] at e; cases e
      exact S.frame a u hu hid ht
  have back : ∀ {j : Nat} {sv : SV}, (backE ρ1 ρ2 vs)[j]? = some (some sv) → (j ∈ vs ∧ ρ1[j]? = some (some sv)) ∨ (j ∉ vs ∧ ρ2[j]? = some (some sv)) := fun {j sv} h => by
    by_cases m : j ∈ vs
    · by_cases hj : j < ρ2.length
      · rw [backE_in m hj] at h
        refine .inl ⟨m, ?_⟩
        cases q : ρ1[j]? with
        | none => rw [q] at h; cases h
        | some o => rw [q] at h; cases h; rfl
      · rw [List.getElem?_eq_none (by rw [backE_length]; omega)] at h; cases h
    · rw [backE_out m] at h
      exact .inr ⟨m, h⟩
  have ownB : ∀ a, OwnedA (backE ρ1 ρ2 vs) σ a → OwnedA ρ1 σ a := fun a ⟨j, d, h1, h2⟩ => by
    rcases back h1 with ⟨m, q⟩ | ⟨m, q⟩
    · exact ⟨j, d, q, h2⟩
    · exact owned_wiped (S.own a ⟨j, d, q, by rw [wipe_out m]; exact h2⟩)
  refine ⟨⟨R2.sub, by rw [backE_length, len2]; exact R1.len, fun j sv h => ?_, fun j l d1 d2 a h1 h2 h3 h4 => ?_, R2.tabs⟩, S.gle, fun a o h n t => S.frame a o h (fun z => n (owned_wiped z)) t, fun a h => ?_, ownB, S.keep⟩
  · rcases back h with ⟨m, q⟩ | ⟨m, q⟩
    · obtain ⟨v, e, z⟩ := R1.slot j sv q
      refine ⟨v, e, ?_⟩
      cases sv with
      | fz d => exact Rep.mono S.gle z
      | ow d =>
        obtain ⟨a, rfl, n, o⟩ := z
        obtain ⟨n', k'⟩ := oldG m q e
        exact ⟨a, rfl, n', o.mono S.gle k'⟩
    · obtain ⟨v, e, z⟩ := R2.slot j sv q
      exact ⟨v, by rw [wipe_out m] at e; exact e, z⟩
  · have mix : ∀ {j l : Nat} {d1 d2 : D}, j ∈ vs → ρ1[j]? = some (some (.ow d1)) → l ∉ vs → ρ2[l]? = some (some (.ow d2)) → σ[j]? = some (some (.ref a)) → σ[l]? = some (some (.ref a)) → False := fun {j l d1 d2} m1 q1 m2 q2 e1 e2 =>
      hidden m1 q1 e1 (S.own a ⟨l, d2, q2, by rw [wipe_out m2]; exact e2⟩)
    rcases back h1 with ⟨m1, q1⟩ | ⟨m1, q1⟩ <;> rcases back h2 with ⟨m2, q2⟩ | ⟨m2, q2⟩
    · exact R1.dist j l d1 d2 a q1 q2 h3 h4
    · exact (mix m1 q1 m2 q2 h3 h4).elim
    · exact (mix m2 q2 m1 q1 h4 h3).elim
    · exact R2.dist j l d1 d2 a q1 q2 (by rw [wipe_out m1]; exact h3) (by rw [wipe_out m2]; exact h4)
  · rcases S.new a h with z | z | z
    · exact .inl z
    · exact .inr (.inl (owned_wiped z))
    · exact .inr (.inr z)
end
end Ev

/-! E15: list comprehensions. -/
namespace Ev
open PySem PySem.Spec L2
open PyProof.Rows hiding St

/-- from one state to a later one, whatever the slots: A is what may have been changed -/
structure Stq (A : Addr → Prop) (G0 H0 G H : Hp) : Prop where
  gle : Gle G0 G
  frame : ∀ a o, H0 a = some o → ¬ A a → (∀ ps, o ≠ .tbl ps) → H a = some o
  new : ∀ a, G a ≠ none → G0 a ≠ none ∨ A a ∨ Fr H0 a
  keep : ∀ a, Fr H a → Fr H0 a
section
variable {K : PySem.W.Frag} {T : List (Addr × Str)} {G H G' H' G0 H0 G1 H1 : Hp} {ρ ρ' ρ1 ρ2 : Ev.Env} {σ σ' : St} {v : V} {d : D} {C : EC} {A B : Addr → Prop}
theorem Stq.refl : Stq A G H G H := ⟨Gle.refl _, fun _ _ h _ _ => h, fun _ h => .inl h, fun _ h => h⟩
theorem Stq.of (S : Stp ρ σ G H ρ' G' H') : Stq (OwnedA ρ σ) G H G' H' := ⟨S.gle, S.frame, S.new, S.keep⟩
theorem Stq.step (q : Stq A G0 H0 G H) (S : Stp ρ σ G H ρ' G' H') (o : ∀ a, OwnedA ρ σ a → A a ∨ Fr H0 a) : Stq A G0 H0 G' H' where
  gle := q.gle.trans S.gle
  frame := fun a u h n t => S.frame a u (q.frame a u h n t) (fun z => (o a z).elim n fun e => e.abs h t) t
  new := fun a h => by
    rcases S.new a h with z | z | z
    · exact q.new a z
    · exact .inr (o a z)
    · exact .inr (.inr (q.keep a z))
  keep := fun a h => q.keep a (S.keep a h)
/-- a thing aside stays -/
theorem Stp.aside {L : Addr} {o : HO} (S : Stp ρ σ G H ρ' G' H') (n : G L = none) (no : ¬ OwnedA ρ σ L) (e : H L = some o) (t : ∀ ps, o ≠ .tbl ps) : G' L = none ∧ ¬ OwnedA ρ' σ L ∧ H' L = some o := by
  refine ⟨?_, fun z => no (S.own L z), S.frame L o e no t⟩
  cases q : G' L with
  | none => rfl
  | some u =>
    rcases S.new L (by rw [q]; simp) with z | z | z
    · exact absurd n z
    · exact absurd z no
    · exact z.abs e t

/-- within a comprehension: its new list at L holds acc (turned) -/
structure InLc (K : PySem.W.Frag) (T : List (Addr × Str)) (A : Addr → Prop) (G0 H0 : Hp) (L : Addr) (acc : List D) (G H : Hp) (ρ : Ev.Env) (σ : St) : Prop where
  re : RE K T G H ρ σ
  st : Stq A G0 H0 G H
  own : ∀ a, OwnedA ρ σ a → A a
  lst : ∃ vs, H L = some (.lst vs) ∧ Reps K G vs acc.reverse
  nG : G L = none
  nO : ¬ OwnedA ρ σ L
variable {L : Addr} {acc : List D}
theorem InLc.step (I : InLc K T A G0 H0 L acc G H ρ σ) (R : RE K T G' H' ρ' σ) (S : Stp ρ σ G H ρ' G' H') : InLc K T A G0 H0 L acc G' H' ρ' σ := by
  obtain ⟨vs, e, r⟩ := I.lst
  obtain ⟨n, no, e'⟩ := S.aside I.nG I.nO e (fun _ z => nomatch z)
  exact ⟨R, I.st.step S fun a h => .inl (I.own a h), fun a h => I.own a (S.own a h), ⟨vs, e', r.mono S.gle⟩, n, no⟩
theorem InLc.set {vs : List Nat} (I : InLc K T A G0 H0 L acc G H ρ σ) (S : SetS K T C vs G H ρ σ ρ' σ') : InLc K T A G0 H0 L acc G H ρ' σ' :=
  ⟨S.re, I.st, fun a h => I.own a (S.own a h), I.lst, I.nG, fun h => I.nO (S.own L h)⟩
theorem InLc.wipe (I : InLc K T A G0 H0 L acc G H ρ σ) (vs : List Nat) : InLc K T A G0 H0 L acc G H (wipeE ρ vs) (L2.wipe σ vs) :=
  ⟨I.re.wipe vs, I.st, fun a h => I.own a (owned_wiped h), I.lst, I.nG, fun h => I.nO (owned_wiped h)⟩
/-- the new list's address is none of those that may be changed, nor was there -/
theorem InLc.app {y : V} {x : D} (I : InLc K T A G0 H0 L acc G H ρ σ) (n0 : H0 L = none) (r : Rep K G y x) {vs : List V} (e : H L = some (.lst vs)) : InLc K T A G0 H0 L (x :: acc) G (upd H L (.lst (vs ++ [y]))) ρ σ := by
  obtain ⟨ws, e', rr⟩ := I.lst
  rw [e] at e'; cases e'
  have ne : ∀ a o, H0 a = some o → a ≠ L := fun a o h z => by rw [z, n0] at h; cases h
  refine ⟨I.re.at_p I.nG I.nO e rfl, ⟨I.st.gle, fun a o h n t => ?_, I.st.new, fun a h => ?_⟩, I.own, ⟨_, upd_same, ?_⟩, I.nG, I.nO⟩
  · rw [upd_ne (ne a o h)]; exact I.st.frame a o h n t
  · by_cases ha : a = L
    · subst ha; exact .no n0
    · exact I.st.keep a fun o q => h o (by rw [upd_ne ha]; exact q)
  · rw [List.reverse_cons]
    exact rr.append (.cons r .nil)
theorem InLc.len (I : InLc K T A G0 H0 L acc G H ρ σ) {vs : List V} (e : H L = some (.lst vs)) : vs.length = acc.length := by
  obtain ⟨ws, e', rr⟩ := I.lst
  rw [e] at e'; cases e'
  rw [rr.length, List.length_reverse]
/-- what a walk gives at a turn -/
theorem walk_turn {J : It} {l : List D} {i : Nat} {G2 : Hp} (w : WalkOk K J G2 l) (g : Gle G2 G) (R : RE K T G H ρ σ) (hi : i < l.length) (y : J.yld i H v H') :
    ∃ G', RE K T G' H' ρ σ ∧ Stp ρ σ G H ρ G' H' ∧ Rep K G' v l[i] := by
  obtain ⟨d, e, h⟩ := w.yields i H v H' hi (Sub.of_gle g R.sub) y
  have ed : l[i] = d := by rw [List.getElem?_eq_getElem hi] at e; exact Option.some.inj e
  rw [ed]
  rcases h with ⟨rfl, r⟩ | ⟨T', vs, ds, rfl, n, rfl, r, rfl⟩
  · exact ⟨G, R, Stp.refl, r.mono g⟩
  · obtain ⟨R1, S1, r1⟩ := new_tup R n (r.mono g)
    exact ⟨_, R1, S1, r1⟩
theorem postG_ok {α β : Type} {cA : Nat → Addr} {W : WX} {o : Out α} {a : α} {Rf : Hp → Hp → Ev.Env → β → α → Prop} {Q : β → Hp → Prop} (e : o = .ok a ρ') (h : ∀ y H' G', RE K T G' H' ρ' σ → Stp ρ σ G H ρ' G' H' → Rf G' H' ρ' y a → Q y H') : PostG K T cA W σ ρ G H o Rf Q := by
  subst e; exact h
theorem bind_ok {α β : Type} {o : Out α} {f : α → Ev.Env → Out β} {b : β} (h : o.bind f = .ok b ρ2) : ∃ a ρ1, o = .ok a ρ1 ∧ f a ρ1 = .ok b ρ2 := by
  cases o with
  | ok a ρ1 => exact ⟨a, ρ1, rfl, h⟩
  | ex x ρ1 => cases h
  | no => cases h
end

section
variable {X : Cx} {g : GC} {C : EC} {W : WX} {N : List Str} {sc : Scope} {k : Nat}
abbrev cnd (C : EC) (m : ME) : Ev.Env → Out Bool := fun ρ => (ev C m ρ).bind asB
abbrev elf (C : EC) (m : ME) : Ev.Env → Out D := fun ρ => (ev C m ρ).bind (frz C)
theorem tEv_ok {K : PySem.W.Frag} {m : ME} {σ : St} {H G : Hp} {ρ ρ' : Ev.Env} {d : D} {Q : VK} (R : RE K g.T G H ρ σ) (e : elf C m ρ = .ok d ρ') (h : ∀ y H' G', RE K g.T G' H' ρ' σ → Stp ρ σ G H ρ' G' H' → Rep K G' y d → Q y H') : tEv K g C W m σ H Q :=
  ⟨G, ρ, R, (postG_ok (Rf := fun G' _ _ v d => Rep K G' v d) e h).frz⟩
theorem tEvB_ok {K : PySem.W.Frag} {m : ME} {σ : St} {H G : Hp} {ρ ρ' : Ev.Env} {d : Bool} {Q : Bool → Hp → Prop} (R : RE K g.T G H ρ σ) (e : cnd C m ρ = .ok d ρ') (h : ∀ H' G', RE K g.T G' H' ρ' σ → Stp ρ σ G H ρ' G' H' → Q d H') : tEvB K g C W m σ H Q :=
  ⟨G, ρ, R, postG_ok e fun y H' G' R S ey => by rw [ey]; exact h H' G' R S⟩
theorem comp_ev (elt : ME) (tg : Tgt) (ik : IK) (its : MEs) (cond : ME) (own : List Nat) (ρ : Ev.Env) : ev C (.comp elt tg ik its cond own) ρ =
    (itO C ik its ρ).bind fun l ρ1 => (noEx (compLoop C own tg (cnd C cond) (elf C elt) l (wipeE ρ1 own) [])).bind fun r ρ2 => .ok (.fr (.lst r)) (backE ρ1 ρ2 own) := by
  simp only [ev, itO]
  cases evs C its ρ with
  | ok ds ρ1 => simp only [Out.bind]; cases walkOf ik ds <;> rfl
  | ex x ρ1 => rfl
  | no => rfl
/-- the tests of a clause: none, or one -/
inductive IfsOk (K : PySem.W.Frag) (g : GC) (C : EC) (W : WX) (P : (List Expr → TT → Prop)) : List Expr → ME → Prop where
  | nil : P [] tYes → IfsOk K g C W P [] (.cst (.bl true))
  | one {c : Expr} {m : ME} : P [c] (tEvB K g C W m) → IfsOk K g C W P [c] m
theorem yes_TE {K : PySem.W.Frag} {σ : St} {H : Hp} {Q : Bool → Hp → Prop} (h : tEvB K g C W (.cst (.bl true)) σ H Q) : tYes σ H Q := by
  obtain ⟨G, ρ, R, h⟩ := h
  simp only [ev, Out.bind, asB] at h
  exact h.here R rfl
theorem _root_.L2.PTs.imp {ifs : List Expr} {t t' : TT} (h : PTs X ifs t) (i : ∀ σ H Q, t' σ H Q → t σ H Q) : PTs X ifs t' := ⟨fun pins s σ H Q I q => h.run pins s σ H Q I (i σ H Q q)⟩
theorem pts_nilE : PTs X [] (tEvB X.K g C W (.cst (.bl true))) := pts_nil.imp fun _ _ _ => yes_TE
/-- a comprehension's outcome is no exception -/
theorem noEx_bind {α β : Type} {o : Out α} {f : α → Ev.Env → Out β} {K : PySem.W.Frag} {T : List (Addr × Str)} {cA : Nat → Addr} {σ : St} {ρ : Ev.Env} {G H : Hp} {γ : Type} {Rf : Hp → Hp → Ev.Env → γ → β → Prop} {Q : γ → Hp → Prop}
    (h : PostG K T cA W σ ρ G H ((noEx o).bind f) Rf Q) : ∃ a ρ1, o = .ok a ρ1 ∧ PostG K T cA W σ ρ G H (f a ρ1) Rf Q := by
  cases o with
  | ok a ρ1 => exact ⟨a, ρ1, rfl, h⟩
  | ex x ρ1 => exact h.elim
  | no => exact h.elim
def noW : WX := fun _ _ _ _ => False
/-- the end of a comprehension -/
theorem lc_done {K : PySem.W.Frag} {σ : St} {ρ1 ρ2 : Ev.Env} {G1 H1 G2 H2 H : Hp} {L : Addr} {own : List Nat} {r : List D} {Q : VK} (R1 : RE K g.T G1 H1 ρ1 σ) (n : H1 L = none) (hH : ∀ a, Fr H1 a → Fr H a)
    (I : InLc K g.T (OwnedA (wipeE ρ1 own) (wipe σ own)) G1 H1 L r.reverse G2 H2 ρ2 (wipe σ own)) (h : PostG K g.T g.cA W σ ρ1 G1 H1 (.ok (.fr (.lst r)) (backE ρ1 ρ2 own)) (RV K σ H) Q) : Q (.ref L) H2 := by
  obtain ⟨R2, S2⟩ := R1.block I.re ⟨I.st.gle, I.st.frame, I.st.new, I.own, I.st.keep⟩
  obtain ⟨vs, e, rr⟩ := I.lst
  refine h _ H2 G2 R2 S2 ⟨L, rfl, hH L (.no n), I.nG, fun z => ?_, vs, e, by rw [List.reverse_reverse] at rr; exact rr⟩
  obtain ⟨u, e, _⟩ := R1.owned_some (S2.own L z)
  rw [n] at e; cases e
/-- .. and its start -/
theorem lc_start {K : PySem.W.Frag} {σ : St} {ρ1 : Ev.Env} {G1 H1 : Hp} {L : Addr} {own : List Nat} (R1 : RE K g.T G1 H1 ρ1 σ) (n : H1 L = none) :
    InLc K g.T (OwnedA (wipeE ρ1 own) (wipe σ own)) G1 H1 L [] G1 (upd H1 L (.lst [])) (wipeE ρ1 own) (wipe σ own) := by
  have kp := upd_keeps (H := H1) (p := L) (o := .lst []) n
  have R2 := (R1.ext kp).wipe own
  refine ⟨R2, ⟨Gle.refl _, fun a o h _ _ => kp a o h, fun a h => .inl h, fun a h => keeps_ne kp a h⟩, fun a h => h, ⟨[], upd_same, .nil⟩, RE.sub_none R1.sub n, fun z => ?_⟩
  obtain ⟨u, e, _⟩ := R1.owned_some (owned_wiped z)
  rw [n] at e; cases e
theorem comp_TE {elt cond : ME} {tg : Tgt} {ik : IK} {its : MEs} {own : List Nat} {K : PySem.W.Frag} {σ : St} {H : Hp} {Q : VK} (ht : ∀ i ∈ tgVars tg, i ∈ own) (h : tEv K g C W (.comp elt tg ik its cond own) σ H Q) :
    tLc (tIt K g C W ik its) (gTg K tg) (tEvB K g C noW cond) (tEv K g C noW elt) own σ H Q := by
  obtain ⟨G, ρ, R0, h⟩ := h
  rw [comp_ev] at h
  refine ⟨G, ρ, R0, (PostG.bind (fun G' _ _ J l => WalkOk K J G' l ∧ l.length ≤ szL) h).imp fun J H1 ⟨G1, ρ1, l, R1, S1, ⟨w, hl⟩, h1⟩ => ?_⟩
  intro L hL
  obtain ⟨r, ρ2, e0, h2⟩ := noEx_bind h1
  refine ⟨fun i m H' => m = l.length - i ∧ i ≤ l.length ∧ ∃ G' ρ' acc, InLc K g.T (OwnedA (wipeE ρ1 own) (wipe σ own)) G1 H1 L acc G' H' ρ' (wipe σ own) ∧ acc.length ≤ i ∧ compLoop C own tg (cnd C cond) (elf C elt) (l.drop i) ρ' acc = .ok r ρ2, ⟨l.length, rfl, Nat.zero_le _, G1, _, [], lc_start R1 hL, Nat.le_refl _, e0⟩, ?_⟩
  rintro i m H2 ⟨rfl, hi, G2, ρ', acc, I, ha, e⟩
  by_cases hlt : i < l.length
  · have ed : l.drop i = l[i] :: l.drop (i + 1) := List.drop_eq_getElem_cons hlt
    rw [ed] at e
    simp only [compLoop] at e
    refine .inr ⟨w.goes i H2 hlt (Sub.of_gle I.st.gle I.re.sub), _, fun H' p => ⟨l.length - (i + 1), by omega, rfl, hlt, p⟩, fun x H' y => ?_⟩
    obtain ⟨G3, R3, S3, r3⟩ := walk_turn w I.st.gle I.re hlt y
    have I3 := I.step R3 S3
    cases es : setT C tg l[i] ρ' with
    | none => rw [es] at e; cases e
    | some ρ4 =>
      rw [es] at e
      dsimp only at e
      refine setT_ok R3 r3 es fun σ4 S4 => ?_
      have I4 := I3.set S4
      have hw : wipe σ4 own = wipe σ own := by
        rw [← wipe_wipe (σ := σ) (vs := own) (ws := own) (fun _ h => h)]
        exact wipe_eq S4.len fun j m => (S4.out j fun z => m (ht j z)).1
      refine ⟨hw, ?_⟩
      obtain ⟨b, ρ5, e5, e⟩ := bind_ok e
      refine tEvB_ok I4.re e5 fun H5 G5 R5 S5 => ?_
      have I5 := I4.step R5 S5
      cases b with
      | false =>
        rw [if_neg Bool.false_ne_true] at e ⊢
        exact ⟨G5, _, acc, hw ▸ I5.wipe own, Nat.le_succ_of_le ha, e⟩
      | true =>
        rw [if_pos rfl] at e ⊢
        obtain ⟨d6, ρ6, e6, e⟩ := bind_ok e
        refine tEv_ok I5.re e6 fun y6 H6 G6 R6 S6 r6 => ?_
        have I6 := I5.step R6 S6
        obtain ⟨vs, ev, _⟩ := I6.lst
        refine ⟨vs, ev, by rw [I6.len ev, sizeLine_eq]; have : szL = 16777216 := rfl; omega, G6, _, d6 :: acc, hw ▸ (I6.app hL r6 ev).wipe own, Nat.succ_le_succ ha, e⟩
  · have e1 : i = l.length := by omega
    subst e1
    rw [List.drop_length] at e
    simp only [compLoop] at e
    cases e
    refine .inl ⟨w.stops H2 (Sub.of_gle I.st.gle I.re.sub), lc_done R1 hL (fun a h => S1.keep a h) (by rw [List.reverse_reverse]; exact I) h2⟩
theorem pe_compE {elt tgE iter : Expr} {ifs : List Expr} {scope : Scope} {own : List (Str × Nat)} {pos : Pos} {melt mcond : ME} {tg : Tgt} {ik : IK} {its : MEs} (cx : CxOk X N sc k) (hi : PI X tgE iter (tIt X.K g C W ik its)) (ok : BlkOk N sc scope own) (ht : ∀ i ∈ tgVars tg, i ∈ own.map (·.2))
    (hg : ∀ (s : Shared) (H : Hp) (C : Addr) (cl : List (Str × Addr)) (fp : List Addr), PG (X.blk s H scope (compEnvC scope cl C X.env) fp) tgE (gTg X.K tg))
    (hc : ∀ (s : Shared) (H : Hp) (A : Addr) (cl : List (Str × Addr)) (fp : List Addr), PTs (X.blk s H scope (compEnvC scope cl A X.env) fp) ifs (tEvB X.K g C noW mcond))
    (he : ∀ (s : Shared) (H : Hp) (A : Addr) (cl : List (Str × Addr)) (fp : List Addr), PE (X.blk s H scope (compEnvC scope cl A X.env) fp) elt (tEv X.K g C noW melt)) (hs : ∀ x, foldedSetIterable iter X.env x = pure x) :
    PE X (.ListComp elt [⟨tgE, iter, ifs, 0⟩] scope pos) (tEv X.K g C W (.comp melt tg ik its mcond (own.map (·.2)))) := by
  refine (pe_lc cx.calm (by rw [cx.nm]; exact cx.nd) hi (by rw [cx.nm, cx.sc]; exact ok) hg hc he hs).imp fun σ H Q h => ?_
  exact comp_TE ht h
end
end Ev

/-! E16: list comprehensions with two fors. -/
namespace Ev
open PySem PySem.Spec L2
open PyProof.Rows hiding St
section
variable {X : Cx} {g : GC} {C : EC} {W : WX} {N : List Str} {sc : Scope} {k : Nat}
abbrev innF (C : EC) (tg2 : Tgt) (ik2 : IK) (its2 : MEs) (cond2 elt : ME) : Ev.Env → List D → Out (List D) := fun ρ acc =>
  (itO C ik2 its2 ρ).bind fun l2 ρ2 => compIn C tg2 (cnd C cond2) (elf C elt) l2 (wipeE ρ2 (tgVars tg2)) acc
theorem comp2_ev (elt : ME) (tg : Tgt) (ik : IK) (its : MEs) (cond : ME) (tg2 : Tgt) (ik2 : IK) (its2 : MEs) (cond2 : ME) (own : List Nat) (ρ : Ev.Env) : ev C (.comp2 elt tg ik its cond tg2 ik2 its2 cond2 own) ρ =
    (itO C ik its ρ).bind fun l ρ1 => (noEx (compOut C own tg (cnd C cond) (innF C tg2 ik2 its2 cond2 elt) l (wipeE ρ1 own) [])).bind fun r ρ2 => .ok (.fr (.lst r)) (backE ρ1 ρ2 own) := by
  have e : (fun (ρ : Ev.Env) (acc : List D) => (evs C its2 ρ).bind fun ds2 ρ2 => match walkOf ik2 ds2 with
      | some l2 => compIn C tg2 (fun ρ => (ev C cond2 ρ).bind asB) (fun ρ => (ev C elt ρ).bind (frz C)) l2 (wipeE ρ2 (tgVars tg2)) acc
      | none => .no) = innF C tg2 ik2 its2 cond2 elt := by
    funext ρ acc
    simp only [innF, itO]
    cases evs C its2 ρ with
    | ok ds ρ1 => simp only [Out.bind]; cases walkOf ik2 ds <;> rfl
    | ex x ρ1 => rfl
    | no => rfl
  simp only [ev]
  unfold itO
  cases evs C its ρ with
  | ok ds ρ1 =>
    simp only [Out.bind]
    cases walkOf ik ds with
    | none => rfl
    | some l => exact congrArg (fun f => (noEx (compOut C own tg (cnd C cond) f l (wipeE ρ1 own) [])).bind fun r ρ2 => (.ok (.fr (.lst r)) (backE ρ1 ρ2 own) : Out VR)) e
  | ex x ρ1 => rfl
  | no => rfl
theorem tIt_ok {K : PySem.W.Frag} {ik : IK} {ms : MEs} {σ : St} {H G : Hp} {ρ ρ' : Ev.Env} {l : List D} {R : It → Hp → Prop} (R0 : RE K g.T G H ρ σ) (e : itO C ik ms ρ = .ok l ρ')
    (h : ∀ J H' G', RE K g.T G' H' ρ' σ → Stp ρ σ G H ρ' G' H' → WalkOk K J G' l → R J H') : tIt K g C W ik ms σ H R :=
  ⟨G, ρ, R0, postG_ok e fun y H' G' R S w => h y H' G' R S w.1⟩
theorem comp2_TE {elt cond cond2 : ME} {tg tg2 : Tgt} {ik ik2 : IK} {its its2 : MEs} {own : List Nat} {K : PySem.W.Frag} {σ : St} {H : Hp} {Q : VK} (ht : ∀ i ∈ tgVars tg, i ∈ own) (ht2 : ∀ i ∈ tgVars tg2, i ∈ own)
    (h : tEv K g C W (.comp2 elt tg ik its cond tg2 ik2 its2 cond2 own) σ H Q) :
    tLc2 (tIt K g C W ik its) (gTg K tg) (tEvB K g C noW cond) (tIt K g C noW ik2 its2) (gTg K tg2) (tEvB K g C noW cond2) (tEv K g C noW elt) own (tgVars tg2) σ H Q := by
  obtain ⟨G, ρ, R0, h⟩ := h
  rw [comp2_ev] at h
  refine ⟨G, ρ, R0, (PostG.bind (fun G' _ _ J l => WalkOk K J G' l ∧ l.length ≤ szL) h).imp fun J H1 ⟨G1, ρ1, l, R1, S1, ⟨w, hl⟩, h1⟩ => ?_⟩
  intro L hL
  obtain ⟨r, ρ2, e0, h2⟩ := noEx_bind h1
  refine ⟨fun i m H' => m = l.length - i ∧ i ≤ l.length ∧ ∃ G' ρ' acc, InLc K g.T (OwnedA (wipeE ρ1 own) (wipe σ own)) G1 H1 L acc G' H' ρ' (wipe σ own) ∧ compOut C own tg (cnd C cond) (innF C tg2 ik2 its2 cond2 elt) (l.drop i) ρ' acc = .ok r ρ2, ⟨l.length, rfl, Nat.zero_le _, G1, _, [], lc_start R1 hL, e0⟩, ?_⟩
  rintro i m H2 ⟨rfl, hi, G2, ρ', acc, I, e⟩
  by_cases hlt : i < l.length
  · have ed : l.drop i = l[i] :: l.drop (i + 1) := List.drop_eq_getElem_cons hlt
    rw [ed] at e
    simp only [compOut] at e
    refine .inr ⟨w.goes i H2 hlt (Sub.of_gle I.st.gle I.re.sub), _, fun H' p => ⟨l.length - (i + 1), by omega, rfl, hlt, p⟩, fun x H' y => ?_⟩
    obtain ⟨G3, R3, S3, r3⟩ := walk_turn w I.st.gle I.re hlt y
    have I3 := I.step R3 S3
    cases es : setT C tg l[i] ρ' with
    | none => rw [es] at e; cases e
    | some ρ4 =>
      rw [es] at e
      dsimp only at e
      refine setT_ok R3 r3 es fun σ4 S4 => ?_
      have I4 := I3.set S4
      have hw : wipe σ4 own = wipe σ own := by
        rw [← wipe_wipe (σ := σ) (vs := own) (ws := own) (fun _ h => h)]
        exact wipe_eq S4.len fun j m => (S4.out j fun z => m (ht j z)).1
      refine ⟨hw, ?_⟩
      obtain ⟨b, ρ5, e5, e⟩ := bind_ok e
      refine tEvB_ok I4.re e5 fun H5 G5 R5 S5 => ?_
      have I5 := I4.step R5 S5
      cases b with
      | false =>
        rw [if_neg Bool.false_ne_true] at e ⊢
        exact ⟨G5, _, acc, hw ▸ I5.wipe own, e⟩
      | true =>
        rw [if_pos rfl] at e ⊢
        obtain ⟨acc', ρ6, e6, e⟩ := bind_ok e
        obtain ⟨l2, ρ7, e7, e6⟩ := bind_ok e6
        refine tIt_ok I5.re e7 fun J2 H7 G7 R7 S7 w7 => ?_
        have I7 := I5.step R7 S7
        -- the inner loop
        have hw2 : ∀ {τ : St}, wipe τ (tgVars tg2) = wipe σ4 (tgVars tg2) → wipe (wipe τ (tgVars tg2)) own = wipe σ own := fun {τ} q => by
          rw [q, wipe_wipe ht2, hw]
        refine ⟨fun j m H' => m = l2.length - j ∧ j ≤ l2.length ∧ ∃ G' ρ' a2, InLc K g.T (OwnedA (wipeE ρ1 own) (wipe σ own)) G1 H1 L a2 G' H' ρ' (wipe σ4 (tgVars tg2)) ∧ Gle G7 G' ∧ compIn C tg2 (cnd C cond2) (elf C elt) (l2.drop j) ρ' a2 = .ok acc' ρ6,
          ⟨l2.length, rfl, Nat.zero_le _, G7, _, acc, I7.wipe _, Gle.refl _, e6⟩, ?_⟩
        rintro j m2 H8 ⟨rfl, hj, G8, ρ8, a2, I8, g8, e8⟩
        by_cases hlt2 : j < l2.length
        · have ed2 : l2.drop j = l2[j] :: l2.drop (j + 1) := List.drop_eq_getElem_cons hlt2
          rw [ed2] at e8
          simp only [compIn] at e8
          refine .inr ⟨w7.goes j H8 hlt2 (Sub.of_gle g8 I8.re.sub), _, fun H' p => ⟨l2.length - (j + 1), by omega, rfl, hlt2, p⟩, fun x H' y => ?_⟩
          obtain ⟨G9, R9, S9, r9⟩ := walk_turn w7 g8 I8.re hlt2 y
          have I9 := I8.step R9 S9
          cases es2 : setT C tg2 l2[j] ρ8 with
          | none => rw [es2] at e8; cases e8
          | some ρ10 =>
            rw [es2] at e8
            dsimp only at e8
            refine setT_ok R9 r9 es2 fun σ10 S10 => ?_
            have I10 := I9.set S10
            have hw10 : wipe σ10 (tgVars tg2) = wipe (wipe σ4 (tgVars tg2)) (tgVars tg2) := wipe_eq S10.len fun j m => (S10.out j m).1
            have hw10' : wipe σ10 (tgVars tg2) = wipe σ4 (tgVars tg2) := by rw [hw10, wipe_wipe fun _ h => h]
            refine ⟨hw10', ?_⟩
            obtain ⟨b2, ρ11, e11, e8⟩ := bind_ok e8
            refine tEvB_ok I10.re e11 fun H11 G11 R11 S11 => ?_
            have I11 := I10.step R11 S11
            have g11 : Gle G7 G11 := (g8.trans S9.gle).trans S11.gle
            cases b2 with
            | false =>
              rw [if_neg Bool.false_ne_true] at e8 ⊢
              exact ⟨G11, _, a2, hw10' ▸ I11.wipe (tgVars tg2), g11, e8⟩
            | true =>
              rw [if_pos rfl] at e8 ⊢
              split at e8
              · rename_i hz
                obtain ⟨d12, ρ12, e12, e8⟩ := bind_ok e8
                refine tEv_ok I11.re e12 fun y12 H12 G12 R12 S12 r12 => ?_
                have I12 := I11.step R12 S12
                obtain ⟨vs, ev, _⟩ := I12.lst
                refine ⟨vs, ev, by rw [I12.len ev, sizeLine_eq]; exact Nat.blt_eq.mp hz, G12, _, d12 :: a2, hw10' ▸ (I12.app hL r12 ev).wipe (tgVars tg2), g11.trans S12.gle, e8⟩
              · cases e8
        · have e1 : j = l2.length := by omega
          subst e1
          rw [List.drop_length] at e8
          simp only [compIn] at e8
          cases e8
          refine .inl ⟨w7.stops H8 (Sub.of_gle g8 I8.re.sub), G8, _, acc', ?_, e⟩
          have := I8.wipe own
          rw [hw2 rfl] at this
          exact this
  · have e1 : i = l.length := by omega
    subst e1
    rw [List.drop_length] at e
    simp only [compOut] at e
    cases e
    refine .inl ⟨w.stops H2 (Sub.of_gle I.st.gle I.re.sub), lc_done R1 hL (fun a h => S1.keep a h) (by rw [List.reverse_reverse]; exact I) h2⟩
theorem pe_comp2E {elt tgE iter tgE2 iter2 : Expr} {ifs ifs2 : List Expr} {scope : Scope} {own : List (Str × Nat)} {pos : Pos} {melt mcond mcond2 : ME} {tg tg2 : Tgt} {ik ik2 : IK} {its its2 : MEs} (cx : CxOk X N sc k) (hi : PI X tgE iter (tIt X.K g C W ik its)) (ok : BlkOk N sc scope own)
    (ht : ∀ i ∈ tgVars tg, i ∈ own.map (·.2)) (ht2 : ∀ i ∈ tgVars tg2, i ∈ own.map (·.2))
    (hg : ∀ (s : Shared) (H : Hp) (C : Addr) (cl : List (Str × Addr)) (fp : List Addr), PG (X.blk s H scope (compEnvC scope cl C X.env) fp) tgE (gTg X.K tg))
    (hc : ∀ (s : Shared) (H : Hp) (A : Addr) (cl : List (Str × Addr)) (fp : List Addr), PTs (X.blk s H scope (compEnvC scope cl A X.env) fp) ifs (tEvB X.K g C noW mcond))
    (hi2 : ∀ (s : Shared) (H : Hp) (A : Addr) (cl : List (Str × Addr)) (fp : List Addr), PI (X.blk s H scope (compEnvC scope cl A X.env) fp) tgE2 iter2 (tIt X.K g C noW ik2 its2))
    (hg2 : ∀ (s : Shared) (H : Hp) (C : Addr) (cl : List (Str × Addr)) (fp : List Addr), PG (X.blk s H scope (compEnvC scope cl C X.env) fp) tgE2 (gTg X.K tg2))
    (hc2 : ∀ (s : Shared) (H : Hp) (A : Addr) (cl : List (Str × Addr)) (fp : List Addr), PTs (X.blk s H scope (compEnvC scope cl A X.env) fp) ifs2 (tEvB X.K g C noW mcond2))
    (he : ∀ (s : Shared) (H : Hp) (A : Addr) (cl : List (Str × Addr)) (fp : List Addr), PE (X.blk s H scope (compEnvC scope cl A X.env) fp) elt (tEv X.K g C noW melt))
    (hs : ∀ x, foldedSetIterable iter X.env x = pure x) (hs2 : ∀ env x, foldedSetIterable iter2 env x = pure x) :
    PE X (.ListComp elt [⟨tgE, iter, ifs, 0⟩, ⟨tgE2, iter2, ifs2, 0⟩] scope pos) (tEv X.K g C W (.comp2 melt tg ik its mcond tg2 ik2 its2 mcond2 (own.map (·.2)))) := by
  refine (pe_lc2 (vs1 := tgVars tg2) cx.calm (by rw [cx.nm]; exact cx.nd) hi (by rw [cx.nm, cx.sc]; exact ok) ht2 hg hc hi2 hg2 hc2 he hs hs2).imp fun σ H Q h => ?_
  exact comp2_TE ht ht2 h
end
end Ev

/-! E17: is this tree the text's? One step of the look, and that it is sound. -/
namespace Ev
open PySem PySem.Spec L2
open PyProof.Rows hiding St

/-- where a text stands: its slots, names, scope, what may be assigned -/
structure CC where
  N : List Str
  nt : NT
  sc : Scope
  as : List Str
  lam : Bool
def glB (cc : CC) (x : Str) : Bool := decide (cc.sc.names.lookup x = some .globalImplicit)
def visB (cc : CC) (x : Str) : Bool := decide (cc.sc.names.lookup x = some .local) || decide (cc.sc.names.lookup x = some .cell) || decide (cc.sc.names.lookup x = some .free)
def okN (x : Str) : Bool := !(x == ("__debug__" : Str)) && !(x == ("__classdict__" : Str))
def cstB : D → Const → Bool
  | .non, .none => true
  | .bl a, .bool b => a == b
  | .int i, .int j => decide (i = j)
  | .str s, .str x => decide (mkS s = x) && s.all (fun c => Nat.blt c 0x110000) && Nat.ble s.length szL
  | _, _ => false
def slotB (cc : CC) (i : Nat) (x : Str) : Bool := decide (cc.N[i]? = some x) && visB cc x && okN x
def blN (cc : CC) (x y : Str) : Bool := decide (x = y) && glB cc x
def notSlice : Expr → Bool
  | .Slice .. => false
  | _ => true
def bfS : BF → Str
  | .len => "len" | .abs => "abs" | .int => "int" | .bool => "bool" | .str => "str" | .max1 => "max" | .min2 => "min" | .sum => "sum" | .all => "all" | .any => "any"
  | .sorted => "sorted" | .sortset => "sorted" | .lenset => "len" | .list => "list" | .tuple => "tuple" | .dict => "dict" | .emptyset => "set"
def bfB : BF → Bool
  | .len => true | .abs => true | .int => true | .bool => true | .str => true | .max1 => true | .min2 => true | .sum => true | .all => true | .any => true | .sorted => true | .list => true | .tuple => true
  | _ => false
def mfB (m : MF) (name : Str) : Bool := match m with
  | .join => decide (name = "join")
  | .find => decide (name = "find")
  | .startswith => decide (name = "startswith")
  | _ => false
def g2B : MF → Bool
  | .get2 => true
  | _ => false
def seqB : Expr → Bool
  | .Set .. => false
  | _ => true

section
variable (rec : CC → Expr → ME → Bool)
def stepL (cc : CC) : List Expr → MEs → Bool
  | [], .nil => true
  | e :: es, .cons m ms => plainE e && rec cc e m && stepL cc es ms
  | _, _ => false
def nameB (cc : CC) (i : Nat) : Expr → Bool
  | .Name x _ => decide (cc.N[i]? = some x) && cc.as.contains x
  | _ => false
def namesB (cc : CC) : List Nat → List Expr → Bool
  | [], [] => true
  | i :: is, e :: es => nameB cc i e && namesB cc is es
  | _, _ => false
def tgB (cc : CC) (t : Tgt) (e : Expr) : Bool := match t with
  | .nm i => nameB cc i e
  | .tp is => match e with
    | .Tuple es _ _ => namesB cc is es
    | _ => false
  | .tp2 i is => match e with
    | .Tuple [e, .Tuple es _ _] _ _ => nameB cc i e && namesB cc is es
    | _ => false
/-- the target is a tuple of names -/
def isTupT : Expr → Bool
  | .Tuple .. => true
  | _ => false
/-- a walk's source -/
def stepI (cc : CC) (tg : Expr) (k : IK) (e : Expr) (ms : MEs) : Bool := match k with
  | .val => match ms with
    | .cons m .nil => seqB e && plainE e && rec cc e m
    | _ => false
  | .range1 => match e with
    | .Call (.Name x _) [a] [] _ => blN cc x "range" && stepL rec cc [a] ms
    | _ => false
  | .range2 => match e with
    | .Call (.Name x _) [a, b] [] _ => blN cc x "range" && stepL rec cc [a, b] ms
    | _ => false
  | .range3 => match e with
    | .Call (.Name x _) [a, b, c] [] _ => blN cc x "range" && stepL rec cc [a, b, c] ms
    | _ => false
  | .enum => match e with
    | .Call (.Name x _) [a] [] _ => blN cc x "enumerate" && isTupT tg && stepL rec cc [a] ms
    | _ => false
  | .zip => match e with
    | .Call (.Name x _) [a, b] [] _ => blN cc x "zip" && isTupT tg && stepL rec cc [a, b] ms
    | _ => false
def blkCC (cc : CC) (scope : Scope) (own : List Nat) : CC := ⟨cc.N, cc.nt, relS scope cc.sc, own.filterMap fun i => cc.N[i]?, false⟩
/-- within a lambda -/
def lamCC (cc : CC) (scope : Scope) : CC := ⟨cc.N, cc.nt, scope, [], false⟩
def noPar : Arguments → Bool
  | { posonlyargs := [], args := [], vararg := none, kwonlyargs := [], kw_defaults := [], kwarg := none, defaults := [] } => true
  | _ => false
def ownP (cc : CC) (own : List Nat) : List (Str × Nat) := own.map fun i => ((cc.N[i]?).getD default, i)
def ownB (cc : CC) (scope : Scope) (own : List Nat) : Bool := blkC cc.N cc.sc scope (ownP cc own) && own.all fun i => match cc.N[i]? with
  | some x => decide (scope.names.lookup x = some .local) || decide (scope.names.lookup x = some .cell)
  | none => false
def ifsB (cc : CC) : List Expr → ME → Bool
  | [], .cst (.bl true) => true
  | [c], m => nif c && rec cc c m
  | _, _ => false
/-- sorted(set(a)) -/
def ssB (cc : CC) (e : Expr) (b : BF) (as : MEs) : Bool := match b, as, e with
  | .sortset, .cons m .nil, .Call (.Name x _) [.Call (.Name y _) [a] [] _] [] _ => blN cc x "sorted" && blN cc y "set" && plainE a && rec cc a m
  | _, _, _ => false
def stepE (cc : CC) (e : Expr) (m : ME) : Bool := match m with
  | .cst d => match e with
    | .Constant c _ _ => cstB d c
    | _ => false
  | .glo id => match e with
    | .Name x _ => glB cc x && decide (cc.nt.gl.lookup x = some id) && okN x
    | _ => false
  | .var i => match e with
    | .Name x _ => slotB cc i x
    | _ => false
  | .bin o a b => match e with
    | .BinOp x op y _ => decide (opB o = op) && rec cc x a && rec cc y b
    | _ => false
  | .neg a => match e with
    | .UnaryOp .USub x _ => rec cc x a
    | _ => false
  | .cmp o a b => match e with
    | .Compare x [op] [y] _ => decide (opC o = op) && rec cc x a && rec cc y b && plainE y
    | _ => false
  | .isn a => match e with
    | .Compare x [.Is] [.Constant .none _ _] _ => rec cc x a
    | _ => false
  | .notn a => match e with
    | .Compare x [.IsNot] [.Constant .none _ _] _ => rec cc x a
    | _ => false
  | .chain o1 o2 a b c => match e with
    | .Compare x [p, q] [y, z] _ => decide (opC o1 = p) && decide (opC o2 = q) && rec cc x a && rec cc y b && rec cc z c && plainE z
    | _ => false
  | .and a b => match e with
    | .BoolOp .And (x :: y :: rest) p => rec cc x a && nif x && (match rest with
      | [] => rec cc y b && nif y
      | _ => rec cc (.BoolOp .And (y :: rest) p) b)
    | _ => false
  | .or a b => match e with
    | .BoolOp .Or (x :: y :: rest) p => rec cc x a && nif x && (match rest with
      | [] => rec cc y b && nif y
      | _ => rec cc (.BoolOp .Or (y :: rest) p) b)
    | _ => false
  | .not a => match e with
    | .UnaryOp .Not x _ => rec cc x a && nif x
    | _ => false
  | .ite c a b => match e with
    | .IfExp t x y _ => rec cc t c && nif t && rec cc x a && rec cc y b
    | _ => false
  | .tup as => match e with
    | .Tuple es _ _ => stepL rec cc es as
    | _ => false
  | .lst as => match e with
    | .List es _ => stepL rec cc es as
    | _ => false
  | .dct ks vs => match e with
    | .Dict [] [] _ => match ks, vs with
      | .nil, .nil => true
      | _, _ => false
    | .Dict [some x] [y] _ => match ks, vs with
      | .cons a .nil, .cons b .nil => rec cc x a && rec cc y b
      | _, _ => false
    | _ => false
  | .idx a b => match e with
    | .Subscript x y _ => notSlice y && rec cc x a && rec cc y b
    | _ => false
  | .slc a lo hi => match e with
    | .Subscript x (.Slice (some y) (some z) none _) _ => rec cc x a && rec cc y lo && rec cc z hi
    | _ => false
  | .slcL a lo => match e with
    | .Subscript x (.Slice (some y) none none _) _ => rec cc x a && rec cc y lo
    | _ => false
  | .slcH a hi => match e with
    | .Subscript x (.Slice none (some y) none _) _ => rec cc x a && rec cc y hi
    | _ => false
  | .call f as => match e with
    | .Call (.Name x _) es [] _ => glB cc x && decide (cc.nt.fn.lookup x = some f) && okN x && stepL rec cc es as
    | _ => false
  | .callm f i as => match e with
    | .Call (.Name x _) (.Name y _ :: es) [] _ => glB cc x && decide (cc.nt.fn.lookup x = some f) && okN x && slotB cc i y && stepL rec cc es as
    | _ => false
  | .blt b as => (match e with
    | .Call (.Name x _) (a :: es) [] _ => bfB b && blN cc x (bfS b) && stepL rec cc (a :: es) as
    | _ => false) || ssB rec cc e b as
  | .meth m o as => match e with
    | .Call (.Attribute x name ap) [a] [] cp => mfB m name && rec cc x o && plainO x && stepL rec cc [a] as && (ap.endLine == cp.line)
    | .Call (.Attribute x name ap) [a, b] [] cp => g2B m && decide (name = "get") && rec cc x o && plainO x && stepL rec cc [a, b] as && (ap.endLine == cp.line)
    | _ => false
  | .pop i => match e with
    | .Call (.Attribute (.Name y _) name ap) [] [] cp => decide (name = "pop") && slotB cc i y && (ap.endLine == cp.line)
    | _ => false
  | .gmem id a neg => match e with
    | .Compare x [op] [.Name y _] _ => decide (op = if neg then .NotIn else .In) && glB cc y && decide (cc.nt.gl.lookup y = some id) && okN y && cc.nt.dk.contains id && rec cc x a
    | _ => false
  | .gidx id a => match e with
    | .Subscript (.Name y _) x _ => glB cc y && decide (cc.nt.gl.lookup y = some id) && okN y && cc.nt.dk.contains id && rec cc x a && notSlice x
    | _ => false
  | .isin a t => match e with
    | .Call (.Name x _) [y, .Name z _] [] _ => blN cc x "isinstance" && blN cc z (tyS t) && plainE y && rec cc y a
    | _ => false
  | .comp elt tg k its cond own => match e with
    | .ListComp x [⟨t, it, ifs, 0⟩] scope _ => ownB cc scope own && (tgVars tg).all own.contains && tgB (blkCC cc scope own) tg t && stepI rec cc t k it its && ifsB rec (blkCC cc scope own) ifs cond && rec (blkCC cc scope own) x elt
    | _ => false
  | .comp2 elt tg k its cond tg2 k2 its2 cond2 own => match e with
    | .ListComp x [⟨t, it, ifs, 0⟩, ⟨t2, it2, ifs2, 0⟩] scope _ => ownB cc scope own && (tgVars tg).all own.contains && (tgVars tg2).all own.contains && tgB (blkCC cc scope own) tg t && stepI rec cc t k it its && ifsB rec (blkCC cc scope own) ifs cond &&
        tgB (blkCC cc scope own) tg2 t2 && stepI rec (blkCC cc scope own) t2 k2 it2 its2 && ifsB rec (blkCC cc scope own) ifs2 cond2 && rec (blkCC cc scope own) x elt
    | _ => false
  | .rev _ => false
  | .lam f body => match e with
    | .Call (.Name x _) [.Lambda params b scope _] [] _ => cc.lam && glB cc x && decide (cc.nt.lam.lookup x = some f) && okN x && noPar params && LamX.lamSB cc.sc scope && rec (lamCC cc scope) b body
    | _ => false
end
def lookE : Nat → CC → Expr → ME → Bool
  | 0 => fun _ _ _ => false
  | n + 1 => stepE (lookE n)
end Ev

/-! E18: one step of the look is sound. -/
namespace Ev
open PySem PySem.Spec L2
open PyProof.Rows hiding St

/-- what a def must know that makes lambdas; k0: the level of what a lambda may call -/
def LamC (g : GC) (C : EC) (k : Nat) (X : Cx) : Prop := ∃ (c P : Addr) (k0 : Nat), X.env.code = .ref c ∧ LamX.TabB X.base X.mg c P ∧ (P, X.env.qual ++ "<lambda>") ∈ g.T ∧ (∀ p ∈ g.T, p.1 = P → p.2 = X.env.qual ++ "<lambda>") ∧ k0 + 2 ≤ k ∧ GOk X.prog X.w X.K X.mg X.base g C k0
structure CxE (g : GC) (C : EC) (k : Nat) (X : Cx) (cc : CC) (W : WX) : Prop where
  cx : CxOk X cc.N cc.sc k
  nt : cc.nt = g.nt
  go : GOk X.prog X.w X.K X.mg X.base g C k
  gd : GdOk X.K X.w X.mg g C
  dk : ∀ id ∈ g.nt.dk, ∃ ps, C.Γ id = some (.dic ps)
  tk : Takes X W
  as : ∀ x ∈ cc.as, Loc cc.sc x ∧ (X.fn x = true ∨ cc.sc.names.lookup x = some .local)
  lm : cc.lam = true → LamC g C k X
def SndE (g : GC) (C : EC) (k : Nat) (cc : CC) (e : Expr) (m : ME) : Prop := ∀ (X : Cx) (W : WX), CxE g C k X cc W → PE X e (tEv X.K g C W m) ∧ (nif e = true → PT X e (tEvB X.K g C W m))
section
variable {g : GC} {C : EC} {k : Nat} {cc : CC} {X : Cx} {W : WX} {e : Expr} {m : ME}
theorem both (h : PE X e (tEv X.K g C W m)) (he : ∀ whole, isTrue e X.env whole = (do let v ← whole; standAt e.pos; holding [v] (truthy v)) := by intro _; rfl) : PE X e (tEv X.K g C W m) ∧ (nif e = true → PT X e (tEvB X.K g C W m)) :=
  ⟨h, fun _ => (pt_val h he).imp fun _ _ _ q => asB_TE q⟩
theorem gl_of (c : CxE g C k X cc W) {x : Str} (h : glB cc x = true) : Gl X x := by
  have := of_decide_eq_true h
  unfold Gl Env.kindOf
  rw [c.cx.sc]; exact this
theorem vis_of {x : Str} (h : visB cc x = true) : Vis cc.sc x := by
  unfold visB at h
  simp only [Bool.or_eq_true, decide_eq_true_eq] at h
  rcases h with (h | h) | h
  · exact .inl h
  · exact .inr (.inl h)
  · exact .inr (.inr h)
theorem okN_1 {x : Str} (h : okN x = true) : (x == ("__debug__" : Str)) = false := by
  unfold okN at h
  simp only [Bool.and_eq_true, Bool.not_eq_true'] at h
  exact h.1
theorem okN_2 {x : Str} (h : okN x = true) : (x == ("__classdict__" : Str)) = false := by
  unfold okN at h
  simp only [Bool.and_eq_true, Bool.not_eq_true'] at h
  exact h.2
theorem slot_of {i : Nat} {x : Str} (h : slotB cc i x = true) : cc.N[i]? = some x ∧ Vis cc.sc x ∧ (x == ("__debug__" : Str)) = false ∧ (x == ("__classdict__" : Str)) = false := by
  unfold slotB at h
  simp only [Bool.and_eq_true, decide_eq_true_eq] at h
  exact ⟨h.1.1, vis_of h.1.2, okN_1 h.2, okN_2 h.2⟩
theorem bl_of (c : CxE g C k X cc W) {x y : Str} (h : blN cc x y = true) (hy : y ∈ builtNames) : x = y ∧ Gl X y ∧ X.mg y = none := by
  unfold blN at h
  simp only [Bool.and_eq_true, decide_eq_true_eq] at h
  obtain ⟨rfl, h⟩ := h
  exact ⟨rfl, gl_of c h, c.go.bl _ hy⟩
theorem cst_of {G : Hp} {d : D} {j : Const} (h : cstB d j = true) {p n} : ∃ v, PE X (.Constant j n p) (tC v) ∧ ∀ G, Rep X.K G v d := by
  cases d <;> cases j <;> simp only [cstB, Bool.false_eq_true, decide_eq_true_eq, Bool.and_eq_true, beq_iff_eq] at h
  · exact ⟨_, pe_non, fun _ => .non⟩
  · subst h; exact ⟨_, pe_bl, fun _ => .bl _⟩
  · subst h; exact ⟨_, pe_int, fun _ => .int _⟩
  · obtain ⟨⟨rfl, h2⟩, h3⟩ := h
    refine ⟨_, pe_str, fun _ => .str ⟨fun c hc => ?_, Nat.ble_eq.mp h3⟩⟩
    have := List.all_eq_true.mp h2 c hc
    exact Nat.blt_eq.mp this
section
variable {rec : CC → Expr → ME → Bool}
theorem stepL_plain : ∀ {es : List Expr} {ms : MEs}, stepL rec cc es ms = true → es.all plainE = true
  | [], .nil, _ => rfl
  | e :: es, .cons m ms, h => by
    simp only [stepL, Bool.and_eq_true] at h
    rw [List.all_cons, h.1.1, stepL_plain h.2]; rfl
  | [], .cons _ _, h => by simp [stepL] at h
  | _ :: _, .nil, h => by simp [stepL] at h
theorem stepL_s (ih : ∀ cc e m, rec cc e m = true → SndE g C k cc e m) (c : CxE g C k X cc W) : ∀ {es : List Expr} {ms : MEs}, stepL rec cc es ms = true → PA X es (tEvs X.K g C W ms)
  | [], .nil, _ => pa_nilE
  | e :: es, .cons m ms, h => by
    simp only [stepL, Bool.and_eq_true] at h
    exact pa_consE h.1.1 (ih cc e m h.1.2 X W c).1 (stepL_s ih c h.2)
  | [], .cons _ _, h => by simp [stepL] at h
  | _ :: _, .nil, h => by simp [stepL] at h
theorem stepL_l (ih : ∀ cc e m, rec cc e m = true → SndE g C k cc e m) (c : CxE g C k X cc W) : ∀ {es : List Expr} {ms : MEs}, stepL rec cc es ms = true → PA X es (tEvl X.K g C W ms)
  | [], .nil, _ => pa_nilL
  | e :: es, .cons m ms, h => by
    simp only [stepL, Bool.and_eq_true] at h
    exact pa_consL h.1.1 (ih cc e m h.1.2 X W c).1 (stepL_l ih c h.2)
  | [], .cons _ _, h => by simp [stepL] at h
  | _ :: _, .nil, h => by simp [stepL] at h
/-! ### targets -/
theorem asg_plain {e : Expr} (h : plainE e = true) (es : List Expr) (env : PySem.Env) : assignEach (e :: es) env = (false, assign e env) :: assignEach es env := by
  cases e <;> first | rfl | (simp [plainE] at h)
theorem name_of {i : Nat} {e : Expr} (h : nameB cc i e = true) : ∃ x p, e = .Name x p ∧ cc.N[i]? = some x ∧ x ∈ cc.as := by
  cases e <;> simp only [nameB, Bool.false_eq_true, Bool.and_eq_true, decide_eq_true_eq] at h
  exact ⟨_, _, rfl, h.1, by simpa using h.2⟩
structure AsOk (X : Cx) (cc : CC) : Prop where
  nm : X.N = cc.N
  nd : cc.N.Nodup
  sc : X.env.scope = cc.sc
  calm : X.calm = true
  as : ∀ x ∈ cc.as, Loc cc.sc x ∧ (X.fn x = true ∨ cc.sc.names.lookup x = some .local)
theorem CxE.asOk (c : CxE g C k X cc W) : AsOk X cc := ⟨c.cx.nm, c.cx.nd, c.cx.sc, c.cx.calm, c.as⟩
theorem pg_of (c : AsOk X cc) {i : Nat} {e : Expr} (h : nameB cc i e = true) : PG X e (gName i) := by
  obtain ⟨x, p, rfl, h1, h2⟩ := name_of h
  obtain ⟨h3, h4⟩ := c.as x h2
  exact pg_name (by rw [c.nm]; exact c.nd) (by rw [c.nm]; exact h1) (by rw [c.sc]; exact h3) (by rw [c.sc]; exact h4)
theorem names_of (c : AsOk X cc) : ∀ {is : List Nat} {es : List Expr}, namesB cc is es = true → PGs X es (gNames is) ∧ (assignEach es X.env).length = is.length ∧ (assignEach es X.env).findIdx? (·.1) = none
  | [], [], _ => ⟨pgs_nil, rfl, rfl⟩
  | i :: is, e :: es, h => by
    simp only [namesB, Bool.and_eq_true] at h
    obtain ⟨h1, h2, h3⟩ := names_of c h.2
    obtain ⟨x, p, rfl, _⟩ := name_of h.1
    refine ⟨pgs_cons (pg_of c h.1) h1 rfl, ?_, ?_⟩
    · show ((false, assign (.Name x p) X.env) :: assignEach es X.env).length = _
      rw [List.length_cons, h2]; rfl
    · show ((false, assign (.Name x p) X.env) :: assignEach es X.env).findIdx? (·.1) = none
      rw [List.findIdx?_cons, h3]; rfl
  | [], _ :: _, h => by simp [namesB] at h
  | _ :: _, [], h => by simp [namesB] at h
theorem tg_of (c : AsOk X cc) {t : Tgt} {e : Expr} (h : tgB cc t e = true) : PG X e (gTg X.K t) := by
  cases t with
  | nm i => exact pg_of c h
  | tp is =>
    cases e <;> simp only [tgB, Bool.false_eq_true] at h
    obtain ⟨h1, h2, h3⟩ := names_of c h
    exact (pg_tup c.calm h1 h2 h3).or (pg_unl c.calm h1 h2 h3)
  | tp2 i is =>
    simp only [tgB] at h
    split at h
    · rename_i e es kk tp _ _
      simp only [Bool.and_eq_true] at h
      obtain ⟨h1, h2, h3⟩ := names_of c h.2
      obtain ⟨x, p, rfl, _⟩ := name_of h.1
      have inner : PG X (.Tuple es kk tp) (gSeq X.K is.length (gNames is)) := (pg_tup c.calm h1 h2 h3).or (pg_unl c.calm h1 h2 h3)
      have both := pgs_cons (pg_of c h.1) (pgs_cons inner pgs_nil rfl) rfl
      exact (pg_tup c.calm both rfl rfl).or (pg_unl c.calm both rfl rfl)
    · cases h
/-! ### walks, blocks -/
theorem stepI_s (ih : ∀ cc e m, rec cc e m = true → SndE g C k cc e m) (c : CxE g C k X cc W) {tg e : Expr} {ik : IK} {ms : MEs} (h : stepI rec cc tg ik e ms = true) : PI X tg e (tIt X.K g C W ik ms) ∧ ∀ env x, foldedSetIterable e env x = pure x := by
  cases ik <;> simp only [stepI] at h
  · split at h
    · rename_i m
      simp only [Bool.and_eq_true] at h
      refine ⟨pi_valE (ih cc e m h.2 X W c).1, fun env x => ?_⟩
      have h1 := h.1.1
      cases e <;> first | rfl | (simp [seqB] at h1)
    · cases h
  · split at h
    · simp only [Bool.and_eq_true] at h
      obtain ⟨rfl, h1, h2⟩ := bl_of c h.1 (by decide +kernel)
      have hp := stepL_plain h.2
      simp only [List.all_cons, List.all_nil, Bool.and_true] at hp
      exact ⟨pi_range1E h1 h2 hp (stepL_s ih c h.2), fun _ _ => rfl⟩
    · cases h
  · split at h
    · simp only [Bool.and_eq_true] at h
      obtain ⟨rfl, h1, h2⟩ := bl_of c h.1 (by decide +kernel)
      have hp := stepL_plain h.2
      simp only [List.all_cons, List.all_nil, Bool.and_true, Bool.and_eq_true] at hp
      exact ⟨pi_range2E h1 h2 hp.1 hp.2 (stepL_s ih c h.2), fun _ _ => rfl⟩
    · cases h
  · split at h
    · simp only [Bool.and_eq_true] at h
      obtain ⟨rfl, h1, h2⟩ := bl_of c h.1 (by decide +kernel)
      have hp := stepL_plain h.2
      simp only [List.all_cons, List.all_nil, Bool.and_true, Bool.and_eq_true] at hp
      exact ⟨pi_range3E h1 h2 hp.1 hp.2.1 hp.2.2 (stepL_s ih c h.2), fun _ _ => rfl⟩
    · cases h
  · split at h
    · simp only [Bool.and_eq_true] at h
      obtain ⟨rfl, h1, h2⟩ := bl_of c h.1.1 (by decide +kernel)
      have hp := stepL_plain h.2
      simp only [List.all_cons, List.all_nil, Bool.and_true] at hp
      have ht := h.1.2
      cases tg <;> simp only [isTupT, Bool.false_eq_true] at ht
      exact ⟨pi_enumE h1 h2 hp (stepL_s ih c h.2), fun _ _ => rfl⟩
    · cases h
  · split at h
    · simp only [Bool.and_eq_true] at h
      obtain ⟨rfl, h1, h2⟩ := bl_of c h.1.1 (by decide +kernel)
      have hp := stepL_plain h.2
      simp only [List.all_cons, List.all_nil, Bool.and_true, Bool.and_eq_true] at hp
      have ht := h.1.2
      cases tg <;> simp only [isTupT, Bool.false_eq_true] at ht
      exact ⟨pi_zipE h1 h2 hp.1 hp.2 (stepL_s ih c h.2), fun _ _ => rfl⟩
    · cases h
theorem ownP_snd (own : List Nat) : (ownP cc own).map (·.2) = own := by
  unfold ownP
  rw [List.map_map]
  exact List.map_id' own
theorem blk_of (c : CxE g C k X cc W) {scope : Scope} {own : List Nat} (h : ownB cc scope own = true) (s : Shared) (H : Hp) (A : Addr) (cl : List (Str × Addr)) (fp : List Addr) : CxE g C k (X.blk s H scope (compEnvC scope cl A X.env) fp) (blkCC cc scope own) noW where
  cx := ⟨c.cx.nm, c.cx.nd, by show relS scope X.env.scope = _; rw [c.cx.sc]; rfl, c.cx.calm, c.cx.room⟩
  nt := c.nt
  go := c.go
  gd := c.gd
  dk := c.dk
  tk := takes0
  lm := fun h => nomatch (show false = true from h)
  as := fun x hx => by
    unfold ownB at h
    simp only [Bool.and_eq_true, List.all_eq_true] at h
    obtain ⟨i, hi, e⟩ := List.mem_filterMap.mp hx
    have q := h.2 i hi
    rw [e] at q
    simp only [Bool.or_eq_true, decide_eq_true_eq] at q
    show (Loc (relS scope cc.sc) x) ∧ _
    rcases q with q | q
    · have := lookup_relS_keep (sc := cc.sc) (by decide) q
      exact ⟨.inl this, .inr this⟩
    · have := lookup_relS_keep (sc := cc.sc) (by decide) q
      exact ⟨.inr this, .inl (by show (scope.names.lookup x == some .cell) = true; rw [q]; rfl)⟩
theorem ifs_of (ih : ∀ cc e m, rec cc e m = true → SndE g C k cc e m) (c : CxE g C k X cc W) {ifs : List Expr} {m : ME} (h : ifsB rec cc ifs m = true) : PTs X ifs (tEvB X.K g C W m) := by
  unfold ifsB at h
  split at h
  · exact pts_nilE
  · simp only [Bool.and_eq_true] at h
    exact pts_one ((ih cc _ m h.2 X W c).2 h.1)
  · cases h
theorem _root_.L2.PT.pwB {op : BoolOp} {es : List Expr} {pos : Pos} {t : TT} (h : PT X (.BoolOp op es pos) t) : PW X (.BoolOp op es pos) t := ⟨fun wh pins s σ H Q I q => h.run pins s σ H Q I q⟩
/-! ### the cases -/
theorem and_s (ih : ∀ cc e m, rec cc e m = true → SndE g C k cc e m) (c : CxE g C k X cc W) {x y : Expr} {rest : List Expr} {p : Pos} {a b : ME} (h1 : rec cc x a = true) (h2 : nif x = true)
    (h3 : (match rest with | [] => rec cc y b && nif y | _ => rec cc (.BoolOp .And (y :: rest) p) b) = true) : PE X (.BoolOp .And (x :: y :: rest) p) (tEv X.K g C W (.and a b)) ∧ (nif (.BoolOp .And (x :: y :: rest) p) = true → PT X (.BoolOp .And (x :: y :: rest) p) (tEvB X.K g C W (.and a b))) := by
  obtain ⟨pa, ta⟩ := ih cc x a h1 X W c
  cases rest with
  | nil =>
    simp only [Bool.and_eq_true] at h3
    obtain ⟨pb, tb⟩ := ih cc y b h3.1 X W c
    exact ⟨pe_andE pa (pe_one pb), fun _ => (pw_andE (ta h2) (pw_and1 (tb h3.2))).pt⟩
  | cons z rest =>
    obtain ⟨pb, tb⟩ := ih cc _ b h3 X W c
    exact ⟨pe_andE pa pb, fun _ => (pw_andE (ta h2) (tb rfl).pwB).pt⟩
theorem or_s (ih : ∀ cc e m, rec cc e m = true → SndE g C k cc e m) (c : CxE g C k X cc W) {x y : Expr} {rest : List Expr} {p : Pos} {a b : ME} (h1 : rec cc x a = true) (h2 : nif x = true)
    (h3 : (match rest with | [] => rec cc y b && nif y | _ => rec cc (.BoolOp .Or (y :: rest) p) b) = true) : PE X (.BoolOp .Or (x :: y :: rest) p) (tEv X.K g C W (.or a b)) ∧ (nif (.BoolOp .Or (x :: y :: rest) p) = true → PT X (.BoolOp .Or (x :: y :: rest) p) (tEvB X.K g C W (.or a b))) := by
  obtain ⟨pa, ta⟩ := ih cc x a h1 X W c
  cases rest with
  | nil =>
    simp only [Bool.and_eq_true] at h3
    obtain ⟨pb, tb⟩ := ih cc y b h3.1 X W c
    exact ⟨pe_orE pa (pe_one pb), fun _ => (pw_orE (ta h2) (pw_or1 (tb h3.2))).pt⟩
  | cons z rest =>
    obtain ⟨pb, tb⟩ := ih cc _ b h3 X W c
    exact ⟨pe_orE pa pb, fun _ => (pw_orE (ta h2) (tb rfl).pwB).pt⟩
theorem ss_s (ih : ∀ cc e m, rec cc e m = true → SndE g C k cc e m) (c : CxE g C k X cc W) {x y : Str} {p p2 q pos : Pos} {a : Expr} {m : ME} (h1 : blN cc x "sorted" = true) (h2 : blN cc y "set" = true) (h3 : plainE a = true) (h4 : rec cc a m = true) :
    PE X (.Call (.Name x p) [.Call (.Name y p2) [a] [] q] [] pos) (tEv X.K g C W (.blt .sortset (.cons m .nil))) := by
  obtain ⟨rfl, g1, m1⟩ := bl_of c h1 (by decide +kernel)
  obtain ⟨rfl, g2, m2⟩ := bl_of c h2 (by decide +kernel)
  exact pe_sortsetE c.cx.calm g1 m1 g2 m2 h3 (ih cc a m h4 X W c).1
theorem blt_s (c : CxE g C k X cc W) {b : BF} {x : Str} {a : Expr} {es : List Expr} {ms : MEs} {p pos : Pos} (h1 : bfB b = true) (h2 : blN cc x (bfS b) = true) (hp : (a :: es).all plainE = true) (ha : PA X (a :: es) (tEvl X.K g C W ms)) :
    PE X (.Call (.Name x p) (a :: es) [] pos) (tEv X.K g C W (.blt b ms)) := by
  have hc := c.cx.calm
  cases b <;> simp only [bfB, Bool.false_eq_true] at h1
  all_goals (obtain ⟨rfl, h3, h4⟩ := bl_of c h2 (by decide +kernel))
  · exact pe_bltB sound_len call_len h3 h4 (by decide +kernel) (by decide +kernel) (by decide +kernel) hp ha
  · exact pe_bltB sound_abs call_abs h3 h4 (by decide +kernel) (by decide +kernel) (by decide +kernel) hp ha
  · exact pe_bltT sound_int call_int1 h3 h4 (by decide +kernel) (by decide +kernel) (by decide +kernel) hp ha
  · exact pe_bltT sound_bool call_bool1 h3 h4 (by decide +kernel) (by decide +kernel) (by decide +kernel) hp ha
  · exact pe_bltT (id := "str") sound_str SkE.call_str_str h3 h4 (by decide +kernel) (by decide +kernel) (by decide +kernel) hp ha
  · exact pe_bltB sound_max1 (cr_max hc) h3 h4 (by decide +kernel) (by decide +kernel) (by decide +kernel) hp ha
  · exact pe_bltB sound_min2 (call_min2 hc) h3 h4 (by decide +kernel) (by decide +kernel) (by decide +kernel) hp ha
  · exact pe_bltB sound_sum (cr_sum hc) h3 h4 (by decide +kernel) (by decide +kernel) (by decide +kernel) hp ha
  · exact pe_bltB sound_all (cr_all hc) h3 h4 (by decide +kernel) (by decide +kernel) (by decide +kernel) hp ha
  · exact pe_bltB sound_any (cr_any hc) h3 h4 (by decide +kernel) (by decide +kernel) (by decide +kernel) hp ha
  · exact pe_bltB sound_sorted (sortA_ok hc) h3 h4 (by decide +kernel) (by decide +kernel) (by decide +kernel) hp ha
  · exact pe_bltT sound_list (listA_ok hc) h3 h4 (by decide +kernel) (by decide +kernel) (by decide +kernel) hp ha
  · exact pe_bltT sound_tuple call_tuple_of h3 h4 (by decide +kernel) (by decide +kernel) (by decide +kernel) hp ha
end
end
end Ev

/-! E19: the look is sound. -/
namespace Ev
open PySem PySem.Spec L2
open PyProof.Rows hiding St
section
variable {g : GC} {C : EC} {k : Nat} {cc : CC} {X : Cx} {W : WX} {e : Expr} {m : ME} {rec : CC → Expr → ME → Bool}
theorem meth_s (ih : ∀ cc e m, rec cc e m = true → SndE g C k cc e m) (c : CxE g C k X cc W) {mf : MF} {name : Str} {x a : Expr} {o : ME} {as : MEs} {ap cp : Pos} (h1 : mfB mf name = true) (h2 : rec cc x o = true) (h3 : plainO x = true) (h4 : stepL rec cc [a] as = true) (h5 : (ap.endLine == cp.line) = true) :
    PE X (.Call (.Attribute x name ap) [a] [] cp) (tEv X.K g C W (.meth mf o as)) := by
  have hp := stepL_plain h4
  simp only [List.all_cons, List.all_nil, Bool.and_true] at hp
  have po := (ih cc x o h2 X W c).1
  have pa := stepL_s ih c h4
  unfold mfB at h1
  split at h1
  · obtain rfl := of_decide_eq_true h1
    exact pe_methT sound_join (fun _ _ h => h) PySem.F.plainAttrs_str PySem.F.slot_str_join PySem.F.type_str_join mt_join po h3 pa hp h5
  · obtain rfl := of_decide_eq_true h1
    exact pe_methT sound_find (fun _ _ h => h) PySem.F.plainAttrs_str PySem.F.slot_str_find PySem.F.type_str_find mt_find po h3 pa hp h5
  · obtain rfl := of_decide_eq_true h1
    exact pe_methT sound_startswith (fun _ _ h => h) PySem.F.plainAttrs_str PySem.F.slot_str_startswith PySem.F.type_str_startswith mt_startswith po h3 pa hp h5
  · cases h1
theorem plainIx_of {y : Expr} (h : notSlice y = true) : PlainIx y := plainIx' fun a b c p e => by subst e; simp [notSlice] at h
theorem get2_s (ih : ∀ cc e m, rec cc e m = true → SndE g C k cc e m) (c : CxE g C k X cc W) {name : Str} {x a b : Expr} {o : ME} {as : MEs} {ap cp : Pos} (h1 : name = "get") (h2 : rec cc x o = true) (h3 : plainO x = true) (h4 : stepL rec cc [a, b] as = true) (h5 : (ap.endLine == cp.line) = true) :
    PE X (.Call (.Attribute x name ap) [a, b] [] cp) (tEv X.K g C W (.meth .get2 o as)) := by
  have hp := stepL_plain h4
  simp only [List.all_cons, List.all_nil, Bool.and_true, Bool.and_eq_true] at hp
  subst h1
  exact pe_get2E c.cx (ih cc x o h2 X W c).1 h3 (stepL_s ih c h4) hp.1 hp.2 h5
theorem gdk (c : CxE g C k X cc W) {id : Nat} (h : cc.nt.dk.contains id = true) : ∃ ps, C.Γ id = some (.dic ps) := by
  rw [c.nt] at h
  exact c.dk id (by simpa using h)
theorem stepI_f {tg e : Expr} {ik : IK} {ms : MEs} (h : stepI rec cc tg ik e ms = true) : ∀ env x, foldedSetIterable e env x = pure x := by
  intro env x
  cases ik <;> simp only [stepI] at h
  · split at h
    · simp only [Bool.and_eq_true] at h
      have h1 := h.1.1
      cases e <;> first | rfl | (simp [seqB] at h1)
    · cases h
  all_goals (split at h <;> first | rfl | cases h)
theorem comp_s (ih : ∀ cc e m, rec cc e m = true → SndE g C k cc e m) (c : CxE g C k X cc W) {x t it : Expr} {ifs : List Expr} {scope : Scope} {pos : Pos} {elt cond : ME} {tg : Tgt} {ik : IK} {its : MEs} {own : List Nat}
    (h : (ownB cc scope own && (tgVars tg).all own.contains && tgB (blkCC cc scope own) tg t && stepI rec cc t ik it its && ifsB rec (blkCC cc scope own) ifs cond && rec (blkCC cc scope own) x elt) = true) :
    PE X (.ListComp x [⟨t, it, ifs, 0⟩] scope pos) (tEv X.K g C W (.comp elt tg ik its cond own)) := by
  simp only [Bool.and_eq_true] at h
  obtain ⟨⟨⟨⟨⟨h1, h2⟩, h3⟩, h4⟩, h5⟩, h6⟩ := h
  obtain ⟨pi, fs⟩ := stepI_s ih c h4
  have ok : BlkOk cc.N cc.sc scope (ownP cc own) := by
    unfold ownB at h1
    simp only [Bool.and_eq_true] at h1
    exact blkOk_by h1.1
  have bk := fun s H A cl fp => blk_of c h1 s H A cl fp
  have q := pe_compE (elt := x) (pos := pos) (melt := elt) c.cx pi ok (fun i hi => by rw [ownP_snd]; simpa using List.all_eq_true.mp h2 i hi) (fun s H A cl fp => tg_of (bk s H A cl fp).asOk h3) (fun s H A cl fp => ifs_of ih (bk s H A cl fp) h5) (fun s H A cl fp => (ih _ _ _ h6 _ _ (bk s H A cl fp)).1) (fs _)
  rw [ownP_snd] at q
  exact q
theorem comp2_s (ih : ∀ cc e m, rec cc e m = true → SndE g C k cc e m) (c : CxE g C k X cc W) {x t it t2 it2 : Expr} {ifs ifs2 : List Expr} {scope : Scope} {pos : Pos} {elt cond cond2 : ME} {tg tg2 : Tgt} {ik ik2 : IK} {its its2 : MEs} {own : List Nat}
    (h : (ownB cc scope own && (tgVars tg).all own.contains && (tgVars tg2).all own.contains && tgB (blkCC cc scope own) tg t && stepI rec cc t ik it its && ifsB rec (blkCC cc scope own) ifs cond &&
        tgB (blkCC cc scope own) tg2 t2 && stepI rec (blkCC cc scope own) t2 ik2 it2 its2 && ifsB rec (blkCC cc scope own) ifs2 cond2 && rec (blkCC cc scope own) x elt) = true) :
    PE X (.ListComp x [⟨t, it, ifs, 0⟩, ⟨t2, it2, ifs2, 0⟩] scope pos) (tEv X.K g C W (.comp2 elt tg ik its cond tg2 ik2 its2 cond2 own)) := by
  simp only [Bool.and_eq_true] at h
  obtain ⟨⟨⟨⟨⟨⟨⟨⟨⟨h1, h2⟩, h2'⟩, h3⟩, h4⟩, h5⟩, h7⟩, h8⟩, h9⟩, h6⟩ := h
  obtain ⟨pi, fs⟩ := stepI_s ih c h4
  have ok : BlkOk cc.N cc.sc scope (ownP cc own) := by
    unfold ownB at h1
    simp only [Bool.and_eq_true] at h1
    exact blkOk_by h1.1
  have bk := fun s H A cl fp => blk_of c h1 s H A cl fp
  have fs2 : ∀ env x, foldedSetIterable it2 env x = pure x := by
    exact stepI_f h8
  have q := pe_comp2E (elt := x) (pos := pos) (melt := elt) c.cx pi ok (fun i hi => by rw [ownP_snd]; simpa using List.all_eq_true.mp h2 i hi) (fun i hi => by rw [ownP_snd]; simpa using List.all_eq_true.mp h2' i hi)
    (fun s H A cl fp => tg_of (bk s H A cl fp).asOk h3) (fun s H A cl fp => ifs_of ih (bk s H A cl fp) h5) (fun s H A cl fp => (stepI_s ih (bk s H A cl fp) h8).1) (fun s H A cl fp => tg_of (bk s H A cl fp).asOk h7) (fun s H A cl fp => ifs_of ih (bk s H A cl fp) h9)
    (fun s H A cl fp => (ih _ _ _ h6 _ _ (bk s H A cl fp)).1) (fs _) fs2
  rw [ownP_snd] at q
  exact q
/-! ### x(lambda: ..) -/
theorem RE.extN {K : PySem.W.Frag} {T : List (Addr × Str)} {G H H1 : Hp} {ρ : Ev.Env} {σ : St} (R : RE K T G H ρ σ) (e : LamX.ExtN H H1) (t : LamX.Tabs T H1) : RE K T G H1 ρ σ where
  sub := fun a o h => by
    rcases R.sub a o h with ⟨h1, h2⟩ | ⟨h1, h2 | ⟨u, h2⟩⟩
    · exact .inl ⟨h1, e a o h2 fun ps z => by subst z; simp [isSeq] at h1⟩
    · exact .inr ⟨h1, .inl (e a o h2 fun ps z => by subst z; simp [isDic] at h1)⟩
    · exact .inr ⟨h1, .inr ⟨u, e a _ h2 fun ps z => by cases z⟩⟩
  len := R.len
  slot := fun i sv h => by
    obtain ⟨v, e2, q⟩ := R.slot i sv h
    refine ⟨v, e2, ?_⟩
    cases sv with
    | fz d => exact q
    | ow d =>
      obtain ⟨a, rfl, n, o⟩ := q
      obtain ⟨u, hu, _, tu⟩ := o.at_
      exact ⟨a, rfl, n, o.mono (Gle.refl _) fun w hw => by rw [hu] at hw; cases hw; exact e a u hu tu⟩
  dist := R.dist
  tabs := t
theorem Stp.fromN {G H H1 G' H' : Hp} {ρ ρ' : Ev.Env} {σ : St} (e : LamX.ExtN H H1) (S : Stp ρ σ G H1 ρ' G' H') : Stp ρ σ G H ρ' G' H' :=
  have fr : ∀ a, Fr H1 a → Fr H a := fun a f o h => by
    by_cases t : ∃ ps, o = .tbl ps
    · exact t
    · exact f o (e a o h fun ps z => t ⟨ps, z⟩)
  ⟨S.gle, fun a o h n t => S.frame a o (e a o h t) n t, fun a h => (S.new a h).imp id fun z => z.imp id (fr a), S.own, fun a h => fr a (S.keep a h)⟩
theorem lam_TE {K : PySem.W.Frag} {id : Nat} {L : Option D × List (Nat × HB)} {mb : ME} {σ : St} {H : Hp} {Q : VK} (hL : C.Λ id = some L) (r1 : ∀ e d, pick C.sub e L.2 = .hit d → ∀ G, Rep K G (vOf d) d) (r2 : ∀ d, L.1 = some d → ∀ G, Rep K G (vOf d) d)
    (h : tEv K g C W (.lam id mb) σ H Q) : LamX.tLam g.T (TTW g C.sub L) (fun E => tEv K g C (fun cls d _ H => E cls d H) mb) σ H Q := by
  obtain ⟨G, ρ, R0, h⟩ := h
  refine ⟨R0.tabs, fun H1 eN t1 => ⟨G, ρ, R0.extN eN t1, PostG.frz (C := C) ?_⟩⟩
  obtain ⟨df, hs⟩ := L
  simp only [ev, hL] at h
  cases q : (ev C mb ρ).bind (frz C) with
  | ok d ρ1 =>
    rw [q] at h
    intro y H' G' R' S' r'
    have S := Stp.fromN eN S'
    cases df with
    | none => exact h y H' G' R' S r'
    | some d0 => exact h (vOf d0) H' G' R' S (r2 d0 rfl G')
  | ex x ρ1 =>
    rw [q] at h
    intro c dd H' G' R' S' xr
    dsimp only at h
    cases e : pick C.sub x hs with
    | hit d0 =>
      rw [e] at h
      refine ⟨x, ⟨xr.1, fun z => ?_⟩, d0, e, h (vOf d0) H' G' R' (Stp.fromN eN S') (r1 x d0 e G')⟩
      have := xr.2
      rw [z] at this
      exact this
    | miss => rw [e] at h; exact h.elim
    | bad => rw [e] at h; exact h.elim
  | no => rw [q] at h; exact h.elim
theorem lam_s (ih : ∀ cc e m, rec cc e m = true → SndE g C k cc e m) (ih' : ∀ k' cc e m, rec cc e m = true → SndE g C k' cc e m) (c : CxE g C k X cc W) {x : Str} {p lpos pos : Pos} {params : Arguments} {b : Expr} {scope : Scope} {f : Nat} {body : ME}
    (h1 : cc.lam = true) (h2 : glB cc x = true) (h3 : cc.nt.lam.lookup x = some f) (h4 : okN x = true) (h5 : noPar params = true) (h6 : LamX.lamSB cc.sc scope = true) (h7 : rec (lamCC cc scope) b body = true) :
    PE X (.Call (.Name x p) [.Lambda params b scope lpos] [] pos) (tEv X.K g C W (.lam f body)) := by
  rw [c.nt] at h3
  cases hL : C.Λ f with
  | none => exact tEv_no fun ρ => by simp only [ev, hL]
  | some L =>
    obtain ⟨r1, r2, a, fa, Ng, pg, bg, sg, dV, kV, doc, pm, cdv, ct, oc, an, od, osl, e1, e2, e3, e4, e5, e6, e7, e8, e9, e10, e11⟩ := c.go.lm x f L h3 hL
    obtain ⟨cc0, P, k0, t1, t2, t3, t4, t5, t6⟩ := c.lm h1
    unfold noPar at h5
    split at h5
    · refine (LamX.pe_lamcall (k := k0) (T := g.T) (t := fun E => tEv X.K g C (fun cls d _ H => E cls d H) body) (gl_of c h2) e1 e2 e3 e4 e5 e6 e7 e8 (e11 X rfl rfl rfl rfl rfl _) t2 t1 t3 t4 (c.cx.room.mono t5) (by rw [c.cx.sc]; exact LamX.lamS_by h6) rfl (fun _ _ _ _ _ => rfl)
        (fun A outer s H E f c' hr => ?_) (okN_1 h4) e9 e10).imp fun σ H Q q => lam_TE hL r1 r2 q
      refine (ih' k0 _ _ _ h7 (LamX.lamCx X A outer s H E scope f c') _ ⟨⟨c.cx.nm, c.cx.nd, rfl, rfl, hr⟩, c.nt, t6, c.gd, c.dk, takes_of rfl rfl rfl rfl, fun y hy => absurd hy (by simp [lamCC]), fun z => nomatch (show false = true from z)⟩).1
    · cases h5
theorem step_ok (ih0 : ∀ k cc e m, rec cc e m = true → SndE g C k cc e m) (h : stepE rec cc e m = true) : SndE g C k cc e m := by
  have ih := ih0 k
  intro X W c
  have ihe : ∀ {e m}, rec cc e m = true → PE X e (tEv X.K g C W m) := fun {e m} h => (ih cc e m h X W c).1
  have iht : ∀ {e m}, rec cc e m = true → nif e = true → PT X e (tEvB X.K g C W m) := fun {e m} h => (ih cc e m h X W c).2
  cases m with
  | cst d =>
    simp only [stepE] at h
    split at h
    · obtain ⟨v, p, r⟩ := cst_of (X := X) (G := fun _ => none) h
      exact both (pe_cst p r)
    · cases h
  | glo id =>
    simp only [stepE] at h
    split at h
    · simp only [Bool.and_eq_true, decide_eq_true_eq] at h
      rw [c.nt] at h
      exact both (pe_gloE c.go (gl_of c h.1.1) h.1.2 (okN_1 h.2))
    · cases h
  | var i =>
    simp only [stepE] at h
    split at h
    · obtain ⟨h1, h2, h3, h4⟩ := slot_of h
      exact both (pe_varE c.cx h1 h2 h3 h4)
    · cases h
  | bin o a b =>
    simp only [stepE] at h
    split at h
    · simp only [Bool.and_eq_true, decide_eq_true_eq] at h
      obtain ⟨⟨rfl, h1⟩, h2⟩ := h
      exact both (pe_binE o (ihe h1) (ihe h2))
    · cases h
  | neg a =>
    simp only [stepE] at h
    split at h
    · exact both (pe_negE (ihe h))
    · cases h
  | cmp o a b =>
    simp only [stepE] at h
    split at h
    · simp only [Bool.and_eq_true, decide_eq_true_eq] at h
      obtain ⟨⟨⟨rfl, h1⟩, h2⟩, h3⟩ := h
      exact ⟨pe_cmpE c.cx o (ihe h1) (ihe h2) h3, fun _ => pt_cmpE c.cx o (ihe h1) (ihe h2) h3⟩
    · cases h
  | isn a =>
    simp only [stepE] at h
    split at h
    · exact ⟨pe_isnE (ihe h), fun _ => pt_isnE (ihe h)⟩
    · cases h
  | notn a =>
    simp only [stepE] at h
    split at h
    · exact ⟨pe_notnE (ihe h), fun _ => pt_notnE (ihe h)⟩
    · cases h
  | chain o1 o2 a b d =>
    simp only [stepE] at h
    split at h
    · simp only [Bool.and_eq_true, decide_eq_true_eq] at h
      obtain ⟨⟨⟨⟨⟨rfl, rfl⟩, h1⟩, h2⟩, h3⟩, h4⟩ := h
      exact ⟨pe_chainE c.cx o1 o2 (ihe h1) (ihe h2) (ihe h3) h4, fun _ => pt_chainE c.cx o1 o2 (ihe h1) (ihe h2) (ihe h3) h4⟩
    · cases h
  | and a b =>
    simp only [stepE] at h
    split at h
    · simp only [Bool.and_eq_true] at h
      exact and_s ih c h.1.1 h.1.2 h.2
    · cases h
  | or a b =>
    simp only [stepE] at h
    split at h
    · simp only [Bool.and_eq_true] at h
      exact or_s ih c h.1.1 h.1.2 h.2
    · cases h
  | not a =>
    simp only [stepE] at h
    split at h
    · simp only [Bool.and_eq_true] at h
      exact ⟨pe_notE (ihe h.1), fun _ => pt_notE (iht h.1 h.2)⟩
    · cases h
  | ite d a b =>
    simp only [stepE] at h
    split at h
    · simp only [Bool.and_eq_true] at h
      exact ⟨pe_iteE (iht h.1.1.1 h.1.1.2) (ihe h.1.2) (ihe h.2), fun z => by cases z⟩
    · cases h
  | tup as =>
    simp only [stepE] at h
    split at h
    · exact both (pe_tupE (stepL_s ih c h))
    · cases h
  | lst as =>
    simp only [stepE] at h
    split at h
    · exact both (pe_lstE (stepL_s ih c h))
    · cases h
  | dct ks vs =>
    simp only [stepE] at h
    split at h
    · split at h
      · exact both pe_dct0E
      · cases h
    · split at h
      · simp only [Bool.and_eq_true] at h
        exact both (pe_dct1E (ihe h.1) (ihe h.2))
      · cases h
    · cases h
  | idx a b =>
    simp only [stepE] at h
    split at h
    · simp only [Bool.and_eq_true] at h
      exact both (pe_idxE c.cx (ihe h.1.2) (ihe h.2) (plainIx_of h.1.1))
    · cases h
  | slc a lo hi =>
    simp only [stepE] at h
    split at h
    · simp only [Bool.and_eq_true] at h
      exact both (pe_slcE (ihe h.1.1) (ihe h.1.2) (ihe h.2))
    · cases h
  | slcL a lo =>
    simp only [stepE] at h
    split at h
    · simp only [Bool.and_eq_true] at h
      exact both (pe_slcLE (ihe h.1) (ihe h.2))
    · cases h
  | slcH a hi =>
    simp only [stepE] at h
    split at h
    · simp only [Bool.and_eq_true] at h
      exact both (pe_slcHE (ihe h.1) (ihe h.2))
    · cases h
  | rev a => simp [stepE] at h
  | call f as =>
    simp only [stepE] at h
    split at h
    · rename_i x p es pos
      simp only [Bool.and_eq_true, decide_eq_true_eq] at h
      rw [c.nt] at h
      obtain ⟨⟨⟨h1, h2⟩, h3⟩, h4⟩ := h
      cases es with
      | nil =>
        cases as with
        | nil => exact both (pe_call0E c.cx c.go c.tk (gl_of c h1) h2 (okN_1 h3))
        | cons _ _ => simp [stepL] at h4
      | cons a es => exact both (pe_callE c.cx c.go c.tk (gl_of c h1) h2 (okN_1 h3) (stepL_plain h4) (stepL_s ih c h4))
    · cases h
  | callm f i as =>
    simp only [stepE] at h
    split at h
    · simp only [Bool.and_eq_true, decide_eq_true_eq] at h
      rw [c.nt] at h
      obtain ⟨⟨⟨⟨h1, h2⟩, h3⟩, h4⟩, h5⟩ := h
      obtain ⟨q1, q2, q3, q4⟩ := slot_of h4
      exact both (pe_callmE c.cx c.go c.tk (gl_of c h1) h2 (okN_1 h3) q1 q2 q3 q4 (stepL_plain h5) (stepL_s ih c h5))
    · cases h
  | blt b as =>
    simp only [stepE, Bool.or_eq_true] at h
    rcases h with h | h
    · split at h
      · simp only [Bool.and_eq_true] at h
        exact both (blt_s c h.1.1 h.1.2 (stepL_plain h.2) (stepL_l ih c h.2))
      · cases h
    · unfold ssB at h
      split at h
      · simp only [Bool.and_eq_true] at h
        obtain ⟨⟨⟨h1, h2⟩, h3⟩, h4⟩ := h
        exact both (ss_s ih c h1 h2 h3 h4)
      · cases h
  | meth mf o as =>
    simp only [stepE] at h
    split at h
    · simp only [Bool.and_eq_true] at h
      obtain ⟨⟨⟨⟨h1, h2⟩, h3⟩, h4⟩, h5⟩ := h
      exact both (meth_s ih c h1 h2 h3 h4 h5)
    · simp only [Bool.and_eq_true, decide_eq_true_eq] at h
      obtain ⟨⟨⟨⟨⟨h0, h1⟩, h2⟩, h3⟩, h4⟩, h5⟩ := h
      cases mf <;> simp only [g2B, Bool.false_eq_true] at h0
      exact both (get2_s ih c h1 h2 h3 h4 h5)
    · cases h
  | pop i =>
    simp only [stepE] at h
    split at h
    · simp only [Bool.and_eq_true, decide_eq_true_eq] at h
      obtain ⟨⟨rfl, h2⟩, h3⟩ := h
      obtain ⟨q1, q2, q3, q4⟩ := slot_of h2
      exact both (pe_popE c.cx q1 q2 q3 q4 h3)
    · cases h
  | gmem id a neg =>
    simp only [stepE] at h
    split at h
    · simp only [Bool.and_eq_true, decide_eq_true_eq] at h
      obtain ⟨⟨⟨⟨⟨rfl, h2⟩, h3⟩, h4⟩, h5⟩, h6⟩ := h
      rw [c.nt] at h3
      obtain ⟨p1, p2⟩ := pe_gmemE c.gd (gl_of c h2) h3 (okN_1 h4) (ihe h6) (gdk c h5) neg
      exact ⟨p1, fun _ => p2⟩
    · cases h
  | gidx id a =>
    simp only [stepE] at h
    split at h
    · simp only [Bool.and_eq_true, decide_eq_true_eq] at h
      obtain ⟨⟨⟨⟨⟨h2, h3⟩, h4⟩, h5⟩, h6⟩, h7⟩ := h
      rw [c.nt] at h3
      exact both (pe_gidxE c.gd (gl_of c h2) h3 (okN_1 h4) (ihe h6) (gdk c h5) (plainIx_of h7))
    · cases h
  | isin a t =>
    simp only [stepE] at h
    split at h
    · simp only [Bool.and_eq_true] at h
      obtain ⟨⟨⟨h1, h2⟩, h3⟩, h4⟩ := h
      obtain ⟨rfl, a1, a2⟩ := bl_of c h1 (by decide +kernel)
      obtain ⟨rfl, b1, b2⟩ := bl_of c h2 (by cases t <;> decide +kernel)
      exact both (pe_isinE t rfl a1 a2 b1 b2 h3 (ihe h4))
    · cases h
  | comp elt tg ik its cond own =>
    simp only [stepE] at h
    split at h
    · exact both (comp_s ih c h)
    · cases h
  | comp2 elt tg ik its cond tg2 ik2 its2 cond2 own =>
    simp only [stepE] at h
    split at h
    · exact both (comp2_s ih c h)
    · cases h
  | lam f b =>
    simp only [stepE] at h
    split at h
    · simp only [Bool.and_eq_true, decide_eq_true_eq] at h
      obtain ⟨⟨⟨⟨⟨⟨h1, h2⟩, h3⟩, h4⟩, h5⟩, h6⟩, h7⟩ := h
      exact both (lam_s ih ih0 c h1 h2 h3 h4 h5 h6 h7)
    · cases h
theorem lookE_ok : ∀ (n : Nat) {k : Nat} {cc : CC} {e : Expr} {m : ME}, lookE n cc e m = true → SndE g C k cc e m
  | 0, _, _, _, _, h => by cases h
  | n + 1, _, _, _, _, h => step_ok (fun _ _ _ _ h => lookE_ok n h) h
end
end Ev

/-! E20: statements: what is so between a def's entry and a statement; the rules. -/
namespace Ev
open PySem PySem.Spec L2
open PyProof.Rows hiding St

/-- an entry: what is frozen, the heap, what may be changed, the list that the def changes -/
structure Ent where
  G0 : Hp
  H0 : Hp
  A : Addr → Prop
  a0 : Option Addr
structure InS (K : PySem.W.Frag) (T : List (Addr × Str)) (C : EC) (en : Ent) (G H : Hp) (ρ : Ev.Env) (σ : St) : Prop where
  re : RE K T G H ρ σ
  st : Stq en.A en.G0 en.H0 G H
  own : ∀ a, OwnedA ρ σ a → en.A a ∨ Fr en.H0 a
  lk : ∀ a, en.a0 = some a → C.lk = true ∧ σ[0]? = some (some (.ref a))
section
variable {K : PySem.W.Frag} {T : List (Addr × Str)} {C : EC} {en : Ent} {G H G' H' : Hp} {ρ ρ' : Ev.Env} {σ σ' : St} {cA : Nat → Addr} {W : WX} {Z : Ends}
theorem InS.step (I : InS K T C en G H ρ σ) (R : RE K T G' H' ρ' σ) (S : Stp ρ σ G H ρ' G' H') : InS K T C en G' H' ρ' σ :=
  ⟨R, I.st.step S I.own, fun a h => I.own a (S.own a h), I.lk⟩
theorem InS.set {vs : List Nat} (I : InS K T C en G H ρ σ) (S : SetS K T C vs G H ρ σ ρ' σ') : InS K T C en G H ρ' σ' :=
  ⟨S.re, I.st, fun a h => I.own a (S.own a h), fun a h => ⟨(I.lk a h).1, by rw [(S.lk (I.lk a h).1).1]; exact (I.lk a h).2⟩⟩
/-- a new thing, or a thing that may be changed, comes to a slot -/
theorem InS.give {i : Nat} {v : V} {d : D} (I : InS K T C en G H ρ σ) (hv : RV K σ en.H0 G H ρ v (.fr d)) (w : wr C ρ i = true) : InS K T C en G H (ρ.set i (some (.ow d))) (σ.set i (some v)) := by
  obtain ⟨a, rfl, n0, n, no, o⟩ := hv
  obtain ⟨w1, w2⟩ := wr_iff.mp w
  refine ⟨I.re.set_ (.ow d) ⟨a, rfl, n, o⟩ (fun d' a' e1 e2 => by cases e1; cases e2; exact no) w2, I.st, fun b h => ?_, fun b h => ?_⟩
  · rcases owned_set w2 I.re.len h with q | ⟨e, _⟩
    · exact I.own b q
    · cases e; exact .inr n0
  · obtain ⟨h1, h2⟩ := I.lk b h
    have hj : i ≠ 0 := fun z => w1 ⟨h1, z⟩
    refine ⟨h1, ?_⟩
    rw [List.getElem?_set_ne hj]; exact h2
/-- what is wanted of a statement's outcome -/
def PostS (K : PySem.W.Frag) (T : List (Addr × Str)) (cA : Nat → Addr) (C : EC) (en : Ent) (Z : Ends) (W : WX) (o : OS) : Prop := match o with
  | .nx ρ' => ∀ σ' H' G', InS K T C en G' H' ρ' σ' → Z.nx σ' H'
  | .bk ρ' => ∀ σ' H' G', InS K T C en G' H' ρ' σ' → Z.bk σ' H'
  | .ct ρ' => ∀ σ' H' G', InS K T C en G' H' ρ' σ' → Z.ct σ' H'
  | .rt r ρ' => ∀ v σ' H' G', InS K T C en G' H' ρ' σ' → RV K σ' en.H0 G' H' ρ' v r → Z.rt v H'
  | .ex x ρ' => ∀ c dd σ' H' G', InS K T C en G' H' ρ' σ' → XR cA K G' H' x c dd → W c dd σ' H'
  | .no => False
theorem PostS.then {α β : Type} {o : Out α} {f : α → Ev.Env → OS} (Rf : Hp → Hp → Ev.Env → β → α → Prop) (I : InS K T C en G H ρ σ) (h : PostS K T cA C en Z W (o.then f)) :
    PostG K T cA W σ ρ G H o Rf (fun y H1 => ∃ G1 ρ1 a, InS K T C en G1 H1 ρ1 σ ∧ Stp ρ σ G H ρ1 G1 H1 ∧ Rf G1 H1 ρ1 y a ∧ PostS K T cA C en Z W (f a ρ1)) := by
  cases o with
  | ok a ρ1 => exact fun y H1 G1 R S r => ⟨G1, ρ1, a, I.step R S, S, r, h⟩
  | ex x ρ1 => exact fun c dd H1 G1 R S r => h c dd σ H1 G1 (I.step R S) r
  | no => exact h
theorem RV.entry {v : V} {r : VR} (I : InS K T C en G H ρ σ) (h : RV K σ H G' H' ρ' v r) : RV K σ en.H0 G' H' ρ' v r := h.older fun a z => I.st.keep a z
end
section
variable (K : PySem.W.Frag) (g : GC) (C : EC) (W : WX) (en : Ent) (fuel : Nat)
def tEx (m : MS) : TS := fun D σ H => ∃ G ρ, InS K g.T C en G H ρ σ ∧ PostS K g.T g.cA C en D W (ex C fuel m ρ)
def tExs (m : MSs) : TS := fun D σ H => ∃ G ρ, InS K g.T C en G H ρ σ ∧ PostS K g.T g.cA C en D W (exs C fuel m ρ)
end
section
variable {X : Cx} {g : GC} {C : EC} {W : WX} {en : Ent} {fuel : Nat} {N : List Str} {sc : Scope} {k : Nat} {e : Expr} {m : ME} {pos : Pos} {t : Tgt} {cc : CC}
theorem pss_nilE : PSs X [] (tExs X.K g C W en fuel .nil) := pss_nil.imp fun D σ H h => by
  obtain ⟨G, ρ, I, h⟩ := h
  simp only [exs] at h
  exact h σ H G I
theorem pss_consE {s : Stmt} {ss : List Stmt} {a : MS} {r : MSs} (h1 : PS X s (tEx X.K g C W en fuel a)) (h2 : PSs X ss (tExs X.K g C W en fuel r)) : PSs X (s :: ss) (tExs X.K g C W en fuel (.cons a r)) := by
  refine (pss_cons h1 h2).imp fun D σ H h => ?_
  obtain ⟨G, ρ, I, h⟩ := h
  simp only [exs] at h
  refine ⟨G, ρ, I, ?_⟩
  cases q : ex C fuel a ρ with
  | nx ρ1 => rw [q] at h; exact fun σ' H' G' I' => ⟨G', ρ1, I', h⟩
  | rt r ρ1 => rw [q] at h; exact h
  | bk ρ1 => rw [q] at h; exact h
  | ct ρ1 => rw [q] at h; exact h
  | ex x ρ1 => rw [q] at h; exact h
  | no => rw [q] at h; exact h
theorem ps_passE : PS X (.Pass pos) (tEx X.K g C W en fuel .pass) := ps_pass.imp fun D σ H ⟨G, ρ, I, h⟩ => by
  simp only [ex] at h
  exact h σ H G I
theorem ps_brkE : PS X (.Break pos) (tEx X.K g C W en fuel .brk) := ps_break.imp fun D σ H ⟨G, ρ, I, h⟩ => by
  simp only [ex] at h
  exact h σ H G I
theorem ps_contE : PS X (.Continue pos) (tEx X.K g C W en fuel .cont) := ps_continue.imp fun D σ H ⟨G, ρ, I, h⟩ => by
  simp only [ex] at h
  exact h σ H G I
def notComp : Expr → Bool
  | .ListComp .. => false
  | .SetComp .. => false
  | .DictComp .. => false
  | _ => true
theorem sw_plain {e : Expr} (h : notComp e = true) (t : Option Expr) (l : Nat) (env : PySem.Env) : swapsWith e t l env = pure false := by
  cases e <;> first | rfl | (simp [notComp] at h)
theorem sws_plain {e : Expr} (h : notComp e = true) (t : Expr) (l : Nat) (env : PySem.Env) : swapsWithSole [t] e l env = pure false := by
  unfold swapsWithSole
  exact sw_plain h _ _ _
theorem ps_exprE (he : PE X e (tEv X.K g C W m)) (hn : notComp e = true) : PS X (.Expr e pos) (tEx X.K g C W en fuel (.expr m)) := by
  refine (ps_expr he (sw_plain hn _ _ _)).imp fun D σ H ⟨G, ρ, I, h⟩ => ?_
  simp only [ex] at h
  exact ⟨G, ρ, I.re, (PostS.then (RV X.K σ H) I h).imp fun y H1 ⟨G1, ρ1, a, I1, _, _, h1⟩ => h1 σ H1 G1 I1⟩
theorem ps_retE (he : PE X e (tEv X.K g C W m)) : PS X (.Return (some e) pos) (tEx X.K g C W en fuel (.ret m)) := by
  refine (ps_ret he).imp fun D σ H ⟨G, ρ, I, h⟩ => ?_
  simp only [ex] at h
  exact ⟨G, ρ, I.re, (PostS.then (RV X.K σ H) I h).imp fun y H1 ⟨G1, ρ1, a, I1, _, r1, h1⟩ => h1 y σ H1 G1 I1 (r1.entry I)⟩
theorem ps_retNE : PS X (.Return none pos) (tEx X.K g C W en fuel .retN) := by
  refine ps_retN.imp fun D σ H ⟨G, ρ, I, h⟩ => ?_
  simp only [ex] at h
  exact h .non σ H G I Rep.non
/-- a value into a target -/
theorem setV_ok {K : PySem.W.Frag} {T : List (Addr × Str)} {G H : Hp} {ρ ρ' : Ev.Env} {σ : St} {v : V} {r : VR} {Q : St → Hp → Prop} (I : InS K T C en G H ρ σ) (h : RV K σ en.H0 G H ρ v r) (e : setV C t r ρ = some ρ') (q : ∀ σ' G', InS K T C en G' H ρ' σ' → Q σ' H) : gTg K t v σ H Q := by
  have fz : ∀ {d : D} {ρ1 : Ev.Env} {G1 : Hp}, InS K T C en G1 H ρ1 σ → Rep K G1 v d → setT C t d ρ1 = some ρ' → gTg K t v σ H Q := fun {d ρ1 G1} I1 rp e1 => setT_ok I1.re rp e1 fun σ' S => q σ' G1 (I1.set S)
  have fr : ∀ {d : D}, RV K σ en.H0 G H ρ v (.fr d) → setT C t d ρ = some ρ' → gTg K t v σ H Q := fun {d} h e => by
    obtain ⟨a, rfl, n0, n, no, o⟩ := h
    obtain ⟨u, hu, gl, sb, rp⟩ := o.freeze n I.re.sub
    have nn : ∀ b, OwnedA ρ σ b → b ≠ a := fun b z e => no (e ▸ z)
    refine fz (G1 := upd G a u) ⟨I.re.grow gl sb fun b z => ?_, ⟨I.st.gle.trans gl, I.st.frame, fun b qq => ?_, I.st.keep⟩, I.own, I.lk⟩ rp e
    · rw [upd_ne (nn b z)]; exact (I.re.ownedA z).1
    · by_cases hb : b = a
      · subst hb; exact .inr (.inr n0)
      · rw [upd_ne hb] at qq; exact I.st.new b qq
  cases r with
  | im d =>
    have e' : setT C t d ρ = some ρ' := by cases t <;> exact e
    exact fz I h e'
  | fr d =>
    cases t with
    | nm i =>
      simp only [setV] at e
      split at e <;> cases e
      rename_i w
      exact q _ G (I.give h w)
    | tp is => exact fr h e
    | tp2 i is => exact fr h e
  | sl j =>
    have e' : (match frz C (.sl j) ρ with | .ok d ρ' => setT C t d ρ' | _ => none) = some ρ' := by cases t <;> exact e
    cases ef : frz C (.sl j) ρ with
    | ok d ρ1 =>
      rw [ef] at e'
      obtain ⟨G1, R1, S1, rp⟩ := frz_ok Stp.refl I.re (show RV K σ H G H ρ v (.sl j) from h) ef
      exact fz (I.step R1 S1) rp e'
    | ex x ρ1 => rw [ef] at e'; cases e'
    | no => rw [ef] at e'; cases e'
theorem asg_TE {tg : TG} {D : Ends} {σ : St} {H : Hp} (h : tEx X.K g C W en fuel (.asg t m) D σ H) : tEv X.K g C W m σ H (fun x H1 => gTg X.K t x σ H1 D.nx) := by
  obtain ⟨G, ρ, I, h⟩ := h
  simp only [ex] at h
  refine ⟨G, ρ, I.re, (PostS.then (RV X.K σ H) I h).imp fun y H1 ⟨G1, ρ1, a, I1, _, r1, h1⟩ => ?_⟩
  cases es : setV C t a ρ1 with
  | none => rw [es] at h1; exact h1.elim
  | some ρ2 =>
    rw [es] at h1
    exact setV_ok I1 (r1.entry I) es fun σ' G' I' => h1 σ' H1 G' I'
/-- target = value: not of the forms whose stores are swapped -/
theorem ps_asgE {tg : Expr} (he : PE X e (tEv X.K g C W m)) (hg : PG X tg (gTg X.K t)) (hs : swapsWithSole [tg] e pos.line X.env = pure false) (hw : swappedStores [tg] e X.env = pure none) (h1 : (assignEach [tg] X.env).map (·.2) = [assign tg X.env]) :
    PS X (.Assign [tg] e pos) (tEx X.K g C W en fuel (.asg t m)) :=
  (ps_asg he hg hs hw h1).imp fun D σ H h => asg_TE (tg := gTg X.K t) h
theorem ps_ifE {c : Expr} {a b : List Stmt} {mc : ME} {ma mb : MSs} (hc : PT X c (tEvB X.K g C W mc)) (ha : PSs X a (tExs X.K g C W en fuel ma)) (hb : PSs X b (tExs X.K g C W en fuel mb)) : PS X (.If c a b pos) (tEx X.K g C W en fuel (.ifs mc ma mb)) := by
  refine (ps_if hc ha hb).imp fun D σ H ⟨G, ρ, I, h⟩ => ?_
  simp only [ex] at h
  refine ⟨G, ρ, I.re, (PostS.then (fun _ _ _ b a => b = a) I h).imp fun y H1 ⟨G1, ρ1, a, I1, _, e1, h1⟩ => ?_⟩
  subst e1
  cases y with
  | true => rw [if_pos rfl] at h1 ⊢; exact ⟨G1, ρ1, I1, h1⟩
  | false => rw [if_neg Bool.false_ne_true] at h1 ⊢; exact ⟨G1, ρ1, I1, h1⟩
end
end Ev

/-! E21: append, stores into lists and dicts, loops. -/
namespace Ev
open PySem PySem.Spec L2
open PyProof.Rows hiding St
section
variable {K : PySem.W.Frag} {T : List (Addr × Str)} {C : EC} {en : Ent} {G H G' H' : Hp} {ρ ρ' : Ev.Env} {σ σ' : St} {cA : Nat → Addr} {W : WX} {Z : Ends}
theorem InS.mut {i : Nat} {d0 d : D} {o' : HO} {a : Addr} (I : InS K T C en G H ρ σ) (h0 : ρ[i]? = some (some (.ow d0))) (ha : σ[i]? = some (some (.ref a))) (o : Own K G (upd H a o') a d) : InS K T C en G (upd H a o') (ρ.set i (some (.ow d))) σ := by
  obtain ⟨R, S⟩ := I.re.mut h0 ha o
  exact I.step R S
/-- a later entry -/
def Ent.at_ (en : Ent) (G H : Hp) (ρ : Ev.Env) (σ : St) : Ent := ⟨G, H, fun a => en.A a ∨ OwnedA ρ σ a, en.a0⟩
theorem InS.rebase (I : InS K T C en G H ρ σ) : InS K T C (en.at_ G H ρ σ) G H ρ σ := ⟨I.re, Stq.refl, fun a h => .inl (.inr h), I.lk⟩
theorem InS.back (I : InS K T C en G H ρ σ) (I' : InS K T C (en.at_ G H ρ σ) G' H' ρ' σ') : InS K T C en G' H' ρ' σ' where
  re := I'.re
  st := {
    gle := I.st.gle.trans I'.st.gle
    frame := fun a o h n t => I'.st.frame a o (I.st.frame a o h n t) (fun z => z.elim n fun z => (I.own a z).elim n fun e => e.abs h t) t
    new := fun a h => by
      rcases I'.st.new a h with z | z | z
      · exact I.st.new a z
      · rcases z with z | z
        · exact .inr (.inl z)
        · exact .inr (I.own a z)
      · exact .inr (.inr (I.st.keep a z))
    keep := fun a h => I.st.keep a (I'.st.keep a h) }
  own := fun a h => by
    rcases I'.own a h with z | z
    · rcases z with z | z
      · exact .inl z
      · exact I.own a z
    · exact .inr (I.st.keep a z)
  lk := I'.lk
theorem PostS.rebase {o : OS} (I : InS K T C en G H ρ σ) (h : PostS K T cA C en Z W o) : PostS K T cA C (en.at_ G H ρ σ) Z W o := by
  cases o with
  | nx ρ1 => exact fun σ' H' G' I' => h σ' H' G' (I.back I')
  | bk ρ1 => exact fun σ' H' G' I' => h σ' H' G' (I.back I')
  | ct ρ1 => exact fun σ' H' G' I' => h σ' H' G' (I.back I')
  | rt r ρ1 => exact fun v σ' H' G' I' rv => h v σ' H' G' (I.back I') (rv.older fun a z => I.st.keep a z)
  | ex x ρ1 => exact fun c dd σ' H' G' I' x => h c dd σ' H' G' (I.back I') x
  | no => exact h
end
section
variable {X : Cx} {g : GC} {C : EC} {W : WX} {en : Ent} {fuel : Nat} {N : List Str} {sc : Scope} {k : Nat} {e : Expr} {m : ME} {pos : Pos} {t : Tgt} {cc : CC} {i : Nat} {y : Str}
/-! ### append -/
theorem ps_appE {py apos cpos : Pos} (cx : CxOk X N sc k) (hi : N[i]? = some y) (hv : Vis sc y) (hd : (y == ("__debug__" : Str)) = false) (hcd : (y == ("__classdict__" : Str)) = false) (he : PE X e (tEv X.K g C W m)) (hp : plainE e = true) (hline : (apos.endLine == cpos.line) = true) :
    PS X (.Expr (.Call (.Attribute (.Name y py) "append" apos) [e] [] cpos) pos) (tEx X.K g C W en fuel (.append i m)) := by
  have pv : PE X (.Name y py) (tVar i) := pe_var (X := X) (i := i) (by rw [cx.nm]; exact hi) (by rw [cx.sc]; exact hv) hd hcd
  have pc := pe_bm (X := X) (cpos := cpos) (apos := apos) PySem.F.plainAttrs_list PySem.F.slot_list_append PySem.F.type_list_append mt_append pv (pa_cons he pa_nil (star_plain hp _ _)) rfl (few1 hp _ _) hline (star_plain hp _ _) rfl
  refine (ps_expr pc rfl).imp fun D σ H ⟨G, ρ, I, h⟩ => ?_
  simp only [ex] at h
  split at h
  · rename_i xs0 q0
    obtain ⟨v0, hv0, a0, rfl, n0, vs0, e0, r0⟩ := I.re.slot i _ (ownAt_some.mp q0)
    refine ⟨_, hv0, .inl ⟨rfl, _, .of e0⟩, G, ρ, I.re, (PostS.then (fun G' _ _ v d => Rep X.K G' v d) I h).frz.imp fun u H1 ⟨G1, ρ1, d, I1, _, r1, h1⟩ => ?_⟩
    split at h1
    · rename_i xs q1
      have e1 := ownAt_some.mp q1
      obtain ⟨v1, hv1, a1, rfl, n1, vs, ea, rs⟩ := I1.re.slot i _ e1
      rw [hv0] at hv1; cases hv1
      split at h1
      · rename_i hz
        refine ⟨_, vs, u, rfl, rfl, ea, by rw [rs.length, sizeLine_eq]; exact Nat.blt_eq.mp hz, ?_⟩
        have I2 := I1.mut (d := .lst (xs ++ [d])) e1 hv0 ⟨vs ++ [u], upd_same, rs.append (.cons r1 .nil)⟩
        exact h1 σ _ G1 I2
      · exact h1.elim
    · exact h1.elim
  · exact h.elim
/-! ### o[i] = v -/
theorem PSet.or {a b : TSet} (h1 : PSet X a) (h2 : PSet X b) : PSet X (fun o i v H Q => a o i v H Q ∨ b o i v H Q) := fun pins s σ H o i v ov iv u Q I r1 r2 r3 h =>
  h.elim (fun q => h1 pins s σ H o i v ov iv u Q I r1 r2 r3 q) fun q => h2 pins s σ H o i v ov iv u Q I r1 r2 r3 q
theorem repK_put {K : PySem.W.Frag} {G : Hp} {k : Key} {v : V} {d : D} (ok : OkK k) (r : Rep K G v d) {kvs : List (Key × V)} {ps : List (D × D)} (h : RepK K G kvs ps) : RepK K G (L2.putK kvs k v) (Ev.putK (keyD k) d ps) := by
  have anyE : ∀ {kvs : List (Key × V)} {ps : List (D × D)}, RepK K G kvs ps → (kvs.any fun kv => decide (kv.1 = k)) = ps.any fun p => D.eqv p.1 (keyD k) := by
    intro kvs ps h
    induction kvs generalizing ps with
    | nil => cases h; rfl
    | cons kv kvs ih =>
      cases h with
      | cons o r1 rr => simp only [List.any_cons, ih rr, eqv_key]
  have mapE : ∀ {kvs : List (Key × V)} {ps : List (D × D)}, RepK K G kvs ps → RepK K G (kvs.map fun kv => if kv.1 = k then (kv.1, v) else kv) (ps.map fun p => if D.eqv p.1 (keyD k) then (p.1, d) else p) := by
    intro kvs ps h
    induction kvs generalizing ps with
    | nil => cases h; exact .nil
    | cons kv kvs ih =>
      cases h with
      | cons o r1 rr =>
        rename_i j w d1 ps'
        simp only [List.map_cons]
        by_cases e : j = k
        · subst e
          simp only [eqv_key, decide_true, if_true]
          exact .cons o r (ih rr)
        · simp only [eqv_key, decide_eq_false e, Bool.false_eq_true, if_false, e]
          exact .cons o r1 (ih rr)
  have appE : ∀ {kvs : List (Key × V)} {ps : List (D × D)}, RepK K G kvs ps → RepK K G (kvs ++ [(k, v)]) (ps ++ [(keyD k, d)]) := by
    intro kvs ps h
    induction kvs generalizing ps with
    | nil => cases h; exact .cons ok r .nil
    | cons kv kvs ih =>
      cases h with
      | cons o r1 rr => exact .cons o r1 (ih rr)
  unfold L2.putK Ev.putK
  rw [anyE h]
  split
  · exact mapE h
  · exact appE h
theorem repT_put {K : PySem.W.Frag} {G : Hp} {k : List Key} {v : V} {d : D} (ok : ∀ j ∈ k, OkK j) (r : Rep K G v d) {kvs : List (List Key × V)} {ps : List (D × D)} (h : RepT K G kvs ps) : RepT K G (L2.putK kvs k v) (Ev.putK (.tup (k.map keyD)) d ps) := by
  have eqT : ∀ j : List Key, D.eqv (.tup (j.map keyD)) (.tup (k.map keyD)) = decide (j = k) := fun j => by simp only [D.eqv, eqvs_keys]
  have anyE : ∀ {kvs : List (List Key × V)} {ps : List (D × D)}, RepT K G kvs ps → (kvs.any fun kv => decide (kv.1 = k)) = ps.any fun p => D.eqv p.1 (.tup (k.map keyD)) := by
    intro kvs ps h
    induction kvs generalizing ps with
    | nil => cases h; rfl
    | cons kv kvs ih =>
      cases h with
      | cons o r1 rr => simp only [List.any_cons, ih rr, eqT]
  have mapE : ∀ {kvs : List (List Key × V)} {ps : List (D × D)}, RepT K G kvs ps → RepT K G (kvs.map fun kv => if kv.1 = k then (kv.1, v) else kv) (ps.map fun p => if D.eqv p.1 (.tup (k.map keyD)) then (p.1, d) else p) := by
    intro kvs ps h
    induction kvs generalizing ps with
    | nil => cases h; exact .nil
    | cons kv kvs ih =>
      cases h with
      | cons o r1 rr =>
        rename_i j w d1 ps'
        simp only [List.map_cons]
        by_cases e : j = k
        · subst e
          simp only [eqT, decide_true, if_true]
          exact .cons o r (ih rr)
        · simp only [eqT, decide_eq_false e, Bool.false_eq_true, if_false, e]
          exact .cons o r1 (ih rr)
  have appE : ∀ {kvs : List (List Key × V)} {ps : List (D × D)}, RepT K G kvs ps → RepT K G (kvs ++ [(k, v)]) (ps ++ [(.tup (k.map keyD), d)]) := by
    intro kvs ps h
    induction kvs generalizing ps with
    | nil => cases h; exact .cons ok r .nil
    | cons kv kvs ih =>
      cases h with
      | cons o r1 rr => exact .cons o r1 (ih rr)
  unfold L2.putK Ev.putK
  rw [anyE h]
  split
  · exact mapE h
  · exact appE h
theorem putK_ne {κ : Type} [DecidableEq κ] {kvs : List (κ × V)} {k : κ} {v : V} : L2.putK kvs k v ≠ [] := by
  unfold L2.putK
  split
  · rename_i h
    cases kvs with
    | nil => simp at h
    | cons => simp
  · simp
/-- a first key that is a tuple -/
def rSetT : TSet := fun o i v H Q => ∃ a b, ∃ k : List Key, o = .ref a ∧ i = .ref b ∧ H a = some (.dK []) ∧ H b = some (.tup (k.map kV)) ∧ Q (upd H a (.dT [(k, v)]))
theorem set_dT (hu : X.A.units + 1 < cLine) : PSet X rSetT := by
  intro pins s σ H o i v ov iv u Q I ro ri rv h
  obtain ⟨a, b, k, rfl, rfl, ha, hb, q⟩ := h
  cases ro
  obtain ⟨z, hd, vs, rel, dd⟩ := dk_of I.hok ha
  cases rel
  have he : ∃ ob, s.heap.get? a = some ob := by obtain ⟨ob, _, _, e, _⟩ := dd; exact ⟨ob, e⟩
  have I1 : Inv X pins σ (upd H a (.dT [])) s := by
    refine I.write (x := a) (e := a) (t' := s.toks) (h' := s.heap) (by rw [ha]; trivial) (.inl rfl) (fun b v _ q => q) he ?_
    obtain ⟨ob, es, ep, e1, e2, e3, e4, _, e6⟩ := empty_T dd
    exact ⟨by decide, hd, [], .nil, ob, es, ep, e1, e2, e3, e4, e6⟩
  have ne : b ≠ a := fun z => by rw [z, ha] at hb; cases hb
  refine d_setItem hu I1 (.inr ⟨[], k, b, upd_same, rfl, by rw [upd_ne ne]; exact hb, by decide, rfl⟩) ri rv fun s' I' => ⟨_, I', ?_⟩
  rw [upd_upd]
  exact q
theorem setidx_fin {K : PySem.W.Frag} {Z : Ends} {σ : St} {H2 : Hp} {G2 : Hp} {ρ2 : Ev.Env} {v u w : V} {d kd : D} (I : InS K g.T C en G2 H2 ρ2 σ) (hw : σ[i]? = some (some w)) (rv : Rep K G2 v d) (rk : Rep K G2 u kd)
    (h : PostS K g.T g.cA C en Z W (setAt i kd d ρ2)) : (rSetL w u v H2 fun H3 => Z.nx σ H3) ∨ (rSetD w u v H2 fun H3 => Z.nx σ H3) ∨ rSetT w u v H2 fun H3 => Z.nx σ H3 := by
  unfold setAt at h
  split at h
  · rename_i xs q0
    have e0 := ownAt_some.mp q0
    obtain ⟨w', hw', a, rfl, n, vs, ea, r⟩ := I.re.slot i _ e0
    rw [hw] at hw'; cases hw'
    split at h
    · rename_i _ n'
      cases rk
      split at h
      · rename_i j hj
        refine .inl ⟨a, vs, n', j, rfl, rfl, ea, by rw [r.length]; exact hj, ?_⟩
        exact h σ _ G2 (I.mut (d := .lst (xs.set j d)) e0 hw ⟨_, upd_same, r.set rv j⟩)
      · exact h.elim
    · exact h.elim
  · rename_i ps q0
    have e0 := ownAt_some.mp q0
    obtain ⟨w', hw', a, rfl, n, o⟩ := I.re.slot i _ e0
    rw [hw] at hw'; cases hw'
    split at h
    · rename_i c
      simp only [Bool.and_eq_true] at c
      obtain ⟨cf, cl⟩ := c
      have cl' := Nat.blt_eq.mp cl
      rcases o with ⟨kvs, ea, r⟩ | ⟨kvs, ea, nn, r⟩
      · have hlen : kvs.length = ps.length := by
          have : ∀ {kvs : List (Key × V)} {ps : List (D × D)}, RepK K G2 kvs ps → kvs.length = ps.length := by
            intro kvs ps r
            induction kvs generalizing ps with
            | nil => cases r; rfl
            | cons kv kvs ih => cases r with | cons _ _ rr => simp [ih rr]
          exact this r
        have key : ∀ j : Key, u = kV j → kd = keyD j → OkK j → (rSetL (.ref a) u v H2 fun H3 => Z.nx σ H3) ∨ (rSetD (.ref a) u v H2 fun H3 => Z.nx σ H3) ∨ rSetT (.ref a) u v H2 fun H3 => Z.nx σ H3 := by
          rintro j rfl rfl ok
          refine .inr (.inl ⟨a, _, rfl, .inl ⟨kvs, j, ea, rfl, by rw [hlen, sizeLine_eq]; exact cl', rfl⟩, ?_⟩)
          exact h σ _ G2 (I.mut (d := .dic (putK (keyD j) d ps)) e0 hw (.inl ⟨_, upd_same, repK_put ok rv r⟩))
        cases r with
        | nil =>
          simp only [keyFits, Bool.or_eq_true] at cf
          rcases cf with cf | cf
          · obtain ⟨j, e1, e2, ok⟩ := rep_keyO rk cf
            exact key j e1 e2 ok
          · have ok : ∃ (b : Addr) (j : List Key), u = .ref b ∧ H2 b = some (.tup (j.map kV)) ∧ kd = .tup (j.map keyD) ∧ ∀ x ∈ j, OkK x := by
              cases kd <;> simp only [D.isTKey] at cf <;> try cases cf
              cases rk with
              | tup e rr =>
                obtain ⟨j, rfl, rfl, o⟩ := reps_keysO rr cf
                exact ⟨_, j, rfl, I.re.sub.tup e, rfl, o⟩
            obtain ⟨b, j, rfl, eb, rfl, okj⟩ := ok
            refine .inr (.inr ⟨a, b, j, rfl, rfl, ea, eb, ?_⟩)
            exact h σ _ G2 (I.mut (d := .dic (putK (.tup (j.map keyD)) d [])) e0 hw (.inr ⟨_, upd_same, by simp, .cons okj rv .nil⟩))
        | cons ok0 h0 r0 =>
          simp only [keyFits, keyD_isKey, keyD_isTKey, Bool.true_and, Bool.false_and, Bool.or_false] at cf
          obtain ⟨j, e1, e2, ok⟩ := rep_keyO rk cf
          exact key j e1 e2 ok
      · have hlen : kvs.length = ps.length := by
          have : ∀ {kvs : List (List Key × V)} {ps : List (D × D)}, RepT K G2 kvs ps → kvs.length = ps.length := by
            intro kvs ps r
            induction kvs generalizing ps with
            | nil => cases r; rfl
            | cons kv kvs ih => cases r with | cons _ _ rr => simp [ih rr]
          exact this r
        cases r with
        | nil => exact absurd rfl nn
        | cons ok0 h0 r0 =>
          rename_i k0 w0 d0 kvs0 ps0
          have hk : (D.tup (k0.map keyD)).isKey = false := rfl
          simp only [keyFits, hk, Bool.false_and, Bool.false_or, Bool.and_eq_true] at cf
          have ok : ∃ (b : Addr) (j : List Key), u = .ref b ∧ H2 b = some (.tup (j.map kV)) ∧ kd = .tup (j.map keyD) ∧ ∀ x ∈ j, OkK x := by
            have cf := cf.2
            cases kd <;> simp only [D.isTKey] at cf <;> try cases cf
            cases rk with
            | tup e rr =>
              obtain ⟨j, rfl, rfl, o⟩ := reps_keysO rr cf
              exact ⟨_, j, rfl, I.re.sub.tup e, rfl, o⟩
          obtain ⟨b, j, rfl, eb, rfl, okj⟩ := ok
          refine .inr (.inl ⟨a, _, rfl, .inr ⟨_, j, b, ea, rfl, eb, by rw [hlen, sizeLine_eq]; exact cl', rfl⟩, ?_⟩)
          exact h σ _ G2 (I.mut (d := .dic (putK (.tup (j.map keyD)) d ((.tup (k0.map keyD), d0) :: ps0))) e0 hw (.inr ⟨_, upd_same, putK_ne, repT_put okj rv (.cons ok0 h0 r0)⟩))
    · exact h.elim
  · exact h.elim
theorem ps_setidxE {py tpos : Pos} {ke ve : Expr} {mk mv : ME} (cx : CxOk X N sc k) (hi : N[i]? = some y) (hv : Vis sc y) (hd : (y == ("__debug__" : Str)) = false) (hcd : (y == ("__classdict__" : Str)) = false) (hk : PE X ke (tEv X.K g C W mk)) (he : PE X ve (tEv X.K g C W mv)) (hn : notComp ve = true)
    (hsl : ∀ v, assign (.Subscript (.Name y py) ke tpos) X.env v = (do
      let ov ← holding [v] (eval (.Name y py) X.env)
      let iv ← holding [v, ov] (eval ke X.env)
      standAt tpos
      holding [v, ov, iv] (setItem ov iv v)
      release [v, ov, iv] [])) :
    PS X (.Assign [.Subscript (.Name y py) ke tpos] ve pos) (tEx X.K g C W en fuel (.setidx i mk mv)) := by
  have pv : PE X (.Name y py) (tVar i) := pe_var (X := X) (i := i) (by rw [cx.nm]; exact hi) (by rw [cx.sc]; exact hv) hd hcd
  have hu : X.A.units + 1 < cLine := by have := cx.hu; omega
  refine (ps_asg he (pg_sub pv hk (PSet.or set_list (PSet.or (set_dict hu) (set_dT hu))) hsl) (sws_plain hn _ _ _) rfl rfl).imp fun D σ H ⟨G, ρ, I, h⟩ => ?_
  simp only [ex] at h
  refine ⟨G, ρ, I.re, (PostS.then (fun G' _ _ v d => Rep X.K G' v d) I h).frz.imp fun v H1 ⟨G1, ρ1, d, I1, _, r1, h1⟩ => ?_⟩
  split at h1
  · exact h1.elim
  · rename_i d0 q0
    obtain ⟨w, hw, _⟩ := I1.re.slot i _ (ownAt_some.mp q0)
    refine ⟨w, hw, G1, ρ1, I1.re, (PostS.then (fun G' _ _ v d => Rep X.K G' v d) I1 h1).frz.imp fun u H2 ⟨G2, ρ2, kd, I2, S2, r2, h2⟩ => ?_⟩
    exact setidx_fin I2 hw (r1.mono S2.gle) r2 h2
end
end Ev

/-! E22: loops. -/
namespace Ev
open PySem PySem.Spec L2
open PyProof.Rows hiding St
section
variable {X : Cx} {g : GC} {C : EC} {W : WX} {en : Ent} {fuel : Nat} {N : List Str} {sc : Scope} {k : Nat} {e : Expr} {m : ME} {pos : Pos} {t : Tgt} {i : Nat} {y : Str} {bs : MSs}
/-- a suite, from any entry -/
def tAll (K : PySem.W.Frag) (g : GC) (C : EC) (W : WX) (fuel : Nat) (bs : MSs) : TS := fun Z σ H => ∃ en, tExs K g C W en fuel bs Z σ H
theorem pss_all {ss : List Stmt} (h : ∀ en, PSs X ss (tExs X.K g C W en fuel bs)) : PSs X ss (tAll X.K g C W fuel bs) := ⟨fun pins s σ H D I ⟨en, q⟩ => (h en).run pins s σ H D I q⟩
theorem fors_ev (t : Tgt) (ik : IK) (its : MEs) (ρ : Ev.Env) : ex C fuel (.fors t ik its bs) ρ = (itO C ik its ρ).then fun l ρ1 => forLoop C t (fun ρ => exs C fuel bs ρ) l ρ1 := by
  simp only [ex, itO]
  cases evs C its ρ with
  | ok ds ρ1 => simp only [Out.then, Out.bind]; cases walkOf ik ds <;> rfl
  | ex x ρ1 => rfl
  | no => rfl
/-- one turn of a loop: from what is wanted of the body and the turns that follow, to what is wanted of the body -/
theorem body_post {K : PySem.W.Frag} {Z : Ends} {f : Ev.Env → OS} {Nx : St → Hp → Prop} {o : OS} (h : PostS K g.T g.cA C en Z W (match o with
      | .nx ρ2 => f ρ2
      | .ct ρ2 => f ρ2
      | .bk ρ2 => .nx ρ2
      | o => o)) (hN : ∀ ρ2 σ' H' G', InS K g.T C en G' H' ρ2 σ' → PostS K g.T g.cA C en Z W (f ρ2) → Nx σ' H') : PostS K g.T g.cA C en { Z with nx := Nx, ct := Nx, bk := Z.nx } W o := by
  cases o with
  | nx ρ2 => exact fun σ' H' G' I => hN ρ2 σ' H' G' I h
  | ct ρ2 => exact fun σ' H' G' I => hN ρ2 σ' H' G' I h
  | bk ρ2 => exact h
  | rt r ρ2 => exact h
  | ex x ρ2 => exact h
  | no => exact h
theorem ps_forsE {tgE iter : Expr} {body : List Stmt} {ik : IK} {its : MEs} (hpo : PassesOwn (model X.prog X.w) X.A X.env X.xe) (hcm : X.calm = true) (hi : PI X tgE iter (tIt X.K g C W ik its)) (hg : PG X tgE (gTg X.K t)) (hb : ∀ en, PSs X body (tExs X.K g C W en fuel bs))
    (hs : ∀ x, foldedSetIterable iter X.env x = pure x) : PS X (.For tgE iter body [] pos) (tEx X.K g C W en fuel (.fors t ik its bs)) := by
  refine (ps_for hpo hcm hi hg (pss_all hb) hs).imp fun Z σ H ⟨G, ρ, I, h⟩ => ?_
  rw [fors_ev] at h
  refine ⟨G, ρ, I.re, (PostS.then (fun G' _ _ J l => WalkOk X.K J G' l ∧ l.length ≤ szL) I h).imp fun J H1 ⟨G1, ρ1, l, I1, S1, ⟨w, hl⟩, h1⟩ => ?_⟩
  have h2 := h1.rebase I1
  have I2 := I1.rebase
  refine ⟨fun i m σ' H' => m = l.length - i ∧ i ≤ l.length ∧ ∃ G' ρ', InS X.K g.T C (en.at_ G1 H1 ρ1 σ) G' H' ρ' σ' ∧ PostS X.K g.T g.cA C (en.at_ G1 H1 ρ1 σ) Z W (forLoop C t (fun ρ => exs C fuel bs ρ) (l.drop i) ρ'), ⟨l.length, rfl, Nat.zero_le _, G1, ρ1, I2, h2⟩, ?_⟩
  rintro i m σ3 H3 ⟨rfl, hil, G3, ρ3, I3, h3⟩
  by_cases hlt : i < l.length
  · have ed : l.drop i = l[i] :: l.drop (i + 1) := List.drop_eq_getElem_cons hlt
    rw [ed] at h3
    simp only [forLoop] at h3
    refine .inr ⟨w.goes i H3 hlt (Sub.of_gle I3.st.gle I3.re.sub), _, fun σ' H' p => ⟨l.length - (i + 1), by omega, rfl, hlt, p⟩, fun x H' y => ?_⟩
    obtain ⟨G4, R4, S4, r4⟩ := walk_turn w I3.st.gle I3.re hlt y
    have I4 := I3.step R4 S4
    cases es : setT C t l[i] ρ3 with
    | none => rw [es] at h3; exact h3.elim
    | some ρ5 =>
      rw [es] at h3
      dsimp only at h3
      refine setT_ok R4 r4 es fun σ5 S5 => ⟨en.at_ G1 H1 ρ1 σ, G4, ρ5, I4.set S5, body_post h3 fun ρ2 σ' H' G' I' h' => ⟨G', ρ2, I', h'⟩⟩
  · have e1 : i = l.length := by omega
    subst e1
    rw [List.drop_length] at h3
    simp only [forLoop] at h3
    exact .inl ⟨w.stops H3 (Sub.of_gle I3.st.gle I3.re.sub), h3 σ3 H3 G3 I3⟩
theorem ps_whlE {c : Expr} {body : List Stmt} {mc : ME} (hpo : PassesOwn (model X.prog X.w) X.A X.env X.xe) (hc : PT X c (tEvB X.K g C W mc)) (hb : ∀ en, PSs X body (tExs X.K g C W en fuel bs)) : PS X (.While c body [] pos) (tEx X.K g C W en fuel (.whl mc bs)) := by
  refine (ps_while hpo hc (pss_all hb)).imp fun Z σ H ⟨G, ρ, I, h⟩ => ?_
  simp only [ex] at h
  refine ⟨fun m σ' H' => ∃ G' ρ', InS X.K g.T C en G' H' ρ' σ' ∧ PostS X.K g.T g.cA C en Z W (whlLoop (cnd C mc) (fun ρ => exs C fuel bs ρ) m ρ'), ⟨fuel, G, ρ, I, h⟩, ?_⟩
  rintro m σ1 H1 ⟨G1, ρ1, I1, h1⟩
  cases m with
  | zero => exact h1.elim
  | succ m =>
    simp only [whlLoop] at h1
    refine ⟨G1, ρ1, I1.re, (PostS.then (fun _ _ _ b a => b = a) I1 h1).imp fun b H2 ⟨G2, ρ2, a, I2, _, e, h2⟩ => ?_⟩
    subst e
    cases b with
    | false =>
      rw [if_neg Bool.false_ne_true] at h2 ⊢
      exact h2 σ1 H2 G2 I2
    | true =>
      rw [if_pos rfl] at h2 ⊢
      exact ⟨_, fun σ' H' p => ⟨m, Nat.lt_succ_self m, p⟩, en, G2, ρ2, I2, body_post h2 fun ρ3 σ' H' G' I' h' => ⟨G', ρ3, I', h'⟩⟩
end
end Ev

/-! E23: for over a dict's keys. -/
namespace Ev
open PySem PySem.Spec L2
open PyProof.Rows hiding St
section
variable {K : PySem.W.Frag} {T : List (Addr × Str)} {C : EC} {en : Ent} {G H G' H' : Hp} {ρ ρ' : Ev.Env} {σ σ' : St} {a : Addr} {od : Obj} {u : HO}
theorem tabs_at {H : Hp} {p : Addr} {o o' : HO} (t : LamX.Tabs T H) (e : H p = some o) (nt : ∀ ps, o ≠ .tbl ps) (ne : ∀ φ, o ≠ .ext φ) : LamX.Tabs T (upd H p o') := by
  intro q hq
  obtain ⟨ps, h1, h2, h3⟩ := t q hq
  have np : q.1 ≠ p := fun z => nt ps (by rw [z, e] at h1; exact Option.some.inj h1)
  refine ⟨ps, by rw [upd_ne np]; exact h1, h2, fun pos cv hc => ?_⟩
  obtain ⟨c, e1, e2⟩ := h3 pos cv hc
  refine ⟨c, e1, ?_⟩
  rw [upd_ne (fun z => ?_)]
  · exact e2
  · subst z
    rw [e] at e2
    exact ne _ (Option.some.inj e2)
/-- what stands at a frozen dict's place is locked, or unlocked -/
theorem RE.relock {o o' : HO} (R : RE K T G H ρ σ) (hd : isDic u = true) (ea : G a = some u) (e : H a = some o) (nt : ∀ ps, o ≠ .tbl ps) (ne : ∀ φ, o ≠ .ext φ) (ho : Rd (upd H a o') a u) : RE K T G (upd H a o') ρ σ where
  sub := fun b w h => by
    by_cases hb : b = a
    · subst hb
      rw [ea] at h; cases h
      exact .inr ⟨hd, ho⟩
    · rcases R.sub b w h with ⟨h1, h2⟩ | ⟨h1, h2 | ⟨x, h2⟩⟩
      · exact .inl ⟨h1, by rw [upd_ne hb]; exact h2⟩
      · exact .inr ⟨h1, .inl (by rw [upd_ne hb]; exact h2)⟩
      · exact .inr ⟨h1, .inr ⟨x, by rw [upd_ne hb]; exact h2⟩⟩
  len := R.len
  slot := fun i sv h => by
    obtain ⟨v, e2, q⟩ := R.slot i sv h
    refine ⟨v, e2, ?_⟩
    cases sv with
    | fz d => exact q
    | ow d =>
      obtain ⟨b, rfl, n2, o2⟩ := q
      have nb : b ≠ a := fun z => by rw [z, ea] at n2; cases n2
      exact ⟨b, rfl, n2, o2.mono (Gle.refl _) fun w h => by rw [upd_ne nb]; exact h⟩
  dist := R.dist
  tabs := tabs_at R.tabs e nt ne
/-- the entry of a walk over the frozen dict at a -/
def Ent.lk_ (en : Ent) (G H : Hp) (ρ : Ev.Env) (σ : St) (a : Addr) : Ent := ⟨G, H, fun b => (en.A b ∨ OwnedA ρ σ b) ∧ b ≠ a, en.a0⟩
theorem InS.lock_ (I : InS K T C en G H ρ σ) (ea : G a = some u) {Hl : Hp} (R : RE K T G Hl ρ σ) : InS K T C (en.lk_ G Hl ρ σ a) G Hl ρ σ :=
  ⟨R, Stq.refl, fun b h => .inl ⟨.inr h, fun z => by rw [z] at h; have := (R.ownedA h).1; rw [ea] at this; cases this⟩, I.lk⟩
/-- the walk is over; Hl, the heap during the walk, is H but for a, and H2 is H' but for a -/
theorem InS.unlock_ (I : InS K T C en G H ρ σ) {Hl H2 : Hp} (hl : ∀ b, b ≠ a → Hl b = H b) (h2 : ∀ b, b ≠ a → H2 b = H' b) (ha : H2 a = H a) {ol : HO} (hnl : Hl a = some ol) (hnt : ∀ ps, ol ≠ .tbl ps) (R : RE K T G' H2 ρ' σ') (I' : InS K T C (en.lk_ G Hl ρ σ a) G' H' ρ' σ') : InS K T C en G' H2 ρ' σ' :=
  have fr : ∀ b, Fr Hl b → Fr H b := fun b z => by
    by_cases hb : b = a
    · subst hb; exact z.abs hnl hnt
    · exact fun o e => z o (by rw [hl b hb]; exact e)
  { re := R
    st := {
      gle := I.st.gle.trans I'.st.gle
      frame := fun b o h n t => by
        have e1 := I.st.frame b o h n t
        by_cases hb : b = a
        · subst hb; rw [ha]; exact e1
        · rw [h2 b hb]
          exact I'.st.frame b o (by show Hl b = _; rw [hl b hb]; exact e1) (fun z => z.1.elim n fun z => (I.own b z).elim n fun e => e.abs h t) t
      new := fun b h => by
        rcases I'.st.new b h with z | z | z
        · exact I.st.new b z
        · rcases z.1 with z | z
          · exact .inr (.inl z)
          · exact .inr (I.own b z)
        · exact .inr (.inr (I.st.keep b (fr b z)))
      keep := fun b h => I.st.keep b (by
        by_cases hb : b = a
        · subst hb; exact fun o e => h o (by rw [ha]; exact e)
        · exact fr b (I'.st.keep b fun o e => h o (by rw [h2 b hb]; exact e))) }
    own := fun b h => by
      rcases I'.own b h with z | z
      · rcases z.1 with z | z
        · exact .inl z
        · exact I.own b z
      · exact .inr (I.st.keep b (fr b z))
    lk := I'.lk }
theorem repK_get {kvs : List (Key × V)} {ps : List (D × D)} {i : Nat} {k : Key} {v : V} (r : RepK K G kvs ps) (e : kvs[i]? = some (k, v)) : (ps.map (·.1))[i]? = some (keyD k) ∧ OkK k := by
  induction kvs generalizing ps i with
  | nil => simp at e
  | cons kv kvs ih =>
    cases r with
    | cons o r1 rr =>
      cases i with
      | zero => simp at e; obtain ⟨rfl, rfl⟩ := e; exact ⟨rfl, o⟩
      | succ i => obtain ⟨h1, h2⟩ := ih rr (by simpa using e); exact ⟨by simpa using h1, h2⟩
theorem repK_len {kvs : List (Key × V)} {ps : List (D × D)} (r : RepK K G kvs ps) : kvs.length = ps.length := by
  induction kvs generalizing ps with
  | nil => cases r; rfl
  | cons kv kvs ih => cases r with | cons _ _ rr => simp [ih rr]
theorem rep_kV {k : Key} (o : OkK k) : Rep K G (kV k) (keyD k) := by
  cases k with
  | inl i => exact .int i
  | inr x =>
    have : kV (.inr x) = .str (mkS x.cps.toList) := by cases x; simp [kV, mkS]
    rw [this]
    exact .str o
end
section
variable {X : Cx} {g : GC} {C : EC} {W : WX} {en : Ent} {fuel : Nat} {N : List Str} {sc : Scope} {k : Nat} {pos : Pos} {t : Tgt} {i : Nat} {y : Str} {bs : MSs}
/-- the walk itself: the dict at a is locked -/
theorem keys_walk {K : PySem.W.Frag} {Z : Ends} {σ : St} {H G : Hp} {ρ ρ2 : Ev.Env} {a : Addr} {od : Obj} {kvs : List (Key × V)} {ps : List (D × D)} {en1 : Ent} (I : InS K g.T C en1 G H ρ σ) (hv : σ[i]? = some (some (.ref a))) (ea : H a = some (.frz od (.dK kvs))) (e0 : en1.H0 = H) (na : ¬ en1.A a)
    (r : RepK K G kvs ps) (hG : en1.G0 = G) (eo : forLoop C t (fun ρ => exs C fuel bs ρ) (ps.map (·.1)) ρ = .nx ρ2) (fin : ∀ σ' H' G', InS K g.T C en1 G' H' ρ2 σ' → H' a = some (.frz od (.dK kvs)) → Z.nx σ' H') :
    tFor (iKeys (tVar i)) (gTg K t) (tAll K g C noW fuel bs) Z σ H := by
  refine ⟨_, hv, a, od, rfl, .inl ⟨kvs, ea, ?_⟩⟩
  have w := walk_keys (d := a) (o := od) (kvs := kvs)
  have hlen := repK_len r
  have still : ∀ {G' H' : Hp} {ρ' : Ev.Env} {σ' : St}, InS K g.T C en1 G' H' ρ' σ' → H' a = some (.frz od (.dK kvs)) := fun I' => I'.st.frame a _ (by rw [e0]; exact ea) na (fun _ z => nomatch z)
  refine ⟨fun i m σ' H' => m = kvs.length - i ∧ i ≤ kvs.length ∧ ∃ G' ρ', InS K g.T C en1 G' H' ρ' σ' ∧ forLoop C t (fun ρ => exs C fuel bs ρ) ((ps.map (·.1)).drop i) ρ' = .nx ρ2, ⟨kvs.length, rfl, Nat.zero_le _, G, ρ, I, eo⟩, ?_⟩
  rintro i m σ3 H3 ⟨rfl, hil, G3, ρ3, I3, h3⟩
  have s3 := still I3
  by_cases hlt : i < kvs.length
  · have hlt' : i < (ps.map (·.1)).length := by simpa [← hlen] using hlt
    rw [List.drop_eq_getElem_cons hlt'] at h3
    simp only [forLoop] at h3
    refine .inr ⟨w.goes i H3 hlt s3, _, fun σ' H' p => ⟨kvs.length - (i + 1), by omega, rfl, hlt, p⟩, fun x H' y => ?_⟩
    obtain ⟨rfl, kk, vv, ek, rfl⟩ := w.yields i H3 x H' hlt s3 y
    obtain ⟨ep, ok⟩ := repK_get r ek
    have ed : (ps.map (·.1))[i] = keyD kk := by rw [List.getElem?_eq_getElem hlt'] at ep; exact Option.some.inj ep
    cases es : setT C t (ps.map (·.1))[i] ρ3 with
    | none => rw [es] at h3; cases h3
    | some ρ5 =>
      rw [es] at h3
      dsimp only at h3
      refine setT_ok I3.re (ed ▸ rep_kV ok : Rep K G3 (kV kk) (ps.map (·.1))[i]) es fun σ5 S5 => ⟨en1, G3, ρ5, I3.set S5, ?_⟩
      cases eb : exs C fuel bs ρ5 with
      | nx ρ6 => rw [eb] at h3; exact fun σ' H' G' I' => ⟨G', ρ6, I', h3⟩
      | ct ρ6 => rw [eb] at h3; exact fun σ' H' G' I' => ⟨G', ρ6, I', h3⟩
      | bk ρ6 => rw [eb] at h3; cases h3; exact fun σ' H' G' I' => fin σ' H' G' I' (still I')
      | rt r ρ6 => rw [eb] at h3; cases h3
      | ex x ρ6 => rw [eb] at h3; cases h3
      | no => rw [eb] at h3; cases h3
  · have e1 : i = kvs.length := by omega
    subst e1
    rw [List.drop_eq_nil_of_le (by simp [hlen])] at h3
    simp only [forLoop] at h3
    cases h3
    exact .inl ⟨w.stops H3 s3, fin σ3 H3 G3 I3 s3⟩
theorem _root_.L2.PS.or {st : Stmt} {a b : TS} (h1 : PS X st a) (h2 : PS X st b) : PS X st (fun Z σ H => a Z σ H ∨ b Z σ H) := ⟨fun pins s σ H Z I h => h.elim (fun q => h1.run pins s σ H Z I q) fun q => h2.run pins s σ H Z I q⟩
theorem ps_forkeysE {tgE : Expr} {py : Pos} {body : List Stmt} (cx : CxOk X N sc k) (hi : N[i]? = some y) (hv : Vis sc y) (hd : (y == ("__debug__" : Str)) = false) (hcd : (y == ("__classdict__" : Str)) = false) (hpo : PassesOwn (model X.prog X.w) X.A X.env X.xe) (hg : PG X tgE (gTg X.K t))
    (hb : ∀ en, PSs X body (tExs X.K g C noW en fuel bs)) : PS X (.For tgE (.Name y py) body [] pos) (tEx X.K g C W en fuel (.forkeys t (.var i) bs)) := by
  have pv : PE X (.Name y py) (tVar i) := pe_var (X := X) (i := i) (by rw [cx.nm]; exact hi) (by rw [cx.sc]; exact hv) hd hcd
  have pf := ps_for (pos := pos) hpo cx.calm (pi_keys pv) hg (pss_all hb) (fun _ => rfl)
  refine ((ps_lock pf).or pf).imp fun Z σ H ⟨G, ρ, I, h⟩ => ?_
  simp only [ex] at h
  cases q : (ev C (.var i) ρ).bind (frz C) with
  | no => rw [q] at h; exact h.elim
  | ex x ρ1 =>
    simp only [ev] at q
    split at q
    · cases q
    · simp only [Out.bind, frz] at q
      split at q
      · cases q
      · split at q <;> cases q
    · cases q
  | ok d ρ1 =>
    rw [q] at h
    simp only [Out.then] at h
    obtain ⟨a, G1, hva, I1, rp⟩ : ∃ v G1, σ[i]? = some (some v) ∧ InS X.K g.T C en G1 H ρ1 σ ∧ Rep X.K G1 v d := by
      obtain ⟨r, ρ0, e1, e2⟩ := bind_ok q
      simp only [ev] at e1
      split at e1
      · rename_i d' es
        cases e1
        simp only [frz] at e2
        cases e2
        obtain ⟨v, hv, rp⟩ := I.re.slot i _ (slotAt_some.mp es)
        exact ⟨v, G, hv, I, rp⟩
      · rename_i d' es
        cases e1
        have es' := slotAt_some.mp es
        obtain ⟨v, hv, a, rfl, n, o⟩ := I.re.slot i _ es'
        obtain ⟨G1, R1, S1, rp⟩ := frz_ok Stp.refl I.re (show RV X.K σ H G H ρ (.ref a) (.sl i) from ⟨hv, ⟨_, rfl⟩, d', .inl es'⟩) e2
        exact ⟨_, G1, hv, I.step R1 S1, rp⟩
      · cases e1
    split at h
    · rename_i ps
      split at h
      · rename_i hk
        cases ef : forLoop C t (fun ρ => exs C fuel bs ρ) (ps.map (·.1)) ρ1 with
        | nx ρ2 =>
          rw [ef] at h
          cases rp with
          | dT e n r =>
            cases r with
            | nil => exact absurd rfl n
            | cons _ _ _ => simp [D.isKey] at hk
          | @dK a kvs _ e r =>
            have nA : ∀ {Hl : Hp}, ¬ (en.lk_ G1 Hl ρ1 σ a).A a := fun z => z.2 rfl
            rcases I1.re.sub.rd e with eH | ⟨od, eH⟩
            · -- to be locked
              refine .inl ⟨a, .dK kvs, eH, trivial, fun od => ?_⟩
              have R1 := I1.re.relock (o' := .frz od (.dK kvs)) (u := .dK kvs) rfl e eH (fun _ z => nomatch z) (fun _ z => nomatch z) (.inr ⟨od, upd_same⟩)
              refine keys_walk (I1.lock_ e R1) hva upd_same rfl nA r rfl ef fun σ' H' G' I' s' => ⟨s', ?_⟩
              have R2 := I'.re.relock (o' := .dK kvs) (u := .dK kvs) rfl (I'.st.gle a _ e) s' (fun _ z => nomatch z) (fun _ z => nomatch z) (.inl upd_same)
              exact h σ' _ G' (I1.unlock_ (fun b hb => upd_ne hb) (fun b hb => upd_ne hb) (by rw [upd_same, eH]) upd_same (fun _ z => HO.noConfusion z) R2 I')
            · refine .inr (keys_walk (I1.lock_ e I1.re) hva eH rfl nA r rfl ef fun σ' H' G' I' s' => ?_)
              exact h σ' _ G' (I1.unlock_ (fun b hb => rfl) (fun b hb => rfl) (by rw [s', eH]) eH (fun _ z => HO.noConfusion z) I'.re I')
        | rt r ρ2 => rw [ef] at h; exact h.elim
        | bk ρ2 => rw [ef] at h; exact h.elim
        | ct ρ2 => rw [ef] at h; exact h.elim
        | ex x ρ2 => rw [ef] at h; exact h.elim
        | no => rw [ef] at h; exact h.elim
      · exact h.elim
    · exact h.elim
end
end Ev

/-! E24: stores of two; raise; comprehensions into a name. -/
namespace Ev
open PySem PySem.Spec L2
open PyProof.Rows hiding St
def isStar : Expr → Bool
  | .Starred .. => true
  | _ => false
theorem swap2 {x y : Str} {px py pt pt2 : Pos} {kt k2 : Nat} {a b : Expr} {env : PySem.Env} (hk : env.scope.kind = .function) (hx : env.scope.names.lookup x = some .local) (hy : env.scope.names.lookup y = some .local) (hl : (py.line == px.line) = true) (hxy : x ≠ y)
    (ha : isStar a = false) (hb : isStar b = false) (hf : ([a, b].all (foldedForSure 8)) = false) (hc : ([a, b].all (constantsAlone 8)) = false) :
    swappedStores [.Tuple [.Name x px, .Name y py] kt pt] (.Tuple [a, b] k2 pt2) env = pure (some [x, y]) := by
  have kx : env.kindOf x = some .local := hx
  have ky : env.kindOf y = some .local := hy
  have hbk : env.blockKind = .function := by unfold Env.blockKind; rw [hk]; rfl
  have s1 : ∀ {e : Expr}, isStar e = false → (match e with | .Starred .. => true | _ => false) = false := fun {e} h => by
    cases e <;> first | rfl | exact nomatch h
  have hs : ([a, b].any fun | .Starred .. => true | _ => false) = false := by
    rw [List.any_cons, List.any_cons, List.any_nil, s1 ha, s1 hb]; rfl
  have he : ([x, y] : List Str).eraseDups.length = 2 := by
    have : (y == x) = false := by simpa using fun e => hxy e.symm
    simp [List.eraseDups_cons, this]
  unfold swappedStores
  simp only [hbk, kx, ky, hf, hc]
  have hl' : py.line = px.line := by simpa using hl
  simp [Expr.pos, he, kx, ky, hl', List.filterMap_cons]
  intro h
  rcases h with h | h
  · exact Bool.noConfusion (h.symm.trans (s1 ha))
  · exact Bool.noConfusion (h.symm.trans (s1 hb))
section
variable {X : Cx} {g : GC} {C : EC} {W : WX} {en : Ent} {fuel : Nat} {N : List Str} {sc : Scope} {k : Nat} {pos : Pos} {t : Tgt} {i j : Nat} {x y : Str} {rec : CC → Expr → ME → Bool} {cc : CC}
/-- a value of its own into a slot -/
theorem setOne_ok {K : PySem.W.Frag} {T : List (Addr × Str)} {G H : Hp} {ρ : Ev.Env} {σ : St} {v : V} {r : VR} (I : InS K T C en G H ρ σ) (h : RV K σ en.H0 G H ρ v r) (w : wr C ρ i = true) (n : notSl r = true) : InS K T C en G H (setOne i r ρ) (σ.set i (some v)) := by
  cases r with
  | im d =>
    have e : setNm C i d ρ = some (ρ.set i (some (.fz d))) := by unfold setNm; rw [if_pos w]
    exact I.set (setNm_ok I.re h e)
  | fr d => exact I.give h w
  | sl i => cases n
theorem RV.keepN {K : PySem.W.Frag} {T : List (Addr × Str)} {G G' H H' H0 : Hp} {ρ ρ' : Ev.Env} {σ : St} {v : V} {r : VR} (R : RE K T G H ρ σ) (S : Stp ρ σ G H ρ' G' H') (h : RV K σ H0 G H ρ v r) (n : notSl r = true) : RV K σ H0 G' H' ρ' v r :=
  h.keep R S fun i e => by subst e; cases n
theorem ps_parE {px py pt pt2 : Pos} {kt k2 : Nat} {a b : Expr} {ma mb : ME} (c : CxE g C k X cc W) (hi : cc.N[i]? = some x) (hj : cc.N[j]? = some y) (hij : i ≠ j) (hk : cc.sc.kind = .function) (hx : cc.sc.names.lookup x = some .local) (hy : cc.sc.names.lookup y = some .local)
    (pa : PE X a (tEv X.K g C W ma)) (pb : PE X b (tEv X.K g C W mb)) (hpa : plainE a = true) (hpb : plainE b = true) (hl : (py.line == px.line) = true) (hf : ([a, b].all (foldedForSure 8)) = false) (hc : ([a, b].all (constantsAlone 8)) = false) :
    PS X (.Assign [.Tuple [.Name x px, .Name y py] kt pt] (.Tuple [a, b] k2 pt2) pos) (tEx X.K g C W en fuel (.par i j ma mb)) := by
  have st : ∀ {e : Expr}, plainE e = true → isStar e = false := fun {e} h => by cases e <;> first | rfl | (simp [plainE] at h)
  have hxy : x ≠ y := fun e => hij (nodup_ix c.cx.nd hi (e ▸ hj))
  have hsc := c.cx.sc
  refine (ps_par c.cx.calm (by rw [c.cx.nm]; exact c.cx.nd) (by rw [c.cx.nm]; exact hi) (by rw [c.cx.nm]; exact hj) hij (by rw [hsc]; exact hx) (by rw [hsc]; exact hy) (pa_cons pa (pa_cons pb pa_nil (star_plain hpb _ _)) (star_plain hpa _ _))
    (swap2 (by rw [hsc]; exact hk) (by rw [hsc]; exact hx) (by rw [hsc]; exact hy) hl hxy (st hpa) (st hpb) hf hc) rfl).imp fun Z σ H ⟨G, ρ, I, h⟩ => ?_
  simp only [ex] at h
  refine ⟨G, ρ, I.re, (PostS.then (RV X.K σ H) I h).imp fun v H1 ⟨G1, ρ1, ra, I1, S1, r1, h1⟩ => ?_⟩
  refine ⟨G1, ρ1, I1.re, (PostS.then (RV X.K σ H1) I1 h1).imp fun u H2 ⟨G2, ρ2, rb, I2, S2, r2, h2⟩ => ?_⟩
  split at h2
  · rename_i cd
    simp only [Bool.and_eq_true, bne_iff_ne, ne_eq] at cd
    obtain ⟨⟨⟨⟨c1, c2⟩, c3⟩, c4⟩, _⟩ := cd
    have r1' : RV X.K σ en.H0 G2 H2 ρ2 v ra := (r1.keepN I1.re S2 c1).entry I
    have r2' : RV X.K σ en.H0 G2 H2 ρ2 u rb := r2.entry I1
    have I3 := setOne_ok I2 r1' c3 c1
    have c4' : wr C (setOne i ra ρ2) j = true := by
      obtain ⟨w1, w2⟩ := wr_iff.mp c4
      refine wr_iff.mpr ⟨w1, ?_⟩
      cases ra <;> simp only [setOne, List.length_set] <;> exact w2
    -- the second value is not the first's thing
    have r2'' : RV X.K (σ.set i (some v)) en.H0 G2 H2 (setOne i ra ρ2) u rb := by
      cases rb with
      | im d => exact r2'
      | sl l => cases c2
      | fr d =>
        obtain ⟨p, rfl, n0, n, no, o⟩ := r2'
        refine ⟨p, rfl, n0, n, fun z => ?_, o⟩
        have hi2 : i < ρ2.length := (wr_iff.mp c3).2
        cases ra with
        | im d1 =>
          rcases owned_set hi2 I2.re.len z with q | ⟨_, _, q⟩
          · exact no q
          · cases q
        | fr d1 =>
          rcases owned_set hi2 I2.re.len z with q | ⟨q, _⟩
          · exact no q
          · -- the first was there before the second was made
            obtain ⟨p1, e1, _, _, _, o1⟩ := r1
            rw [q] at e1; cases e1
            obtain ⟨q2, e2, n2, _⟩ := r2
            cases e2
            obtain ⟨u1, e3, _, t1⟩ := o1.at_
            exact n2.abs e3 t1
        | sl l => cases c1
    refine ⟨v, u, rfl, ?_⟩
    exact h2 _ H2 G2 (setOne_ok I3 r2'' c4' c2)
  · exact h2.elim
theorem star_no : ∀ {e : Expr}, isStar e = false → (match e with | .Starred .. => true | _ => false) = false := fun {e} h => by
  cases e <;> first | rfl | exact nomatch h
theorem setNms_len {C : EC} : ∀ {is : List Nat} {ds : List D} {ρ ρ' : Ev.Env}, setNms C is ds ρ = some ρ' → is.length = ds.length
  | [], [], _, _, _ => rfl
  | [], _ :: _, _, _, h => by simp [setNms] at h
  | _ :: _, [], _, _, h => by simp [setNms] at h
  | i :: is, d :: ds, ρ, ρ', h => by
    simp only [setNms] at h
    obtain ⟨ρ1, _, h2⟩ := Option.bind_eq_some_iff.mp h
    rw [List.length_cons, List.length_cons, setNms_len h2]
theorem swap3 {x y z : Str} {px py pz pt pt2 : Pos} {kt k2 : Nat} {a b d : Expr} {env : PySem.Env} (hk : env.scope.kind = .function) (hx : env.scope.names.lookup x = some .local) (hy : env.scope.names.lookup y = some .local) (hz : env.scope.names.lookup z = some .local)
    (hl : (py.line == px.line) = true) (hl2 : (pz.line == px.line) = true) (hxy : x ≠ y) (hxz : x ≠ z) (hyz : y ≠ z) (ha : isStar a = false) (hb : isStar b = false) (hd : isStar d = false) (hf : ([a, b, d].all (foldedForSure 8)) = false) (hc : ([a, b, d].all (constantsAlone 8)) = false) :
    swappedStores [.Tuple [.Name x px, .Name y py, .Name z pz] kt pt] (.Tuple [a, b, d] k2 pt2) env = pure (some [x, y, z]) := by
  have kx : env.kindOf x = some .local := hx
  have ky : env.kindOf y = some .local := hy
  have kz : env.kindOf z = some .local := hz
  have hbk : env.blockKind = .function := by unfold Env.blockKind; rw [hk]; rfl
  have he : ([x, y, z] : List Str).eraseDups.length = 3 := by
    have h1 : (y == x) = false := by simpa using fun e => hxy e.symm
    have h2 : (z == x) = false := by simpa using fun e => hxz e.symm
    have h3 : (z == y) = false := by simpa using fun e => hyz e.symm
    simp [List.eraseDups_cons, h1, h2, h3]
  unfold swappedStores
  simp only [hbk, kx, ky, kz, hf, hc]
  have hl' : py.line = px.line := by simpa using hl
  have hl2' : pz.line = px.line := by simpa using hl2
  simp [Expr.pos, he, kx, ky, kz, hl', hl2', List.filterMap_cons]
  intro h
  rcases h with h | h | h
  · exact Bool.noConfusion (h.symm.trans (star_no ha))
  · exact Bool.noConfusion (h.symm.trans (star_no hb))
  · exact Bool.noConfusion (h.symm.trans (star_no hd))
theorem bind_then {α β : Type} {o : Out α} {f : α → Ev.Env → Out β} {q : β → Ev.Env → OS} : (o.bind f).then q = o.then fun a ρ => (f a ρ).then q := by
  cases o <;> rfl
theorem ps_par3E {z : Str} {l : Nat} {px py pz pt pt2 : Pos} {kt k2 : Nat} {a b d : Expr} {ms : MEs} (c : CxE g C k X cc W) (hi : cc.N[i]? = some x) (hj : cc.N[j]? = some y) (hl : cc.N[l]? = some z) (hij : i ≠ j) (hil : i ≠ l) (hjl : j ≠ l) (hk : cc.sc.kind = .function)
    (hx : cc.sc.names.lookup x = some .local) (hy : cc.sc.names.lookup y = some .local) (hz : cc.sc.names.lookup z = some .local) (pa : PA X [a, b, d] (tEvs X.K g C W ms)) (hpa : plainE a = true) (hpb : plainE b = true) (hpd : plainE d = true)
    (l1 : (py.line == px.line) = true) (l2 : (pz.line == px.line) = true) (hf : ([a, b, d].all (foldedForSure 8)) = false) (hc : ([a, b, d].all (constantsAlone 8)) = false) :
    PS X (.Assign [.Tuple [.Name x px, .Name y py, .Name z pz] kt pt] (.Tuple [a, b, d] k2 pt2) pos) (tEx X.K g C W en fuel (.asg (.tp [i, j, l]) (.tup ms))) := by
  have st : ∀ {e : Expr}, plainE e = true → isStar e = false := fun {e} h => by cases e <;> first | rfl | (simp [plainE] at h)
  have hsc := c.cx.sc
  have nx : x ≠ y := fun e => hij (nodup_ix c.cx.nd hi (e ▸ hj))
  have nz : x ≠ z := fun e => hil (nodup_ix c.cx.nd hi (e ▸ hl))
  have ny : y ≠ z := fun e => hjl (nodup_ix c.cx.nd hj (e ▸ hl))
  refine (ps_par3 c.cx.calm (by rw [c.cx.nm]; exact c.cx.nd) (by rw [c.cx.nm]; exact hi) (by rw [c.cx.nm]; exact hj) (by rw [c.cx.nm]; exact hl) hij hil hjl (by rw [hsc]; exact hx) (by rw [hsc]; exact hy) (by rw [hsc]; exact hz) pa
    (swap3 (by rw [hsc]; exact hk) (by rw [hsc]; exact hx) (by rw [hsc]; exact hy) (by rw [hsc]; exact hz) l1 l2 nx nz ny (st hpa) (st hpb) (st hpd) hf hc) rfl).imp fun Z σ H ⟨G, ρ, I, h⟩ => ?_
  simp only [ex, ev, bind_then] at h
  refine ⟨G, ρ, I.re, (PostS.then (fun G' _ _ vs ds => Reps X.K G' vs ds) I h).imp fun vs H1 ⟨G1, ρ1, ds, I1, S1, r1, h1⟩ => ?_⟩
  by_cases sz : ds.length ≤ szL
  · rw [if_pos sz] at h1
    have hs : PostS X.K g.T g.cA C en Z W (match setNms C [i, j, l] ds ρ1 with | some ρ2 => .nx ρ2 | none => .no) := h1
    cases e0 : setNms C [i, j, l] ds ρ1 with
    | none => rw [e0] at hs; exact hs.elim
    | some ρ4 =>
    rw [e0] at hs
    have len := setNms_len e0
    match ds, r1, e0, len with
    | [d1, d2, d3], .cons (v := v1) q1 (.cons (v := v2) q2 (.cons (v := v3) q3 .nil)), e0, _ =>
      simp only [setNms] at e0
      obtain ⟨ρ2, e1, e0⟩ := Option.bind_eq_some_iff.mp e0
      obtain ⟨ρ3, e2, e0⟩ := Option.bind_eq_some_iff.mp e0
      obtain ⟨ρ5, e3, e0⟩ := Option.bind_eq_some_iff.mp e0
      cases e0
      have I2 := I1.set (setNm_ok I1.re q1 e1)
      have I3 := I2.set (setNm_ok I2.re q2 e2)
      have I4 := I3.set (setNm_ok I3.re q3 e3)
      exact ⟨v1, v2, v3, rfl, hs _ H1 G1 I4⟩
    | [], _, _, len => simp at len
    | [_], _, _, len => simp at len
    | [_, _], _, _, len => simp at len
    | _ :: _ :: _ :: _ :: _, _, _, len => simp at len
  · rw [if_neg sz] at h1
    exact h1.elim
/-! ### raise -/
structure ClsOk (K : PySem.W.Frag) (mg : Str → Option Value) (g : GC) (C : EC) : Prop where
  at_ : ∀ x id, g.nt.cl.lookup x = some id → mg x = some (.ref (g.cA id)) ∧ PySem.W.keepIn K (.ref (g.cA id)) = true ∧ PySem.W.subIn K (.ref (g.cA id)) (.type "BaseException") = some true ∧ PySem.W.typeIn K (.ref (g.cA id)) = some (.type "type") ∧
    ∃ B newId initId bmB, ExcBaseFacts B newId initId bmB ∧ PySem.W.excIn K (g.cA id) bmB newId = true
  sub : ∀ id y jd, g.nt.cl.lookup y = some jd → PySem.W.exmOne K (.ref (g.cA id)) (.ref (g.cA jd)) = some (C.sub id jd)
  kit : ∀ id y jd, g.nt.cl.lookup y = some jd → PySem.W.kitOne K (.ref (g.cA id)) (.ref (g.cA jd)) = some (C.sub id jd)
  exc : ∀ id, ExcC K (g.cA id)
theorem ps_raiseE {m : Str} {p p2 cpos : Pos} {jj : Nat} {id : Nat} (c : CxE g C k X cc W) (co : ClsOk X.K X.mg g C) (hg : Gl X x) (hl : g.nt.cl.lookup x = some id) (hdb : (x == ("__debug__" : Str)) = false) :
    PS X (.Raise (some (.Call (.Name x p) [.Constant (.str m) jj p2] [] cpos)) none pos) (tEx X.K g C W en fuel (.raise id)) := by
  obtain ⟨h1, h2, h3, h4, B, newId, initId, bmB, h5, h6⟩ := co.at_ x id hl
  refine (ps_raise c.cx.calm c.tk (pmk_own h5 h6 h1 h2 (raises_own h3 h4) hg hdb)).imp fun Z σ H ⟨G, ρ, I, h⟩ => ?_
  simp only [ex] at h
  exact h _ none σ H G I ⟨rfl, rfl⟩
/-! ### name = [..] -/
def setLcB (cc : CC) (i : Nat) (tg : Expr) (e : Expr) : Bool := match tg, e with
  | .Name y py, .ListComp _ _ scope p => decide (cc.N[i]? = some y) && decide (cc.sc.kind = .function) && decide (cc.sc.names.lookup y = some .local) && (py.line == p.line) && !(scope.names.any fun (n, k) => n == y && (k == .local || k == .cell))
  | _, _ => false
theorem ps_setcE (ih : ∀ cc e m, rec cc e m = true → SndE g C k cc e m) (c : CxE g C k X cc W) {tgE e : Expr} {m : ME} (h : stepE rec cc e m = true) (hs : setLcB cc i tgE e = true) : PS X (.Assign [tgE] e pos) (tEx X.K g C W en fuel (.asg (.nm i) m)) := by
  unfold setLcB at hs
  split at hs
  · rename_i y py x gs scope p
    simp only [Bool.and_eq_true, decide_eq_true_eq, Bool.not_eq_true'] at hs
    obtain ⟨⟨⟨⟨h1, h2⟩, h3⟩, h4⟩, h5⟩ := hs
    have hsc := c.cx.sc
    have sw : ∀ l, swapsWith (.ListComp x gs scope p) (some (.Name y py)) l X.env = pure true := fun l => sw_true (by rw [hsc]; exact h2) (by rw [hsc]; exact h3) h4 h5
    cases m with
    | comp elt tg ik its cond own =>
      simp only [stepE] at h
      split at h
      · rename_i heq
        cases heq
        simp only [Bool.and_eq_true] at h
        obtain ⟨⟨⟨⟨⟨a1, a2⟩, a3⟩, a4⟩, a5⟩, a6⟩ := h
        obtain ⟨pi, fs⟩ := stepI_s ih c a4
        have ok : BlkOk cc.N cc.sc scope (ownP cc own) := by
          unfold ownB at a1
          simp only [Bool.and_eq_true] at a1
          exact blkOk_by a1.1
        have bk := fun s H A cl fp => blk_of c a1 s H A cl fp
        refine (ps_setLc (i := i) (g := gTg X.K tg) (te := tEv X.K g C noW elt) (tt := tEvB X.K g C noW cond) c.cx.calm (by rw [c.cx.nm]; exact c.cx.nd) (by rw [c.cx.nm]; exact h1) (by rw [hsc]; exact h3) (sw _) pi (by rw [c.cx.nm, hsc]; exact ok) (fun s H A cl fp => tg_of (bk s H A cl fp).asOk a3) (fun s H A cl fp => ifs_of ih (bk s H A cl fp) a5) (fun s H A cl fp => (ih _ _ _ a6 _ _ (bk s H A cl fp)).1) (fs _)).imp fun Z σ H q => ?_
        have q2 := comp_TE (g := g) (C := C) (W := W) (fun i hi => by simpa using List.all_eq_true.mp a2 i hi) (asg_TE (t := .nm i) (tg := gName i) q)
        rw [ownP_snd]
        exact q2
      · cases h
    | comp2 elt tg ik its cond tg2 ik2 its2 cond2 own =>
      simp only [stepE] at h
      split at h
      · rename_i heq
        cases heq
        simp only [Bool.and_eq_true] at h
        obtain ⟨⟨⟨⟨⟨⟨⟨⟨⟨a1, a2⟩, a2'⟩, a3⟩, a4⟩, a5⟩, a7⟩, a8⟩, a9⟩, a6⟩ := h
        obtain ⟨pi, fs⟩ := stepI_s ih c a4
        have ok : BlkOk cc.N cc.sc scope (ownP cc own) := by
          unfold ownB at a1
          simp only [Bool.and_eq_true] at a1
          exact blkOk_by a1.1
        have bk := fun s H A cl fp => blk_of c a1 s H A cl fp
        refine (ps_setLc2 (i := i) (g := gTg X.K tg) (g1 := gTg X.K tg2) (te := tEv X.K g C noW elt) (tt := tEvB X.K g C noW cond) (tt1 := tEvB X.K g C noW cond2) (wi1 := tIt X.K g C noW ik2 its2) (vs1 := tgVars tg2) c.cx.calm (by rw [c.cx.nm]; exact c.cx.nd) (by rw [c.cx.nm]; exact h1) (by rw [hsc]; exact h3) (sw _) pi (by rw [c.cx.nm, hsc]; exact ok) (fun i hi => by rw [ownP_snd]; simpa using List.all_eq_true.mp a2' i hi) (fun s H A cl fp => tg_of (bk s H A cl fp).asOk a3) (fun s H A cl fp => ifs_of ih (bk s H A cl fp) a5)
          (fun s H A cl fp => (stepI_s ih (bk s H A cl fp) a8).1) (fun s H A cl fp => tg_of (bk s H A cl fp).asOk a7) (fun s H A cl fp => ifs_of ih (bk s H A cl fp) a9) (fun s H A cl fp => (ih _ _ _ a6 _ _ (bk s H A cl fp)).1) (fs _) (stepI_f a8)).imp fun Z σ H q => ?_
        have q2 := comp2_TE (g := g) (C := C) (W := W) (fun i hi => by simpa using List.all_eq_true.mp a2 i hi) (fun i hi => by simpa using List.all_eq_true.mp a2' i hi) (asg_TE (t := .nm i) (tg := gName i) q)
        rw [ownP_snd]
        exact q2
      · cases h
    | dct ks vs => simp [stepE] at h
    | meth mf o as => simp [stepE] at h
    | blt b as =>
      simp only [stepE, Bool.false_or] at h
      unfold ssB at h
      split at h
      · rename_i he
        cases he
      · cases h
    | _ => simp [stepE] at h
  · cases hs
end
structure CxS (g : GC) (C : EC) (k : Nat) (X : Cx) (cc : CC) (W : WX) : Prop where
  e : CxE g C k X cc W
  ps : PassesOwn (model X.prog X.w) X.A X.env X.xe
  cl : ClsOk X.K X.mg g C
  stk : X.stack = X.env :: X.outer
  frm : X.env.frame = some X.env.locals
def SndS (g : GC) (C : EC) (k fuel : Nat) (cc : CC) (s : Stmt) (m : MS) : Prop := ∀ (X : Cx) (W : WX), CxS g C k X cc W → ∀ en, PS X s (tEx X.K g C W en fuel m)
def SndSs (g : GC) (C : EC) (k fuel : Nat) (cc : CC) (s : List Stmt) (m : MSs) : Prop := ∀ (X : Cx) (W : WX), CxS g C k X cc W → ∀ en, PSs X s (tExs X.K g C W en fuel m)
end Ev

/-! E27: try with several clauses, some of which give the error a name. -/
namespace Ev
open PySem PySem.Spec L2
open PyProof.Rows hiding St

abbrev ClT := Value × Option Nat × (Addr → Value → Option Addr → TS)
/-- behind a suite the error's name is gone -/
def Ends.gone (Z : Ends) (i : Nat) : Ends := ⟨fun σ H => Z.nx (σ.set i none) H, Z.rt, fun σ H => Z.bk (σ.set i none) H, fun σ H => Z.ct (σ.set i none) H⟩
def nmE (Z : Ends) : Option Nat → Ends
  | none => Z
  | some i => Ends.gone Z i
def nmS (σ : St) (a : Addr) : Option Nat → St
  | none => σ
  | some i => σ.set i (some (.ref a))
/-- what the clauses wish of an error -/
def wCl (K : PySem.W.Frag) (Wo : WX) (Z : Ends) : List ClT → WX
  | [] => Wo
  | (c, nm, ts) :: r => fun cls d σ H => ∃ b, PySem.W.exmOne K cls c = some b ∧ (b = true → ∀ a, H a = none → ts a cls d (nmE Z nm) (nmS σ a nm) H) ∧ (b = false → wCl K Wo Z r cls d σ H)
inductive Cl (X : Cx) : List ExceptHandler → List ClT → Prop
  | nil : Cl X [] []
  | cons {x : Str} {c : Value} {nm : Option Str} {sl : Option Nat} {ts : Addr → Value → Option Addr → TS} {b₀ : Stmt} {su : List Stmt} {p q : Pos} {hds : List ExceptHandler} {l : List ClT} (hc : Names X x c)
      (hn : (nm = none ∧ sl = none) ∨ ∃ n i, nm = some n ∧ sl = some i ∧ X.N[i]? = some n ∧ X.env.kindOf n = some .local)
      (hsu : ∀ (a : Addr) (oe : Obj) (cls : Value) (d : Option Addr) (pn : List (Addr × Obj)), Zc cls d oe → (∃ vs, oe.data = .fields vs) → PSs (X.suite a ((a, oe) :: pn)) (b₀ :: su) (ts a cls d)) (r : Cl X hds l) :
      Cl X (.ExceptHandler (some (.Name x p)) nm (b₀ :: su) q :: hds) ((c, sl, ts) :: l)
section
variable {X : Cx} {body : List Stmt} {h0 : ExceptHandler} {hds : List ExceptHandler} {l : List ClT} {pos : Pos} {tb : WX → TS} {Wo : WX}
theorem sp_back {a : Addr} {pn pins : List (Addr × Obj)} {Z : Ends} {f : Flow} {s : Shared} (ok : X.Ok) (h : SP (X.suite a pn) [] Z f s) (hp : pn = pn) (bk : ∀ {σ : St} {H : Hp}, Inv (X.suite a pn) [] σ H s → Inv X pins σ H s) : SP X pins Z f s := by
  cases f with
  | next => obtain ⟨σ, H, S, q⟩ := h; exact ⟨σ, H, bk S, q⟩
  | brk => obtain ⟨σ, H, S, q⟩ := h; exact ⟨σ, H, bk S, q⟩
  | cont => obtain ⟨σ, H, S, q⟩ := h; exact ⟨σ, H, bk S, q⟩
  | ret u => obtain ⟨v, σ, H, S, r, q⟩ := h; exact ⟨v, σ, H, bk S, r, q⟩
theorem ps_tryW (hst : X.stack = X.env :: X.outer) (hfr : X.env.frame = some X.env.locals) (hN : X.N.Nodup) (tk : Takes X Wo)
    (hb : ∀ (W : WX) (pn : List (Addr × Obj)) (xe : Value → Shared → Prop), Takes (X.tr pn xe) W → PassesOwn (model X.prog X.w) X.A X.env xe → PSs (X.tr pn xe) body (tb W)) (hh : Cl X (h0 :: hds) l) :
    PS X (.Try body (h0 :: hds) [] [] pos) (fun Z σ H => tb (wCl X.K Wo Z l) Z σ H) := by
  refine ⟨fun pins s σ H Z I h => ?_⟩
  have ok := I.ok
  have frm : X.A.frames = some (X.env :: X.outer) := by rw [ok.frames, hst]
  refine wpAny_Try_except (wpAny_mono ((hb (wCl X.K Wo Z l) (X.pn ++ pins) (fun e s1 => wpAny (model X.prog X.w) X.A (noteFrame e X.env) (fun _ s2 => wpAny (model X.prog X.w) X.A (setFlight e none) (fun _ s3 =>
    wpAny (model X.prog X.w) X.A (handleBy e X.env (h0 :: hds)) (SP X pins Z) X.xe s3) X.xe s2) X.xe s1) (fun u s1 xx => ?_) PassesOwn.looking).run [] s σ H Z (I.toTry _) h) (fun f s1 hsp => ?_) (fun e s1 he => he))
  · obtain ⟨a, B, sI, pz, σ1, H1, cls, d, rfl, Jt, nb, up, sky, na, os, ag, w⟩ := xx
    have J : Inv X pins σ1 H1 sI := Jt.ofTry ok
    show wpAny (model X.prog X.w) X.A (noteFrame (.ref a) X.env) _ _ _
    refine Sky.land Zc.steady frm hfr (hst ▸ sky) fun h3 fl3 up3 => ?_
    have J3 : Inv X pins σ1 H1 { s1 with heap := h3 } := J.landed nb fl3.1 (up.trans up3) os ag
    obtain ⟨oe3, vs3, he3, hz3, hd3⟩ := fl3.there
    have nf : a ∉ frs (X.env :: X.outer) := fun hm => by
      obtain ⟨_, o', e', hnf⟩ := fl3.2.2.1.mem hm
      rw [he3] at e'; cases e'
      exact hnf _ hd3
    have nL : a ≠ X.env.locals := fun z => nf (List.mem_filterMap.mpr ⟨X.env, List.mem_cons_self, by rw [hfr, z]⟩)
    have nF : a ∉ X.fs := fun hm => by
      obtain ⟨e, he, q⟩ := List.mem_filterMap.mp hm
      exact nf (List.mem_filterMap.mpr ⟨e, List.mem_cons_of_mem _ he, q⟩)
    have S3 := J3.suite he3 hd3 na nL nF
    have LT : PySem.W.Looks (model X.prog X.w) h3 (typeOf (.ref a)) cls := fun A Q E s k q => wpAny_typeOf_ref (k _ _ he3) (by rw [hz3.1]; exact q)
    have go : ∀ {hs' : List ExceptHandler} {l' : List ClT}, Cl X hs' l' → wCl X.K Wo Z l' cls d σ1 H1 → wpAny (model X.prog X.w) X.A (handleBy (.ref a) X.env hs') (SP X pins Z) X.xe { s1 with heap := h3 } := by
      intro hs' l' hk
      induction hk with
      | nil =>
        intro w
        refine wpAny_handleBy_nil ?_
        obtain ⟨_, _, _, oe, vs, T, oT, ts', he, hz, hd, hv1, _⟩ := id fl3
        unfold PySem.passOn
        refine wpAny_bind (wpAny_field he hd hv1 ?_)
        rw [if_neg (show ¬ ((Value.ref T == Value.none) = true) from by simp)]
        have fin : wpAny (model X.prog X.w) X.A (setFlight (.ref a) X.env.frame) (fun _ s4 => wpAny (model X.prog X.w) X.A (throw (.ref a) : Sem Flow) (SP X pins Z) X.xe s4) X.xe { s1 with heap := h3 } := by
          rw [hfr]
          exact HandSPX.setFlight_upZ fl3 fun h4 hh4 up4 => wpAny_throw (tk _ _ ⟨a, B, sI, pins, σ1, H1, cls, d, rfl, J, nb, (up.trans up3).trans up4, .inr (.inr (by rw [hst]; exact hh4)), na, os, ag, w⟩)
        first
          | exact wpAny_bind (wpAny_pure (wpAny_bind fin))
          | exact wpAny_bind fin
      | @cons x c nm sl ts b₀ su p q hs2 l2 hc hn hsu r ih =>
        intro w
        obtain ⟨b, hb1, hyes, hno⟩ := w
        refine wpAny_handleBy_cons (codeAny_handlers_test ?_) (by intro q; cases q)
        have LM := PySem.W.exm_one (M := model X.prog X.w) (J3.kIn) LT hb1
        have test : ∀ {Q : Value → Shared → Prop} {E : Value → Shared → Prop}, Q c { s1 with heap := h3 } → wpAny (model X.prog X.w) (X.A.mark (some (.ref a))) (eval (.Name x p) X.env) Q E { s1 with heap := h3 } := fun {Q E} q => by
          obtain ⟨hg, hdbg, hm | ⟨hm, hv, hnn⟩⟩ := hc
          · exact ld_glob (X := X.suite a ((a, oe3) :: (X.pn ++ pins))) S3 hg hm q hdbg
          · exact ld_blt (X := X.suite a ((a, oe3) :: (X.pn ++ pins))) S3 hg hm hv q hnn hdbg
        refine test (LM.here ?_)
        cases b with
        | false => exact ih (hno rfl)
        | true =>
          rcases hn with ⟨rfl, rfl⟩ | ⟨n, i, rfl, rfl, hi, hln⟩
          · refine codeAny_handlers_suite (HandSPX.lands_againZ fl3 fun h4 fl4 up4 => ?_)
            have J4 : Inv X pins σ1 H1 { s1 with heap := h4 } := J.landed nb fl4.1 ((up.trans up3).trans up4) os ag
            obtain ⟨oe4, vs4, he4, hz4, hd4⟩ := fl4.there
            exact wpAny_mono ((hsu a oe4 cls d (X.pn ++ pins) hz4 ⟨_, hd4⟩).run [] _ _ H1 _ (J4.suite he4 hd4 na nL nF) (hyes rfl a na)) (fun f s6 hsp => sp_back ok hsp rfl fun S => S.unsuite ok) fun _ _ z => False.elim z
          · refine codeAny_handlers_suite_as (HandSPX.lands_againZ fl3 fun h4 fl4 up4 => ?_)
            have J4 : Inv X pins σ1 H1 { s1 with heap := h4 } := J.landed nb fl4.1 ((up.trans up3).trans up4) os ag
            obtain ⟨oe4, vs4, he4, hz4, hd4⟩ := fl4.there
            refine store_ok (X := X.suite a ((a, oe4) :: (X.pn ++ pins))) (v := .ref a) (J4.suite he4 hd4 na nL nF) hN hi (.inl hln) rfl (fun s5 S5 => ?_) (.inr hln)
            refine wpAny_mono ((hsu a oe4 cls d (X.pn ++ pins) hz4 ⟨_, hd4⟩).run [] s5 _ H1 _ S5 (hyes rfl a na)) (fun f s6 hsp => ?_) fun _ _ z => False.elim z
            have end_ : ∀ {σ6 : St} {H6 : Hp} {Q : Shared → Prop}, Inv (X.suite a ((a, oe4) :: (X.pn ++ pins))) [] σ6 H6 s6 → (∀ s7, Inv X pins (σ6.set i none) H6 s7 → Q s7) →
                wpAny (model X.prog X.w) X.A (do bindName X.env n .none; unbindBehindTheSuite X.env n q) (fun _ s7 => Q s7) X.xe s6 := fun {σ6 H6 Q} S6 hq => gone_ok (S6.unsuite ok) hN hi hln hq
            cases f with
            | next => obtain ⟨σ6, H6, S6, q6⟩ := hsp; exact end_ S6 fun s7 J7 => ⟨_, _, J7, q6⟩
            | brk => obtain ⟨σ6, H6, S6, q6⟩ := hsp; exact end_ S6 fun s7 J7 => ⟨_, _, J7, q6⟩
            | cont => obtain ⟨σ6, H6, S6, q6⟩ := hsp; exact end_ S6 fun s7 J7 => ⟨_, _, J7, q6⟩
            | ret u => obtain ⟨v6, σ6, H6, S6, r6, q6⟩ := hsp; exact end_ S6 fun s7 J7 => ⟨_, _, _, J7, r6, q6⟩
    exact go hh w
  · cases f with
    | next => obtain ⟨σ', H', J', q⟩ := hsp; exact wpAny_execs_nil ⟨σ', H', J'.ofTry ok, q⟩
    | brk => obtain ⟨σ', H', J', q⟩ := hsp; exact ⟨σ', H', J'.ofTry ok, q⟩
    | cont => obtain ⟨σ', H', J', q⟩ := hsp; exact ⟨σ', H', J'.ofTry ok, q⟩
    | ret u => obtain ⟨v, σ', H', J', r, q⟩ := hsp; exact ⟨v, σ', H', J'.ofTry ok, r, q⟩
end
end Ev

/-! E28: try, by its tree. -/
namespace Ev
open PySem PySem.Spec L2
open PyProof.Rows hiding St
def slotOf (N : List Str) (n : Str) : Option Nat := N.findIdx? fun x => decide (x = n)
def nmB (cc : CC) : Option Str → Bool
  | none => true
  | some n => (slotOf cc.N n).isSome && decide (cc.sc.names.lookup n = some .local)
def hdB (cc : CC) (h : ExceptHandler) (p : Nat × HB) : Bool := match h with
  | .ExceptHandler (some (.Name x _)) nm [.Return (some e) _] _ => glB cc x && decide (cc.nt.cl.lookup x = some p.1) && okN x && nmB cc nm && (match p.2 with
    | .ret d => match e with
      | .Constant k _ _ => cstB d k
      | _ => false
    | .retIs c d1 d2 => match nm with
      | some n => match e with
        | .IfExp (.Call (.Name f _) [.Name m _, .Name y _] [] _) (.Constant k1 _ _) (.Constant k2 _ _) _ => blN cc f "isinstance" && decide (m = n) && okN n && glB cc y && okN y && decide (cc.nt.cl.lookup y = some c) && cstB d1 k1 && cstB d2 k2
        | _ => false
      | none => false)
  | _ => false
def hdsB (cc : CC) : List ExceptHandler → List (Nat × HB) → Bool
  | [], [] => true
  | h :: hs, p :: ps => hdB cc h p && hdsB cc hs ps
  | _, _ => false
section
variable {X : Cx} {g : GC} {C : EC} {W : WX} {en : Ent} {fuel k : Nat} {pos : Pos} {cc : CC}
theorem cst_pe {d : D} {j : Const} (h : cstB d j = true) {Y : Cx} {n p} : PE Y (.Constant j n p) (tC (vOf d)) := by
  cases d <;> cases j <;> simp only [cstB, Bool.false_eq_true, decide_eq_true_eq, Bool.and_eq_true, beq_iff_eq] at h
  · exact pe_non
  · subst h; exact pe_bl
  · subst h; exact pe_int
  · obtain ⟨⟨rfl, h2⟩, h3⟩ := h
    exact pe_str
theorem cst_rep {d : D} {j : Const} (h : cstB d j = true) {K : PySem.W.Frag} {G : Hp} : Rep K G (vOf d) d := by
  cases d <;> cases j <;> simp only [cstB, Bool.false_eq_true, decide_eq_true_eq, Bool.and_eq_true, beq_iff_eq] at h
  · exact .non
  · exact .bl _
  · exact .int _
  · obtain ⟨⟨rfl, h2⟩, h3⟩ := h
    exact .str ⟨fun c hc => Nat.blt_eq.mp (List.all_eq_true.mp h2 c hc), Nat.ble_eq.mp h3⟩
theorem slotOf_at {N : List Str} {n : Str} {i : Nat} (h : slotOf N n = some i) : N[i]? = some n := by
  unfold slotOf at h
  obtain ⟨hi, h1, _⟩ := List.findIdx?_eq_some_iff_getElem.mp h
  rw [List.getElem?_eq_getElem hi, of_decide_eq_true h1]
/-- what the clauses ask of their context -/
structure CxH (g : GC) (C : EC) (X : Cx) (cc : CC) : Prop where
  nm : X.N = cc.N
  sc : X.env.scope = cc.sc
  nt : cc.nt = g.nt
  bl : ∀ x, x ∈ builtNames → X.mg x = none
  cl : ClsOk X.K X.mg g C
theorem CxS.h (c : CxS g C k X cc W) : CxH g C X cc := ⟨c.e.cx.nm, c.e.cx.sc, c.e.nt, c.e.go.bl, c.cl⟩
theorem CxH.gl (c : CxH g C X cc) {x : Str} (h : glB cc x = true) : Gl X x := by
  unfold Gl Env.kindOf
  rw [c.sc]
  exact of_decide_eq_true h
theorem names_of_cl (c : CxH g C X cc) {x : Str} {id : Nat} (hg : glB cc x = true) (hl : cc.nt.cl.lookup x = some id) (ho : okN x = true) : Names X x (.ref (g.cA id)) := by
  rw [c.nt] at hl
  exact ⟨c.gl hg, okN_1 ho, .inl (c.cl.at_ x id hl).1⟩
/-- isinstance(e, Y), e the error -/
theorem pe_isErr (c : CxH g C X cc) {f n y : Str} {i jd id : Nat} {p1 p2 p3 p4 : Pos} {a : Addr} {oe : Obj} {pn : List (Addr × Obj)} (hf : blN cc f "isinstance" = true) (hi : cc.N[i]? = some n) (hn : cc.sc.names.lookup n = some .local) (ho : okN n = true) (hy : glB cc y = true) (hoy : okN y = true) (hl : cc.nt.cl.lookup y = some jd)
    (hz : Zc (.ref (g.cA id)) none oe) (hv : ∃ vs, oe.data = .fields vs) : PE (X.suite a ((a, oe) :: pn)) (.Call (.Name f p1) [.Name n p2, .Name y p3] [] p4) (fun σ H Q => σ[i]? = some (some (.ref a)) ∧ Q (.bl (C.sub id jd)) H) := by
  unfold blN at hf
  simp only [Bool.and_eq_true, decide_eq_true_eq] at hf
  obtain ⟨rfl, hf⟩ := hf
  have h1 := c.gl hf
  have h2 := c.bl "isinstance" (by decide +kernel)
  rw [c.nt] at hl
  have hm := (c.cl.at_ y jd hl).1
  have q := pe_callB (X := X.suite a ((a, oe) :: pn)) (x := "isinstance") (p := p1) (pos := p4) (call_isE (c.cl.exc id) hz hv) h1 h2 (by decide +kernel)
    (pa_cons (pe_var (X := X.suite a ((a, oe) :: pn)) (pos := p2) (i := i) (by show X.N[i]? = _; rw [c.nm]; exact hi) (by show Vis X.env.scope n; rw [c.sc]; exact .inl hn) (okN_1 ho) (okN_2 ho)) (pa_cons (pe_glob (X := X.suite a ((a, oe) :: pn)) (pos := p3) (v := .ref (g.cA jd)) (c.gl hy) hm rfl (okN_1 hoy)) pa_nil rfl) rfl) (by decide) (by decide) rfl rfl
  refine q.imp fun σ H Q h => ?_
  exact ⟨_, h.1, .ref (g.cA jd), .ref (g.cA jd), C.sub id jd, rfl, fun u r => r, c.cl.kit id y jd hl, h.2⟩
theorem XR0.of {K : PySem.W.Frag} {G H : Hp} {x : Exc} {cl : Value} {dd : Option Addr} (h : XR g.cA K G H x cl dd) : XR0 g x cl dd := ⟨h.1, fun e => by have := h.2; rw [e] at this; exact this⟩
theorem hds_ok (c : CxH g C X cc) : ∀ {hds : List ExceptHandler} {hs : List (Nat × HB)}, hdsB cc hds hs = true → (∀ x d, pick C.sub x hs = .hit d → ∀ K G, Rep K G (vOf d) d) ∧ ∃ l, Cl X hds l ∧ ∀ (Wo : WX) (x : Exc) (Z : Ends) (cl : Value) (dd : Option Addr) (σ : St) (H : Hp), XR0 g x cl dd → (match pick C.sub x hs with
      | .hit d => Z.rt (vOf d) H
      | .miss => Wo cl dd σ H
      | .bad => False) → wCl X.K Wo Z l cl dd σ H
  | [], [], _ => ⟨fun x d h => (nomatch h), [], .nil, fun Wo x Z cl dd σ H xr h => h⟩
  | [], _ :: _, h => by simp [hdsB] at h
  | _ :: _, [], h => by simp [hdsB] at h
  | h0 :: hds, (cid, hb) :: hs, h => by
    simp only [hdsB, Bool.and_eq_true] at h
    obtain ⟨hh, ht⟩ := h
    obtain ⟨ir, l, L, ih⟩ := hds_ok c ht
    unfold hdB at hh
    split at hh
    · rename_i x px nm e pe q
      simp only [Bool.and_eq_true, decide_eq_true_eq] at hh
      obtain ⟨⟨⟨⟨h1, h2⟩, h3⟩, h4⟩, h5⟩ := hh
      have nmx := names_of_cl c h1 h2 h3
      have h2' := h2
      rw [c.nt] at h2'
      have sub : ∀ {x' : Exc} {cl : Value} {dd : Option Addr}, XR0 g x' cl dd → PySem.W.exmOne X.K cl (.ref (g.cA cid)) = some (C.sub x'.cls cid) := fun xr => by rw [xr.1]; exact c.cl.sub _ x cid h2'
      cases hb with
      | ret d =>
        cases e <;> simp only [Bool.false_eq_true] at h5
        have slots : ∃ sl : Option Nat, (nm = none ∧ sl = none) ∨ ∃ n i, nm = some n ∧ sl = some i ∧ X.N[i]? = some n ∧ X.env.kindOf n = some .local := by
          cases nm with
          | none => exact ⟨none, .inl ⟨rfl, rfl⟩⟩
          | some n =>
            simp only [nmB, Bool.and_eq_true, decide_eq_true_eq] at h4
            obtain ⟨i, hi⟩ := Option.isSome_iff_exists.mp h4.1
            exact ⟨some i, .inr ⟨n, i, rfl, rfl, by rw [c.nm]; exact slotOf_at hi, by show X.env.scope.names.lookup n = _; rw [c.sc]; exact h4.2⟩⟩
        obtain ⟨sl, hsl⟩ := slots
        refine ⟨fun x' d' hp K G => ?_, (.ref (g.cA cid), sl, fun _ _ _ Z _ H => Z.rt (vOf d) H) :: l, .cons nmx hsl (fun a oe cls dd pn _ _ => pss_one (ps_ret (cst_pe h5))) L, fun Wo x' Z cl dd σ H xr hp => ⟨C.sub x'.cls cid, sub xr, fun hb a _ => ?_, fun hb => ?_⟩⟩
        · cases hb : C.sub x'.cls cid
          · simp only [pick, hb, Bool.false_eq_true, if_false] at hp
            exact ir x' d' hp K G
          · simp only [pick, hb, if_true, PK.hit.injEq] at hp
            subst hp
            exact cst_rep h5
        · simp only [pick, hb, if_true] at hp
          cases sl <;> exact hp
        · simp only [pick, hb, Bool.false_eq_true, if_false] at hp
          exact ih Wo x' Z cl dd σ H xr hp
      | retIs c' d1 d2 =>
        cases nm with
        | none => cases h5
        | some n =>
          simp only [nmB, Bool.and_eq_true, decide_eq_true_eq] at h4
          obtain ⟨i, hi⟩ := Option.isSome_iff_exists.mp h4.1
          dsimp only at h5
          split at h5
          · rename_i f pf m pm y py pc k1 _ _ k2 _ _ pi
            simp only [Bool.and_eq_true, decide_eq_true_eq] at h5
            obtain ⟨⟨⟨⟨⟨⟨⟨a1, rfl⟩, a3⟩, a4⟩, a5⟩, a6⟩, a7⟩, a8⟩ := h5
            have hi' := slotOf_at hi
            refine ⟨fun x' d' hp K G => ?_, (.ref (g.cA cid), some i, fun a cls dd Z σ H => ∃ (id : Nat) (σ0 : St), cls = .ref (g.cA id) ∧ dd = none ∧ σ = σ0.set i (some (.ref a)) ∧ Z.rt (if C.sub id c' then vOf d1 else vOf d2) H) :: l,
              .cons nmx (.inr ⟨_, i, rfl, rfl, by rw [c.nm]; exact hi', by show X.env.scope.names.lookup _ = _; rw [c.sc]; exact h4.2⟩) (fun a oe cls dd pn hz hv => ⟨fun pins s σ H Z I q => ?_⟩) L, fun Wo x' Z cl dd σ H xr hp => ⟨C.sub x'.cls cid, sub xr, fun hb a _ => ?_, fun hb => ?_⟩⟩
            · cases hb : C.sub x'.cls cid
              · simp only [pick, hb, Bool.false_eq_true, if_false] at hp
                exact ir x' d' hp K G
              · simp only [pick, hb, if_true] at hp
                split at hp
                · simp only [PK.hit.injEq] at hp
                  subst hp
                  cases C.sub x'.cls c'
                  · exact cst_rep a8
                  · exact cst_rep a7
                · cases hp
            · obtain ⟨id, σ0, rfl, rfl, rfl, q⟩ := q
              have pe := pe_isErr c a1 hi' h4.2 a3 a4 a5 a6 hz hv (pn := pn) (a := a) (p1 := pf) (p2 := pm) (p3 := py) (p4 := pc)
              refine (pss_one (ps_ret (pe_ifExp (pt_val pe) (cst_pe a7) (cst_pe a8)))).run pins s _ H Z I ⟨?_, C.sub id c', rfl, ?_⟩
              · have hl : i < σ0.length := by
                  have h1 := I.len
                  rw [List.length_set] at h1
                  have h2 : i < X.N.length := by rw [c.nm]; exact (List.getElem?_eq_some_iff.mp hi').1
                  rw [h1]; exact h2
                exact List.getElem?_set_self hl
              · cases hb : C.sub id c' <;> (rw [hb] at q; exact q)
            · simp only [pick, hb, if_true] at hp
              cases hv : x'.val <;> rw [hv] at hp <;> first | exact hp.elim | skip
              refine ⟨x'.cls, σ, xr.1, xr.2 hv, rfl, ?_⟩
              cases hq : C.sub x'.cls c' <;> (rw [hq] at hp; exact hp)
            · simp only [pick, hb, Bool.false_eq_true, if_false] at hp
              exact ih Wo x' Z cl dd σ H xr hp
          · cases h5
    · cases hh
theorem ps_tryE {body : List Stmt} {hds : List ExceptHandler} {bs : MSs} {hs : List (Nat × HB)} (c : CxS g C k X cc W) (hb : ∀ (Y : Cx) (W' : WX), Y.K = X.K → CxS g C k Y cc W' → PSs Y body (tExs Y.K g C W' en fuel bs)) (h : hdsB cc hds hs = true) (hne : hds ≠ []) :
    PS X (.Try body hds [] [] pos) (tEx X.K g C W en fuel (.tryx bs hs)) := by
  cases hds with
  | nil => exact absurd rfl hne
  | cons h0 hds =>
    obtain ⟨rep, l, L, wish⟩ := hds_ok c.h h
    refine (ps_tryW (tb := fun W' => tExs X.K g C W' en fuel bs) c.stk c.frm (by rw [c.e.cx.nm]; exact c.e.cx.nd) c.e.tk (fun W' pn xe tk po => ?_) L).imp fun Z σ H ⟨G, ρ, I, hp⟩ => ?_
    · exact hb (X.tr pn xe) W' rfl ⟨⟨⟨c.e.cx.nm, c.e.cx.nd, c.e.cx.sc, c.e.cx.calm, c.e.cx.room⟩, c.e.nt, c.e.go, c.e.gd, c.e.dk, tk, c.e.as, c.e.lm⟩, po, c.cl, c.stk, c.frm⟩
    · simp only [ex] at hp
      refine ⟨G, ρ, I, ?_⟩
      cases q : exs C fuel bs ρ with
      | nx ρ1 => rw [q] at hp; exact hp
      | rt r ρ1 => rw [q] at hp; exact hp
      | bk ρ1 => rw [q] at hp; exact hp
      | ct ρ1 => rw [q] at hp; exact hp
      | no => rw [q] at hp; exact hp
      | ex x ρ1 =>
        rw [q] at hp
        intro cl dd σ' H' G' I' xr
        refine wish W x Z cl dd σ' H' (.of xr) ?_
        dsimp only [handle] at hp
        cases e : pick C.sub x hs with
        | hit d => rw [e] at hp; exact hp (vOf d) σ' H' G' I' (rep x d e _ _)
        | miss => rw [e] at hp; exact hp cl dd σ' H' G' I' xr
        | bad => rw [e] at hp; exact hp.elim
end
end Ev

/-! E25: the look at statements. -/
namespace Ev
open PySem PySem.Spec L2
open PyProof.Rows hiding St

def isTupE : Expr → Bool
  | .Tuple .. => true
  | _ => false
def isNameE : Expr → Bool
  | .Name .. => true
  | _ => false
def cellB (cc : CC) : Expr → Bool
  | .Name y _ => decide (cc.sc.names.lookup y = some .cell)
  | _ => false
section
variable (recE : CC → Expr → ME → Bool) (recS : CC → List Stmt → MSs → Bool)
def asgB (cc : CC) (t : Tgt) (tg e : Expr) (m : ME) : Bool :=
  (tgB cc t tg && recE cc e m && notComp e && (isNameE tg || (isTupE tg && !isTupE e)))
/-- stores of a display that are not swapped: not two, not three, or all folded -/
def nosw : Expr → Expr → Bool
  | .Tuple ts _ _, .Tuple vs _ _ => !(ts.length == 2 || ts.length == 3) || vs.all (foldedForSure 8)
  | _, _ => false
def asgN (cc : CC) (t : Tgt) (tg e : Expr) (m : ME) : Bool := tgB cc t tg && recE cc e m && notComp e && nosw tg e
/-- x, y, z = a, b, c -/
def tripB (cc : CC) (t : Tgt) (tg e : Expr) (m : ME) : Bool := match t, tg, e, m with
  | .tp [i, j, l], .Tuple [.Name x px, .Name y py, .Name z pz] _ _, .Tuple [u, v, w] _ _, .tup ms =>
    (decide (cc.N[i]? = some x) && decide (cc.N[j]? = some y) && decide (cc.N[l]? = some z)) && (decide (i ≠ j) && decide (i ≠ l) && decide (j ≠ l)) && decide (cc.sc.kind = .function) &&
    (decide (cc.sc.names.lookup x = some .local) && decide (cc.sc.names.lookup y = some .local) && decide (cc.sc.names.lookup z = some .local)) && stepL recE cc [u, v, w] ms && ((py.line == px.line) && (pz.line == px.line)) && !([u, v, w].all (foldedForSure 8)) && !([u, v, w].all (constantsAlone 8))
  | _, _, _, _ => false
def stepS (cc : CC) (s : Stmt) (m : MS) : Bool := match m with
  | .pass => match s with
    | .Pass _ => true
    | _ => false
  | .brk => match s with
    | .Break _ => true
    | _ => false
  | .cont => match s with
    | .Continue _ => true
    | _ => false
  | .expr a => match s with
    | .Expr e _ => notComp e && recE cc e a
    | _ => false
  | .ret a => match s with
    | .Return (some e) _ => recE cc e a
    | _ => false
  | .retN => match s with
    | .Return none _ => true
    | _ => false
  | .asg t a => match s with
    | .Assign [tg] e _ => (asgB recE cc t tg e a || asgN recE cc t tg e a || tripB recE cc t tg e a) || (match t with
      | .nm i => setLcB cc i tg e && stepE recE cc e a || (cellB cc tg && nameB cc i tg && recE cc e a)
      | _ => false)
    | _ => false
  | .par i j a b => match s with
    | .Assign [.Tuple [.Name x px, .Name y py] _ _] (.Tuple [u, v] _ _) _ => decide (cc.N[i]? = some x) && decide (cc.N[j]? = some y) && decide (i ≠ j) && decide (cc.sc.kind = .function) && decide (cc.sc.names.lookup x = some .local) && decide (cc.sc.names.lookup y = some .local) &&
        recE cc u a && recE cc v b && plainE u && plainE v && (py.line == px.line) && !([u, v].all (foldedForSure 8)) && !([u, v].all (constantsAlone 8))
    | _ => false
  | .setidx i k v => match s with
    | .Assign [.Subscript (.Name y _) ke _] ve _ => slotB cc i y && recE cc ke k && recE cc ve v && notComp ve && notSlice ke
    | _ => false
  | .append i a => match s with
    | .Expr (.Call (.Attribute (.Name y _) name ap) [e] [] cp) _ => decide (name = "append") && slotB cc i y && recE cc e a && plainE e && (ap.endLine == cp.line)
    | _ => false
  | .ifs c a b => match s with
    | .If t x y _ => recE cc t c && nif t && recS cc x a && recS cc y b
    | _ => false
  | .fors t k its body => match s with
    | .For tg it b [] _ => tgB cc t tg && stepI recE cc tg k it its && recS cc b body
    | _ => false
  | .forkeys t e body => match e with
    | .var i => match s with
      | .For tg (.Name y _) b [] _ => tgB cc t tg && slotB cc i y && recS cc b body
      | _ => false
    | _ => false
  | .whl c body => match s with
    | .While t b [] _ => recE cc t c && nif t && recS cc b body
    | _ => false
  | .raise id => match s with
    | .Raise (some (.Call (.Name x _) [.Constant (.str _) _ _] [] _)) none _ => glB cc x && decide (cc.nt.cl.lookup x = some id) && okN x
    | _ => false
  | .raiseV _ _ => false
  | .tryx body hs => match s with
    | .Try b hds [] [] _ => recS cc b body && hdsB cc hds hs && !hds.isEmpty
    | _ => false
def stepSs (cc : CC) : List Stmt → MSs → Bool
  | [], .nil => true
  | s :: ss, .cons a r => stepS recE recS cc s a && stepSs cc ss r
  | _, _ => false
end
def lookS (n : Nat) : Nat → CC → List Stmt → MSs → Bool
  | 0 => fun _ _ _ => false
  | j + 1 => stepSs (lookE n) (lookS n j)

section
variable {g : GC} {C : EC} {k fuel : Nat} {cc : CC} {recE : CC → Expr → ME → Bool} {recS : CC → List Stmt → MSs → Bool}
theorem CxS.noW {X : Cx} {W : WX} (c : CxS g C k X cc W) : CxS g C k X cc noW := ⟨⟨c.e.cx, c.e.nt, c.e.go, c.e.gd, c.e.dk, takes0, c.e.as, c.e.lm⟩, c.ps, c.cl, c.stk, c.frm⟩
theorem sw_cell {e : Expr} {y : Str} {py : Pos} {l : Nat} {env : PySem.Env} (h : env.scope.names.lookup y = some .cell) : swapsWith e (some (.Name y py)) l env = pure false := by
  have ky : env.kindOf y = some .cell := h
  by_cases hn : notComp e = true
  · exact sw_plain hn _ _ _
  · cases e <;> simp only [notComp, not_true_eq_false, Bool.false_eq_true, not_false_eq_true] at hn
    all_goals (unfold swapsWith; simp only [Option.bind_eq_bind, ky]; have e : (some NameKind.cell == some NameKind.local) = false := rfl; simp [e, show (NameKind.cell == NameKind.local) = false from rfl])
theorem asg_s (ihE : ∀ cc e m, recE cc e m = true → SndE g C k cc e m) {X : Cx} {W : WX} (c : CxS g C k X cc W) {en : Ent} {t : Tgt} {tg e : Expr} {m : ME} {pos : Pos} (h : asgB recE cc t tg e m = true) : PS X (.Assign [tg] e pos) (tEx X.K g C W en fuel (.asg t m)) := by
  unfold asgB at h
  simp only [Bool.and_eq_true, Bool.or_eq_true, Bool.not_eq_true'] at h
  obtain ⟨⟨⟨h1, h2⟩, h3⟩, h4⟩ := h
  refine ps_asgE (ihE _ _ _ h2 X W c.e).1 (tg_of c.e.asOk h1) (sws_plain h3 _ _ _) ?_ ?_
  · rcases h4 with h4 | ⟨h4, h5⟩
    · cases tg <;> simp only [isNameE, Bool.false_eq_true] at h4
      rfl
    · cases tg <;> simp only [isTupE, Bool.false_eq_true] at h4
      cases e <;> first | rfl | (simp [isTupE] at h5)
  · rcases h4 with h4 | ⟨h4, h5⟩
    · cases tg <;> simp only [isNameE, Bool.false_eq_true] at h4
      rfl
    · cases tg <;> simp only [isTupE, Bool.false_eq_true] at h4
      rfl
theorem nosw_ok {tg e : Expr} {env : PySem.Env} (h : nosw tg e = true) : swappedStores [tg] e env = pure none := by
  unfold nosw at h
  split at h
  · rename_i ts k p vs k2 p2
    unfold swappedStores
    simp only
    rw [Bool.or_eq_true, Bool.not_eq_true'] at h
    rcases h with h | h
    · rw [h]
      rfl
    · rw [h]
      split
      · rfl
      · split
        · rfl
        · split <;> rfl
  · cases h
theorem asgN_s (ihE : ∀ cc e m, recE cc e m = true → SndE g C k cc e m) {X : Cx} {W : WX} (c : CxS g C k X cc W) {en : Ent} {t : Tgt} {tg e : Expr} {m : ME} {pos : Pos} (h : asgN recE cc t tg e m = true) : PS X (.Assign [tg] e pos) (tEx X.K g C W en fuel (.asg t m)) := by
  unfold asgN at h
  simp only [Bool.and_eq_true] at h
  obtain ⟨⟨⟨h1, h2⟩, h3⟩, h4⟩ := h
  refine ps_asgE (ihE _ _ _ h2 X W c.e).1 (tg_of c.e.asOk h1) (sws_plain h3 _ _ _) (nosw_ok h4) ?_
  unfold nosw at h4
  split at h4
  · rfl
  · cases h4
theorem trip_s (ihE : ∀ cc e m, recE cc e m = true → SndE g C k cc e m) {X : Cx} {W : WX} (c : CxS g C k X cc W) {en : Ent} {t : Tgt} {tg e : Expr} {m : ME} {pos : Pos} (h : tripB recE cc t tg e m = true) : PS X (.Assign [tg] e pos) (tEx X.K g C W en fuel (.asg t m)) := by
  unfold tripB at h
  split at h
  · simp only [Bool.and_eq_true, decide_eq_true_eq, Bool.not_eq_true'] at h
    obtain ⟨⟨⟨⟨⟨⟨⟨⟨⟨a1, a2⟩, a3⟩, ⟨b1, b2⟩, b3⟩, h3⟩, ⟨d1, d2⟩, d3⟩, h5⟩, l1, l2⟩, h7⟩, h8⟩ := h
    have hp := stepL_plain h5
    simp only [List.all_cons, List.all_nil, Bool.and_true, Bool.and_eq_true] at hp
    obtain ⟨p1, p2, p3⟩ := hp
    exact ps_par3E c.e a1 a2 a3 b1 b2 b3 h3 d1 d2 d3 (stepL_s ihE c.e h5) p1 p2 p3 l1 l2 h7 h8
  · cases h
theorem stepS_ok (ihE : ∀ cc e m, recE cc e m = true → SndE g C k cc e m) (ihS : ∀ cc s m, recS cc s m = true → SndSs g C k fuel cc s m) {s : Stmt} {m : MS} (h : stepS recE recS cc s m = true) : SndS g C k fuel cc s m := by
  intro X W c en
  have ce := c.e
  have pe : ∀ {e m}, recE cc e m = true → PE X e (tEv X.K g C W m) := fun {e m} h => (ihE cc e m h X W ce).1
  have pt : ∀ {e m}, recE cc e m = true → nif e = true → PT X e (tEvB X.K g C W m) := fun {e m} h => (ihE cc e m h X W ce).2
  cases m with
  | pass =>
    simp only [stepS] at h
    split at h
    · exact ps_passE
    · cases h
  | brk =>
    simp only [stepS] at h
    split at h
    · exact ps_brkE
    · cases h
  | cont =>
    simp only [stepS] at h
    split at h
    · exact ps_contE
    · cases h
  | expr a =>
    simp only [stepS] at h
    split at h
    · simp only [Bool.and_eq_true] at h
      exact ps_exprE (pe h.2) h.1
    · cases h
  | ret a =>
    simp only [stepS] at h
    split at h
    · exact ps_retE (pe h)
    · cases h
  | retN =>
    simp only [stepS] at h
    split at h
    · exact ps_retNE
    · cases h
  | asg t a =>
    simp only [stepS] at h
    split at h
    · rename_i tg e pos
      simp only [Bool.or_eq_true] at h
      rcases h with ((h | h) | h) | h
      · exact asg_s ihE c h
      · exact asgN_s ihE c h
      · exact trip_s ihE c h
      · split at h
        · rename_i i
          simp only [Bool.or_eq_true, Bool.and_eq_true] at h
          rcases h with ⟨h1, h2⟩ | ⟨⟨h1, h2⟩, h3⟩
          · exact ps_setcE ihE ce h2 h1
          · obtain ⟨y, py, rfl, h4, h5⟩ := name_of h2
            simp only [cellB, decide_eq_true_eq] at h1
            refine ps_asgE (t := .nm i) (pe h3) (pg_of ce.asOk h2) ?_ rfl rfl
            unfold swapsWithSole
            exact sw_cell (by rw [ce.cx.sc]; exact h1)
        · cases h
    · cases h
  | par i j a b =>
    simp only [stepS] at h
    split at h
    · simp only [Bool.and_eq_true, decide_eq_true_eq, Bool.not_eq_true'] at h
      obtain ⟨⟨⟨⟨⟨⟨⟨⟨⟨⟨⟨⟨h1, h2⟩, h3⟩, h4⟩, h5⟩, h6⟩, h7⟩, h8⟩, h9⟩, h10⟩, h11⟩, h12⟩, h13⟩ := h
      exact ps_parE ce h1 h2 h3 h4 h5 h6 (pe h7) (pe h8) h9 h10 h11 h12 h13
    · cases h
  | setidx i kk v =>
    simp only [stepS] at h
    split at h
    · rename_i y py ke tpos ve pos
      simp only [Bool.and_eq_true] at h
      obtain ⟨⟨⟨⟨h1, h2⟩, h3⟩, h4⟩, h5⟩ := h
      obtain ⟨q1, q2, q3, q4⟩ := slot_of h1
      refine ps_setidxE ce.cx q1 q2 q3 q4 (pe h2) (pe h3) h4 (fun v => ?_)
      cases ke <;> first | rfl | (simp [notSlice] at h5)
    · cases h
  | append i a =>
    simp only [stepS] at h
    split at h
    · simp only [Bool.and_eq_true, decide_eq_true_eq] at h
      obtain ⟨⟨⟨⟨rfl, h2⟩, h3⟩, h4⟩, h5⟩ := h
      obtain ⟨q1, q2, q3, q4⟩ := slot_of h2
      exact ps_appE ce.cx q1 q2 q3 q4 (pe h3) h4 h5
    · cases h
  | ifs cd a b =>
    simp only [stepS] at h
    split at h
    · simp only [Bool.and_eq_true] at h
      obtain ⟨⟨⟨h1, h2⟩, h3⟩, h4⟩ := h
      exact ps_ifE (pt h1 h2) (ihS _ _ _ h3 X W c en) (ihS _ _ _ h4 X W c en)
    · cases h
  | fors t ik its body =>
    simp only [stepS] at h
    split at h
    · simp only [Bool.and_eq_true] at h
      obtain ⟨⟨h1, h2⟩, h3⟩ := h
      obtain ⟨pi, fs⟩ := stepI_s ihE ce h2
      exact ps_forsE c.ps ce.cx.calm pi (tg_of ce.asOk h1) (fun en => ihS _ _ _ h3 X W c en) (fs _)
    · cases h
  | forkeys t e body =>
    simp only [stepS] at h
    split at h
    · split at h
      · simp only [Bool.and_eq_true] at h
        obtain ⟨⟨h1, h2⟩, h3⟩ := h
        obtain ⟨q1, q2, q3, q4⟩ := slot_of h2
        exact ps_forkeysE ce.cx q1 q2 q3 q4 c.ps (tg_of ce.asOk h1) (fun en => ihS _ _ _ h3 X noW c.noW en)
      · cases h
    · cases h
  | whl cd body =>
    simp only [stepS] at h
    split at h
    · simp only [Bool.and_eq_true] at h
      obtain ⟨⟨h1, h2⟩, h3⟩ := h
      exact ps_whlE c.ps (pt h1 h2) (fun en => ihS _ _ _ h3 X W c en)
    · cases h
  | raise id =>
    simp only [stepS] at h
    split at h
    · simp only [Bool.and_eq_true, decide_eq_true_eq] at h
      rw [ce.nt] at h
      exact ps_raiseE ce c.cl (gl_of ce h.1.1) h.1.2 (okN_1 h.2)
    · cases h
  | raiseV id e => simp [stepS] at h
  | tryx b hs =>
    simp only [stepS] at h
    split at h
    · simp only [Bool.and_eq_true, Bool.not_eq_true'] at h
      obtain ⟨⟨h1, h2⟩, h3⟩ := h
      exact ps_tryE c (fun Y W' eK cY => ihS _ _ _ h1 Y W' cY en) h2 (fun z => by rw [z] at h3; cases h3)
    · cases h
theorem stepSs_ok (ihE : ∀ cc e m, recE cc e m = true → SndE g C k cc e m) (ihS : ∀ cc s m, recS cc s m = true → SndSs g C k fuel cc s m) : ∀ {ss : List Stmt} {m : MSs}, stepSs recE recS cc ss m = true → SndSs g C k fuel cc ss m
  | [], .nil, _ => fun X W c en => pss_nilE
  | s :: ss, .cons a r, h => by
    simp only [stepSs, Bool.and_eq_true] at h
    exact fun X W c en => pss_consE (stepS_ok ihE ihS h.1 X W c en) (stepSs_ok ihE ihS h.2 X W c en)
  | [], .cons _ _, h => by simp [stepSs] at h
  | _ :: _, .nil, h => by simp [stepSs] at h
theorem lookS_ok (n : Nat) : ∀ (j : Nat) {cc : CC} {ss : List Stmt} {m : MSs}, lookS n j cc ss m = true → SndSs g C k fuel cc ss m
  | 0, _, _, _, h => by cases h
  | j + 1, _, _, _, h => stepSs_ok (fun _ _ _ h => lookE_ok n h) (fun _ _ _ h => lookS_ok n j h) h
end
end Ev

/-! E26: a def keeps what its tree gives. -/
namespace Ev
open PySem PySem.Spec L2
open PyProof.Rows hiding St

/-- the def's slots, names, what may be assigned -/
def ccOf (N : List Str) (nt : NT) (sc : Scope) (lam : Bool) : CC := ⟨N, nt, sc, N.filter fun x => decide (sc.names.lookup x = some .local) || decide (sc.names.lookup x = some .cell), lam⟩
def scopeB (N ps : List Str) (sc : Scope) : Bool :=
  decide (sc.kind = .function) && !sc.isCoroutine && !sc.isGenerator && decide N.Nodup && decide (N.take ps.length = ps) && ps.all (fun x => decide (sc.names.lookup x = some .local) || decide (sc.names.lookup x = some .cell)) && sc.names.all (fun y => decide (y.2 ≠ .free))
theorem scope_of {N ps : List Str} {sc : Scope} (h : scopeB N ps sc = true) : FnScope N ps sc := by
  unfold scopeB at h
  simp only [Bool.and_eq_true, decide_eq_true_eq, Bool.not_eq_true', List.all_eq_true, Bool.or_eq_true] at h
  obtain ⟨⟨⟨⟨⟨⟨h1, h2⟩, h3⟩, h4⟩, h5⟩, h6⟩, h7⟩ := h
  exact ⟨h1, h2, h3, h4, h5, h6, h7⟩
section
variable {K : PySem.W.Frag} {T : List (Addr × Str)} {G H : Hp} {N : List Str} {vs : List V} {ds : List D} {C : EC}
theorem reps_at {G : Hp} (r : Reps K G vs ds) {i : Nat} {d : D} (h : ds[i]? = some d) : ∃ v, vs[i]? = some v ∧ Rep K G v d := r.get h
theorem start_at {i : Nat} {v : V} (h : vs[i]? = some v) : (L2.start N vs)[i]? = some (some v) := by
  unfold L2.start
  have hi : i < vs.length := (List.getElem?_eq_some_iff.mp h).1
  rw [List.getElem?_append_left (by simpa using hi), List.getElem?_map, h]
  rfl
theorem init_at {n i : Nat} {sv : SV} (h : (ds.map (fun d => some (SV.fz d)) ++ List.replicate n (none : Option SV))[i]? = some (some sv)) : ∃ d, ds[i]? = some d ∧ sv = .fz d := by
  by_cases hi : i < ds.length
  · rw [List.getElem?_append_left (by simpa using hi), List.getElem?_map] at h
    cases e : ds[i]? with
    | none => rw [e] at h; cases h
    | some d => rw [e] at h; cases h; exact ⟨d, rfl, rfl⟩
  · rw [List.getElem?_append_right (by simpa using hi), List.getElem?_replicate] at h
    split at h <;> cases h
theorem init_ok {n : Nat} (s : Sub G H) (t : LamX.Tabs T H) (r : Reps K G vs ds) (hl : ds.length ≤ N.length) (hn : n = N.length) : InS K T C ⟨G, H, fun _ => False, none⟩ G H (initE n false ds) (L2.start N vs) := by
  have hi : initE n false ds = ds.map (fun d => some (SV.fz d)) ++ List.replicate (n - ds.length) none := rfl
  have noOw : ∀ {i : Nat} {d : D}, (initE n false ds)[i]? = some (some (.ow d)) → False := fun {i d} h => by
    rw [hi] at h
    obtain ⟨d', _, e⟩ := init_at h
    cases e
  refine ⟨⟨s, ?_, fun i sv h => ?_, fun i j d e a h => (noOw h).elim, t⟩, Stq.refl, fun a ⟨i, d, h, _⟩ => (noOw h).elim, fun a h => by cases h⟩
  · rw [hi, List.length_append, List.length_map, List.length_replicate, hn]
    unfold L2.start
    rw [List.length_append, List.length_map, List.length_replicate, r.length]
  · rw [hi] at h
    obtain ⟨d, e, rfl⟩ := init_at h
    obtain ⟨v, e2, rp⟩ := r.get e
    exact ⟨v, start_at e2, rp⟩
theorem init_mu {n : Nat} {a : Addr} {d0 : D} (s : Sub G H) (t : LamX.Tabs T H) (na : G a = none) (o : Own K G H a d0) (r : Reps K G vs ds) (hl : ds.length + 1 ≤ N.length) (hn : n = N.length) (hC : C.lk = true) : InS K T C ⟨G, H, (· = a), some a⟩ G H (initE n true (d0 :: ds)) (L2.start N (.ref a :: vs)) := by
  have hi : initE n true (d0 :: ds) = some (.ow d0) :: (ds.map (fun d => some (SV.fz d)) ++ List.replicate (n - (d0 :: ds).length) none) := rfl
  have st0 : (L2.start N (.ref a :: vs))[0]? = some (some (.ref a)) := rfl
  have ow0 : ∀ {i : Nat} {d : D}, (initE n true (d0 :: ds))[i]? = some (some (.ow d)) → i = 0 := fun {i d} h => by
    rw [hi] at h
    cases i with
    | zero => rfl
    | succ i =>
      rw [List.getElem?_cons_succ] at h
      obtain ⟨d', _, e⟩ := init_at h
      cases e
  refine ⟨⟨s, ?_, fun i sv h => ?_, fun i j d e b h1 h2 _ _ => (ow0 h1).trans (ow0 h2).symm, t⟩, Stq.refl, fun b ⟨i, d, h, h2⟩ => ?_, fun b h => ?_⟩
  · rw [hi, List.length_cons, List.length_append, List.length_map, List.length_replicate, hn]
    unfold L2.start
    rw [List.length_append, List.length_map, List.length_replicate, List.length_cons, List.length_cons, r.length]
    omega
  · rw [hi] at h
    cases i with
    | zero => cases h; exact ⟨_, st0, a, rfl, na, o⟩
    | succ i =>
      rw [List.getElem?_cons_succ] at h
      obtain ⟨d, e, rfl⟩ := init_at h
      obtain ⟨v, e2, rp⟩ := r.get e
      exact ⟨v, start_at (vs := .ref a :: vs) (by simpa using e2), rp⟩
  · have := ow0 h
    subst this
    rw [st0] at h2
    cases h2
    exact .inl rfl
  · cases h
    exact ⟨hC, st0⟩
end
section
variable {P : Program} {w : World} {K : PySem.W.Frag} {mg : Str → Option Value} {base : Heap} {g : GC} {C : EC} {k fuel : Nat}
theorem aft_of {T : List (Addr × Str)} {G H G' H' : Hp} {ρ : Ev.Env} {σ : St} {a0 : Option Addr} {C' : EC} (I : InS K T C' ⟨G, H, fun _ => False, a0⟩ G' H' ρ σ) : Aft T (fun _ => False) G H G' H' :=
  ⟨I.st.gle, I.re.sub, I.re.tabs, I.st.frame, fun a h => (I.st.new a h).imp id fun z => z.elim False.elim id, I.st.keep⟩
theorem aft_mu {T : List (Addr × Str)} {G H G' H' : Hp} {ρ : Ev.Env} {σ : St} {a : Addr} {C' : EC} (I : InS K T C' ⟨G, H, (· = a), some a⟩ G' H' ρ σ) (n : G' a = none) : Aft T (· = a) G H G' H' :=
  ⟨I.st.gle, I.re.sub, I.re.tabs, I.st.frame, fun b h => (I.st.new b h).imp id fun z => z.elim (fun e => absurd n (by rw [← e]; exact h)) id, I.st.keep⟩
/-- what slot 0 holds at the end -/
theorem mu_end {T : List (Addr × Str)} {G H G' H' : Hp} {ρ : Ev.Env} {σ : St} {a : Addr} {s : D} {C' : EC} (I : InS K T C' ⟨G, H, (· = a), some a⟩ G' H' ρ σ) (e : ownAt ρ 0 = some s) : G' a = none ∧ Own K G' H' a s := by
  obtain ⟨v, e1, b, rfl, n, o⟩ := I.re.slot 0 _ (ownAt_some.mp e)
  rw [(I.lk a rfl).2] at e1
  cases e1
  exact ⟨n, o⟩
theorem fd_ok {x qual : Str} {st : Stmt} {f : Addr} {fdt : FuncData} {N ps : List Str} {fd : Fd} {n j k0 : Nat} {lam : Bool} (F : FunD K x qual (defArgs st) (defBody st) (defScope st) [] [] f fdt) (hsc : scopeB N ps (defScope st) = true) (hn : fd.n = ps.length) (hN : fd.N = N.length) (hm : fd.mu = true → 0 < ps.length)
    (hlook : lookS n j (ccOf N g.nt (defScope st) lam) (defBody st) fd.body = true) (go : GOk P w K mg base g C k) (gd : GdOk K w mg g C) (dk : ∀ id ∈ g.nt.dk, ∃ ps, C.Γ id = some (.dic ps)) (cl : ClsOk K mg g C) (hk : k0 + 2 ≤ k) (go0 : GOk P w K mg base g C k0)
    (lm : lam = true → ∃ c P, fdt.code = .ref c ∧ LamX.TabB base mg c P ∧ (P, qual ++ ".<locals>." ++ "<lambda>") ∈ g.T ∧ ∀ p ∈ g.T, p.1 = P → p.2 = qual ++ ".<locals>." ++ "<lambda>") :
    FnOk P w K mg base (L2.CX P w) (k + 1) f fdt ps (spF K g.T g.cA ps.length ⟨fd.mu, fd.run C fuel⟩) := by
  have S := scope_of hsc
  have hlen : ps.length ≤ N.length := by have := congrArg List.length S.pre; rw [List.length_take] at this; omega
  obtain ⟨oc, od, dV, kV, doc, pm, an, cdv, ct, osl, rfl, lk, hcd, _, _⟩ := F.ex
  refine fn_of lk hcd S (fun vs H Q E h => h.1) fun A outer s H vs Q E hr hsp => ?_
  obtain ⟨hvl, hsp⟩ := hsp
  have hcx : ∀ en, PSs (cxOf (L2.CX P w) P w K mg base N qual (defScope st) f cdv A outer s H E) (defBody st) (tExs K g { C with lk := fd.mu } (fun cls d _ H => E cls d H) en fuel fd.body) := by
    intro en
    refine lookS_ok (g := g) (C := { C with lk := fd.mu }) (k := k) (fuel := fuel) n j hlook (cxOf (L2.CX P w) P w K mg base N qual (defScope st) f cdv A outer s H E) _ ⟨⟨⟨rfl, S.nd, rfl, rfl, hr⟩, rfl, ⟨go.fn, go.gl, go.bl, go.lm⟩, gd, dk, takes_of rfl rfl rfl rfl, fun y hy => ?_, fun hl => ?_⟩, passes_of rfl, ⟨cl.at_, cl.sub, cl.kit, cl.exc⟩, rfl, rfl⟩ en
    rotate_left
    · obtain ⟨c, Pt, l1, l2, l3, l4⟩ := lm hl
      have e1 : (cxOf (L2.CX P w) P w K mg base N qual (defScope st) f cdv A outer s H E).env.code = .ref c := l1
      have e2 : (cxOf (L2.CX P w) P w K mg base N qual (defScope st) f cdv A outer s H E).env.qual = qual ++ ".<locals>." := rfl
      refine ⟨c, Pt, k0, e1, l2, ?_, ?_, hk, ⟨go0.fn, go0.gl, go0.bl, go0.lm⟩⟩
      · rw [e2]; exact l3
      · rw [e2]; exact l4
    have hy' := (List.mem_filter.mp hy).2
    simp only [Bool.or_eq_true, decide_eq_true_eq] at hy'
    rcases hy' with q | q
    · exact ⟨.inl q, .inr q⟩
    · exact ⟨.inr q, .inl rfl⟩
  by_cases hmu : fd.mu = true
  · rw [if_pos hmu] at hsp
    obtain ⟨G, a, d0, vs', ds, rfl, sb, tb, na, o, r, hq⟩ := hsp
    have hdl : (d0 :: ds).length = ps.length := by rw [← hvl, List.length_cons, List.length_cons, r.length]
    have I0 := init_mu (C := { C with lk := fd.mu }) (N := N) (n := fd.N) sb tb na o r (by rw [← hdl] at hlen; simpa using hlen) hN hmu
    refine ⟨_, hcx ⟨G, H, (· = a), some a⟩, G, _, I0, ?_⟩
    have hrun : (⟨fd.mu, fd.run C fuel⟩ : FSem).run (d0 :: ds) = finR true (exs { C with lk := fd.mu } fuel fd.body (initE fd.N true (d0 :: ds))) := by
      show Fd.run C fd fuel (d0 :: ds) = _
      unfold Fd.run
      rw [if_pos (by rw [hn, hdl]), hmu]
    rw [hrun] at hq
    cases eo : exs { C with lk := fd.mu } fuel fd.body (initE fd.N true (d0 :: ds)) with
    | nx ρ =>
      rw [eo] at hq
      simp only [finR, if_true] at hq
      intro σ' H' G' I
      cases e : ownAt ρ 0 with
      | none => rw [e] at hq; exact hq.elim
      | some s =>
        rw [e] at hq
        obtain ⟨n', o'⟩ := mu_end I e
        exact hq .non H' G' (aft_mu I n') n' o' Rep.non
    | rt r ρ =>
      rw [eo] at hq
      simp only [finR, if_true] at hq
      intro v σ' H' G' I rv
      cases e : ownAt ρ 0 with
      | none => rw [e] at hq; exact hq.elim
      | some s =>
        rw [e] at hq
        obtain ⟨n', o'⟩ := mu_end I e
        cases r with
        | im d => exact hq v H' G' (aft_mu I n') n' o' rv
        | fr d =>
          obtain ⟨p, rfl, q0, q1, _, q2⟩ := rv
          exact hq _ H' G' (aft_mu I n') n' o' ⟨p, rfl, q0, q1, q2⟩
        | sl i =>
          cases i with
          | zero => exact hq.elim
          | succ i =>
            simp only [finV] at hq
            cases e2 : ownAt ρ (i + 1) with
            | none => rw [e2] at hq; exact hq.elim
            | some d =>
              rw [e2] at hq
              obtain ⟨hv, _⟩ := rv
              obtain ⟨v', e3, p, rfl, q1, q2⟩ := I.re.slot (i + 1) _ (ownAt_some.mp e2)
              rw [hv] at e3; cases e3
              refine hq _ H' G' (aft_mu I n') n' o' ⟨p, rfl, ?_, q1, q2⟩
              rcases I.own p ⟨i + 1, d, ownAt_some.mp e2, hv⟩ with z | z
              · have z : p = a := z
                subst z
                exact absurd (I.re.dist (i + 1) 0 d s p (ownAt_some.mp e2) (ownAt_some.mp e) hv (I.lk p rfl).2) (Nat.succ_ne_zero i)
              · exact z
    | ex x ρ =>
      rw [eo] at hq
      simp only [finR, if_true] at hq
      intro c dd σ' H' G' I xr
      cases e : ownAt ρ 0 with
      | none => rw [e] at hq; exact hq.elim
      | some s =>
        rw [e] at hq
        obtain ⟨n', o'⟩ := mu_end I e
        exact hq c dd H' G' (aft_mu I n') n' o' xr
    | bk ρ => rw [eo] at hq; exact hq.elim
    | ct ρ => rw [eo] at hq; exact hq.elim
    | no => rw [eo] at hq; exact hq.elim
  · rw [if_neg hmu] at hsp
    have hmf : fd.mu = false := by simpa using hmu
    obtain ⟨G, ds, sb, tb, r, hq⟩ := hsp
    have hdl : ds.length = ps.length := by rw [← hvl, r.length]
    have I0 := init_ok (C := { C with lk := fd.mu }) (N := N) (n := fd.N) sb tb r (by omega) hN
    refine ⟨_, hcx ⟨G, H, fun _ => False, none⟩, G, _, I0, ?_⟩
    have hrun : (⟨fd.mu, fd.run C fuel⟩ : FSem).run ds = finR false (exs { C with lk := fd.mu } fuel fd.body (initE fd.N false ds)) := by
      show Fd.run C fd fuel ds = _
      unfold Fd.run
      rw [if_pos (by rw [hn, hdl]), hmf]
    rw [hrun] at hq
    cases eo : exs { C with lk := fd.mu } fuel fd.body (initE fd.N false ds) with
    | nx ρ =>
      rw [eo] at hq
      exact fun σ' H' G' I => hq .non H' G' (aft_of I) Rep.non
    | rt r ρ =>
      rw [eo] at hq
      intro v σ' H' G' I rv
      cases r with
      | im d => exact hq v H' G' (aft_of I) rv
      | fr d =>
        obtain ⟨p, rfl, q0, q1, _, q2⟩ := rv
        exact hq _ H' G' (aft_of I) ⟨p, rfl, q0, q1, q2⟩
      | sl i =>
        simp only [finR, finV, Bool.false_eq_true, if_false] at hq
        cases e2 : ownAt ρ i with
        | none => rw [e2] at hq; exact hq.elim
        | some d =>
          rw [e2] at hq
          obtain ⟨hv, _⟩ := rv
          obtain ⟨v', e3, p, rfl, q1, q2⟩ := I.re.slot i _ (ownAt_some.mp e2)
          rw [hv] at e3; cases e3
          refine hq _ H' G' (aft_of I) ⟨p, rfl, ?_, q1, q2⟩
          rcases I.own p ⟨i, d, ownAt_some.mp e2, hv⟩ with z | z
          · exact z.elim
          · exact z
    | ex x ρ =>
      rw [eo] at hq
      exact fun c dd σ' H' G' I xr => hq c dd H' G' (aft_of I) xr
    | bk ρ => rw [eo] at hq; exact hq.elim
    | ct ρ => rw [eo] at hq; exact hq.elim
    | no => rw [eo] at hq; exact hq.elim
end
end Ev

/-! E29: defs that call what they got. -/
namespace Ev
open PySem PySem.Spec L2
open PyProof.Rows hiding St

/-- the body of such a def: the parameter a is called, the clauses hs, then the constant df (or the call's value) -/
def wordB (cc : CC) (a : Str) (df : Option D) (hs : List (Nat × HB)) : List Stmt → Bool
  | [.Try [.Expr (.Call (.Name b _) [] [] _) _] hds [] [] _, .Return (some (.Constant j _ _)) _] => decide (b = a) && hdsB cc hds hs && !hds.isEmpty && (match df with
    | some d => cstB d j
    | none => false)
  | [.Try [.Return (some (.Call (.Name b _) [] [] _)) _] hds [] [] _] => decide (b = a) && hdsB cc hds hs && !hds.isEmpty && df.isNone
  | _ => false
section
variable {P : Program} {w : World} {K : PySem.W.Frag} {mg : Str → Option Value} {base : Heap} {g : GC} {C : EC}
theorem hds_rep {sub : Nat → Nat → Bool} {cc : CC} : ∀ {hds : List ExceptHandler} {hs : List (Nat × HB)}, hdsB cc hds hs = true → ∀ x d, pick sub x hs = .hit d → ∀ {K : PySem.W.Frag} {G : Hp}, Rep K G (vOf d) d
  | [], [], _, x, d, hp, _, _ => nomatch hp
  | [], _ :: _, h, _, _, _, _, _ => by simp [hdsB] at h
  | _ :: _, [], h, _, _, _, _, _ => by simp [hdsB] at h
  | h0 :: hds, (cid, hb) :: hs, h, x, d, hp, K, G => by
    simp only [hdsB, Bool.and_eq_true] at h
    obtain ⟨hh, ht⟩ := h
    unfold pick at hp
    split at hp
    · unfold hdB at hh
      split at hh
      · simp only [Bool.and_eq_true, decide_eq_true_eq] at hh
        have h5 := hh.2
        cases hb with
        | ret d1 =>
          simp only [PK.hit.injEq] at hp
          subst hp
          dsimp only at h5
          split at h5
          · exact cst_rep h5
          · cases h5
        | retIs c' d1 d2 =>
          dsimp only at h5
          split at h5
          · split at h5
            · simp only [Bool.and_eq_true] at h5
              dsimp only at hp
              split at hp
              · simp only [PK.hit.injEq] at hp
                subst hp
                cases sub x.cls c'
                · exact cst_rep h5.2
                · exact cst_rep h5.1.2
              · cases hp
            · cases h5
          · cases h5
      · cases hh
    · exact hds_rep ht x d hp
theorem word_gives {X : Cx} {Ng : List Str} {x a q : Str} {sg : Scope} {fa : Addr} {cdg : Value} {bg : List Stmt} {df : Option D} {hs : List (Nat × HB)} (nd : Ng.Nodup) (bl : ∀ x, x ∈ builtNames → X.mg x = none) (cl : ClsOk X.K X.mg g C)
    (h : wordB (ccOf Ng g.nt sg false) a df hs bg = true) (h0 : ∀ f : Addr, (L2.start Ng [V.ref f])[0]? = some (some (V.ref f))) : LamX.GivesTo X Ng x sg fa cdg bg a q (TTW g C.sub (df, hs)) := by
  intro fl c' s H Q tl act hc hT
  have cx : CxH g C (cxOf C8.CX0 X.prog X.w X.K X.mg X.base Ng x sg fa cdg X.A X.stack s H C8.E0).nox (ccOf Ng g.nt sg false) := ⟨rfl, rfl, rfl, bl, cl⟩
  unfold wordB at h
  split at h
  · rename_i b p1 p2 p3 hds p4 j jj p5 p6
    simp only [Bool.and_eq_true, decide_eq_true_eq, Bool.not_eq_true'] at h
    obtain ⟨⟨⟨rfl, h2⟩, h3⟩, h4⟩ := h
    cases df with
    | none => cases h4
    | some d =>
      cases hds with
      | nil => cases h3
      | cons hd0 hds =>
        obtain ⟨_, l, L, wish⟩ := hds_ok cx h2
        refine ⟨_, pss_cons (ps_tryW (X := (cxOf C8.CX0 X.prog X.w X.K X.mg X.base Ng x sg fa cdg X.A X.stack s H C8.E0).nox) (Wo := noW)
          (tb := fun W Z σ H => ∃ Ech : XK, (∀ cls d σ' H', Ech cls d H' → W cls d σ' H') ∧ σ[0]? = some (some (.ref fl)) ∧ H c' = some (LamX.CodeO c' q) ∧ tl Ech H (fun _ H' => Z.nx σ H'))
          rfl rfl nd takes0 (fun W pn xe tk _ => ⟨fun pins s' σ' H' Z I h' => ?_⟩) L) (pss_one (ps_ret (cst_pe h4))), ?_⟩
        · obtain ⟨Ech, hW, e1, e2, e3⟩ := h'
          exact (pss_one (ps_expr (pos := p3) (act W pn xe Ech p1 p2 tk hW) rfl)).run pins s' σ' H' Z I ⟨e1, e2, e3⟩
        · exact ⟨_, fun cls dd σ' H' ⟨x', xr, d', e, q⟩ => wish noW x' _ cls dd σ' H' xr (by rw [e]; exact q), h0 fl, hc, hT⟩
  · rename_i b p1 p2 p3 hds p4
    simp only [Bool.and_eq_true, decide_eq_true_eq, Bool.not_eq_true'] at h
    obtain ⟨⟨⟨rfl, h2⟩, h3⟩, h4⟩ := h
    cases df with
    | some d => cases h4
    | none =>
      cases hds with
      | nil => cases h3
      | cons hd0 hds =>
        obtain ⟨_, l, L, wish⟩ := hds_ok cx h2
        refine ⟨_, pss_one (ps_tryW (X := (cxOf C8.CX0 X.prog X.w X.K X.mg X.base Ng x sg fa cdg X.A X.stack s H C8.E0).nox) (Wo := noW)
          (tb := fun W Z σ H => ∃ Ech : XK, (∀ cls d σ' H', Ech cls d H' → W cls d σ' H') ∧ σ[0]? = some (some (.ref fl)) ∧ H c' = some (LamX.CodeO c' q) ∧ tl Ech H Z.rt)
          rfl rfl nd takes0 (fun W pn xe tk _ => ⟨fun pins s' σ' H' Z I h' => ?_⟩) L), ?_⟩
        · obtain ⟨Ech, hW, e1, e2, e3⟩ := h'
          exact (pss_one (ps_ret (pos := p3) (act W pn xe Ech p1 p2 tk hW))).run pins s' σ' H' Z I ⟨e1, e2, e3⟩
        · exact ⟨_, fun cls dd σ' H' ⟨x', xr, d', e, q⟩ => wish noW x' _ cls dd σ' H' xr (by rw [e]; exact q), h0 fl, hc, hT⟩
  · cases h
theorem lamp_ok {x a : Str} {st : Stmt} {f : Addr} {fdt : FuncData} {Ng : List Str} {df : Option D} {hs : List (Nat × HB)} (F : FunD K x x (defArgs st) (defBody st) (defScope st) [] [] f fdt) (hm : mg x = some (.ref f)) (hb : L2.Binds K fdt [a] []) (hsc : scopeB Ng [a] (defScope st) = true) (ha : okN a = true)
    (bl : ∀ x, x ∈ builtNames → mg x = none) (cl : ClsOk K mg g C) (h : wordB (ccOf Ng g.nt (defScope st) false) a df hs (defBody st) = true) : LamP P w K mg base g C.sub x (df, hs) := by
  have S := scope_of hsc
  obtain ⟨oc, od, dV, kV, doc, pm, an, cdv, ct, osl, rfl, lk, hcd, _, _⟩ := F.ex
  have h0N : Ng[0]? = some a := by
    have := S.pre
    cases Ng with
    | nil => simp at this
    | cons y r => simp at this; simp [this]
  have reps : (∀ e d, pick C.sub e hs = .hit d → ∀ G, Rep K G (vOf d) d) ∧ (∀ d, df = some d → ∀ G, Rep K G (vOf d) d) := by
    unfold wordB at h
    split at h
    · simp only [Bool.and_eq_true, decide_eq_true_eq] at h
      refine ⟨fun e d hp G => hds_rep h.1.1.2 e d hp, fun d e G => ?_⟩
      subst e
      exact cst_rep h.2
    · simp only [Bool.and_eq_true, decide_eq_true_eq] at h
      refine ⟨fun e d hp G => hds_rep h.1.1.2 e d hp, fun d e G => ?_⟩
      subst e
      cases h.2
    · cases h
  exact ⟨reps.1, reps.2, a, f, Ng, _, _, _, _, _, _, _, _, _, _, _, _, _, hm, F.kp, lk, hcd, hb, S, h0N, S.par a (by simp) |>.elim .inl fun q => .inr (.inl q), okN_1 ha, okN_2 ha, fun X e1 e2 e3 e4 e5 q => by
    subst e1 e2 e3 e4 e5
    exact word_gives S.nd bl cl h fun f => start_at (vs := [V.ref f]) rfl⟩
end
end Ev

/-! E30: a whole program: its defs level by level; a law's end. -/
namespace Ev
open PySem PySem.Spec L2
open PyProof.Rows hiding St

structure DR where
  id : Nat
  st : Stmt
  x : Str
  N : List Str
  ps : List Str
  fd : Fd
  lam : Bool
structure LR where
  st : Stmt
  x : Str
  a : Str
  N : List Str
  df : Option D
  hs : List (Nat × HB)
structure PSet' where
  rows : List DR
  words : List LR
  cls : List Str
  glo : List (Str × D)
def numb {α : Type} (f : α → Str) (xs : List α) : List (Str × Nat) := xs.zipIdx.map fun p => (f p.1, p.2)
theorem numb_at {α : Type} {f : α → Str} {xs : List α} {x : Str} {i : Nat} (h : (numb f xs).lookup x = some i) : ∃ r, xs[i]? = some r ∧ f r = x := by
  have m := PySem.mem_of_lookup h
  unfold numb at m
  obtain ⟨p, hp, e⟩ := List.mem_map.mp m
  obtain ⟨r, j⟩ := p
  cases e
  have := List.mem_zipIdx_iff_getElem?.mp hp
  exact ⟨r, by simpa using this, rfl⟩
namespace PSet'
variable (S : PSet')
def rowAt (i : Nat) : Option DR := S.rows.find? fun r => r.id == i
def nt : NT := { gl := numb (·.1) S.glo, fn := S.rows.map fun r => (r.x, r.id), mu := [], lam := numb (·.x) S.words, cl := numb id S.cls, dk := (S.glo.zipIdx.filter fun p => p.1.2.isDic).map (·.2) }
def nm (i : Nat) : Str := S.cls.getD i "LoopError"
def sub (i j : Nat) : Bool := decide (S.nm i = S.nm j) || decide (S.nm j = "LoopError")
def ec0 : EC := ⟨fun _ => none, fun i => S.words[i]?.map fun r => (r.df, r.hs), fun i => S.glo[i]?.map (·.2), S.sub, false⟩
def lev (fuel : Nat) : Nat → EC
  | 0 => S.ec0
  | j + 1 => { S.ec0 with Φ := fun i => (S.rowAt i).map fun r => ⟨r.fd.mu, r.fd.run (lev fuel j) fuel⟩ }
end PSet'
def DR.d (r : DR) : He.DefD := ⟨(r.x, none), r.x, r.x, defArgs r.st, defBody r.st, defScope r.st, [], []⟩
def LR.d (r : LR) : He.DefD := ⟨(r.x, none), r.x, r.x, defArgs r.st, defBody r.st, defScope r.st, [], []⟩
/-- the look at a def -/
def DR.ok (nt : NT) (n : Nat) (r : DR) : Bool := scopeB r.N r.ps (defScope r.st) && decide (r.fd.n = r.ps.length) && decide (r.fd.N = r.N.length) && (!r.fd.mu || decide (0 < r.ps.length)) && lookS n n (ccOf r.N nt (defScope r.st) r.lam) (defBody r.st) r.fd.body
def LR.ok (nt : NT) (r : LR) : Bool := scopeB r.N [r.a] (defScope r.st) && okN r.a && wordB (ccOf r.N nt (defScope r.st) false) r.a r.df r.hs (defBody r.st)
def BindOk (x : Str) (st : Stmt) (ps : List Str) : Prop := ∀ (kV doc pm : Value) (an : Option Addr) (cdv ct : Value) (us : List Value), us.length = ps.length → bindArgs (PySem.W.fnOf x x (defArgs st) (defBody st) (defScope st) .none kV doc pm an cdv ct) ⟨us, []⟩ = pure (ps.zip us)
def BindAll : List DR → Prop
  | [] => True
  | r :: rs => BindOk r.x r.st r.ps ∧ BindAll rs
def BindAllW : List LR → Prop
  | [] => True
  | r :: rs => BindOk r.x r.st [r.a] ∧ BindAllW rs
theorem BindAll.at_ : ∀ {rs : List DR} {i : Nat} {r : DR}, BindAll rs → rs[i]? = some r → BindOk r.x r.st r.ps
  | [], i, r, _, h => by simp at h
  | _ :: _, 0, r, h, e => by simp at e; subst e; exact h.1
  | _ :: rs, i + 1, r, h, e => BindAll.at_ h.2 (by simpa using e)
theorem BindAllW.at_ : ∀ {rs : List LR} {i : Nat} {r : LR}, BindAllW rs → rs[i]? = some r → BindOk r.x r.st [r.a]
  | [], i, r, _, h => by simp at h
  | _ :: _, 0, r, h, e => by simp at e; subst e; exact h.1
  | _ :: rs, i + 1, r, h, e => BindAllW.at_ h.2 (by simpa using e)
/-! ### facts of the module's part K -/
def valB : Value → D → Bool
  | .str z _, .str s => decide (mkS s = z) && s.all (fun c => Nat.blt c 0x110000) && Nat.ble s.length szL
  | .int i _, .int j => decide (i = j)
  | _, _ => false
def valsB : List Value → List D → Bool
  | [], [] => true
  | u :: us, d :: ds => valB u d && valsB us ds
  | _, _ => false
def entB (e : DictEntry) (p : D × D) : Bool := match e.key, p.1 with
  | .str z _, .str s => decide (mkS s = z) && valB e.val p.2
  | _, _ => false
def entsB : List DictEntry → List (D × D) → Bool
  | [], [] => true
  | e :: es, p :: ps => entB e p && entsB es ps
  | _, _ => false
def gloB (K : PySem.W.Frag) (p : Str × D) : Bool := match PySem.W.nsIn K mainGlobals p.1 with
  | some (some u) => match p.2 with
    | .ktp ds => match u with
      | .ref a => match K.lookup a with
        | some ⟨.type c, _, .seq its _, _⟩ => decide (c = "tuple") && Nat.ble its.size szL && valsB its.toList ds
        | _ => false
      | _ => false
    | .dic ps => match u with
      | .ref a => decide (a = He.ga K p.1) && match K.lookup a with
        | some ⟨_, _, .dict es _, _⟩ => entsB es.toList ps
        | _ => false
      | _ => false
    | d => valB u d
  | _ => false
def excB (K : PySem.W.Frag) (D : Addr) : Bool :=
  decide (PySem.W.findIn K (.ref D) "__getattribute__" = some (some (.builtin "BaseException.__getattribute__"))) && decide (PySem.W.findIn K (.ref D) "__getattr__" = some none) && PySem.W.hasDictIn K D && decide (PySem.W.findIn K (.ref D) "__class__" = some (some (.builtin "object.__class__"))) &&
  decide (PySem.W.specialIn K (.builtin "object.__class__") "__get__" = some (some (.builtin "getset_descriptor.__get__"))) && decide (PySem.W.takesIn K (.builtin "object.__class__") = some true) && decide (PySem.W.mroIn K D (.type "object") = some true)
def dicKeys (ps : List (D × D)) : List Str := ps.map fun p => match p.1 with
  | .str s => mkS s
  | _ => ""
/-- the module's dicts, as the head tells them -/
def tabsOf (S : PSet') : List He.Tab := S.glo.filterMap fun p => match p.2 with
  | .dic ps => some (fun K => He.ga K p.1, dicKeys ps)
  | _ => none
def clsB (S : PSet') (K : PySem.W.Frag) (x : Str) : Bool := (He.Fa.glo x).ok K && (He.Fa.exc x).ok K && excB K (He.ga K x) && S.cls.all fun y =>
  decide (PySem.W.exmOne K (.ref (He.ga K x)) (.ref (He.ga K y)) = some (decide (x = y) || decide (y = "LoopError"))) && decide (PySem.W.kitOne K (.ref (He.ga K x)) (.ref (He.ga K y)) = some (decide (x = y) || decide (y = "LoopError")))
def lamRows (S : PSet') : List DR := S.rows.filter (·.lam)
def tabA (K : PySem.W.Frag) (r : DR) : Addr := (He.cT K (r.x, none)).2
def exB (S : PSet') (K : PySem.W.Frag) : Bool := S.cls.all (clsB S K) && S.glo.all (gloB K) && decide ((lamRows S).map (tabA K)).Nodup
def lamN (x : Str) : Str := x ++ ".<locals>." ++ "<lambda>"
def gcOf (S : PSet') (K : PySem.W.Frag) : GC := ⟨(lamRows S).map fun r => (tabA K r, lamN r.x), fun i => He.ga K (S.nm i), S.nt⟩
end Ev

/-! E31: the levels are kept. -/
namespace Ev
open PySem PySem.Spec L2
open PyProof.Rows hiding St

theorem _root_.L2.FnOk.more {P : Program} {w : World} {K : PySem.W.Frag} {mg : Str → Option Value} {base : Heap} {CX : CXT} {k k' : Nat} {f : Addr} {fd : FuncData} {ps : List Str} {sp : Sp} (h : FnOk P w K mg base CX k f fd ps sp) (hk : k ≤ k') : FnOk P w K mg base CX k' f fd ps sp :=
  ⟨h.len, fun A outer s H args us vs Q E hr e0 hb r hs => h.run A outer s H args us vs Q E (hr.mono hk) e0 hb r hs⟩
theorem FnP.more {P : Program} {w : World} {K : PySem.W.Frag} {mg : Str → Option Value} {base : Heap} {g : GC} {k k' : Nat} {x : Str} {S : FSem} (h : FnP P w K mg base g k x S) (hk : k ≤ k') : FnP P w K mg base g k' x S := by
  obtain ⟨f, fd, ps, h1, h2, h3, h4, h5⟩ := h
  exact ⟨f, fd, ps, h1, h2, h3, h4, h5.more hk⟩
theorem GOk.more {P : Program} {w : World} {K : PySem.W.Frag} {mg : Str → Option Value} {base : Heap} {g : GC} {C : EC} {k k' : Nat} (h : GOk P w K mg base g C k) (hk : k ≤ k') : GOk P w K mg base g C k' :=
  ⟨fun x id S e1 e2 => (h.fn x id S e1 e2).more hk, h.gl, h.bl, h.lm⟩
section
variable {K : PySem.W.Frag} {S : PSet'}
theorem valB_ok {u : Value} {d : D} (h : valB u d = true) : ∃ v, RelV v u ∧ ∀ G, Rep K G v d := by
  cases u <;> cases d <;> simp only [valB, Bool.false_eq_true, decide_eq_true_eq, Bool.and_eq_true] at h
  · subst h; exact ⟨.int _, ⟨_, rfl⟩, fun _ => .int _⟩
  · obtain ⟨⟨rfl, h2⟩, h3⟩ := h
    exact ⟨.str _, ⟨_, rfl⟩, fun _ => .str ⟨fun c hc => Nat.blt_eq.mp (List.all_eq_true.mp h2 c hc), Nat.ble_eq.mp h3⟩⟩
theorem valsB_ok : ∀ {us : List Value} {ds : List D}, valsB us ds = true → ∃ vs, Vals vs us ∧ ∀ G, Reps K G vs ds
  | [], [], _ => ⟨[], .nil, fun _ => .nil⟩
  | u :: us, d :: ds, h => by
    simp only [valsB, Bool.and_eq_true] at h
    obtain ⟨v, r, rp⟩ := valB_ok (K := K) h.1
    obtain ⟨vs, rs, rps⟩ := valsB_ok h.2
    exact ⟨v :: vs, .cons r rs, fun G => .cons (rp G) (rps G)⟩
  | [], _ :: _, h => by simp [valsB] at h
  | _ :: _, [], h => by simp [valsB] at h
theorem gloB_ok {h : Heap} {mg : Str → Option Value} (X : K.In h) (G : h.Ns mainGlobals mg) {p : Str × D} (c : gloB K p = true) (nd : p.2.isDic = false) : ∃ u v, mg p.1 = some u ∧ RelV v u ∧ Rep K (fun _ => none) v p.2 := by
  obtain ⟨x, d⟩ := p
  unfold gloB at c
  split at c
  · rename_i u e
    have hm := PySem.W.mg_of X G e
    have plain : valB u d = true → ∃ u' v, mg x = some u' ∧ RelV v u' ∧ Rep K (fun _ => none) v d := fun h => by
      obtain ⟨v, r, rp⟩ := valB_ok (K := K) h
      exact ⟨u, v, hm, r, rp _⟩
    cases d <;> first | exact plain c | (cases nd; done) | skip
    dsimp only at c
    split at c
    · split at c
      · rename_i a _ c' _ its _ _ lk
        simp only [Bool.and_eq_true, decide_eq_true_eq] at c
        obtain ⟨⟨rfl, c2⟩, c3⟩ := c
        obtain ⟨vs, rv, rps⟩ := valsB_ok (K := K) c3
        exact ⟨_, .ref a, hm, rfl, .ktp (.inr ⟨_, its, _, lk, rfl, rfl, by rw [sizeLine_eq]; exact Nat.ble_eq.mp c2, rv⟩) (rps _)⟩
      · cases c
    · cases c
  · cases c
theorem entsB_ok : ∀ {es : List DictEntry} {ps : List (D × D)}, entsB es ps = true → GEs K es ps
  | [], [], _ => .nil
  | e :: es, (k, d) :: ps, h => by
    simp only [entsB, Bool.and_eq_true] at h
    obtain ⟨h1, h2⟩ := h
    unfold entB at h1
    split at h1
    · rename_i z t s ek ep
      have ep : k = .str s := ep
      subst ep
      simp only [Bool.and_eq_true, decide_eq_true_eq] at h1
      obtain ⟨h3, h4⟩ := h1
      obtain ⟨v, r, rp⟩ := valB_ok (K := K) h4
      exact .cons (t := t) (by rw [ek, h3]) r (rp _) (entsB_ok h2)
    · cases h1
  | [], _ :: _, h => by simp [entsB] at h
  | _ :: _, [], h => by simp [entsB] at h
theorem gloD_ok {h : Heap} {mg : Str → Option Value} {w : World} (X : K.In h) (G : h.Ns mainGlobals mg) {x : Str} {ps : List (D × D)} (c : gloB K (x, .dic ps) = true) (t : ∃ es n, KDict K w (He.ga K x) es n) : ∃ d, mg x = some (.ref d) ∧ GDict K w d ps := by
  unfold gloB at c
  split at c
  · rename_i u e
    have hm := PySem.W.mg_of X G e
    dsimp only at c
    split at c
    · rename_i a
      simp only [Bool.and_eq_true, decide_eq_true_eq] at c
      obtain ⟨rfl, c⟩ := c
      obtain ⟨es, n, kd⟩ := t
      rw [kd.at_] at c
      exact ⟨_, hm, es, n, kd, entsB_ok c⟩
    · cases c
  · cases c
theorem excB_ok {D : Addr} (h : excB K D = true) (hs : PySem.W.subIn K (.ref D) (.type "BaseException") = some true) : ExcC K D := by
  unfold excB at h
  simp only [Bool.and_eq_true, decide_eq_true_eq] at h
  obtain ⟨⟨⟨⟨⟨⟨h1, h2⟩, h3⟩, h4⟩, h5⟩, h6⟩, h7⟩ := h
  exact ⟨h1, h2, hs, h3, h4, h5, h6, h7⟩
theorem nm_mem (hL : ("LoopError" : Str) ∈ S.cls) (i : Nat) : S.nm i ∈ S.cls := by
  unfold PSet'.nm
  by_cases h : i < S.cls.length
  · rw [List.getD_eq_getElem?_getD, List.getElem?_eq_getElem h]; exact List.getElem_mem h
  · rw [List.getD_eq_getElem?_getD, List.getElem?_eq_none (by omega)]; exact hL
theorem cls_all {h : Heap} {mg : Str → Option Value} (X : K.In h) (G : h.Ns mainGlobals mg) (hL : ("LoopError" : Str) ∈ S.cls) (c : S.cls.all (clsB S K) = true) {initId : String} (F : ExcBaseFacts "ValueError" "ValueError.__new__" initId He.veBase) {C : EC} (hC : C.sub = S.sub) : ClsOk K mg (gcOf S K) C := by
  have all : ∀ x ∈ S.cls, clsB S K x = true := fun x hx => List.all_eq_true.mp c x hx
  have nmEq : ∀ {x : Str} {i : Nat}, S.nt.cl.lookup x = some i → S.nm i = x ∧ x ∈ S.cls := fun {x i} e => by
    obtain ⟨r, h1, h2⟩ := numb_at e
    have h2 : r = x := h2
    subst h2
    exact ⟨by unfold PSet'.nm; rw [List.getD_eq_getElem?_getD, h1]; rfl, List.mem_of_getElem? h1⟩
  have pairs : ∀ i y j, S.nt.cl.lookup y = some j → PySem.W.exmOne K (.ref (He.ga K (S.nm i))) (.ref (He.ga K y)) = some (S.sub i j) ∧ PySem.W.kitOne K (.ref (He.ga K (S.nm i))) (.ref (He.ga K y)) = some (S.sub i j) := fun i y j e => by
    obtain ⟨e1, e2⟩ := nmEq e
    have q := all _ (nm_mem hL i)
    unfold clsB at q
    simp only [Bool.and_eq_true] at q
    have q2 := List.all_eq_true.mp q.2 y e2
    simp only [Bool.and_eq_true, decide_eq_true_eq] at q2
    unfold PSet'.sub
    rw [e1]
    exact q2
  refine ⟨fun x i e => ?_, fun i y j e => ?_, fun i y j e => ?_, fun i => ?_⟩
  · obtain ⟨e1, e2⟩ := nmEq e
    have q := all x e2
    unfold clsB at q
    simp only [Bool.and_eq_true] at q
    obtain ⟨x1, x2, x3, x4⟩ := He.exc_ok q.1.1.2
    have hg : (gcOf S K).cA i = He.ga K x := by show He.ga K (S.nm i) = _; rw [e1]
    rw [hg]
    exact ⟨He.glo_ok X G q.1.1.1, x2, x3, x4, _, _, _, _, F, x1⟩
  · have hg : (gcOf S K).cA j = He.ga K y := by show He.ga K (S.nm j) = _; rw [(nmEq e).1]
    rw [hg, hC]
    exact (pairs i y j e).1
  · have hg : (gcOf S K).cA j = He.ga K y := by show He.ga K (S.nm j) = _; rw [(nmEq e).1]
    rw [hg, hC]
    exact (pairs i y j e).2
  · have q := all _ (nm_mem hL i)
    unfold clsB at q
    simp only [Bool.and_eq_true] at q
    obtain ⟨x1, x2, x3, x4⟩ := He.exc_ok q.1.1.2
    exact excB_ok q.1.2 x3
end
end Ev

/-! E32: all defs of a program, and its law. -/
namespace Ev
open PySem PySem.Spec L2
open PyProof.Rows hiding St

def faOf (S : PSet') : List He.Fa := S.rows.map (fun r => .glo r.x) ++ S.words.map (fun r => .glo r.x) ++ builtNames.map .free
def fnOfS (S : PSet') : List He.DefD := S.rows.map DR.d ++ S.words.map LR.d
def tfOf (S : PSet') : List He.Defn := (lamRows S).map fun r => (r.x, none)
def noDic : D → Bool
  | .dic _ => false
  | _ => true
def PSet'.idB (S : PSet') (r : DR) : Bool := match S.rowAt r.id with
  | some q => decide (q.x = r.x)
  | none => false
def PSet'.ok (S : PSet') (n : Nat) : Bool := (S.rows.all (DR.ok S.nt n) && S.rows.all S.idB) && S.words.all (LR.ok S.nt) && decide (("LoopError" : Str) ∈ S.cls) && S.glo.all fun _ => true
section
variable {P : Program} {w : World} {K : PySem.W.Frag} {mg : Str → Option Value} {base h : Heap} {S : PSet'} {n fuel : Nat}
theorem run_len {fd : Fd} {C : EC} {ds : List D} (h : fd.run C fuel ds ≠ .no) : ds.length = fd.n := by
  unfold Fd.run at h
  split at h
  · assumption
  · exact absurd rfl h
structure Hd (S : PSet') (n : Nat) (w : World) (K : PySem.W.Frag) (h : Heap) : Prop where
  ok : S.ok n = true
  b1 : BindAll S.rows
  b2 : BindAllW S.words
  x : He.SaysX (faOf S) (fnOfS S) (tabsOf S) (tfOf S) (exB S) w h K
theorem Hd.d (c : Hd S n w K h) : He.SaysD (faOf S) (fnOfS S) K := congrArg (fun z : He.AlT => z.1) c.x.t
theorem Hd.row (c : Hd S n w K h) {i : Nat} {r : DR} (e : S.rowAt i = some r) : (∃ fdt, FunD K r.x r.x (defArgs r.st) (defBody r.st) (defScope r.st) [] [] (He.ga K r.x) fdt) ∧ (He.Fa.glo r.x).ok K = true ∧ r.ok S.nt n = true ∧ BindOk r.x r.st r.ps := by
  have m := List.mem_of_find?_eq_some e
  obtain ⟨i0, e0⟩ := List.mem_iff_getElem?.mp m
  refine ⟨?_, ?_, ?_, c.b1.at_ e0⟩
  · exact He.SaysD.defs c.d (d := r.d) (List.mem_append_left _ (List.mem_map.mpr ⟨r, m, rfl⟩))
  · exact He.SaysD.facts c.d (List.mem_append_left _ (List.mem_append_left _ (List.mem_map.mpr ⟨r, m, rfl⟩)))
  · have := c.ok
    unfold PSet'.ok at this
    simp only [Bool.and_eq_true, List.all_eq_true] at this
    exact this.1.1.1.1 r m
theorem Hd.word (c : Hd S n w K h) {i : Nat} {r : LR} (e : S.words[i]? = some r) : (∃ fdt, FunD K r.x r.x (defArgs r.st) (defBody r.st) (defScope r.st) [] [] (He.ga K r.x) fdt) ∧ (He.Fa.glo r.x).ok K = true ∧ r.ok S.nt = true ∧ BindOk r.x r.st [r.a] := by
  have m := List.mem_of_getElem? e
  refine ⟨?_, ?_, ?_, c.b2.at_ e⟩
  · exact He.SaysD.defs c.d (d := r.d) (List.mem_append_right _ (List.mem_map.mpr ⟨r, m, rfl⟩))
  · exact He.SaysD.facts c.d (List.mem_append_left _ (List.mem_append_right _ (List.mem_map.mpr ⟨r, m, rfl⟩)))
  · have := c.ok
    unfold PSet'.ok at this
    simp only [Bool.and_eq_true, List.all_eq_true] at this
    exact this.1.1.2 r m
theorem Hd.at_ (c : Hd S n w K h) {x : Str} {i : Nat} (e : S.nt.fn.lookup x = some i) : ∃ r, S.rowAt i = some r ∧ r.x = x := by
  have m := PySem.mem_of_lookup e
  obtain ⟨r, hr, q⟩ := List.mem_map.mp (show (x, i) ∈ S.rows.map (fun r => (r.x, r.id)) from m)
  cases q
  have := c.ok
  unfold PSet'.ok at this
  simp only [Bool.and_eq_true, List.all_eq_true] at this
  have q := this.1.1.1.2 r hr
  unfold PSet'.idB at q
  split at q
  · rename_i q0 hq; exact ⟨q0, hq, of_decide_eq_true q⟩
  · cases q
theorem Hd.bl (c : Hd S n w K h) (X : K.In base) (G : base.Ns mainGlobals mg) : ∀ x, x ∈ builtNames → mg x = none := fun x hx =>
  He.free_ok X G (He.SaysD.facts c.d (List.mem_append_right _ (List.mem_map.mpr ⟨x, hx, rfl⟩)))
theorem Hd.ex (c : Hd S n w K h) : S.cls.all (clsB S K) = true ∧ S.glo.all (gloB K) = true ∧ ((lamRows S).map (tabA K)).Nodup := by
  have := c.x.more
  unfold exB at this
  simp only [Bool.and_eq_true, decide_eq_true_eq] at this
  exact ⟨this.1.1, this.1.2, this.2⟩
theorem Hd.cl (c : Hd S n w K h) (X : K.In base) (G : base.Ns mainGlobals mg) {C : EC} (hC : C.sub = S.sub) : ClsOk K mg (gcOf S K) C := by
  have := c.ok
  unfold PSet'.ok at this
  simp only [Bool.and_eq_true, decide_eq_true_eq] at this
  exact cls_all X G this.1.2 c.ex.1 PySem.F.excBase_ValueError hC
/-- the tables of those that make lambdas -/
def TabsB (S : PSet') (K : PySem.W.Frag) (base : Heap) (mg : Str → Option Value) : Prop := ∀ p ∈ tfOf S, LamX.TabB base mg (He.cT K p).1 (He.cT K p).2
theorem Hd.lam (c : Hd S n w K h) (T : TabsB S K base mg) {i : Nat} {r : DR} (e : S.rowAt i = some r) (hl : r.lam = true) {fdt : FuncData} (F : FunD K r.x r.x (defArgs r.st) (defBody r.st) (defScope r.st) [] [] (He.ga K r.x) fdt) :
    ∃ cc Pt, fdt.code = .ref cc ∧ LamX.TabB base mg cc Pt ∧ (Pt, r.x ++ ".<locals>." ++ "<lambda>") ∈ (gcOf S K).T ∧ ∀ p ∈ (gcOf S K).T, p.1 = Pt → p.2 = r.x ++ ".<locals>." ++ "<lambda>" := by
  have m : r ∈ lamRows S := List.mem_filter.mpr ⟨List.mem_of_find?_eq_some e, hl⟩
  obtain ⟨oc, od, dV, kV, doc, pm, an, cdv, ct, osl, rfl, lk, hcd, _, _⟩ := F.ex
  obtain ⟨cc, rfl⟩ := He.codeIn_ref hcd
  have ec : He.codeOf K (r.x, none) = cc := He.codeOf_eq (p := (r.x, none)) lk rfl
  have t := T (r.x, none) (List.mem_map.mpr ⟨r, m, rfl⟩)
  have e1 : (He.cT K (r.x, none)).1 = cc := ec
  rw [e1] at t
  refine ⟨cc, tabA K r, rfl, t, List.mem_map.mpr ⟨r, m, rfl⟩, fun p hp ep => ?_⟩
  obtain ⟨r2, m2, rfl⟩ := List.mem_map.mp hp
  have nd := c.ex.2.2
  have : r2 = r := by
    obtain ⟨i1, h1, g1⟩ := List.mem_iff_getElem.mp m
    obtain ⟨i2, h2, g2⟩ := List.mem_iff_getElem.mp m2
    have q : i2 = i1 := by
      have h1' : i1 < ((lamRows S).map (tabA K)).length := by rw [List.length_map]; exact h1
      have h2' : i2 < ((lamRows S).map (tabA K)).length := by rw [List.length_map]; exact h2
      have eq : ((lamRows S).map (tabA K))[i2] = ((lamRows S).map (tabA K))[i1] := by
        rw [List.getElem_map, List.getElem_map, g1, g2]; exact ep
      have pw := List.pairwise_iff_getElem.mp nd
      rcases Nat.lt_trichotomy i1 i2 with l | l | l
      · exact absurd eq.symm (pw i1 i2 h1' h2' l)
      · exact l.symm
      · exact absurd eq (pw i2 i1 h2' h1' l)
    subst q
    rw [← g1, ← g2]
  subst this
  rfl
theorem Hd.gd (c : Hd S n w K h) (X : K.In base) (G : base.Ns mainGlobals mg) {C : EC} (hΓ : C.Γ = S.ec0.Γ) : GdOk K w mg (gcOf S K) C := by
  intro y id ps e1 e2
  obtain ⟨p, h1, h2⟩ := numb_at e1
  rw [hΓ] at e2
  have e2 : (S.glo[id]?.map (·.2)) = some (.dic ps) := e2
  rw [h1] at e2
  have hd : p.2 = .dic ps := Option.some.inj e2
  obtain ⟨x, d⟩ := p
  have hd : d = .dic ps := hd
  subst hd
  have h2 : x = y := h2
  subst h2
  have m := List.mem_of_getElem? h1
  have mt : (fun K => He.ga K x, dicKeys ps) ∈ tabsOf S := List.mem_filterMap.mpr ⟨_, m, rfl⟩
  obtain ⟨i, hi⟩ := List.mem_iff_getElem?.mp mt
  exact gloD_ok X G (List.all_eq_true.mp c.ex.2.1 _ m) (c.x.t.tab i hi)
theorem Hd.dk (c : Hd S n w K h) {C : EC} (hΓ : C.Γ = S.ec0.Γ) : ∀ id ∈ (gcOf S K).nt.dk, ∃ ps, C.Γ id = some (.dic ps) := by
  intro id hid
  have hid : id ∈ (S.glo.zipIdx.filter fun p => p.1.2.isDic).map (·.2) := hid
  obtain ⟨⟨p, j⟩, hp, rfl⟩ := List.mem_map.mp hid
  obtain ⟨m, dd⟩ := List.mem_filter.mp hp
  have q := List.mem_zipIdx_iff_getElem?.mp m
  rw [hΓ]
  have q : S.glo[j]? = some p := by simpa using q
  obtain ⟨x, d⟩ := p
  cases d with
  | dic ps => exact ⟨ps, by show S.glo[j]?.map (·.2) = _; rw [q]; rfl⟩
  | _ => simp [D.isDic] at dd
/-- a row at a level -/
theorem Hd.fnp (c : Hd S n w K h) (X : K.In base) (G : base.Ns mainGlobals mg) (T : TabsB S K base mg) {C : EC} (hC : C.sub = S.sub) (hΓ : C.Γ = S.ec0.Γ) {k : Nat} (go : GOk P w K mg base (gcOf S K) C k) {i : Nat} {r : DR} (e : S.rowAt i = some r) {fdt : FuncData}
    (F : FunD K r.x r.x (defArgs r.st) (defBody r.st) (defScope r.st) [] [] (He.ga K r.x) fdt) : FnOk P w K mg base (L2.CX P w) (k + 3) (He.ga K r.x) fdt r.ps (spF K (gcOf S K).T (gcOf S K).cA r.ps.length ⟨r.fd.mu, r.fd.run C fuel⟩) := by
  obtain ⟨_, _, ok, _⟩ := c.row e
  unfold DR.ok at ok
  simp only [Bool.and_eq_true, decide_eq_true_eq, Bool.or_eq_true, Bool.not_eq_true'] at ok
  obtain ⟨⟨⟨⟨o1, o2⟩, o3⟩, o4⟩, o5⟩ := ok
  refine fd_ok (k := k + 2) (k0 := k) F o1 o2 o3 (fun hm => o4.resolve_left (by rw [hm]; simp)) o5 (go.more (Nat.le_add_right _ _)) (c.gd X G hΓ) (c.dk hΓ) (c.cl X G hC) (Nat.le_refl _) go (fun hl => c.lam T e hl F)
theorem Hd.lev (c : Hd S n w K h) (X : K.In base) (G : base.Ns mainGlobals mg) (T : TabsB S K base mg) : ∀ j, GOk P w K mg base (gcOf S K) (S.lev fuel j) (3 * j)
  | 0 => by
    refine ⟨fun x id Sm _ e => ?_, fun x id d e1 e2 nd => ?_, c.bl X G, fun x id L e1 e2 => ?_⟩
    · cases e
    · obtain ⟨p, h1, rfl⟩ := numb_at e1
      have e2 : (S.glo[id]?.map (·.2)) = some d := e2
      rw [h1] at e2
      cases e2
      exact gloB_ok X G (List.all_eq_true.mp c.ex.2.1 p (List.mem_of_getElem? h1)) nd
    · obtain ⟨r, h1, rfl⟩ := numb_at e1
      have e2 : (S.words[id]?.map fun r => (r.df, r.hs)) = some L := e2
      rw [h1] at e2
      cases e2
      obtain ⟨⟨fdt, F⟩, hg, ok, bk⟩ := c.word h1
      unfold LR.ok at ok
      simp only [Bool.and_eq_true] at ok
      exact lamp_ok (C := S.ec0) F (He.glo_ok X G hg) (F.bindsN (ps := [r.a]) bk) ok.1.1 ok.1.2 (c.bl X G) (c.cl X G rfl) ok.2
  | j + 1 => by
    have ih := Hd.lev c X G T j
    refine ⟨fun x id Sm e1 e2 => ?_, (Hd.lev c X G T 0).gl, c.bl X G, (Hd.lev c X G T 0).lm⟩
    obtain ⟨r, h1, rfl⟩ := c.at_ e1
    have e2 : ((S.rowAt id).map fun r => (⟨r.fd.mu, r.fd.run (S.lev fuel j) fuel⟩ : FSem)) = some Sm := e2
    rw [h1] at e2
    cases e2
    obtain ⟨⟨fdt, F⟩, hg, ok, bk⟩ := c.row h1
    have subj : ∀ j, (S.lev fuel j).sub = S.sub := fun j => by cases j <;> rfl
    have gamj : ∀ j, (S.lev fuel j).Γ = S.ec0.Γ := fun j => by cases j <;> rfl
    unfold DR.ok at ok
    simp only [Bool.and_eq_true, decide_eq_true_eq] at ok
    exact ⟨_, fdt, r.ps, He.glo_ok X G hg, F.kp, F.bindsN bk, fun ds hd => (run_len hd).trans ok.1.1.1.2, c.fnp X G T (subj j) (gamj j) ih h1 F⟩
end
end Ev

/-! E33: the end of a law. -/
namespace Ev
open PySem PySem.Spec L2
open PyProof.Rows hiding St
section
variable {K : PySem.W.Frag} {S : PSet'}
/-- the script, as data -/
theorem scr_in {H : Hp} {a : Addr} {ns : List Int} (h : SqL K H a (ns.map V.int)) : ∃ G, Sub G H ∧ Reps K G [.ref a] [.scr ns] := by
  rcases h with (h | ⟨o, h⟩) | h
  · refine ⟨upd (fun _ => none) a (.lst (ns.map V.int)), fun b u e => ?_, .cons (.scr (.inl (.inl upd_same))) .nil⟩
    by_cases hb : b = a
    · subst hb; rw [upd_same] at e; cases e; exact .inl ⟨rfl, h⟩
    · rw [upd_ne hb] at e; cases e
  · refine ⟨upd (fun _ => none) a (.frz o (.lst (ns.map V.int))), fun b u e => ?_, .cons (.scr (.inl (.inr ⟨o, upd_same⟩))) .nil⟩
    by_cases hb : b = a
    · subst hb; rw [upd_same] at e; cases e; exact .inl ⟨rfl, h⟩
    · rw [upd_ne hb] at e; cases e
  · refine ⟨fun _ => none, fun b u e => ?_, .cons (.scr (.inr h)) .nil⟩
    cases e
/-- what is asked of the law's tree -/
def Plain (S : PSet') (fuel J : Nat) (r : DR) : Prop := ∀ ns : List Int, ns.length ≤ 63 → (∀ z ∈ ns, Builtin.Int.intBits z ≤ 1048576) → ∃ f, r.fd.run (S.lev fuel J) fuel [.scr ns] = .ok f (.bl true) .non
theorem law_at {l : PySem.W.OpenLaw} {w : World} {mg : Str → Option Value} {fa : Addr} {h : Heap} {n fuel J i : Nat} {r : DR} (c : Hd S n w K h) (X : K.In h) (G : h.Ns mainGlobals mg) (hmg : mg "law" = some (.ref fa)) (e : S.rowAt i = some r) (ex : r.x = "law") (eps : r.ps = ([("script" : Str)] : List Str)) (emu : r.fd.mu = false)
    (pl : Plain S fuel J r) : LamX.LawAtS l w K (L2.CX l.prog w) (3 * J + 3) 63 "script" mg fa h := by
  obtain ⟨⟨fdt, F⟩, hg, ok, bk⟩ := c.row e
  have e1 := He.glo_ok X G hg
  rw [ex, hmg] at e1
  have efa : fa = He.ga K r.x := by rw [ex]; exact Value.ref.inj (Option.some.inj e1)
  subst efa
  have mem : ∀ p ∈ (tfOf S).map (He.cT K), ∃ q ∈ tfOf S, p = He.cT K q := fun p hp => by
    obtain ⟨q, h1, h2⟩ := List.mem_map.mp hp
    exact ⟨q, h1, h2.symm⟩
  have subj : (S.lev fuel J).sub = S.sub := by cases J <;> rfl
  have gamj : (S.lev fuel J).Γ = S.ec0.Γ := by cases J <;> rfl
  refine ⟨fdt, (tfOf S).map (He.cT K), spF K (gcOf S K).T (gcOf S K).cA r.ps.length ⟨r.fd.mu, r.fd.run (S.lev fuel J) fuel⟩, fun p hp => ?_, fun p hp => ?_, fun p hp => ?_, fun s u => ?_, fun H a ns hl hbits hT hS => ?_, fun base X2 G2 T2 => ?_⟩
  · obtain ⟨q, hq, rfl⟩ := mem p hp; exact c.x.empty q hq
  · obtain ⟨q, hq, rfl⟩ := mem p hp; exact c.x.out q hq
  · obtain ⟨q, hq, rfl⟩ := mem p hp; exact PySem.W.codeHd_of_K X (c.x.hd q hq)
  · have := F.bindsA (ps := r.ps) bk s [u] (by rw [eps]; rfl)
    rw [eps] at this
    exact this
  · obtain ⟨G0, sb, rp⟩ := scr_in hS
    refine ⟨by rw [eps]; rfl, ?_⟩
    rw [if_neg (by rw [emu]; simp)]
    refine ⟨G0, [.scr ns], sb, fun p hp => ?_, rp, ?_⟩
    · obtain ⟨r2, m2, rfl⟩ := List.mem_map.mp hp
      exact .nil (hT (He.cT K (r2.x, none)) (List.mem_map.mpr ⟨(r2.x, none), List.mem_map.mpr ⟨r2, m2, rfl⟩, rfl⟩))
    · obtain ⟨f, q⟩ := pl ns hl hbits
      show match r.fd.run (S.lev fuel J) fuel [.scr ns] with
        | .ok f d _ => _
        | .ex x _ => _
        | .no => _
      rw [q]
      intro v H' G' A rv
      cases f with
      | false =>
        have rv : Rep K G' v (.bl true) := rv
        cases rv
        rfl
      | true =>
        obtain ⟨a', _, _, _, o⟩ := rv
        exact False.elim o
  · have T3 : TabsB S K base mg := fun p hp => T2 (He.cT K p) (List.mem_map.mpr ⟨p, hp, rfl⟩)
    have := c.fnp (P := l.prog) (fuel := fuel) X2 G2 T3 subj gamj (Hd.lev (fuel := fuel) c X2 G2 T3 J) e F
    rw [eps] at this ⊢
    exact this
end
/-- the goal hc of head_any -/
theorem walk_end {l : PySem.W.OpenLaw} {q : Program} {loose : List Str} {XP : (Str → Option Value) → Heap → Prop} {d : DefRec} {S : PSet'} {n n0 fuel J i : Nat} {r : DR} (hn : l.most = some 63) (hdf : d.params.defaults = []) (hd : d.name = "law") (hr : Room (3 * J + 3) callerA)
    (ok : S.ok n = true) (b1 : BindAll S.rows) (b2 : BindAllW S.words) (e : S.rowAt i = some r) (ex : r.x = "law") (eps : r.ps = ([("script" : Str)] : List Str)) (emu : r.fd.mu = false) (pl : Plain S fuel J r) :
    PySem.W.WalkO q loose XP (He.hookX n0 (faOf S) (fnOfS S) (tabsOf S) (tfOf S) (exB S)).says l.row.toRowW d [] (fun f vs => PySem.call f vs) :=
  LamX.walk_ofTsE (n := 63) (k := 3 * J + 3) (x := "script") (CX := fun w => L2.CX l.prog w) hn (by decide) hdf hr (fun w mg fa h Y G hmg => by
    obtain ⟨K, X, sx⟩ := Y
    rw [hd] at hmg
    exact ⟨K, X, law_at ⟨ok, b1, b2, sx⟩ X G hmg e ex eps emu pl⟩) fun w H s e s' h => by
      obtain ⟨_, _, _, _, _, _, _, _, _, _, _, _, z⟩ := h
      exact z
end Ev

/-! E34: ids and trees of the defs that all laws share (printed by prog.py). -/
namespace Ev
open PySem PySem.Spec L2
open PyProof.Rows hiding St
abbrev f_is_tuple : Nat := 0
abbrev f_is_row : Nat := 1
abbrev f_are_free : Nat := 2
abbrev f_need_free : Nat := 3
abbrev f_need_row : Nat := 4
abbrev f_levels_of : Nat := 5
abbrev f_layered : Nat := 6
abbrev f_next_rows : Nat := 7
abbrev f_first_of : Nat := 8
abbrev f_counted : Nat := 9
abbrev f_is_free : Nat := 10
abbrev f_same : Nat := 11
abbrev f_layers : Nat := 12
abbrev f_first_same : Nat := 13
abbrev f_count_same : Nat := 14
abbrev f_is_hanging : Nat := 15
abbrev f_hangs : Nat := 16
abbrev f__law_source : Nat := 17
abbrev f__law_draw : Nat := 18
abbrev f__law_of : Nat := 19
abbrev f__law_frees : Nat := 20
abbrev f__law_row : Nat := 21
abbrev f__law_truly : Nat := 22
abbrev f__law_odd : Nat := 23
abbrev f__law_is_row : Nat := 24
abbrev f__law_right : Nat := 25
abbrev f_law : Nat := 26
abbrev f__law_free_of : Nat := 27
abbrev f__law_neighbours : Nat := 28
abbrev f__law_same_rows : Nat := 29
abbrev f__law_hangs : Nat := 30
abbrev f__law_layers : Nat := 31
abbrev f__law_long_right : Nat := 32
abbrev f_is_shaped : Nat := 33
abbrev f_all_parts : Nat := 34
abbrev f_is_good_pattern : Nat := 35
abbrev f_need_pattern : Nat := 36
abbrev f_lets_nothing : Nat := 37
abbrev f_behind : Nat := 38
abbrev f_rests : Nat := 39
abbrev f_all_rests : Nat := 40
abbrev f_is_let : Nat := 41
abbrev f_is_pattern : Nat := 42
abbrev f_lets : Nat := 43
abbrev f_all_loops : Nat := 44
abbrev f_loops : Nat := 45
abbrev f__law_known : Nat := 46
abbrev f__law_pattern : Nat := 47
abbrev f__law_size : Nat := 48
abbrev f__law_ends : Nat := 49
abbrev f__law_lets : Nat := 50
abbrev f__law_loops : Nat := 51
abbrev f__law_is_shaped : Nat := 52
abbrev f__law_is_pattern : Nat := 53
abbrev f__law_spoilt : Nat := 54
abbrev f__law_rows_right : Nat := 55
abbrev f_every_same : Nat := 56
abbrev f_is_taken : Nat := 57
abbrev f_takes : Nat := 58
abbrev f__law_small : Nat := 59
abbrev f__law_takes : Nat := 60
abbrev f__law_rows : Nat := 61
abbrev f_is_number : Nat := 62
abbrev f_alphabets : Nat := 63
abbrev f_united : Nat := 64
abbrev f_is_drifting : Nat := 65
abbrev f_all_drifting : Nat := 66
abbrev f_first_drift : Nat := 67
abbrev f_drifting : Nat := 68
abbrev f_drift_row : Nat := 69
abbrev f__law_kinds : Nat := 70
abbrev f__law_drifting : Nat := 71
abbrev f__law_shown_right : Nat := 72
abbrev f_is_good_machine : Nat := 73
abbrev f_standing_behind : Nat := 74
abbrev f_marks_behind : Nat := 75
abbrev f_least_of : Nat := 76
abbrev f_determined : Nat := 77
abbrev f_in_order : Nat := 78
abbrev f_is_within : Nat := 79
abbrev f_needed_of : Nat := 80
abbrev f_limited : Nat := 81
abbrev f_alive_in : Nat := 82
abbrev f_of_row : Nat := 83
abbrev f_blocked_by : Nat := 84
abbrev f_with_letters : Nat := 85
abbrev f_of_or : Nat := 86
abbrev f_of_then : Nat := 87
abbrev f_held : Nat := 88
abbrev f_completed : Nat := 89
abbrev f_without : Nat := 90
abbrev f_of_again : Nat := 91
abbrev f_built : Nat := 92
abbrev f_machine_for : Nat := 93
abbrev f_is_machine : Nat := 94
abbrev f_led : Nat := 95
abbrev f_machine_of : Nat := 96
abbrev f__law_letters : Nat := 97
abbrev f__law_calm : Nat := 98
abbrev f__law_spot : Nat := 99
abbrev f__law_lets_nothing : Nat := 100
abbrev f__law_rests : Nat := 101
abbrev f__law_picks_all : Nat := 102
abbrev f__law_shaped : Nat := 103
abbrev f__law_least : Nat := 104
abbrev f__law_closed : Nat := 105
abbrev f__law_told : Nat := 106
abbrev f_lots_of : Nat := 107
abbrev f_fewest_held : Nat := 108
abbrev f__law_due : Nat := 109
abbrev f_is_fact : Nat := 110
abbrev f_need_facts : Nat := 111
abbrev f_all_frees : Nat := 112
abbrev f_that_fit : Nat := 113
abbrev f_frees_told : Nat := 114
abbrev f_surely : Nat := 115
abbrev f__law_facts : Nat := 116
abbrev f__law_fitting : Nat := 117
abbrev f__law_refused : Nat := 118
abbrev f__wall : Nat := 119
abbrev f_text_of : Nat := 120
abbrev f_parsed : Nat := 121
abbrev f_pattern_in : Nat := 122
abbrev f__law_written : Nat := 123
abbrev f__law_read : Nat := 124
abbrev f__law_lots : Nat := 125
abbrev f__law_deep : Nat := 126
abbrev f__law_short : Nat := 127
abbrev f__law_or_with : Nat := 128
abbrev f__law_then_with : Nat := 129
abbrev f__law_others_right : Nat := 130
abbrev f_is_letter : Nat := 131
abbrev f__law_log_shows : Nat := 132
abbrev f__law_grown : Nat := 133
abbrev f__law_turn : Nat := 134
abbrev f__law_deeds : Nat := 135
abbrev f__law_fails : Nat := 136
abbrev f__law_tried : Nat := 137
abbrev f__law_word : Nat := 138
abbrev f_first_row : Nat := 139
abbrev f_need_three : Nat := 140
abbrev f_alike : Nat := 141
abbrev f_within : Nat := 142
abbrev f_parting : Nat := 143
abbrev f_barred_behind : Nat := 144
abbrev f_next_spots : Nat := 145
abbrev f_every_spot : Nat := 146
abbrev f_counts_for : Nat := 147
abbrev f_need_size : Nat := 148
abbrev f_count : Nat := 149
abbrev f_nth : Nat := 150
abbrev f__law_error : Nat := 151
abbrev f__law_free_calls : Nat := 152
abbrev f__law_pattern_calls : Nat := 153
abbrev f__law_other_calls : Nat := 154
abbrev f__law_calls_of : Nat := 155
abbrev f__law_full_right : Nat := 156
abbrev f__law_rounds : Nat := 157
abbrev f__law_first_right : Nat := 158
abbrev f__law_second_right : Nat := 159
abbrev f__law_limit : Nat := 160
abbrev f__law_third_right : Nat := 161
abbrev f__law_drift_right : Nat := 162
abbrev f__law_tied_right : Nat := 163
abbrev f__law_between_right : Nat := 164
abbrev f__law_nested_right : Nat := 165
abbrev f__law_patterns_right : Nat := 166
abbrev f__law_fourth_right : Nat := 167
abbrev w__law_word : Nat := 0
abbrev w__law_tried : Nat := 0
abbrev c_LoopError : Nat := 0
abbrev c_InvalidFree : Nat := 1
abbrev c_InvalidRow : Nat := 2
abbrev c_InvalidPattern : Nat := 3
abbrev c_InvalidNumber : Nat := 4
abbrev c_InvalidMachine : Nat := 5
abbrev c_Drifts : Nat := 6
abbrev c_TooMany : Nat := 7
abbrev c_InvalidFacts : Nat := 8
abbrev c_InvalidIndex : Nat := 9
abbrev c_InvalidText : Nat := 10
abbrev c_Unlike : Nat := 11
abbrev c_Plan : Nat := 12
abbrev c_InvalidLetter : Nat := 13
abbrev c_Stuck : Nat := 14
abbrev c_NothingToUndo : Nat := 15
abbrev c_Log : Nat := 16
abbrev g_LETTERS : Nat := 0
abbrev g_PAIRS : Nat := 1
abbrev g_MOST : Nat := 2
abbrev g_DEEP : Nat := 3
abbrev g_WORDS : Nat := 4
abbrev g_LIMIT : Nat := 5
abbrev g_SIGNS : Nat := 6
abbrev g_CALLS : Nat := 7
abbrev g_LENGTH : Nat := 8
/- is_tuple: value least most -/
def m_is_tuple : Fd := ⟨3, 3, false,
  (.cons (.ret (.and (.isin (.var 0) .tuple) (.chain .le .le (.var 1) (.blt .len (.cons (.var 0) .nil)) (.var 2))))
  .nil)⟩
/- is_row: value most letter -/
def m_is_row_k0 : ME := (.comp (.cmp .mem (.var 2) (.glo g_LETTERS)) (.nm 2) .val (.cons (.var 0) .nil) (.cst (.bl true)) [2])
def m_is_row : Fd := ⟨2, 3, false,
  (.cons (.ret (.and (.isin (.var 0) .str) (.and (.cmp .le (.blt .len (.cons (.var 0) .nil)) (.var 1)) (.blt .all (.cons m_is_row_k0 .nil)))))
  .nil)⟩
/- are_free: free one other -/
def m_are_free : Fd := ⟨3, 3, false,
  (.cons (.ret (.or (.cmp .mem (.bin .add (.var 1) (.var 2)) (.var 0)) (.cmp .mem (.bin .add (.var 2) (.var 1)) (.var 0))))
  .nil)⟩
/- need_free: value pair -/
def m_need_free_k0 : ME := (.comp (.var 1) (.nm 1) .val (.cons (.glo g_PAIRS) .nil) (.cmp .mem (.var 1) (.var 0)) [1])
def m_need_free_k1 : ME := (.comp (.isin (.var 1) .str) (.nm 1) .val (.cons (.var 0) .nil) (.cst (.bl true)) [1])
def m_need_free : Fd := ⟨1, 2, false,
  (.cons (.ifs (.or (.not (.call f_is_tuple (.cons (.var 0) (.cons (.cst (.int 0)) (.cons (.cst (.int 3)) .nil))))) (.not (.blt .all (.cons m_need_free_k1 .nil)))) (.cons (.raise c_InvalidFree)
  .nil) .nil)
  (.cons (.ifs (.cmp .ne (.var 0) (.blt .tuple (.cons m_need_free_k0 .nil))) (.cons (.raise c_InvalidFree)
  .nil) .nil)
  .nil))⟩
/- need_row: value most -/
def m_need_row : Fd := ⟨2, 2, false,
  (.cons (.ifs (.not (.call f_is_row (.cons (.var 0) (.cons (.var 1) .nil)))) (.cons (.raise c_InvalidRow)
  .nil) .nil)
  .nil)⟩
/- levels_of: free row found at letter ahead place -/
def m_levels_of_k0 : ME := (.comp (.bin .add (.idx (.var 2) (.var 6)) (.cst (.int 1))) (.nm 6) .range1 (.cons (.var 3) .nil) (.not (.call f_are_free (.cons (.var 0) (.cons (.idx (.var 1) (.var 6)) (.cons (.var 4) .nil))))) [6])
def m_levels_of_s0 : MS := (.fors (.tp [3, 4]) .enum (.cons (.var 1) .nil) (.cons (.asg (.nm 5) m_levels_of_k0)
  (.cons (.asg (.nm 2) (.bin .add (.var 2) (.lst (.cons (.blt .max1 (.cons (.bin .add (.lst (.cons (.cst (.int 0)) .nil)) (.var 5)) .nil)) .nil))))
  .nil)))
def m_levels_of : Fd := ⟨2, 7, false,
  (.cons (.asg (.nm 2) (.lst .nil))
  (.cons m_levels_of_s0
  (.cons (.ret (.var 2))
  .nil)))⟩
/- layered: free row levels found level one here letter -/
def m_layered_k0 : ME := (.comp (.bin .add (.var 5) (.cst (.int 1))) (.nm 5) .val (.cons (.var 2) .nil) (.cst (.bl true)) [5])
def m_layered_k1 : ME := (.comp (.var 7) (.nm 7) .val (.cons (.glo g_LETTERS) .nil) (.cmp .mem (.var 7) (.var 6)) [7])
def m_layered_k2 : ME := (.comp (.var 7) (.tp [7, 5]) .zip (.cons (.var 1) (.cons (.var 2) .nil)) (.cmp .eq (.var 5) (.var 4)) [7, 5])
def m_layered_s0 : MS := (.fors (.nm 4) .range1 (.cons (.blt .max1 (.cons (.bin .add (.lst (.cons (.cst (.int 0)) .nil)) m_layered_k0) .nil)) .nil) (.cons (.asg (.nm 6) m_layered_k2)
  (.cons (.asg (.nm 3) (.bin .add (.var 3) (.lst (.cons (.meth .join (.cst (.str [])) (.cons m_layered_k1 .nil)) .nil))))
  .nil)))
def m_layered : Fd := ⟨2, 8, false,
  (.cons (.asg (.nm 2) (.call f_levels_of (.cons (.var 0) (.cons (.var 1) .nil))))
  (.cons (.asg (.nm 3) (.lst .nil))
  (.cons m_layered_s0
  (.cons (.ret (.var 3))
  .nil))))⟩
/- next_rows: free row found letter at other -/
def m_next_rows_k0 : ME := (.comp (.call f_are_free (.cons (.var 0) (.cons (.var 3) (.cons (.var 5) .nil)))) (.nm 5) .val (.cons (.slcH (.var 1) (.var 4)) .nil) (.cst (.bl true)) [5])
def m_next_rows_s0 : MS := (.fors (.nm 3) .val (.cons (.glo g_LETTERS) .nil) (.cons (.asg (.nm 4) (.meth .find (.var 1) (.cons (.var 3) .nil)))
  (.cons (.ifs (.and (.cmp .ge (.var 4) (.cst (.int 0))) (.blt .all (.cons m_next_rows_k0 .nil))) (.cons (.append 2 (.tup (.cons (.var 3) (.cons (.bin .add (.slcH (.var 1) (.var 4)) (.slcL (.var 1) (.bin .add (.var 4) (.cst (.int 1))))) .nil))))
  .nil) .nil)
  .nil)))
def m_next_rows : Fd := ⟨2, 6, false,
  (.cons (.asg (.nm 2) (.lst .nil))
  (.cons m_next_rows_s0
  (.cons (.ret (.var 2))
  .nil)))⟩
/- first_of: free row found letter -/
def m_first_of_s0 : MS := (.whl (.cmp .ne (.var 1) (.cst (.str []))) (.cons (.asg (.tp [3, 1]) (.idx (.call f_next_rows (.cons (.var 0) (.cons (.var 1) .nil))) (.cst (.int 0))))
  (.cons (.asg (.nm 2) (.bin .add (.var 2) (.var 3)))
  .nil)))
def m_first_of : Fd := ⟨2, 4, false,
  (.cons (.asg (.nm 2) (.cst (.str [])))
  (.cons m_first_of_s0
  (.cons (.ret (.var 2))
  .nil)))⟩
/- counted: free row found level later rest letter less -/
def m_counted_s0 : MS := (.fors (.tp [6, 7]) .val (.cons (.call f_next_rows (.cons (.var 0) (.cons (.var 5) .nil))) .nil) (.cons (.setidx 4 (.var 7) (.bin .add (.meth .get2 (.var 4) (.cons (.var 7) (.cons (.cst (.int 0)) .nil))) (.idx (.var 3) (.var 5))))
  .nil))
def m_counted_s1 : MS := (.forkeys (.nm 5) (.var 3) (.cons (.ifs (.cmp .eq (.var 5) (.cst (.str []))) (.cons (.asg (.nm 2) (.bin .add (.var 2) (.idx (.var 3) (.var 5))))
  .nil) .nil)
  (.cons m_counted_s0
  .nil)))
def m_counted_s2 : MS := (.whl (.cmp .ne (.var 3) (.dct .nil .nil)) (.cons (.asg (.nm 4) (.dct .nil .nil))
  (.cons m_counted_s1
  (.cons (.asg (.nm 3) (.var 4))
  .nil))))
def m_counted : Fd := ⟨2, 8, false,
  (.cons (.par 2 3 (.cst (.int 0)) (.dct (.cons (.var 1) .nil) (.cons (.cst (.int 1)) .nil)))
  (.cons m_counted_s2
  (.cons (.ret (.var 2))
  .nil)))⟩
/- is_free: value -/
def m_is_free : Fd := ⟨1, 1, false,
  (.cons (.tryx (.cons (.expr (.call f_need_free (.cons (.var 0) .nil)))
  .nil) [(c_InvalidFree, .ret (.bl false))])
  (.cons (.ret (.cst (.bl true)))
  .nil))⟩
/- same: free first second -/
def m_same : Fd := ⟨3, 3, false,
  (.cons (.expr (.call f_need_free (.cons (.var 0) .nil)))
  (.cons (.expr (.call f_need_row (.cons (.var 1) (.cons (.cst (.int 60)) .nil))))
  (.cons (.expr (.call f_need_row (.cons (.var 2) (.cons (.cst (.int 60)) .nil))))
  (.cons (.ret (.cmp .eq (.call f_layered (.cons (.var 0) (.cons (.var 1) .nil))) (.call f_layered (.cons (.var 0) (.cons (.var 2) .nil)))))
  .nil))))⟩
/- layers: free row -/
def m_layers : Fd := ⟨2, 2, false,
  (.cons (.expr (.call f_need_free (.cons (.var 0) .nil)))
  (.cons (.expr (.call f_need_row (.cons (.var 1) (.cons (.cst (.int 60)) .nil))))
  (.cons (.ret (.call f_layered (.cons (.var 0) (.cons (.var 1) .nil))))
  .nil)))⟩
/- first_same: free row -/
def m_first_same : Fd := ⟨2, 2, false,
  (.cons (.expr (.call f_need_free (.cons (.var 0) .nil)))
  (.cons (.expr (.call f_need_row (.cons (.var 1) (.cons (.cst (.int 60)) .nil))))
  (.cons (.ret (.call f_first_of (.cons (.var 0) (.cons (.var 1) .nil))))
  .nil)))⟩
/- count_same: free row -/
def m_count_same : Fd := ⟨2, 2, false,
  (.cons (.expr (.call f_need_free (.cons (.var 0) .nil)))
  (.cons (.expr (.call f_need_row (.cons (.var 1) (.cons (.cst (.int 14)) .nil))))
  (.cons (.ret (.call f_counted (.cons (.var 0) (.cons (.var 1) .nil))))
  .nil)))⟩
/- is_hanging: free letters found turn near letter other -/
def m_is_hanging_k0 : ME := (.comp (.cmp .mem (.var 5) (.var 2)) (.nm 5) .val (.cons (.var 1) .nil) (.cst (.bl true)) [5])
def m_is_hanging_k1 : ME := (.comp (.var 5) (.nm 5) .val (.cons (.glo g_LETTERS) .nil) (.or (.cmp .mem (.var 5) (.var 2)) (.cmp .mem (.var 5) (.var 4))) [5])
def m_is_hanging_k2 : ME := (.comp (.call f_are_free (.cons (.var 0) (.cons (.var 5) (.cons (.var 6) .nil)))) (.nm 6) .val (.cons (.var 2) .nil) (.cst (.bl true)) [6])
def m_is_hanging_k3 : ME := (.comp (.var 5) (.nm 5) .val (.cons (.var 1) .nil) (.not (.blt .all (.cons m_is_hanging_k2 .nil))) [5])
def m_is_hanging_s0 : MS := (.fors (.nm 3) .val (.cons (.var 1) .nil) (.cons (.asg (.nm 4) m_is_hanging_k3)
  (.cons (.asg (.nm 2) (.meth .join (.cst (.str [])) (.cons m_is_hanging_k1 .nil)))
  .nil)))
def m_is_hanging : Fd := ⟨2, 7, false,
  (.cons (.asg (.nm 2) (.slcH (.var 1) (.cst (.int 1))))
  (.cons m_is_hanging_s0
  (.cons (.ret (.blt .all (.cons m_is_hanging_k0 .nil)))
  .nil)))⟩
/- hangs: free row letter -/
def m_hangs_k0 : ME := (.comp (.var 2) (.nm 2) .val (.cons (.glo g_LETTERS) .nil) (.cmp .mem (.var 2) (.var 1)) [2])
def m_hangs : Fd := ⟨2, 3, false,
  (.cons (.expr (.call f_need_free (.cons (.var 0) .nil)))
  (.cons (.expr (.call f_need_row (.cons (.var 1) (.cons (.cst (.int 60)) .nil))))
  (.cons (.ret (.call f_is_hanging (.cons (.var 0) (.cons (.meth .join (.cst (.str [])) (.cons m_hangs_k0 .nil)) .nil))))
  .nil)))⟩
/- _law_source: script k cell -/
def m__law_source : Fd := ⟨2, 3, false,
  (.cons (.asg (.nm 2) (.cst (.int 0)))
  (.cons (.ifs (.cmp .lt (.var 1) (.blt .len (.cons (.var 0) .nil))) (.cons (.asg (.nm 2) (.blt .abs (.cons (.blt .int (.cons (.idx (.var 0) (.var 1)) .nil)) .nil)))
  .nil) .nil)
  (.cons (.ifs (.cmp .lt (.var 2) (.bin .pow (.cst (.int 10)) (.cst (.int 18)))) (.cons (.ret (.lst (.cons (.cst (.int 0)) (.cons (.bin .add (.cst (.int 1)) (.bin .mod (.blt .int (.cons (.bin .add (.bin .mul (.var 2) (.cst (.int 7919))) (.bin .mul (.cst (.int 104729)) (.var 1))) .nil)) (.cst (.int 2147483646)))) .nil))))
  .nil) .nil)
  (.cons (.ret (.lst (.cons (.var 2) (.cons (.bin .add (.cst (.int 1)) (.bin .mod (.blt .int (.cons (.bin .add (.var 2) (.var 1)) .nil)) (.cst (.int 2147483646)))) .nil))))
  .nil))))⟩
/- _law_draw: source many found -/
def m__law_draw : Fd := ⟨2, 3, true,
  (.cons (.ifs (.cmp .gt (.idx (.var 0) (.cst (.int 0))) (.cst (.int 0))) (.cons (.asg (.nm 2) (.bin .mod (.blt .int (.cons (.idx (.var 0) (.cst (.int 0))) .nil)) (.var 1)))
  (.cons (.setidx 0 (.cst (.int 0)) (.bin .fdiv (.idx (.var 0) (.cst (.int 0))) (.var 1)))
  (.cons (.ret (.var 2))
  .nil))) .nil)
  (.cons (.setidx 0 (.cst (.int 1)) (.bin .mod (.blt .int (.cons (.bin .mul (.idx (.var 0) (.cst (.int 1))) (.cst (.int 48271))) .nil)) (.cst (.int 2147483647))))
  (.cons (.ret (.bin .mod (.blt .int (.cons (.bin .fdiv (.bin .mod (.blt .int (.cons (.bin .mul (.idx (.var 0) (.cst (.int 1))) (.idx (.var 0) (.cst (.int 1)))) .nil)) (.cst (.int 2147483629))) (.cst (.int 64))) .nil)) (.var 1)))
  .nil)))⟩
/- _law_of: source items -/
def m__law_of : Fd := ⟨2, 2, true,
  (.cons (.ret (.idx (.var 1) (.callm f__law_draw 0 (.cons (.blt .len (.cons (.var 1) .nil)) .nil))))
  .nil)⟩
/- _law_frees: found -/
def m__law_frees : Fd := ⟨0, 1, false,
  (.cons (.asg (.nm 0) (.lst (.cons (.tup .nil) (.cons (.tup (.cons (.cst (.str [97, 98])) .nil)) (.cons (.tup (.cons (.cst (.str [97, 98])) (.cons (.cst (.str [97, 99])) .nil))) (.cons (.tup (.cons (.cst (.str [97, 98])) (.cons (.cst (.str [97, 99])) (.cons (.cst (.str [98, 99])) .nil)))) (.cons (.tup (.cons (.cst (.str [97, 98])) (.cons (.cst (.str [98, 99])) .nil))) .nil)))))))
  (.cons (.ret (.bin .add (.var 0) (.lst (.cons (.tup (.cons (.cst (.str [97, 99])) .nil)) (.cons (.tup (.cons (.cst (.str [97, 99])) (.cons (.cst (.str [98, 99])) .nil))) (.cons (.tup (.cons (.cst (.str [98, 99])) .nil)) .nil))))))
  .nil))⟩
/- _law_row: source most letters many turn -/
def m__law_row_k0 : ME := (.comp (.callm f__law_of 0 (.cons (.blt .list (.cons (.var 2) .nil)) .nil)) (.nm 4) .range1 (.cons (.var 3) .nil) (.cst (.bl true)) [4])
def m__law_row : Fd := ⟨2, 5, true,
  (.cons (.asg (.nm 2) (.callm f__law_of 0 (.cons (.lst (.cons (.cst (.str [97, 98, 99])) (.cons (.cst (.str [97, 98, 99])) (.cons (.cst (.str [97, 98])) (.cons (.cst (.str [97, 97, 98])) .nil))))) .nil)))
  (.cons (.asg (.nm 3) (.callm f__law_draw 0 (.cons (.bin .add (.var 1) (.cst (.int 1))) .nil)))
  (.cons (.ret (.meth .join (.cst (.str [])) (.cons m__law_row_k0 .nil)))
  .nil)))⟩
/- _law_truly: told due -/
def m__law_truly : Fd := ⟨2, 2, false,
  (.cons (.ret (.and (.isin (.var 0) .bool) (.cmp .eq (.var 0) (.var 1))))
  .nil)⟩
/- _law_odd: source items -/
def m__law_odd : Fd := ⟨1, 2, true,
  (.cons (.asg (.nm 1) (.lst (.cons (.cst .non) (.cons (.cst (.bl true)) (.cons (.cst (.int 0)) (.cons (.cst (.int 1)) (.cons (.cst (.str [])) (.cons (.cst (.str [97, 98])) (.cons (.cst (.str [97, 98, 99])) (.cons (.cst (.str [98, 97])) (.cons (.cst (.str [100])) (.cons (.tup .nil) (.cons (.lst .nil) (.cons (.tup (.cons (.cst (.str [97, 98])) .nil)) (.cons (.tup (.cons (.cst (.str [97, 99])) .nil)) (.cons (.tup (.cons (.cst (.str [97, 98])) (.cons (.cst (.str [97, 99])) .nil))) (.cons (.tup (.cons (.cst (.str [97, 99])) (.cons (.cst (.str [97, 98])) .nil))) .nil)))))))))))))))))
  (.cons (.asg (.nm 1) (.bin .add (.var 1) (.lst (.cons (.tup (.cons (.cst (.str [97, 98])) (.cons (.cst (.str [97, 98])) .nil))) (.cons (.tup (.cons (.cst (.str [98, 97])) .nil)) (.cons (.lst (.cons (.cst (.str [97, 98])) .nil)) (.cons (.tup (.cons (.cst (.str [97, 98])) (.cons (.cst (.str [98, 99])) .nil))) (.cons (.tup (.cons (.cst (.str [97, 98])) (.cons (.cst (.str [97, 99])) (.cons (.cst (.str [98, 99])) .nil)))) (.cons (.tup (.cons (.cst (.str [98, 99])) (.cons (.cst (.str [97, 98])) .nil))) (.cons (.tup (.cons (.cst (.str [99, 98])) .nil)) .nil))))))))))
  (.cons (.asg (.nm 1) (.bin .add (.var 1) (.lst (.cons (.tup (.cons (.cst (.str [97, 98])) (.cons (.cst .non) .nil))) (.cons (.tup (.cons (.cst (.str [97, 98])) (.cons (.cst (.str [97, 99])) (.cons (.cst (.str [98, 99])) (.cons (.cst (.str [97, 98])) .nil))))) (.cons (.tup (.cons (.cst (.str [97])) (.cons (.cst (.str [98])) .nil))) (.cons (.tup (.cons (.cst (.str [97, 97])) .nil)) .nil)))))))
  (.cons (.ret (.callm f__law_of 0 (.cons (.bin .add (.var 1) (.lst (.cons (.bin .mul (.cst (.str [97])) (.cst (.int 61))) (.cons (.bin .pow (.cst (.int 10)) (.cst (.int 30))) .nil)))) .nil)))
  .nil))))⟩
/- _law_is_row: value most letter -/
def m__law_is_row_k0 : ME := (.comp (.var 2) (.nm 2) .val (.cons (.var 0) .nil) (.cmp .nmem (.var 2) (.cst (.str [97, 98, 99]))) [2])
def m__law_is_row : Fd := ⟨2, 3, false,
  (.cons (.ifs (.or (.not (.isin (.var 0) .str)) (.cmp .gt (.blt .len (.cons (.var 0) .nil)) (.var 1))) (.cons (.ret (.cst (.bl false)))
  .nil) .nil)
  (.cons (.ret (.cmp .eq m__law_is_row_k0 (.lst .nil)))
  .nil))⟩
/- _law_free_of: free one other -/
def m__law_free_of : Fd := ⟨3, 3, false,
  (.cons (.ret (.cmp .mem (.meth .join (.cst (.str [])) (.cons (.blt .sorted (.cons (.lst (.cons (.var 1) (.cons (.var 2) .nil))) .nil)) .nil)) (.var 0)))
  .nil)⟩
/- _law_neighbours: free row found at pair -/
def m__law_neighbours_s0 : MS := (.fors (.nm 3) .range1 (.cons (.bin .sub (.blt .len (.cons (.var 1) .nil)) (.cst (.int 1))) .nil) (.cons (.ifs (.call f__law_free_of (.cons (.var 0) (.cons (.idx (.var 1) (.var 3)) (.cons (.idx (.var 1) (.bin .add (.var 3) (.cst (.int 1)))) .nil)))) (.cons (.asg (.nm 4) (.bin .add (.idx (.var 1) (.bin .add (.var 3) (.cst (.int 1)))) (.idx (.var 1) (.var 3))))
  (.cons (.append 2 (.bin .add (.bin .add (.slcH (.var 1) (.var 3)) (.var 4)) (.slcL (.var 1) (.bin .add (.var 3) (.cst (.int 2))))))
  .nil)) .nil)
  .nil))
def m__law_neighbours : Fd := ⟨2, 5, false,
  (.cons (.asg (.nm 2) (.lst .nil))
  (.cons m__law_neighbours_s0
  (.cons (.ret (.var 2))
  .nil)))⟩
/- _law_same_rows: free row known line other -/
def m__law_same_rows_s0 : MS := (.fors (.nm 4) .val (.cons (.call f__law_neighbours (.cons (.var 0) (.cons (.pop 3) .nil))) .nil) (.cons (.ifs (.cmp .nmem (.var 4) (.var 2)) (.cons (.setidx 2 (.var 4) (.cst (.bl true)))
  (.cons (.append 3 (.var 4))
  .nil)) .nil)
  .nil))
def m__law_same_rows_s1 : MS := (.whl (.cmp .ne (.var 3) (.lst .nil)) (.cons m__law_same_rows_s0
  .nil))
def m__law_same_rows : Fd := ⟨2, 5, false,
  (.cons (.par 2 3 (.dct (.cons (.var 1) .nil) (.cons (.cst (.bl true)) .nil)) (.lst (.cons (.var 1) .nil)))
  (.cons m__law_same_rows_s1
  (.cons (.ret (.blt .list (.cons (.var 2) .nil)))
  .nil)))⟩
/- _law_hangs: free letters kinds letter lot rest near one -/
def m__law_hangs_k0 : ME := (.comp (.var 7) (.nm 7) .val (.cons (.var 5) .nil) (.not (.call f__law_free_of (.cons (.var 0) (.cons (.idx (.var 4) (.cst (.int 0))) (.cons (.var 7) .nil))))) [7])
def m__law_hangs_k1 : ME := (.comp (.var 3) (.nm 3) .val (.cons (.var 2) .nil) (.cmp .ne (.var 3) (.idx (.var 4) (.cst (.int 0)))) [3])
def m__law_hangs_s0 : MS := (.fors (.nm 4) .val (.cons (.tup (.cons (.slcH (.var 2) (.cst (.int 1))) (.cons (.slc (.var 2) (.cst (.int 1)) (.cst (.int 2))) (.cons (.slc (.var 2) (.cst (.int 2)) (.cst (.int 3))) .nil)))) .nil) (.cons (.ifs (.and (.cmp .ne (.var 4) (.lst .nil)) (.cmp .gt (.blt .len (.cons (.var 2) .nil)) (.cst (.int 1)))) (.cons (.asg (.nm 5) m__law_hangs_k1)
  (.cons (.asg (.nm 6) m__law_hangs_k0)
  (.cons (.ifs (.cmp .eq (.var 6) (.lst .nil)) (.cons (.ret (.cst (.bl false)))
  .nil) .nil)
  .nil))) .nil)
  .nil))
def m__law_hangs_k2 : ME := (.comp (.var 3) (.nm 3) .val (.cons (.cst (.str [97, 98, 99])) .nil) (.cmp .mem (.var 3) (.var 1)) [3])
def m__law_hangs : Fd := ⟨2, 8, false,
  (.cons (.asg (.nm 2) m__law_hangs_k2)
  (.cons m__law_hangs_s0
  (.cons (.ret (.cst (.bl true)))
  .nil)))⟩
/- _law_layers: free row found letter at last near one -/
def m__law_layers_k0 : ME := (.comp (.var 7) (.nm 7) .val (.cons (.var 5) .nil) (.not (.call f__law_free_of (.cons (.var 0) (.cons (.var 7) (.cons (.var 3) .nil))))) [7])
def m__law_layers_s0 : MS := (.whl (.cmp .gt (.var 4) (.cst (.int 0))) (.cons (.asg (.nm 5) (.idx (.var 2) (.bin .sub (.var 4) (.cst (.int 1)))))
  (.cons (.asg (.nm 6) m__law_layers_k0)
  (.cons (.ifs (.cmp .ne (.var 6) (.lst .nil)) (.cons .brk
  .nil) .nil)
  (.cons (.asg (.nm 4) (.bin .sub (.var 4) (.cst (.int 1))))
  .nil)))))
def m__law_layers_s1 : MS := (.fors (.nm 3) .val (.cons (.var 1) .nil) (.cons (.asg (.nm 4) (.blt .len (.cons (.var 2) .nil)))
  (.cons m__law_layers_s0
  (.cons (.ifs (.cmp .eq (.var 4) (.blt .len (.cons (.var 2) .nil))) (.cons (.append 2 (.cst (.str [])))
  .nil) .nil)
  (.cons (.setidx 2 (.var 4) (.meth .join (.cst (.str [])) (.cons (.blt .sorted (.cons (.bin .add (.idx (.var 2) (.var 4)) (.var 3)) .nil)) .nil)))
  .nil)))))
def m__law_layers : Fd := ⟨2, 8, false,
  (.cons (.asg (.nm 2) (.lst .nil))
  (.cons m__law_layers_s1
  (.cons (.ret (.var 2))
  .nil)))⟩
/- _law_long_right: source free row other turn some first pair -/
def m__law_long_right_s0 : MS := (.fors (.nm 4) .range1 (.cons (.cst (.int 20)) .nil) (.cons (.asg (.nm 5) (.call f__law_neighbours (.cons (.var 1) (.cons (.var 3) .nil))))
  (.cons (.asg (.nm 3) (.ite (.cmp .ne (.var 5) (.lst .nil)) (.callm f__law_of 0 (.cons (.var 5) .nil)) (.var 3)))
  .nil)))
def m__law_long_right : Fd := ⟨2, 8, true,
  (.cons (.asg (.nm 2) (.callm f__law_row 0 (.cons (.cst (.int 60)) .nil)))
  (.cons (.asg (.nm 3) (.var 2))
  (.cons m__law_long_right_s0
  (.cons (.ifs (.or (.not (.call f_same (.cons (.var 1) (.cons (.var 2) (.cons (.var 3) .nil))))) (.cmp .ne (.call f_layers (.cons (.var 1) (.cons (.var 2) .nil))) (.call f__law_layers (.cons (.var 1) (.cons (.var 3) .nil))))) (.cons (.ret (.cst (.bl false)))
  .nil) .nil)
  (.cons (.asg (.nm 6) (.call f_first_same (.cons (.var 1) (.cons (.var 2) .nil))))
  (.cons (.ifs (.or (.cmp .ne (.var 6) (.call f_first_same (.cons (.var 1) (.cons (.var 3) .nil)))) (.not (.call f_same (.cons (.var 1) (.cons (.var 2) (.cons (.var 6) .nil)))))) (.cons (.ret (.cst (.bl false)))
  .nil) .nil)
  (.cons (.ifs (.or (.cmp .gt (.var 6) (.var 2)) (.cmp .gt (.var 6) (.var 3))) (.cons (.ret (.cst (.bl false)))
  .nil) .nil)
  (.cons (.asg (.nm 7) (.slcH (.var 2) (.cst (.int 14))))
  (.cons (.ret (.cmp .eq (.call f_count_same (.cons (.var 1) (.cons (.var 7) .nil))) (.call f_count_same (.cons (.var 1) (.cons (.call f_first_same (.cons (.var 1) (.cons (.var 7) .nil))) .nil)))))
  .nil)))))))))⟩
/- is_shaped: value deep part -/
def m_is_shaped_k0 : ME := (.comp (.call f_is_shaped (.cons (.var 2) (.cons (.bin .sub (.var 1) (.cst (.int 1))) .nil))) (.nm 2) .val (.cons (.slcL (.var 0) (.cst (.int 1))) .nil) (.cst (.bl true)) [2])
def m_is_shaped : Fd := ⟨2, 3, false,
  (.cons (.ifs (.isin (.var 0) .str) (.cons (.ret (.call f_is_row (.cons (.var 0) (.cons (.cst (.int 3)) .nil))))
  .nil) .nil)
  (.cons (.ifs (.or (.cmp .eq (.var 1) (.cst (.int 0))) (.or (.not (.call f_is_tuple (.cons (.var 0) (.cons (.cst (.int 2)) (.cons (.cst (.int 3)) .nil))))) (.not (.isin (.idx (.var 0) (.cst (.int 0))) .str)))) (.cons (.ret (.cst (.bl false)))
  .nil) .nil)
  (.cons (.ifs (.or (.gmem g_WORDS (.idx (.var 0) (.cst (.int 0))) true) (.cmp .ne (.blt .len (.cons (.var 0) .nil)) (.gidx g_WORDS (.idx (.var 0) (.cst (.int 0)))))) (.cons (.ret (.cst (.bl false)))
  .nil) .nil)
  (.cons (.ret (.blt .all (.cons m_is_shaped_k0 .nil)))
  .nil))))⟩
/- all_parts: pattern found part -/
def m_all_parts_s0 : MS := (.fors (.nm 2) .val (.cons (.slcL (.var 0) (.cst (.int 1))) .nil) (.cons (.asg (.nm 1) (.bin .add (.var 1) (.call f_all_parts (.cons (.var 2) .nil))))
  .nil))
def m_all_parts : Fd := ⟨1, 3, false,
  (.cons (.ifs (.isin (.var 0) .str) (.cons (.ret (.lst (.cons (.var 0) .nil)))
  .nil) .nil)
  (.cons (.asg (.nm 1) (.lst (.cons (.var 0) .nil)))
  (.cons m_all_parts_s0
  (.cons (.ret (.var 1))
  .nil))))⟩
/- is_good_pattern: value -/
def m_is_good_pattern : Fd := ⟨1, 1, false,
  (.cons (.ret (.and (.call f_is_shaped (.cons (.var 0) (.cons (.glo g_DEEP) .nil))) (.cmp .le (.blt .len (.cons (.call f_all_parts (.cons (.var 0) .nil)) .nil)) (.glo g_MOST))))
  .nil)⟩
/- need_pattern: value -/
def m_need_pattern : Fd := ⟨1, 1, false,
  (.cons (.ifs (.not (.call f_is_good_pattern (.cons (.var 0) .nil))) (.cons (.raise c_InvalidPattern)
  .nil) .nil)
  .nil)⟩
/- lets_nothing: pattern parts part -/
def m_lets_nothing_k0 : ME := (.comp (.call f_lets_nothing (.cons (.var 2) .nil)) (.nm 2) .val (.cons (.slcL (.var 0) (.cst (.int 1))) .nil) (.cst (.bl true)) [2])
def m_lets_nothing : Fd := ⟨1, 3, false,
  (.cons (.ifs (.isin (.var 0) .str) (.cons (.ret (.cmp .eq (.var 0) (.cst (.str []))))
  .nil) .nil)
  (.cons (.ifs (.cmp .eq (.idx (.var 0) (.cst (.int 0))) (.cst (.str [97, 103, 97, 105, 110]))) (.cons (.ret (.cst (.bl true)))
  .nil) .nil)
  (.cons (.asg (.nm 1) m_lets_nothing_k0)
  (.cons (.ret (.ite (.cmp .eq (.idx (.var 0) (.cst (.int 0))) (.cst (.str [116, 104, 101, 110]))) (.blt .all (.cons (.var 1) .nil)) (.blt .any (.cons (.var 1) .nil))))
  .nil))))⟩
/- behind: one other -/
def m_behind : Fd := ⟨2, 2, false,
  (.cons (.ret (.ite (.cmp .eq (.var 0) (.cst (.str []))) (.var 1) (.tup (.cons (.cst (.str [116, 104, 101, 110])) (.cons (.var 0) (.cons (.var 1) .nil))))))
  .nil)⟩
/- rests: pattern letter rest found -/
def m_rests_k0 : ME := (.comp (.call f_behind (.cons (.var 2) (.cons (.idx (.var 0) (.cst (.int 2))) .nil))) (.nm 2) .val (.cons (.call f_rests (.cons (.idx (.var 0) (.cst (.int 1))) (.cons (.var 1) .nil))) .nil) (.cst (.bl true)) [2])
def m_rests_k1 : ME := (.comp (.call f_behind (.cons (.var 2) (.cons (.var 0) .nil))) (.nm 2) .val (.cons (.call f_rests (.cons (.idx (.var 0) (.cst (.int 1))) (.cons (.var 1) .nil))) .nil) (.cst (.bl true)) [2])
def m_rests : Fd := ⟨2, 4, false,
  (.cons (.ifs (.isin (.var 0) .str) (.cons (.ret (.ite (.cmp .eq (.slcH (.var 0) (.cst (.int 1))) (.var 1)) (.lst (.cons (.slcL (.var 0) (.cst (.int 1))) .nil)) (.lst .nil)))
  .nil) .nil)
  (.cons (.ifs (.cmp .eq (.idx (.var 0) (.cst (.int 0))) (.cst (.str [111, 114]))) (.cons (.ret (.bin .add (.call f_rests (.cons (.idx (.var 0) (.cst (.int 1))) (.cons (.var 1) .nil))) (.call f_rests (.cons (.idx (.var 0) (.cst (.int 2))) (.cons (.var 1) .nil)))))
  .nil) .nil)
  (.cons (.ifs (.cmp .eq (.idx (.var 0) (.cst (.int 0))) (.cst (.str [97, 103, 97, 105, 110]))) (.cons (.ret m_rests_k1)
  .nil) .nil)
  (.cons (.asg (.nm 3) m_rests_k0)
  (.cons (.ret (.bin .add (.var 3) (.ite (.call f_lets_nothing (.cons (.idx (.var 0) (.cst (.int 1))) .nil)) (.call f_rests (.cons (.idx (.var 0) (.cst (.int 2))) (.cons (.var 1) .nil))) (.lst .nil))))
  .nil)))))⟩
/- all_rests: patterns letter found pattern known word -/
def m_all_rests_k0 : ME := (.comp (.idx (.var 4) (.var 5)) (.nm 5) .val (.cons (.blt .sorted (.cons (.var 4) .nil)) .nil) (.cst (.bl true)) [5])
def m_all_rests_k1 : ME := (.comp (.tup (.cons (.blt .str (.cons (.var 3) .nil)) (.cons (.var 3) .nil))) (.nm 3) .val (.cons (.var 2) .nil) (.cst (.bl true)) [3])
def m_all_rests_s0 : MS := (.fors (.nm 3) .val (.cons (.var 0) .nil) (.cons (.asg (.nm 2) (.bin .add (.var 2) (.call f_rests (.cons (.var 3) (.cons (.var 1) .nil)))))
  .nil))
def m_all_rests : Fd := ⟨2, 6, false,
  (.cons (.asg (.nm 2) (.lst .nil))
  (.cons m_all_rests_s0
  (.cons (.asg (.nm 4) (.blt .dict (.cons m_all_rests_k1 .nil)))
  (.cons (.ret (.blt .tuple (.cons m_all_rests_k0 .nil)))
  .nil))))⟩
/- is_let: pattern row now letter one -/
def m_is_let_k0 : ME := (.comp (.call f_lets_nothing (.cons (.var 4) .nil)) (.nm 4) .val (.cons (.var 2) .nil) (.cst (.bl true)) [4])
def m_is_let_s0 : MS := (.fors (.nm 3) .val (.cons (.var 1) .nil) (.cons (.asg (.nm 2) (.call f_all_rests (.cons (.var 2) (.cons (.var 3) .nil))))
  .nil))
def m_is_let : Fd := ⟨2, 5, false,
  (.cons (.asg (.nm 2) (.tup (.cons (.var 0) .nil)))
  (.cons m_is_let_s0
  (.cons (.ret (.blt .any (.cons m_is_let_k0 .nil)))
  .nil)))⟩
/- is_pattern: value -/
def m_is_pattern : Fd := ⟨1, 1, false,
  (.cons (.ret (.call f_is_good_pattern (.cons (.var 0) .nil)))
  .nil)⟩
/- lets: pattern row -/
def m_lets : Fd := ⟨2, 2, false,
  (.cons (.expr (.call f_need_pattern (.cons (.var 0) .nil)))
  (.cons (.expr (.call f_need_row (.cons (.var 1) (.cons (.cst (.int 60)) .nil))))
  (.cons (.ret (.call f_is_let (.cons (.var 0) (.cons (.var 1) .nil))))
  .nil)))⟩
/- all_loops: pattern found part -/
def m_all_loops_s0 : MS := (.fors (.nm 2) .val (.cons (.slcL (.var 0) (.cst (.int 1))) .nil) (.cons (.asg (.nm 1) (.bin .add (.var 1) (.call f_all_loops (.cons (.var 2) .nil))))
  .nil))
def m_all_loops : Fd := ⟨1, 3, false,
  (.cons (.ifs (.isin (.var 0) .str) (.cons (.ret (.lst .nil))
  .nil) .nil)
  (.cons (.asg (.nm 1) (.ite (.cmp .eq (.idx (.var 0) (.cst (.int 0))) (.cst (.str [97, 103, 97, 105, 110]))) (.lst (.cons (.var 0) .nil)) (.lst .nil)))
  (.cons m_all_loops_s0
  (.cons (.ret (.var 1))
  .nil))))⟩
/- loops: pattern -/
def m_loops : Fd := ⟨1, 1, false,
  (.cons (.expr (.call f_need_pattern (.cons (.var 0) .nil)))
  (.cons (.ret (.call f_all_loops (.cons (.var 0) .nil)))
  .nil))⟩
/- _law_known: again joined_so spread nested -/
def m__law_known : Fd := ⟨0, 4, false,
  (.cons (.asg (.nm 0) (.tup (.cons (.cst (.str [97, 103, 97, 105, 110])) (.cons (.tup (.cons (.cst (.str [111, 114])) (.cons (.cst (.str [97])) (.cons (.cst (.str [98])) .nil)))) .nil))))
  (.cons (.asg (.nm 1) (.tup (.cons (.cst (.str [116, 104, 101, 110])) (.cons (.tup (.cons (.cst (.str [97, 103, 97, 105, 110])) (.cons (.cst (.str [97])) .nil))) (.cons (.tup (.cons (.cst (.str [97, 103, 97, 105, 110])) (.cons (.cst (.str [98])) .nil))) .nil)))))
  (.cons (.asg (.nm 2) (.tup (.cons (.cst (.str [116, 104, 101, 110])) (.cons (.tup (.cons (.cst (.str [97, 103, 97, 105, 110])) (.cons (.cst (.str [97])) .nil))) (.cons (.tup (.cons (.cst (.str [97, 103, 97, 105, 110])) (.cons (.cst (.str [98, 99])) .nil))) .nil)))))
  (.cons (.asg (.nm 3) (.tup (.cons (.cst (.str [97, 103, 97, 105, 110])) (.cons (.tup (.cons (.cst (.str [111, 114])) (.cons (.tup (.cons (.cst (.str [97, 103, 97, 105, 110])) (.cons (.cst (.str [97, 98])) .nil))) (.cons (.cst (.str [99])) .nil)))) .nil))))
  (.cons (.ret (.tup (.cons (.var 0) (.cons (.var 1) (.cons (.tup (.cons (.cst (.str [97, 103, 97, 105, 110])) (.cons (.cst (.str [97, 98])) .nil))) (.cons (.tup (.cons (.cst (.str [97, 103, 97, 105, 110])) (.cons (.cst (.str [97, 98, 99])) .nil))) (.cons (.var 2) (.cons (.var 3) .nil))))))))
  .nil)))))⟩
/- _law_pattern: source deep word one -/
def m__law_pattern : Fd := ⟨2, 4, true,
  (.cons (.asg (.nm 2) (.callm f__law_of 0 (.cons (.lst (.cons (.cst (.str [114, 111, 119])) (.cons (.cst (.str [114, 111, 119])) (.cons (.cst (.str [111, 114])) (.cons (.cst (.str [116, 104, 101, 110])) (.cons (.cst (.str [116, 104, 101, 110])) (.cons (.cst (.str [97, 103, 97, 105, 110])) .nil))))))) .nil)))
  (.cons (.ifs (.or (.cmp .eq (.var 1) (.cst (.int 0))) (.cmp .eq (.var 2) (.cst (.str [114, 111, 119])))) (.cons (.ret (.callm f__law_row 0 (.cons (.ite (.cmp .gt (.var 1) (.cst (.int 1))) (.cst (.int 3)) (.cst (.int 2))) .nil)))
  .nil) .nil)
  (.cons (.asg (.nm 3) (.callm f__law_pattern 0 (.cons (.bin .sub (.var 1) (.cst (.int 1))) .nil)))
  (.cons (.ifs (.cmp .eq (.var 2) (.cst (.str [97, 103, 97, 105, 110]))) (.cons (.ret (.tup (.cons (.var 2) (.cons (.var 3) .nil))))
  .nil) .nil)
  (.cons (.ret (.tup (.cons (.var 2) (.cons (.var 3) (.cons (.callm f__law_pattern 0 (.cons (.bin .sub (.var 1) (.cst (.int 1))) .nil)) .nil)))))
  .nil)))))⟩
/- _law_size: pattern part -/
def m__law_size_k0 : ME := (.comp (.call f__law_size (.cons (.var 1) .nil)) (.nm 1) .val (.cons (.slcL (.var 0) (.cst (.int 1))) .nil) (.cst (.bl true)) [1])
def m__law_size : Fd := ⟨1, 2, false,
  (.cons (.ifs (.isin (.var 0) .str) (.cons (.ret (.cst (.int 1)))
  .nil) .nil)
  (.cons (.ret (.bin .add (.cst (.int 1)) (.blt .sum (.cons m__law_size_k0 .nil))))
  .nil))⟩
/- _law_ends: pattern row start some found middle line end -/
def m__law_ends_s0 : MS := (.fors (.nm 7) .val (.cons (.call f__law_ends (.cons (.idx (.var 0) (.cst (.int 1))) (.cons (.var 1) (.cons (.pop 6) .nil)))) .nil) (.cons (.ifs (.cmp .nmem (.var 7) (.var 4)) (.cons (.append 4 (.var 7))
  (.cons (.append 6 (.var 7))
  .nil)) .nil)
  .nil))
def m__law_ends_s1 : MS := (.whl (.cmp .ne (.var 6) (.lst .nil)) (.cons m__law_ends_s0
  .nil))
def m__law_ends_s2 : MS := (.fors (.nm 5) .val (.cons (.blt .sortset (.cons (.call f__law_ends (.cons (.idx (.var 0) (.cst (.int 1))) (.cons (.var 1) (.cons (.var 2) .nil)))) .nil)) .nil) (.cons (.asg (.nm 4) (.bin .add (.var 4) (.call f__law_ends (.cons (.idx (.var 0) (.cst (.int 2))) (.cons (.var 1) (.cons (.var 5) .nil))))))
  .nil))
def m__law_ends : Fd := ⟨3, 8, false,
  (.cons (.ifs (.isin (.var 0) .str) (.cons (.ret (.ite (.meth .startswith (.slcL (.var 1) (.var 2)) (.cons (.var 0) .nil)) (.lst (.cons (.bin .add (.var 2) (.blt .len (.cons (.var 0) .nil))) .nil)) (.lst .nil)))
  .nil) .nil)
  (.cons (.ifs (.cmp .eq (.idx (.var 0) (.cst (.int 0))) (.cst (.str [111, 114]))) (.cons (.asg (.nm 3) (.call f__law_ends (.cons (.idx (.var 0) (.cst (.int 1))) (.cons (.var 1) (.cons (.var 2) .nil)))))
  (.cons (.ret (.bin .add (.var 3) (.call f__law_ends (.cons (.idx (.var 0) (.cst (.int 2))) (.cons (.var 1) (.cons (.var 2) .nil))))))
  .nil)) .nil)
  (.cons (.asg (.nm 4) (.lst .nil))
  (.cons (.ifs (.cmp .eq (.idx (.var 0) (.cst (.int 0))) (.cst (.str [116, 104, 101, 110]))) (.cons m__law_ends_s2
  (.cons (.ret (.blt .sortset (.cons (.var 4) .nil)))
  .nil)) .nil)
  (.cons (.par 4 6 (.lst (.cons (.var 2) .nil)) (.lst (.cons (.var 2) .nil)))
  (.cons m__law_ends_s1
  (.cons (.ret (.var 4))
  .nil)))))))⟩
/- _law_lets: pattern row -/
def m__law_lets : Fd := ⟨2, 2, false,
  (.cons (.ret (.cmp .mem (.blt .len (.cons (.var 1) .nil)) (.call f__law_ends (.cons (.var 0) (.cons (.var 1) (.cons (.cst (.int 0)) .nil))))))
  .nil)⟩
/- _law_loops: pattern found part -/
def m__law_loops_s0 : MS := (.fors (.nm 2) .val (.cons (.slcL (.var 0) (.cst (.int 1))) .nil) (.cons (.asg (.nm 1) (.bin .add (.var 1) (.call f__law_loops (.cons (.var 2) .nil))))
  .nil))
def m__law_loops : Fd := ⟨1, 3, false,
  (.cons (.ifs (.isin (.var 0) .str) (.cons (.ret (.lst .nil))
  .nil) .nil)
  (.cons (.asg (.nm 1) (.ite (.cmp .eq (.idx (.var 0) (.cst (.int 0))) (.cst (.str [97, 103, 97, 105, 110]))) (.lst (.cons (.var 0) .nil)) (.lst .nil)))
  (.cons m__law_loops_s0
  (.cons (.ret (.var 1))
  .nil))))⟩
/- _law_is_shaped: value deep letter part -/
def m__law_is_shaped_k0 : ME := (.comp (.var 3) (.nm 3) .val (.cons (.slcL (.var 0) (.cst (.int 1))) .nil) (.not (.call f__law_is_shaped (.cons (.var 3) (.cons (.bin .sub (.var 1) (.cst (.int 1))) .nil)))) [3])
def m__law_is_shaped_k1 : ME := (.comp (.var 2) (.nm 2) .val (.cons (.var 0) .nil) (.cmp .nmem (.var 2) (.cst (.str [97, 98, 99]))) [2])
def m__law_is_shaped : Fd := ⟨2, 4, false,
  (.cons (.ifs (.isin (.var 0) .str) (.cons (.ret (.and (.cmp .lt (.blt .len (.cons (.var 0) .nil)) (.cst (.int 4))) (.cmp .eq m__law_is_shaped_k1 (.lst .nil))))
  .nil) .nil)
  (.cons (.ifs (.or (.not (.isin (.var 0) .tuple)) (.or (.cmp .eq (.var 1) (.cst (.int 0))) (.cmp .nmem (.blt .len (.cons (.var 0) .nil)) (.tup (.cons (.cst (.int 2)) (.cons (.cst (.int 3)) .nil)))))) (.cons (.ret (.cst (.bl false)))
  .nil) .nil)
  (.cons (.ifs (.or (.not (.isin (.idx (.var 0) (.cst (.int 0))) .str)) (.cmp .nmem (.idx (.var 0) (.cst (.int 0))) (.tup (.cons (.cst (.str [111, 114])) (.cons (.cst (.str [116, 104, 101, 110])) (.cons (.cst (.str [97, 103, 97, 105, 110])) .nil)))))) (.cons (.ret (.cst (.bl false)))
  .nil) .nil)
  (.cons (.ifs (.cmp .ne (.cmp .eq (.idx (.var 0) (.cst (.int 0))) (.cst (.str [97, 103, 97, 105, 110]))) (.cmp .eq (.blt .len (.cons (.var 0) .nil)) (.cst (.int 2)))) (.cons (.ret (.cst (.bl false)))
  .nil) .nil)
  (.cons (.ret (.cmp .eq m__law_is_shaped_k0 (.lst .nil)))
  .nil)))))⟩
/- _law_is_pattern: value -/
def m__law_is_pattern : Fd := ⟨1, 1, false,
  (.cons (.ret (.and (.call f__law_is_shaped (.cons (.var 0) (.cons (.cst (.int 5)) .nil))) (.cmp .lt (.call f__law_size (.cons (.var 0) .nil)) (.cst (.int 12)))))
  .nil)⟩
/- _law_rows_right: source pattern turn row -/
def m__law_rows_right_s0 : MS := (.fors (.nm 3) .val (.cons (.tup (.cons (.cst (.str [])) (.cons (.cst (.str [97])) (.cons (.cst (.str [98])) (.cons (.cst (.str [97, 98])) (.cons (.cst (.str [97, 98, 99])) (.cons (.cst (.str [98, 99])) (.cons (.cst (.str [97, 98, 97, 98])) .nil)))))))) .nil) (.cons (.ifs (.not (.call f__law_truly (.cons (.call f_lets (.cons (.var 1) (.cons (.var 3) .nil))) (.cons (.call f__law_lets (.cons (.var 1) (.cons (.var 3) .nil))) .nil)))) (.cons (.ret (.cst (.bl false)))
  .nil) .nil)
  .nil))
def m__law_rows_right_s1 : MS := (.fors (.nm 2) .range1 (.cons (.cst (.int 8)) .nil) (.cons (.asg (.nm 3) (.callm f__law_row 0 (.cons (.cst (.int 12)) .nil)))
  (.cons (.ifs (.not (.call f__law_truly (.cons (.call f_lets (.cons (.var 1) (.cons (.var 3) .nil))) (.cons (.call f__law_lets (.cons (.var 1) (.cons (.var 3) .nil))) .nil)))) (.cons (.ret (.cst (.bl false)))
  .nil) .nil)
  .nil)))
def m__law_rows_right : Fd := ⟨2, 4, true,
  (.cons (.ifs (.cmp .ne (.call f_loops (.cons (.var 1) .nil)) (.call f__law_loops (.cons (.var 1) .nil))) (.cons (.ret (.cst (.bl false)))
  .nil) .nil)
  (.cons m__law_rows_right_s1
  (.cons m__law_rows_right_s0
  (.cons (.ret (.cst (.bl true)))
  .nil))))⟩
/- every_same: free row found turn ahead rest letter less -/
def m_every_same_k0 : ME := (.comp (.var 4) (.tp [4, 5]) .val (.cons (.var 2) .nil) (.cst (.bl true)) [4, 5])
def m_every_same_k1 : ME := (.comp2 (.tup (.cons (.bin .add (.var 4) (.var 6)) (.cons (.var 7) .nil))) (.tp [4, 5]) .val (.cons (.var 2) .nil) (.cst (.bl true)) (.tp [6, 7]) .val (.cons (.call f_next_rows (.cons (.var 0) (.cons (.var 5) .nil))) .nil) (.cst (.bl true)) [4, 5, 6, 7])
def m_every_same_s0 : MS := (.fors (.nm 3) .range1 (.cons (.blt .len (.cons (.var 1) .nil)) .nil) (.cons (.asg (.nm 2) m_every_same_k1)
  .nil))
def m_every_same : Fd := ⟨2, 8, false,
  (.cons (.asg (.nm 2) (.lst (.cons (.tup (.cons (.cst (.str [])) (.cons (.var 1) .nil))) .nil)))
  (.cons m_every_same_s0
  (.cons (.ret m_every_same_k0)
  .nil)))⟩
/- is_taken: free pattern row other -/
def m_is_taken_k0 : ME := (.comp (.call f_is_let (.cons (.var 1) (.cons (.var 3) .nil))) (.nm 3) .val (.cons (.call f_every_same (.cons (.var 0) (.cons (.var 2) .nil))) .nil) (.cst (.bl true)) [3])
def m_is_taken : Fd := ⟨3, 4, false,
  (.cons (.ret (.blt .any (.cons m_is_taken_k0 .nil)))
  .nil)⟩
/- takes: free pattern row -/
def m_takes : Fd := ⟨3, 3, false,
  (.cons (.expr (.call f_need_free (.cons (.var 0) .nil)))
  (.cons (.expr (.call f_need_pattern (.cons (.var 1) .nil)))
  (.cons (.expr (.call f_need_row (.cons (.var 2) (.cons (.cst (.int 8)) .nil))))
  (.cons (.ret (.call f_is_taken (.cons (.var 0) (.cons (.var 1) (.cons (.var 2) .nil)))))
  .nil))))⟩
/- _law_small: source turn found -/
def m__law_small_s0 : MS := (.fors (.nm 1) .range1 (.cons (.cst (.int 6)) .nil) (.cons (.asg (.nm 2) (.callm f__law_pattern 0 (.cons (.cst (.int 3)) .nil)))
  (.cons (.ifs (.and (.cmp .lt (.call f__law_size (.cons (.var 2) .nil)) (.cst (.int 8))) (.not (.isin (.var 2) .str))) (.cons (.ret (.var 2))
  .nil) .nil)
  .nil)))
def m__law_small : Fd := ⟨1, 3, true,
  (.cons (.ifs (.cmp .eq (.callm f__law_draw 0 (.cons (.cst (.int 5)) .nil)) (.cst (.int 0))) (.cons (.ret (.callm f__law_of 0 (.cons (.call f__law_known .nil) .nil)))
  .nil) .nil)
  (.cons m__law_small_s0
  (.cons (.ret (.tup (.cons (.cst (.str [97, 103, 97, 105, 110])) (.cons (.tup (.cons (.cst (.str [111, 114])) (.cons (.cst (.str [97])) (.cons (.cst (.str [98, 99])) .nil)))) .nil))))
  .nil)))⟩
/- _law_takes: free pattern row other -/
def m__law_takes_s0 : MS := (.fors (.nm 3) .val (.cons (.call f__law_same_rows (.cons (.var 0) (.cons (.var 2) .nil))) .nil) (.cons (.ifs (.call f__law_lets (.cons (.var 1) (.cons (.var 3) .nil))) (.cons (.ret (.cst (.bl true)))
  .nil) .nil)
  .nil))
def m__law_takes : Fd := ⟨3, 4, false,
  (.cons m__law_takes_s0
  (.cons (.ret (.cst (.bl false)))
  .nil))⟩
/- _law_rows: most found line turn longer row letter -/
def m__law_rows_k0 : ME := (.comp (.bin .add (.var 5) (.var 6)) (.nm 6) .val (.cons (.cst (.str [97, 98, 99])) .nil) (.cst (.bl true)) [6])
def m__law_rows_s0 : MS := (.fors (.nm 5) .val (.cons (.var 2) .nil) (.cons (.asg (.nm 4) (.bin .add (.var 4) m__law_rows_k0))
  .nil))
def m__law_rows_s1 : MS := (.fors (.nm 3) .range1 (.cons (.var 0) .nil) (.cons (.asg (.nm 4) (.lst .nil))
  (.cons m__law_rows_s0
  (.cons (.par 1 2 (.bin .add (.var 1) (.var 4)) (.var 4))
  .nil))))
def m__law_rows : Fd := ⟨1, 7, false,
  (.cons (.par 1 2 (.lst (.cons (.cst (.str [])) .nil)) (.lst (.cons (.cst (.str [])) .nil)))
  (.cons m__law_rows_s1
  (.cons (.ret (.var 1))
  .nil)))⟩
/- is_number: value least most -/
def m_is_number : Fd := ⟨3, 3, false,
  (.cons (.ret (.and (.isin (.var 0) .int) (.and (.not (.isin (.var 0) .bool)) (.chain .le .le (.var 1) (.var 0) (.var 2)))))
  .nil)⟩
/- alphabets: pattern letter found inner turn -/
def m_alphabets_s0 : MS := (.fors (.nm 4) .range1 (.cons (.blt .len (.cons (.glo g_LETTERS) .nil)) .nil) (.cons (.asg (.nm 2) (.blt .sortset (.cons (.bin .add (.var 2) (.call f_united (.cons (.var 2) (.cons (.var 3) .nil)))) .nil)))
  .nil))
def m_alphabets_k0 : ME := (.comp (.var 1) (.nm 1) .val (.cons (.glo g_LETTERS) .nil) (.cmp .mem (.var 1) (.var 0)) [1])
def m_alphabets : Fd := ⟨1, 5, false,
  (.cons (.ifs (.isin (.var 0) .str) (.cons (.ret (.lst (.cons (.meth .join (.cst (.str [])) (.cons m_alphabets_k0 .nil)) .nil)))
  .nil) .nil)
  (.cons (.ifs (.cmp .eq (.idx (.var 0) (.cst (.int 0))) (.cst (.str [111, 114]))) (.cons (.ret (.blt .sortset (.cons (.bin .add (.call f_alphabets (.cons (.idx (.var 0) (.cst (.int 1))) .nil)) (.call f_alphabets (.cons (.idx (.var 0) (.cst (.int 2))) .nil))) .nil)))
  .nil) .nil)
  (.cons (.ifs (.cmp .eq (.idx (.var 0) (.cst (.int 0))) (.cst (.str [116, 104, 101, 110]))) (.cons (.ret (.blt .sortset (.cons (.call f_united (.cons (.call f_alphabets (.cons (.idx (.var 0) (.cst (.int 1))) .nil)) (.cons (.call f_alphabets (.cons (.idx (.var 0) (.cst (.int 2))) .nil)) .nil))) .nil)))
  .nil) .nil)
  (.cons (.par 2 3 (.lst (.cons (.cst (.str [])) .nil)) (.call f_alphabets (.cons (.idx (.var 0) (.cst (.int 1))) .nil)))
  (.cons m_alphabets_s0
  (.cons (.ret (.var 2))
  .nil))))))⟩
/- united: some others found one other letter -/
def m_united_k0 : ME := (.comp (.var 5) (.nm 5) .val (.cons (.glo g_LETTERS) .nil) (.cmp .mem (.var 5) (.bin .add (.var 3) (.var 4))) [5])
def m_united_s0 : MS := (.fors (.nm 4) .val (.cons (.var 1) .nil) (.cons (.append 2 (.meth .join (.cst (.str [])) (.cons m_united_k0 .nil)))
  .nil))
def m_united_s1 : MS := (.fors (.nm 3) .val (.cons (.var 0) .nil) (.cons m_united_s0
  .nil))
def m_united : Fd := ⟨2, 6, false,
  (.cons (.asg (.nm 2) (.lst .nil))
  (.cons m_united_s1
  (.cons (.ret (.var 2))
  .nil)))⟩
/- is_drifting: free loop letters -/
def m_is_drifting_k0 : ME := (.comp (.call f_is_hanging (.cons (.var 0) (.cons (.var 2) .nil))) (.nm 2) .val (.cons (.call f_alphabets (.cons (.idx (.var 1) (.cst (.int 1))) .nil)) .nil) (.cst (.bl true)) [2])
def m_is_drifting : Fd := ⟨2, 3, false,
  (.cons (.ret (.not (.blt .all (.cons m_is_drifting_k0 .nil))))
  .nil)⟩
/- all_drifting: free pattern number loop -/
def m_all_drifting_k0 : ME := (.comp (.var 2) (.tp [2, 3]) .enum (.cons (.call f_all_loops (.cons (.var 1) .nil)) .nil) (.call f_is_drifting (.cons (.var 0) (.cons (.var 3) .nil))) [2, 3])
def m_all_drifting : Fd := ⟨2, 4, false,
  (.cons (.ret m_all_drifting_k0)
  .nil)⟩
/- first_drift: free pattern known line later row now letters letter one -/
def m_first_drift_k0 : ME := (.comp (.tup (.cons (.var 5) (.cons (.var 6) .nil))) (.tp [5, 6]) .val (.cons (.var 4) .nil) (.cmp .ne (.var 6) (.tup .nil)) [5, 6])
def m_first_drift_k1 : ME := (.comp (.tup (.cons (.bin .add (.var 5) (.var 8)) (.cons (.call f_all_rests (.cons (.var 6) (.cons (.var 8) .nil))) .nil))) (.nm 8) .val (.cons (.glo g_LETTERS) .nil) (.cst (.bl true)) [8])
def m_first_drift_k2 : ME := (.comp (.call f_lets_nothing (.cons (.var 9) .nil)) (.nm 9) .val (.cons (.var 6) .nil) (.cst (.bl true)) [9])
def m_first_drift_k3 : ME := (.comp (.var 8) (.nm 8) .val (.cons (.glo g_LETTERS) .nil) (.cmp .mem (.var 8) (.var 5)) [8])
def m_first_drift_s0 : MS := (.fors (.tp [5, 6]) .val (.cons (.var 3) .nil) (.cons (.asg (.nm 7) (.meth .join (.cst (.str [])) (.cons m_first_drift_k3 .nil)))
  (.cons (.ifs (.and (.blt .any (.cons m_first_drift_k2 .nil)) (.not (.call f_is_hanging (.cons (.var 0) (.cons (.var 7) .nil))))) (.cons (.ret (.var 5))
  .nil) .nil)
  (.cons (.ifs (.cmp .nmem (.tup (.cons (.blt .str (.cons (.var 6) .nil)) (.cons (.var 7) .nil))) (.var 2)) (.cons (.setidx 2 (.tup (.cons (.blt .str (.cons (.var 6) .nil)) (.cons (.var 7) .nil))) (.cst (.bl true)))
  (.cons (.asg (.nm 4) (.bin .add (.var 4) m_first_drift_k1))
  .nil)) .nil)
  .nil))))
def m_first_drift_s1 : MS := (.whl (.cmp .ne (.var 3) (.lst .nil)) (.cons (.asg (.nm 4) (.lst .nil))
  (.cons m_first_drift_s0
  (.cons (.asg (.nm 3) m_first_drift_k0)
  .nil))))
def m_first_drift : Fd := ⟨2, 10, false,
  (.cons (.par 2 3 (.dct .nil .nil) (.lst (.cons (.tup (.cons (.cst (.str [])) (.cons (.tup (.cons (.var 1) .nil)) .nil))) .nil)))
  (.cons m_first_drift_s1
  (.cons (.ret (.cst .non))
  .nil)))⟩
/- drifting: free pattern -/
def m_drifting : Fd := ⟨2, 2, false,
  (.cons (.expr (.call f_need_free (.cons (.var 0) .nil)))
  (.cons (.expr (.call f_need_pattern (.cons (.var 1) .nil)))
  (.cons (.ret (.call f_all_drifting (.cons (.var 0) (.cons (.var 1) .nil))))
  .nil)))⟩
/- drift_row: free pattern number every -/
def m_drift_row : Fd := ⟨3, 4, false,
  (.cons (.expr (.call f_need_free (.cons (.var 0) .nil)))
  (.cons (.expr (.call f_need_pattern (.cons (.var 1) .nil)))
  (.cons (.asg (.nm 3) (.call f_all_loops (.cons (.var 1) .nil)))
  (.cons (.ifs (.not (.call f_is_number (.cons (.var 2) (.cons (.cst (.int 0)) (.cons (.bin .sub (.blt .len (.cons (.var 3) .nil)) (.cst (.int 1))) .nil))))) (.cons (.raise c_InvalidNumber)
  .nil) .nil)
  (.cons (.ret (.call f_first_drift (.cons (.var 0) (.cons (.idx (.idx (.var 3) (.var 2)) (.cst (.int 1))) .nil))))
  .nil)))))⟩
/- _law_kinds: pattern one some others turns found turn more letters other -/
def m__law_kinds_s0 : MS := (.fors (.nm 9) .val (.cons (.var 3) .nil) (.cons (.append 7 (.meth .join (.cst (.str [])) (.cons (.blt .sortset (.cons (.bin .add (.var 8) (.var 9)) .nil)) .nil)))
  .nil))
def m__law_kinds_s1 : MS := (.fors (.nm 8) .val (.cons (.var 2) .nil) (.cons m__law_kinds_s0
  .nil))
def m__law_kinds_s2 : MS := (.fors (.nm 6) .range1 (.cons (.var 4) .nil) (.cons (.asg (.nm 7) (.lst .nil))
  (.cons m__law_kinds_s1
  (.cons (.par 5 2 (.blt .sortset (.cons (.bin .add (.var 5) (.var 7)) .nil)) (.blt .sortset (.cons (.bin .add (.var 2) (.var 7)) .nil)))
  .nil))))
def m__law_kinds : Fd := ⟨1, 10, false,
  (.cons (.ifs (.isin (.var 0) .str) (.cons (.ret (.lst (.cons (.meth .join (.cst (.str [])) (.cons (.blt .sortset (.cons (.var 0) .nil)) .nil)) .nil)))
  .nil) .nil)
  (.cons (.asg (.nm 1) (.call f__law_kinds (.cons (.idx (.var 0) (.cst (.int 1))) .nil)))
  (.cons (.ifs (.cmp .eq (.idx (.var 0) (.cst (.int 0))) (.cst (.str [111, 114]))) (.cons (.ret (.blt .sortset (.cons (.bin .add (.var 1) (.call f__law_kinds (.cons (.idx (.var 0) (.cst (.int 2))) .nil))) .nil)))
  .nil) .nil)
  (.cons (.asg (.tp [2, 3, 4]) (.tup (.cons (.var 1) (.cons (.var 1) (.cons (.cst (.int 2)) .nil)))))
  (.cons (.ifs (.cmp .eq (.idx (.var 0) (.cst (.int 0))) (.cst (.str [116, 104, 101, 110]))) (.cons (.asg (.tp [2, 3, 4]) (.tup (.cons (.var 1) (.cons (.call f__law_kinds (.cons (.idx (.var 0) (.cst (.int 2))) .nil)) (.cons (.cst (.int 1)) .nil)))))
  .nil) .nil)
  (.cons (.asg (.nm 5) (.ite (.cmp .eq (.idx (.var 0) (.cst (.int 0))) (.cst (.str [97, 103, 97, 105, 110]))) (.lst (.cons (.cst (.str [])) .nil)) (.lst .nil)))
  (.cons (.asg (.nm 5) (.bin .add (.var 5) (.ite (.cmp .eq (.idx (.var 0) (.cst (.int 0))) (.cst (.str [97, 103, 97, 105, 110]))) (.var 1) (.lst .nil))))
  (.cons m__law_kinds_s2
  (.cons (.ret (.var 5))
  .nil)))))))))⟩
/- _law_drifting: free pattern found number loop some letters -/
def m__law_drifting_k0 : ME := (.comp (.var 6) (.nm 6) .val (.cons (.var 5) .nil) (.not (.call f__law_hangs (.cons (.var 0) (.cons (.var 6) .nil)))) [6])
def m__law_drifting_s0 : MS := (.fors (.tp [3, 4]) .enum (.cons (.call f__law_loops (.cons (.var 1) .nil)) .nil) (.cons (.asg (.nm 5) (.call f__law_kinds (.cons (.idx (.var 4) (.cst (.int 1))) .nil)))
  (.cons (.ifs (.cmp .ne m__law_drifting_k0 (.lst .nil)) (.cons (.append 2 (.var 3))
  .nil) .nil)
  .nil)))
def m__law_drifting : Fd := ⟨2, 7, false,
  (.cons (.asg (.nm 2) (.lst .nil))
  (.cons m__law_drifting_s0
  (.cons (.ret (.var 2))
  .nil)))⟩
/- _law_shown_right: free pattern number told inner row -/
def m__law_shown_right_s0 : MS := (.fors (.nm 5) .val (.cons (.call f__law_rows (.cons (.blt .min2 (.cons (.cst (.int 5)) (.cons (.ite (.notn (.var 3)) (.blt .len (.cons (.var 3) .nil)) (.cst (.int 5))) .nil))) .nil)) .nil) (.cons (.ifs (.and (.notn (.var 3)) (.cmp .ge (.tup (.cons (.blt .len (.cons (.var 5) .nil)) (.cons (.var 5) .nil))) (.tup (.cons (.blt .len (.cons (.var 3) .nil)) (.cons (.var 3) .nil))))) (.cons (.ret (.cst (.bl true)))
  .nil) .nil)
  (.cons (.ifs (.and (.call f__law_lets (.cons (.var 4) (.cons (.var 5) .nil))) (.not (.call f__law_hangs (.cons (.var 0) (.cons (.var 5) .nil))))) (.cons (.ret (.cst (.bl false)))
  .nil) .nil)
  .nil)))
def m__law_shown_right : Fd := ⟨3, 6, false,
  (.cons (.par 3 4 (.call f_drift_row (.cons (.var 0) (.cons (.var 1) (.cons (.var 2) .nil)))) (.idx (.idx (.call f_loops (.cons (.var 1) .nil)) (.var 2)) (.cst (.int 1))))
  (.cons (.ifs (.cmp .ne (.notn (.var 3)) (.cmp .mem (.var 2) (.call f__law_drifting (.cons (.var 0) (.cons (.var 1) .nil))))) (.cons (.ret (.cst (.bl false)))
  .nil) .nil)
  (.cons (.ifs (.and (.notn (.var 3)) (.or (.not (.call f__law_lets (.cons (.var 4) (.cons (.var 3) .nil)))) (.call f__law_hangs (.cons (.var 0) (.cons (.var 3) .nil))))) (.cons (.ret (.cst (.bl false)))
  .nil) .nil)
  (.cons m__law_shown_right_s0
  (.cons (.ret (.cst (.bl true)))
  .nil)))))⟩
/- is_good_machine: value many row number one other -/
def m_is_good_machine_k0 : ME := (.comp (.cmp .lt (.var 4) (.var 5)) (.tp [4, 5]) .zip (.cons (.idx (.var 0) (.cst (.int 1))) (.cons (.slcL (.idx (.var 0) (.cst (.int 1))) (.cst (.int 1))) .nil)) (.cst (.bl true)) [4, 5])
def m_is_good_machine_k1 : ME := (.comp (.call f_is_number (.cons (.var 3) (.cons (.cst (.int 0)) (.cons (.bin .sub (.var 1) (.cst (.int 1))) .nil)))) (.nm 3) .val (.cons (.idx (.var 0) (.cst (.int 1))) .nil) (.cst (.bl true)) [3])
def m_is_good_machine_k2 : ME := (.comp (.call f_is_number (.cons (.var 3) (.cons (.cst (.int 0)) (.cons (.bin .sub (.var 1) (.cst (.int 1))) .nil)))) (.nm 3) .val (.cons (.var 2) .nil) (.cst (.bl true)) [3])
def m_is_good_machine_s0 : MS := (.fors (.nm 2) .val (.cons (.idx (.var 0) (.cst (.int 0))) .nil) (.cons (.ifs (.or (.not (.call f_is_tuple (.cons (.var 2) (.cons (.cst (.int 3)) (.cons (.cst (.int 3)) .nil))))) (.not (.blt .all (.cons m_is_good_machine_k2 .nil)))) (.cons (.ret (.cst (.bl false)))
  .nil) .nil)
  .nil))
def m_is_good_machine : Fd := ⟨1, 6, false,
  (.cons (.ifs (.or (.not (.call f_is_tuple (.cons (.var 0) (.cons (.cst (.int 2)) (.cons (.cst (.int 2)) .nil))))) (.not (.call f_is_tuple (.cons (.idx (.var 0) (.cst (.int 0))) (.cons (.cst (.int 1)) (.cons (.glo g_LIMIT) .nil)))))) (.cons (.ret (.cst (.bl false)))
  .nil) .nil)
  (.cons (.asg (.nm 1) (.blt .len (.cons (.idx (.var 0) (.cst (.int 0))) .nil)))
  (.cons m_is_good_machine_s0
  (.cons (.ifs (.or (.not (.call f_is_tuple (.cons (.idx (.var 0) (.cst (.int 1))) (.cons (.cst (.int 0)) (.cons (.var 1) .nil))))) (.not (.blt .all (.cons m_is_good_machine_k1 .nil)))) (.cons (.ret (.cst (.bl false)))
  .nil) .nil)
  (.cons (.ret (.blt .all (.cons m_is_good_machine_k0 .nil)))
  .nil)))))⟩
/- standing_behind: machine row now letter -/
def m_standing_behind_s0 : MS := (.fors (.nm 3) .val (.cons (.var 1) .nil) (.cons (.asg (.nm 2) (.idx (.idx (.idx (.var 0) (.cst (.int 0))) (.var 2)) (.meth .sindex (.glo g_LETTERS) (.cons (.var 3) .nil))))
  .nil))
def m_standing_behind : Fd := ⟨2, 4, false,
  (.cons (.asg (.nm 2) (.cst (.int 0)))
  (.cons m_standing_behind_s0
  (.cons (.ret (.var 2))
  .nil)))⟩
/- marks_behind: machine marks keys there at row order key -/
def m_marks_behind_k0 : ME := (.comp (.meth .lindex (.var 6) (.cons (.var 7) .nil)) (.nm 7) .val (.cons (.var 2) .nil) (.cst (.bl true)) [7])
def m_marks_behind_s0 : MS := (.fors (.nm 7) .val (.cons (.var 2) .nil) (.cons (.ifs (.cmp .nmem (.var 7) (.var 6)) (.cons (.append 6 (.var 7))
  .nil) .nil)
  .nil))
def m_marks_behind_k1 : ME := (.comp (.idx (.var 1) (.var 3)) (.nm 3) .val (.cons (.var 5) .nil) (.cst (.bl true)) [3])
def m_marks_behind_k2 : ME := (.comp (.bin .add (.tup (.cons (.idx (.var 1) (.var 4)) .nil)) (.blt .tuple (.cons m_marks_behind_k1 .nil))) (.tp [4, 5]) .enum (.cons (.idx (.var 0) (.cst (.int 0))) .nil) (.cst (.bl true)) [4, 5])
def m_marks_behind : Fd := ⟨2, 8, false,
  (.cons (.asg (.nm 2) m_marks_behind_k2)
  (.cons (.asg (.nm 6) (.lst .nil))
  (.cons m_marks_behind_s0
  (.cons (.ret m_marks_behind_k0)
  .nil))))⟩
/- least_of: machine marks at many order line kept here there rows -/
def m_least_of_k0 : ME := (.comp (.var 2) (.tp [2, 7]) .enum (.cons (.var 6) .nil) (.cmp .mem (.var 7) (.idx (.var 0) (.cst (.int 1)))) [2, 7])
def m_least_of_k1 : ME := (.comp (.meth .lindex (.var 4) (.cons (.idx (.var 1) (.var 8)) .nil)) (.nm 8) .val (.cons (.idx (.idx (.var 0) (.cst (.int 0))) (.var 7)) .nil) (.cst (.bl true)) [8])
def m_least_of_k2 : ME := (.comp (.blt .tuple (.cons m_least_of_k1 .nil)) (.nm 7) .val (.cons (.var 6) .nil) (.cst (.bl true)) [7])
def m_least_of_s0 : MS := (.fors (.nm 8) .val (.cons (.idx (.idx (.var 0) (.cst (.int 0))) (.var 7)) .nil) (.cons (.ifs (.cmp .nmem (.idx (.var 1) (.var 8)) (.var 4)) (.cons (.append 4 (.idx (.var 1) (.var 8)))
  (.cons (.append 6 (.var 8))
  (.cons (.append 5 (.var 8))
  .nil))) .nil)
  .nil))
def m_least_of_s1 : MS := (.whl (.cmp .ne (.var 5) (.lst .nil)) (.cons (.asg (.nm 7) (.idx (.var 5) (.cst (.int 0))))
  (.cons (.asg (.nm 5) (.slcL (.var 5) (.cst (.int 1))))
  (.cons m_least_of_s0
  .nil))))
def m_least_of_s2 : MS := (.whl (.cmp .ne (.blt .lenset (.cons (.var 1) .nil)) (.var 3)) (.cons (.asg (.nm 3) (.blt .lenset (.cons (.var 1) .nil)))
  (.cons (.asg (.nm 1) (.call f_marks_behind (.cons (.var 0) (.cons (.var 1) .nil))))
  .nil)))
def m_least_of_k3 : ME := (.comp (.ite (.cmp .mem (.var 2) (.idx (.var 0) (.cst (.int 1)))) (.cst (.int 1)) (.cst (.int 0))) (.nm 2) .range1 (.cons (.blt .len (.cons (.idx (.var 0) (.cst (.int 0))) .nil)) .nil) (.cst (.bl true)) [2])
def m_least_of : Fd := ⟨1, 10, false,
  (.cons (.asg (.nm 1) m_least_of_k3)
  (.cons (.asg (.nm 3) (.cst (.int 0)))
  (.cons m_least_of_s2
  (.cons (.par 4 5 (.lst (.cons (.idx (.var 1) (.cst (.int 0))) .nil)) (.lst (.cons (.cst (.int 0)) .nil)))
  (.cons (.asg (.nm 6) (.lst (.cons (.cst (.int 0)) .nil)))
  (.cons m_least_of_s1
  (.cons (.asg (.nm 9) (.blt .tuple (.cons m_least_of_k2 .nil)))
  (.cons (.ret (.tup (.cons (.var 9) (.cons (.blt .tuple (.cons m_least_of_k0 .nil)) .nil))))
  .nil))))))))⟩
-- BAD determined: call of a local
/- in_order: some known one word -/
def m_in_order_k0 : ME := (.comp (.idx (.var 1) (.var 3)) (.nm 3) .val (.cons (.blt .sorted (.cons (.var 1) .nil)) .nil) (.cst (.bl true)) [3])
def m_in_order_k1 : ME := (.comp (.tup (.cons (.blt .str (.cons (.var 2) .nil)) (.cons (.var 2) .nil))) (.nm 2) .val (.cons (.var 0) .nil) (.cst (.bl true)) [2])
def m_in_order : Fd := ⟨1, 4, false,
  (.cons (.asg (.nm 1) (.blt .dict (.cons m_in_order_k1 .nil)))
  (.cons (.ret (.blt .tuple (.cons m_in_order_k0 .nil)))
  .nil))⟩
/- is_within: one other letter -/
def m_is_within_k0 : ME := (.comp (.cmp .mem (.var 2) (.var 1)) (.nm 2) .val (.cons (.var 0) .nil) (.cst (.bl true)) [2])
def m_is_within : Fd := ⟨2, 3, false,
  (.cons (.ret (.blt .all (.cons m_is_within_k0 .nil)))
  .nil)⟩
-- BAD needed_of: call of a local
/- limited: machine -/
def m_limited : Fd := ⟨1, 1, false,
  (.cons (.ifs (.cmp .gt (.blt .len (.cons (.idx (.var 0) (.cst (.int 0))) .nil)) (.glo g_LIMIT)) (.cons (.raiseV c_TooMany (.glo g_LIMIT))
  .nil) .nil)
  (.cons (.ret (.var 0))
  .nil))⟩
/- alive_in: machine found turn at row there -/
def m_alive_in_k0 : ME := (.comp (.cmp .mem (.var 5) (.var 1)) (.nm 5) .val (.cons (.var 4) .nil) (.cst (.bl true)) [5])
def m_alive_in_k1 : ME := (.comp (.var 3) (.tp [3, 4]) .enum (.cons (.idx (.var 0) (.cst (.int 0))) .nil) (.or (.cmp .mem (.var 3) (.var 1)) (.blt .any (.cons m_alive_in_k0 .nil))) [3, 4])
def m_alive_in_s0 : MS := (.fors (.nm 2) .val (.cons (.idx (.var 0) (.cst (.int 0))) .nil) (.cons (.asg (.nm 1) m_alive_in_k1)
  .nil))
def m_alive_in : Fd := ⟨1, 6, false,
  (.cons (.asg (.nm 1) (.blt .list (.cons (.idx (.var 0) (.cst (.int 1))) .nil)))
  (.cons m_alive_in_s0
  (.cons (.ret (.var 1))
  .nil)))⟩
-- BAD of_row: lambda
/- blocked_by: free letter one -/
def m_blocked_by_k0 : ME := (.comp (.var 2) (.nm 2) .val (.cons (.glo g_LETTERS) .nil) (.not (.call f_are_free (.cons (.var 0) (.cons (.var 1) (.cons (.var 2) .nil))))) [2])
def m_blocked_by : Fd := ⟨2, 3, false,
  (.cons (.ret (.meth .join (.cst (.str [])) (.cons m_blocked_by_k0 .nil)))
  .nil)⟩
/- with_letters: letters others one -/
def m_with_letters_k0 : ME := (.comp (.var 2) (.nm 2) .val (.cons (.glo g_LETTERS) .nil) (.or (.cmp .mem (.var 2) (.var 0)) (.cmp .mem (.var 2) (.var 1))) [2])
def m_with_letters : Fd := ⟨2, 3, false,
  (.cons (.ret (.meth .join (.cst (.str [])) (.cons m_with_letters_k0 .nil)))
  .nil)⟩
-- BAD of_or: lambda
-- BAD of_then: lambda
/- held: factors first standing letters done -/
def m_held_k0 : ME := (.comp (.bin .add (.var 3) (.var 4)) (.tp [2, 3, 4]) .val (.cons (.slcL (.var 0) (.var 1)) .nil) (.cst (.bl true)) [2, 3, 4])
def m_held : Fd := ⟨2, 5, false,
  (.cons (.ret (.meth .join (.cst (.str [])) (.cons m_held_k0 .nil)))
  .nil)⟩
/- completed: machine factors found at some -/
def m_completed_k0 : ME := (.comp (.call f_without (.cons (.var 4) (.cons (.var 3) .nil))) (.nm 4) .val (.cons (.var 2) .nil) (.cmp .mem (.idx (.idx (.var 4) (.var 3)) (.cst (.int 0))) (.idx (.var 0) (.cst (.int 1)))) [4])
def m_completed_s0 : MS := (.fors (.nm 3) .range3 (.cons (.bin .sub (.blt .len (.cons (.var 1) .nil)) (.cst (.int 1))) (.cons (.neg (.cst (.int 1))) (.cons (.neg (.cst (.int 1))) .nil))) (.cons (.asg (.nm 2) (.bin .add (.var 2) m_completed_k0))
  .nil))
def m_completed : Fd := ⟨2, 5, false,
  (.cons (.asg (.nm 2) (.lst (.cons (.var 1) .nil)))
  (.cons m_completed_s0
  (.cons (.ret (.var 2))
  .nil)))⟩
/- without: factors at standing letters done ahead spot come old -/
def m_without : Fd := ⟨2, 9, false,
  (.cons (.asg (.tp [2, 3, 4]) (.idx (.var 0) (.var 1)))
  (.cons (.asg (.nm 5) (.slcH (.var 0) (.var 1)))
  (.cons (.ifs (.cmp .gt (.var 1) (.cst (.int 0))) (.cons (.asg (.tp [6, 7, 8]) (.idx (.var 0) (.bin .sub (.var 1) (.cst (.int 1)))))
  (.cons (.asg (.nm 5) (.bin .add (.slcH (.var 0) (.bin .sub (.var 1) (.cst (.int 1)))) (.tup (.cons (.tup (.cons (.var 6) (.cons (.var 7) (.cons (.call f_with_letters (.cons (.var 8) (.cons (.bin .add (.var 3) (.var 4)) .nil))) .nil)))) .nil))))
  .nil)) .nil)
  (.cons (.ret (.bin .add (.var 5) (.slcL (.var 0) (.bin .add (.var 1) (.cst (.int 1))))))
  .nil))))⟩
-- BAD of_again: lambda
/- built: free pattern parts part -/
def m_built_k0 : ME := (.comp (.call f_built (.cons (.var 0) (.cons (.var 3) .nil))) (.nm 3) .val (.cons (.slcL (.var 1) (.cst (.int 1))) .nil) (.cst (.bl true)) [3])
def m_built : Fd := ⟨2, 4, false,
  (.cons (.ifs (.isin (.var 1) .str) (.cons (.ret (.call f_of_row (.cons (.var 0) (.cons (.var 1) .nil))))
  .nil) .nil)
  (.cons (.asg (.nm 2) m_built_k0)
  (.cons (.ifs (.cmp .eq (.idx (.var 1) (.cst (.int 0))) (.cst (.str [111, 114]))) (.cons (.ret (.call f_of_or (.cons (.idx (.var 2) (.cst (.int 0))) (.cons (.idx (.var 2) (.cst (.int 1))) .nil))))
  .nil) .nil)
  (.cons (.ret (.ite (.cmp .eq (.idx (.var 1) (.cst (.int 0))) (.cst (.str [116, 104, 101, 110]))) (.call f_of_then (.cons (.var 0) (.cons (.idx (.var 2) (.cst (.int 0))) (.cons (.idx (.var 2) (.cst (.int 1))) .nil)))) (.call f_of_again (.cons (.var 0) (.cons (.idx (.var 2) (.cst (.int 0))) .nil)))))
  .nil))))⟩
/- machine_for: free pattern some -/
def m_machine_for : Fd := ⟨2, 3, false,
  (.cons (.asg (.nm 2) (.call f_all_drifting (.cons (.var 0) (.cons (.var 1) .nil))))
  (.cons (.ifs (.cmp .ne (.var 2) (.lst .nil)) (.cons (.raiseV c_Drifts (.idx (.var 2) (.cst (.int 0))))
  .nil) .nil)
  (.cons (.ret (.call f_built (.cons (.var 0) (.cons (.var 1) .nil))))
  .nil)))⟩
/- is_machine: value -/
def m_is_machine : Fd := ⟨1, 1, false,
  (.cons (.ret (.call f_is_good_machine (.cons (.var 0) .nil)))
  .nil)⟩
/- led: machine row -/
def m_led : Fd := ⟨2, 2, false,
  (.cons (.ifs (.not (.call f_is_good_machine (.cons (.var 0) .nil))) (.cons (.raise c_InvalidMachine)
  .nil) .nil)
  (.cons (.expr (.call f_need_row (.cons (.var 1) (.cons (.cst (.int 60)) .nil))))
  (.cons (.ret (.call f_standing_behind (.cons (.var 0) (.cons (.var 1) .nil))))
  .nil)))⟩
/- machine_of: free pattern -/
def m_machine_of : Fd := ⟨2, 2, false,
  (.cons (.expr (.call f_need_free (.cons (.var 0) .nil)))
  (.cons (.expr (.call f_need_pattern (.cons (.var 1) .nil)))
  (.cons (.ret (.call f_machine_for (.cons (.var 0) (.cons (.var 1) .nil))))
  .nil)))⟩
/- _law_letters: pattern part -/
def m__law_letters_k0 : ME := (.comp (.call f__law_letters (.cons (.var 1) .nil)) (.nm 1) .val (.cons (.slcL (.var 0) (.cst (.int 1))) .nil) (.cst (.bl true)) [1])
def m__law_letters : Fd := ⟨1, 2, false,
  (.cons (.ifs (.isin (.var 0) .str) (.cons (.ret (.blt .len (.cons (.var 0) .nil)))
  .nil) .nil)
  (.cons (.ret (.blt .sum (.cons m__law_letters_k0 .nil)))
  .nil))⟩
/- _law_calm: source free turn found -/
def m__law_calm_s0 : MS := (.fors (.nm 2) .range1 (.cons (.cst (.int 8)) .nil) (.cons (.asg (.nm 3) (.callm f__law_small 0 .nil))
  (.cons (.ifs (.and (.cmp .lt (.call f__law_letters (.cons (.var 3) .nil)) (.cst (.int 6))) (.cmp .eq (.call f__law_drifting (.cons (.var 1) (.cons (.var 3) .nil))) (.lst .nil))) (.cons (.ret (.var 3))
  .nil) .nil)
  .nil)))
def m__law_calm : Fd := ⟨2, 4, true,
  (.cons m__law_calm_s0
  (.cons (.ret (.tup (.cons (.cst (.str [116, 104, 101, 110])) (.cons (.tup (.cons (.cst (.str [97, 103, 97, 105, 110])) (.cons (.cst (.str [97])) .nil))) (.cons (.cst (.str [98, 99])) .nil)))))
  .nil))⟩
/- _law_spot: machine row spot letter -/
def m__law_spot_s0 : MS := (.fors (.nm 3) .val (.cons (.var 1) .nil) (.cons (.asg (.nm 2) (.idx (.idx (.idx (.var 0) (.cst (.int 0))) (.var 2)) (.meth .lindex (.cst (.str [97, 98, 99])) (.cons (.var 3) .nil))))
  .nil))
def m__law_spot : Fd := ⟨2, 4, false,
  (.cons (.asg (.nm 2) (.cst (.int 0)))
  (.cons m__law_spot_s0
  (.cons (.ret (.var 2))
  .nil)))⟩
/- _law_lets_nothing: pattern -/
def m__law_lets_nothing : Fd := ⟨1, 1, false,
  (.cons (.ret (.cmp .mem (.cst (.int 0)) (.call f__law_ends (.cons (.var 0) (.cons (.cst (.str [])) (.cons (.cst (.int 0)) .nil))))))
  .nil)⟩
/- _law_rests: pattern letter found rest one -/
def m__law_rests_k0 : ME := (.comp (.ite (.cmp .eq (.var 4) (.cst (.str []))) (.var 3) (.tup (.cons (.cst (.str [116, 104, 101, 110])) (.cons (.var 4) (.cons (.var 3) .nil))))) (.nm 4) .val (.cons (.var 2) .nil) (.cst (.bl true)) [4])
def m__law_rests : Fd := ⟨2, 5, false,
  (.cons (.ifs (.isin (.var 0) .str) (.cons (.ret (.ite (.cmp .eq (.slcH (.var 0) (.cst (.int 1))) (.var 1)) (.lst (.cons (.slcL (.var 0) (.cst (.int 1))) .nil)) (.lst .nil)))
  .nil) .nil)
  (.cons (.asg (.nm 2) (.call f__law_rests (.cons (.idx (.var 0) (.cst (.int 1))) (.cons (.var 1) .nil))))
  (.cons (.ifs (.cmp .eq (.idx (.var 0) (.cst (.int 0))) (.cst (.str [111, 114]))) (.cons (.ret (.bin .add (.var 2) (.call f__law_rests (.cons (.idx (.var 0) (.cst (.int 2))) (.cons (.var 1) .nil)))))
  .nil) .nil)
  (.cons (.asg (.nm 3) (.ite (.cmp .eq (.idx (.var 0) (.cst (.int 0))) (.cst (.str [97, 103, 97, 105, 110]))) (.var 0) (.idx (.var 0) (.cst (.int 2)))))
  (.cons (.asg (.nm 2) m__law_rests_k0)
  (.cons (.ifs (.and (.cmp .eq (.idx (.var 0) (.cst (.int 0))) (.cst (.str [116, 104, 101, 110]))) (.call f__law_lets_nothing (.cons (.idx (.var 0) (.cst (.int 1))) .nil))) (.cons (.asg (.nm 2) (.bin .add (.var 2) (.call f__law_rests (.cons (.idx (.var 0) (.cst (.int 2))) (.cons (.var 1) .nil)))))
  .nil) .nil)
  (.cons (.ret (.var 2))
  .nil)))))))⟩
/- _law_picks_all: pattern machine known line rest spot at letter later pair -/
def m__law_picks_all_s0 : MS := (.fors (.nm 8) .val (.cons (.call f__law_rests (.cons (.var 4) (.cons (.var 7) .nil))) .nil) (.cons (.asg (.nm 9) (.tup (.cons (.var 8) (.cons (.idx (.idx (.idx (.var 1) (.cst (.int 0))) (.var 5)) (.var 6)) .nil))))
  (.cons (.ifs (.cmp .nmem (.var 9) (.var 2)) (.cons (.append 2 (.var 9))
  (.cons (.append 3 (.var 9))
  .nil)) .nil)
  .nil)))
def m__law_picks_all_s1 : MS := (.fors (.tp [6, 7]) .enum (.cons (.cst (.str [97, 98, 99])) .nil) (.cons m__law_picks_all_s0
  .nil))
def m__law_picks_all_s2 : MS := (.whl (.cmp .ne (.var 3) (.lst .nil)) (.cons (.asg (.tp [4, 5]) (.pop 3))
  (.cons (.ifs (.and (.call f__law_lets_nothing (.cons (.var 4) .nil)) (.cmp .nmem (.var 5) (.idx (.var 1) (.cst (.int 1))))) (.cons (.ret (.cst (.bl false)))
  .nil) .nil)
  (.cons m__law_picks_all_s1
  .nil))))
def m__law_picks_all : Fd := ⟨2, 10, false,
  (.cons (.par 2 3 (.lst (.cons (.tup (.cons (.var 0) (.cons (.cst (.int 0)) .nil))) .nil)) (.lst (.cons (.tup (.cons (.var 0) (.cons (.cst (.int 0)) .nil))) .nil)))
  (.cons m__law_picks_all_s2
  (.cons (.ret (.cst (.bl true)))
  .nil)))⟩
/- _law_shaped: machine many numbers row number picks one other -/
def m__law_shaped_k0 : ME := (.comp (.cst (.int 1)) (.tp [6, 7]) .zip (.cons (.var 5) (.cons (.slcL (.var 5) (.cst (.int 1))) .nil)) (.not (.cmp .lt (.var 6) (.var 7))) [6, 7])
def m__law_shaped_s0 : MS := (.fors (.nm 4) .val (.cons (.bin .add (.var 2) (.blt .list (.cons (.idx (.var 0) (.cst (.int 1))) .nil))) .nil) (.cons (.ifs (.or (.not (.isin (.var 4) .int)) (.isin (.var 4) .bool)) (.cons (.ret (.cst (.bl false)))
  .nil) .nil)
  (.cons (.ifs (.not (.chain .le .lt (.cst (.int 0)) (.var 4) (.var 1))) (.cons (.ret (.cst (.bl false)))
  .nil) .nil)
  .nil)))
def m__law_shaped_s1 : MS := (.fors (.nm 3) .val (.cons (.idx (.var 0) (.cst (.int 0))) .nil) (.cons (.ifs (.or (.not (.isin (.var 3) .tuple)) (.cmp .ne (.blt .len (.cons (.var 3) .nil)) (.cst (.int 3)))) (.cons (.ret (.cst (.bl false)))
  .nil) .nil)
  (.cons (.asg (.nm 2) (.bin .add (.var 2) (.blt .list (.cons (.var 3) .nil))))
  .nil)))
def m__law_shaped : Fd := ⟨1, 8, false,
  (.cons (.ifs (.or (.not (.isin (.var 0) .tuple)) (.cmp .ne (.blt .len (.cons (.var 0) .nil)) (.cst (.int 2)))) (.cons (.ret (.cst (.bl false)))
  .nil) .nil)
  (.cons (.ifs (.or (.not (.isin (.idx (.var 0) (.cst (.int 0))) .tuple)) (.not (.isin (.idx (.var 0) (.cst (.int 1))) .tuple))) (.cons (.ret (.cst (.bl false)))
  .nil) .nil)
  (.cons (.par 1 2 (.blt .len (.cons (.idx (.var 0) (.cst (.int 0))) .nil)) (.lst .nil))
  (.cons (.ifs (.not (.chain .le .le (.cst (.int 1)) (.var 1) (.cst (.int 40)))) (.cons (.ret (.cst (.bl false)))
  .nil) .nil)
  (.cons m__law_shaped_s1
  (.cons m__law_shaped_s0
  (.cons (.asg (.nm 5) (.blt .list (.cons (.idx (.var 0) (.cst (.int 1))) .nil)))
  (.cons (.ret (.cmp .eq m__law_shaped_k0 (.lst .nil)))
  .nil))))))))⟩
-- BAD _law_least: call zip
/- _law_closed: free machine pair one other row first second -/
def m__law_closed_s0 : MS := (.fors (.nm 5) .val (.cons (.idx (.var 1) (.cst (.int 0))) .nil) (.cons (.asg (.nm 6) (.idx (.idx (.var 1) (.cst (.int 0))) (.idx (.var 5) (.var 3))))
  (.cons (.asg (.nm 7) (.idx (.idx (.var 1) (.cst (.int 0))) (.idx (.var 5) (.var 4))))
  (.cons (.ifs (.cmp .ne (.idx (.var 6) (.var 4)) (.idx (.var 7) (.var 3))) (.cons (.ret (.cst (.bl false)))
  .nil) .nil)
  .nil))))
def m__law_closed_s1 : MS := (.fors (.nm 2) .val (.cons (.var 0) .nil) (.cons (.par 3 4 (.meth .lindex (.cst (.str [97, 98, 99])) (.cons (.idx (.var 2) (.cst (.int 0))) .nil)) (.meth .lindex (.cst (.str [97, 98, 99])) (.cons (.idx (.var 2) (.cst (.int 1))) .nil)))
  (.cons m__law_closed_s0
  .nil)))
def m__law_closed : Fd := ⟨2, 8, false,
  (.cons m__law_closed_s1
  (.cons (.ret (.cst (.bl true)))
  .nil))⟩
-- BAD _law_told: suite
/- lots_of: pairs many found turn lot pair -/
def m_lots_of_k0 : ME := (.comp2 (.bin .add (.var 4) (.tup (.cons (.var 5) .nil))) (.nm 4) .val (.cons (.var 2) .nil) (.cst (.bl true)) (.nm 5) .val (.cons (.var 0) .nil) (.or (.cmp .eq (.var 4) (.tup .nil)) (.cmp .gt (.blt .str (.cons (.var 5) .nil)) (.blt .str (.cons (.idx (.var 4) (.neg (.cst (.int 1)))) .nil)))) [4, 5])
def m_lots_of_s0 : MS := (.fors (.nm 3) .range1 (.cons (.var 1) .nil) (.cons (.asg (.nm 2) m_lots_of_k0)
  .nil))
def m_lots_of : Fd := ⟨2, 6, false,
  (.cons (.asg (.nm 2) (.lst (.cons (.tup .nil) .nil)))
  (.cons m_lots_of_s0
  (.cons (.ret (.var 2))
  .nil)))⟩
/- fewest_held: free pattern many found lot pair -/
def m_fewest_held_k0 : ME := (.comp (.var 5) (.nm 5) .val (.cons (.var 0) .nil) (.cmp .nmem (.var 5) (.var 4)) [5])
def m_fewest_held_s0 : MS := (.fors (.nm 4) .val (.cons (.call f_lots_of (.cons (.var 0) (.cons (.var 2) .nil))) .nil) (.cons (.ifs (.cmp .eq (.call f_all_drifting (.cons (.blt .tuple (.cons m_fewest_held_k0 .nil)) (.cons (.var 1) .nil))) (.lst .nil)) (.cons (.append 3 (.var 4))
  .nil) .nil)
  .nil))
def m_fewest_held_s1 : MS := (.fors (.nm 2) .range1 (.cons (.bin .add (.blt .len (.cons (.var 0) .nil)) (.cst (.int 1))) .nil) (.cons (.asg (.nm 3) (.lst .nil))
  (.cons m_fewest_held_s0
  (.cons (.ifs (.cmp .ne (.var 3) (.lst .nil)) (.cons (.ret (.var 3))
  .nil) .nil)
  .nil))))
def m_fewest_held : Fd := ⟨2, 6, false,
  (.cons (.expr (.call f_need_free (.cons (.var 0) .nil)))
  (.cons (.expr (.call f_need_pattern (.cons (.var 1) .nil)))
  (.cons m_fewest_held_s1
  (.cons (.ret (.lst .nil))
  .nil))))⟩
/- is_fact: value -/
def m_is_fact : Fd := ⟨1, 1, false,
  (.cons (.ret (.and (.call f_is_tuple (.cons (.var 0) (.cons (.cst (.int 2)) (.cons (.cst (.int 2)) .nil)))) (.and (.call f_is_row (.cons (.idx (.var 0) (.cst (.int 0))) (.cons (.cst (.int 8)) .nil))) (.isin (.idx (.var 0) (.cst (.int 1))) .bool))))
  .nil)⟩
/- need_facts: value fact -/
def m_need_facts_k0 : ME := (.comp (.call f_is_fact (.cons (.var 1) .nil)) (.nm 1) .val (.cons (.var 0) .nil) (.cst (.bl true)) [1])
def m_need_facts : Fd := ⟨1, 2, false,
  (.cons (.ifs (.or (.not (.call f_is_tuple (.cons (.var 0) (.cons (.cst (.int 0)) (.cons (.cst (.int 6)) .nil))))) (.not (.blt .all (.cons m_need_facts_k0 .nil)))) (.cons (.raise c_InvalidFacts)
  .nil) .nil)
  .nil)⟩
-- BAD all_frees: keywords
/- that_fit: pattern facts free row truth -/
def m_that_fit_k0 : ME := (.comp (.cmp .eq (.call f_is_taken (.cons (.var 2) (.cons (.var 0) (.cons (.var 3) .nil)))) (.var 4)) (.tp [3, 4]) .val (.cons (.var 1) .nil) (.cst (.bl true)) [3, 4])
def m_that_fit_k1 : ME := (.comp (.var 2) (.nm 2) .val (.cons (.call f_all_frees .nil) .nil) (.blt .all (.cons m_that_fit_k0 .nil)) [2])
def m_that_fit : Fd := ⟨2, 5, false,
  (.cons (.ret m_that_fit_k1)
  .nil)⟩
/- frees_told: pattern facts -/
def m_frees_told : Fd := ⟨2, 2, false,
  (.cons (.expr (.call f_need_pattern (.cons (.var 0) .nil)))
  (.cons (.expr (.call f_need_facts (.cons (.var 1) .nil)))
  (.cons (.ret (.call f_that_fit (.cons (.var 0) (.cons (.var 1) .nil))))
  .nil)))⟩
/- surely: pattern facts row found free -/
def m_surely_k0 : ME := (.comp (.call f_is_taken (.cons (.var 4) (.cons (.var 0) (.cons (.var 2) .nil)))) (.nm 4) .val (.cons (.call f_that_fit (.cons (.var 0) (.cons (.var 1) .nil))) .nil) (.cst (.bl true)) [4])
def m_surely : Fd := ⟨3, 5, false,
  (.cons (.expr (.call f_need_pattern (.cons (.var 0) .nil)))
  (.cons (.expr (.call f_need_facts (.cons (.var 1) .nil)))
  (.cons (.expr (.call f_need_row (.cons (.var 2) (.cons (.cst (.int 8)) .nil))))
  (.cons (.asg (.nm 3) m_surely_k0)
  (.cons (.ifs (.or (.cmp .eq (.var 3) (.lst .nil)) (.and (.cmp .mem (.cst (.bl true)) (.var 3)) (.cmp .mem (.cst (.bl false)) (.var 3)))) (.cons (.ret (.cst .non))
  .nil) .nil)
  (.cons (.ret (.idx (.var 3) (.cst (.int 0))))
  .nil))))))⟩
/- _law_facts: source pattern free found turn row truth -/
def m__law_facts_s0 : MS := (.fors (.nm 4) .range1 (.cons (.callm f__law_draw 0 (.cons (.cst (.int 5)) .nil)) .nil) (.cons (.asg (.nm 5) (.callm f__law_row 0 (.cons (.cst (.int 6)) .nil)))
  (.cons (.asg (.nm 6) (.call f__law_takes (.cons (.var 2) (.cons (.var 1) (.cons (.var 5) .nil)))))
  (.cons (.asg (.nm 3) (.bin .add (.var 3) (.tup (.cons (.tup (.cons (.var 5) (.cons (.ite (.cmp .gt (.callm f__law_draw 0 (.cons (.cst (.int 5)) .nil)) (.cst (.int 0))) (.var 6) (.not (.var 6))) .nil))) .nil))))
  .nil))))
def m__law_facts : Fd := ⟨2, 7, true,
  (.cons (.par 2 3 (.callm f__law_of 0 (.cons (.call f__law_frees .nil) .nil)) (.tup .nil))
  (.cons m__law_facts_s0
  (.cons (.ret (.var 3))
  .nil)))⟩
/- _law_fitting: pattern facts found free good row truth -/
def m__law_fitting_s0 : MS := (.fors (.tp [5, 6]) .val (.cons (.var 1) .nil) (.cons (.asg (.nm 4) (.and (.var 4) (.cmp .eq (.call f__law_takes (.cons (.var 3) (.cons (.var 0) (.cons (.var 5) .nil)))) (.var 6))))
  .nil))
def m__law_fitting_s1 : MS := (.fors (.nm 3) .val (.cons (.call f__law_frees .nil) .nil) (.cons (.asg (.nm 4) (.cst (.bl true)))
  (.cons m__law_fitting_s0
  (.cons (.asg (.nm 2) (.bin .add (.var 2) (.ite (.var 4) (.lst (.cons (.var 3) .nil)) (.lst .nil))))
  .nil))))
def m__law_fitting : Fd := ⟨2, 7, false,
  (.cons (.asg (.nm 2) (.lst .nil))
  (.cons m__law_fitting_s1
  (.cons (.ret (.var 2))
  .nil)))⟩
/- _law_refused: odds odd words -/
def m__law_refused_s0 : MS := (.fors (.nm 1) .val (.cons (.lst (.cons (.cst .non) (.cons (.cst (.str [100])) (.cons (.bin .mul (.cst (.str [97])) (.cst (.int 9))) (.cons (.cst (.int 0)) .nil))))) .nil) (.cons (.ifs (.cmp .ne (.lam w__law_word (.call f_surely (.cons (.cst (.str [97])) (.cons (.tup .nil) (.cons (.var 1) .nil))))) (.cst (.str [114, 111, 119]))) (.cons (.ret (.cst (.bl false)))
  .nil) .nil)
  .nil))
def m__law_refused_s1 : MS := (.fors (.nm 1) .val (.cons (.lst (.cons (.cst .non) (.cons (.cst (.str [97, 98, 99, 97])) (.cons (.tup (.cons (.cst (.str [111, 114])) (.cons (.cst (.str [97])) .nil))) .nil)))) .nil) (.cons (.asg (.nm 2) (.lst (.cons (.lam w__law_word (.call f_frees_told (.cons (.var 1) (.cons (.cst .non) .nil)))) .nil)))
  (.cons (.append 2 (.lam w__law_word (.call f_surely (.cons (.var 1) (.cons (.cst .non) (.cons (.cst .non) .nil))))))
  (.cons (.ifs (.cmp .ne (.var 2) (.lst (.cons (.cst (.str [112, 97, 116, 116, 101, 114, 110])) (.cons (.cst (.str [112, 97, 116, 116, 101, 114, 110])) .nil)))) (.cons (.ret (.cst (.bl false)))
  .nil) .nil)
  .nil))))
def m__law_refused_s2 : MS := (.fors (.nm 1) .val (.cons (.bin .add (.var 0) (.lst (.cons (.bin .mul (.tup (.cons (.tup (.cons (.cst (.str [97])) (.cons (.cst (.bl true)) .nil))) .nil)) (.cst (.int 7))) (.cons (.tup (.cons (.cst (.str [97])) (.cons (.cst (.bl true)) .nil))) .nil)))) .nil) (.cons (.asg (.nm 2) (.lst (.cons (.lam w__law_word (.call f_frees_told (.cons (.cst (.str [97])) (.cons (.var 1) .nil)))) .nil)))
  (.cons (.append 2 (.lam w__law_word (.call f_surely (.cons (.cst (.str [97])) (.cons (.var 1) (.cons (.cst .non) .nil))))))
  (.cons (.ifs (.cmp .ne (.var 2) (.lst (.cons (.cst (.str [102, 97, 99, 116, 115])) (.cons (.cst (.str [102, 97, 99, 116, 115])) .nil)))) (.cons (.ret (.cst (.bl false)))
  .nil) .nil)
  .nil))))
def m__law_refused : Fd := ⟨0, 3, false,
  (.cons (.asg (.nm 0) (.lst (.cons (.cst .non) (.cons (.lst .nil) (.cons (.tup (.cons (.tup (.cons (.cst (.str [97])) (.cons (.cst (.int 1)) .nil))) .nil)) (.cons (.tup (.cons (.tup (.cons (.cst (.str [97])) .nil)) .nil)) (.cons (.tup (.cons (.tup (.cons (.cst (.str [100])) (.cons (.cst (.bl true)) .nil))) .nil)) (.cons (.tup (.cons (.tup (.cons (.bin .mul (.cst (.str [97])) (.cst (.int 9))) (.cons (.cst (.bl true)) .nil))) .nil)) (.cons (.tup (.cons (.lst (.cons (.cst (.str [97])) (.cons (.cst (.bl true)) .nil))) .nil)) .nil)))))))))
  (.cons m__law_refused_s2
  (.cons m__law_refused_s1
  (.cons m__law_refused_s0
  (.cons (.ret (.cst (.bl true)))
  .nil)))))⟩
/- _wall: k -/
def m__wall_s0 : MS := (.whl (.cst (.bl true)) (.cons .pass
  .nil))
def m__wall : Fd := ⟨1, 1, false,
  (.cons m__wall_s0
  .nil)⟩
/- text_of: pattern parts part -/
def m_text_of_k0 : ME := (.comp (.call f_text_of (.cons (.var 2) .nil)) (.nm 2) .val (.cons (.slcL (.var 0) (.cst (.int 1))) .nil) (.cst (.bl true)) [2])
def m_text_of : Fd := ⟨1, 3, false,
  (.cons (.ifs (.isin (.var 0) .str) (.cons (.ret (.ite (.cmp .ne (.var 0) (.cst (.str []))) (.var 0) (.cst (.str [45]))))
  .nil) .nil)
  (.cons (.asg (.nm 1) m_text_of_k0)
  (.cons (.ret (.ite (.cmp .eq (.idx (.var 0) (.cst (.int 0))) (.cst (.str [97, 103, 97, 105, 110]))) (.bin .add (.bin .add (.cst (.str [91])) (.idx (.var 1) (.cst (.int 0)))) (.cst (.str [93]))) (.bin .add (.bin .add (.cst (.str [40])) (.meth .join (.gidx g_SIGNS (.idx (.var 0) (.cst (.int 0)))) (.cons (.var 1) .nil))) (.cst (.str [41])))))
  .nil)))⟩
/- parsed: text at deep sign inner end one words word other last -/
def m_parsed_s0 : MS := (.whl (.and (.cmp .lt (.var 5) (.blt .len (.cons (.var 0) .nil))) (.cmp .mem (.idx (.var 0) (.var 5)) (.glo g_LETTERS))) (.cons (.asg (.nm 5) (.bin .add (.var 5) (.cst (.int 1))))
  .nil))
def m_parsed_k0 : ME := (.comp (.var 8) (.nm 8) .val (.cons (.glo g_SIGNS) .nil) (.cmp .eq (.gidx g_SIGNS (.var 8)) (.slc (.var 0) (.var 5) (.bin .add (.var 5) (.cst (.int 1))))) [8])
def m_parsed : Fd := ⟨3, 11, false,
  (.cons (.asg (.nm 3) (.slc (.var 0) (.var 1) (.bin .add (.var 1) (.cst (.int 1)))))
  (.cons (.ifs (.cmp .eq (.var 3) (.cst (.str [45]))) (.cons (.ret (.tup (.cons (.cst (.str [])) (.cons (.bin .add (.var 1) (.cst (.int 1))) .nil))))
  .nil) .nil)
  (.cons (.ifs (.and (.cmp .eq (.var 3) (.cst (.str [91]))) (.cmp .gt (.var 2) (.cst (.int 0)))) (.cons (.asg (.tp [4, 5]) (.call f_parsed (.cons (.var 0) (.cons (.bin .add (.var 1) (.cst (.int 1))) (.cons (.bin .sub (.var 2) (.cst (.int 1))) .nil)))))
  (.cons (.ret (.tup (.cons (.ite (.or (.isn (.var 4)) (.cmp .ne (.slc (.var 0) (.var 5) (.bin .add (.var 5) (.cst (.int 1)))) (.cst (.str [93])))) (.cst .non) (.tup (.cons (.cst (.str [97, 103, 97, 105, 110])) (.cons (.var 4) .nil)))) (.cons (.bin .add (.var 5) (.cst (.int 1))) .nil))))
  .nil)) .nil)
  (.cons (.ifs (.and (.cmp .eq (.var 3) (.cst (.str [40]))) (.cmp .gt (.var 2) (.cst (.int 0)))) (.cons (.asg (.tp [6, 5]) (.call f_parsed (.cons (.var 0) (.cons (.bin .add (.var 1) (.cst (.int 1))) (.cons (.bin .sub (.var 2) (.cst (.int 1))) .nil)))))
  (.cons (.asg (.nm 7) m_parsed_k0)
  (.cons (.ifs (.or (.isn (.var 6)) (.cmp .eq (.var 7) (.lst .nil))) (.cons (.ret (.tup (.cons (.cst .non) (.cons (.var 5) .nil))))
  .nil) .nil)
  (.cons (.asg (.tp [9, 10]) (.call f_parsed (.cons (.var 0) (.cons (.bin .add (.var 5) (.cst (.int 1))) (.cons (.bin .sub (.var 2) (.cst (.int 1))) .nil)))))
  (.cons (.ret (.tup (.cons (.ite (.or (.isn (.var 9)) (.cmp .ne (.slc (.var 0) (.var 10) (.bin .add (.var 10) (.cst (.int 1)))) (.cst (.str [41])))) (.cst .non) (.tup (.cons (.idx (.var 7) (.cst (.int 0))) (.cons (.var 6) (.cons (.var 9) .nil))))) (.cons (.bin .add (.var 10) (.cst (.int 1))) .nil))))
  .nil))))) .nil)
  (.cons (.asg (.nm 5) (.var 1))
  (.cons m_parsed_s0
  (.cons (.ret (.tup (.cons (.ite (.cmp .gt (.var 5) (.var 1)) (.slc (.var 0) (.var 1) (.var 5)) (.cst .non)) (.cons (.var 5) .nil))))
  .nil)))))))⟩
/- pattern_in: value found end -/
def m_pattern_in : Fd := ⟨1, 3, false,
  (.cons (.ifs (.not (.isin (.var 0) .str)) (.cons (.raise c_InvalidText)
  .nil) .nil)
  (.cons (.asg (.tp [1, 2]) (.call f_parsed (.cons (.var 0) (.cons (.cst (.int 0)) (.cons (.cst (.int 6)) .nil)))))
  (.cons (.ifs (.or (.not (.call f_is_good_pattern (.cons (.var 1) .nil))) (.cmp .ne (.call f_text_of (.cons (.var 1) .nil)) (.var 0))) (.cons (.raise c_InvalidText)
  .nil) .nil)
  (.cons (.ret (.var 1))
  .nil))))⟩
/- _law_written: pattern one -/
def m__law_written : Fd := ⟨1, 2, false,
  (.cons (.ifs (.isin (.var 0) .str) (.cons (.ret (.ite (.cmp .eq (.var 0) (.cst (.str []))) (.cst (.str [45])) (.var 0)))
  .nil) .nil)
  (.cons (.asg (.nm 1) (.call f__law_written (.cons (.idx (.var 0) (.cst (.int 1))) .nil)))
  (.cons (.ifs (.cmp .eq (.idx (.var 0) (.cst (.int 0))) (.cst (.str [97, 103, 97, 105, 110]))) (.cons (.ret (.bin .add (.bin .add (.cst (.str [91])) (.var 1)) (.cst (.str [93]))))
  .nil) .nil)
  (.cons (.ret (.bin .add (.bin .add (.bin .add (.bin .add (.cst (.str [40])) (.var 1)) (.ite (.cmp .eq (.idx (.var 0) (.cst (.int 0))) (.cst (.str [111, 114]))) (.cst (.str [124])) (.cst (.str [32])))) (.call f__law_written (.cons (.idx (.var 0) (.cst (.int 2))) .nil))) (.cst (.str [41]))))
  .nil))))⟩
-- BAD _law_read: Attribute
/- _law_lots: text found one rest word other last whole many -/
def m__law_lots_s0 : MS := (.whl (.and (.cmp .lt (.var 8) (.blt .len (.cons (.var 0) .nil))) (.cmp .mem (.idx (.var 0) (.var 8)) (.cst (.str [97, 98, 99])))) (.cons (.asg (.nm 8) (.bin .add (.var 8) (.cst (.int 1))))
  .nil))
def m__law_lots_s1 : MS := (.fors (.tp [5, 6]) .val (.cons (.ite (.cmp .ne (.var 4) (.cst (.str []))) (.call f__law_lots (.cons (.slcL (.var 3) (.cst (.int 1))) .nil)) (.lst .nil)) .nil) (.cons (.asg (.nm 7) (.lst (.cons (.tup (.cons (.tup (.cons (.var 4) (.cons (.var 2) (.cons (.var 5) .nil)))) (.cons (.slcL (.var 6) (.cst (.int 1))) .nil))) .nil)))
  (.cons (.asg (.nm 1) (.bin .add (.var 1) (.ite (.cmp .eq (.slcH (.var 6) (.cst (.int 1))) (.cst (.str [41]))) (.var 7) (.lst .nil))))
  .nil)))
def m__law_lots_s2 : MS := (.fors (.tp [2, 3]) .val (.cons (.call f__law_lots (.cons (.slcL (.var 0) (.cst (.int 1))) .nil)) .nil) (.cons (.asg (.nm 4) (.ite (.cmp .eq (.slcH (.var 3) (.cst (.int 1))) (.cst (.str [124]))) (.cst (.str [111, 114])) (.ite (.cmp .eq (.slcH (.var 3) (.cst (.int 1))) (.cst (.str [32]))) (.cst (.str [116, 104, 101, 110])) (.cst (.str [])))))
  (.cons m__law_lots_s1
  .nil)))
def m__law_lots_k0 : ME := (.comp (.tup (.cons (.tup (.cons (.cst (.str [97, 103, 97, 105, 110])) (.cons (.var 2) .nil))) (.cons (.slcL (.var 3) (.cst (.int 1))) .nil))) (.tp [2, 3]) .val (.cons (.var 1) .nil) (.cmp .eq (.slcH (.var 3) (.cst (.int 1))) (.cst (.str [93]))) [2, 3])
def m__law_lots : Fd := ⟨1, 9, false,
  (.cons (.ifs (.cmp .eq (.slcH (.var 0) (.cst (.int 1))) (.cst (.str [45]))) (.cons (.ret (.lst (.cons (.tup (.cons (.cst (.str [])) (.cons (.slcL (.var 0) (.cst (.int 1))) .nil))) .nil)))
  .nil) .nil)
  (.cons (.ifs (.cmp .eq (.slcH (.var 0) (.cst (.int 1))) (.cst (.str [91]))) (.cons (.asg (.nm 1) (.call f__law_lots (.cons (.slcL (.var 0) (.cst (.int 1))) .nil)))
  (.cons (.ret m__law_lots_k0)
  .nil)) .nil)
  (.cons (.ifs (.cmp .eq (.slcH (.var 0) (.cst (.int 1))) (.cst (.str [40]))) (.cons (.asg (.nm 1) (.lst .nil))
  (.cons m__law_lots_s2
  (.cons (.ret (.var 1))
  .nil))) .nil)
  (.cons (.asg (.nm 8) (.cst (.int 0)))
  (.cons m__law_lots_s0
  (.cons (.ret (.ite (.cmp .gt (.var 8) (.cst (.int 0))) (.lst (.cons (.tup (.cons (.slcH (.var 0) (.var 8)) (.cons (.slcL (.var 0) (.var 8)) .nil))) .nil)) (.lst .nil)))
  .nil))))))⟩
/- _law_deep: pattern part -/
def m__law_deep_k0 : ME := (.comp (.call f__law_deep (.cons (.var 1) .nil)) (.nm 1) .val (.cons (.slcL (.var 0) (.cst (.int 1))) .nil) (.cst (.bl true)) [1])
def m__law_deep : Fd := ⟨1, 2, false,
  (.cons (.ifs (.isin (.var 0) .str) (.cons (.ret (.cst (.int 0)))
  .nil) .nil)
  (.cons (.ret (.bin .add (.cst (.int 1)) (.blt .max1 (.cons m__law_deep_k0 .nil))))
  .nil))⟩
/- _law_short: pattern part -/
def m__law_short_k0 : ME := (.comp (.var 1) (.nm 1) .val (.cons (.slcL (.var 0) (.cst (.int 1))) .nil) (.not (.call f__law_short (.cons (.var 1) .nil))) [1])
def m__law_short : Fd := ⟨1, 2, false,
  (.cons (.ifs (.isin (.var 0) .str) (.cons (.ret (.cmp .lt (.blt .len (.cons (.var 0) .nil)) (.cst (.int 4))))
  .nil) .nil)
  (.cons (.ret (.cmp .eq m__law_short_k0 (.lst .nil)))
  .nil))⟩
-- BAD _law_then_with: statement AugAssign
-- BAD _law_others_right: <class 'ast.BitOr'>
/- is_letter: value -/
def m_is_letter : Fd := ⟨1, 1, false,
  (.cons (.ret (.and (.isin (.var 0) .str) (.and (.cmp .eq (.blt .len (.cons (.var 0) .nil)) (.cst (.int 1))) (.cmp .mem (.var 0) (.glo g_LETTERS)))))
  .nil)⟩
-- BAD _law_log_shows: method lines
-- BAD _law_turn: Attribute
-- BAD _law_deeds: method undo
-- BAD _law_fails: method attempt
-- BAD first_row: call of a local
/- need_three: free one other -/
def m_need_three : Fd := ⟨3, 3, false,
  (.cons (.expr (.call f_need_free (.cons (.var 0) .nil)))
  (.cons (.expr (.call f_need_pattern (.cons (.var 1) .nil)))
  (.cons (.expr (.call f_need_pattern (.cons (.var 2) .nil)))
  .nil)))⟩
/- alike: free one other -/
def m_alike : Fd := ⟨3, 3, false,
  (.cons (.expr (.call f_need_three (.cons (.var 0) (.cons (.var 1) (.cons (.var 2) .nil)))))
  (.cons (.ret (.cmp .eq (.call f_machine_for (.cons (.var 0) (.cons (.var 1) .nil))) (.call f_machine_for (.cons (.var 0) (.cons (.var 2) .nil)))))
  .nil))⟩
-- BAD within: lambda
-- BAD parting: lambda
/- barred_behind: free barred letter one -/
def m_barred_behind_k0 : ME := (.comp (.var 3) (.nm 3) .val (.cons (.glo g_LETTERS) .nil) (.and (.call f_are_free (.cons (.var 0) (.cons (.var 3) (.cons (.var 2) .nil)))) (.or (.cmp .mem (.var 3) (.var 1)) (.cmp .lt (.var 3) (.var 2)))) [3])
def m_barred_behind : Fd := ⟨3, 4, false,
  (.cons (.ret (.meth .join (.cst (.str [])) (.cons m_barred_behind_k0 .nil)))
  .nil)⟩
/- next_spots: free machine spot standing barred found at letter -/
def m_next_spots_s0 : MS := (.fors (.tp [6, 7]) .enum (.cons (.glo g_LETTERS) .nil) (.cons (.ifs (.cmp .nmem (.var 7) (.var 4)) (.cons (.append 5 (.tup (.cons (.var 7) (.cons (.tup (.cons (.idx (.idx (.idx (.var 1) (.cst (.int 0))) (.var 3)) (.var 6)) (.cons (.call f_barred_behind (.cons (.var 0) (.cons (.var 4) (.cons (.var 7) .nil)))) .nil))) .nil))))
  .nil) .nil)
  .nil))
def m_next_spots : Fd := ⟨3, 8, false,
  (.cons (.asg (.tp [3, 4]) (.var 2))
  (.cons (.asg (.nm 5) (.lst .nil))
  (.cons m_next_spots_s0
  (.cons (.ret (.var 5))
  .nil))))⟩
/- every_spot: free machine found line letter there -/
def m_every_spot_s0 : MS := (.fors (.tp [4, 5]) .val (.cons (.call f_next_spots (.cons (.var 0) (.cons (.var 1) (.cons (.pop 3) .nil)))) .nil) (.cons (.ifs (.cmp .nmem (.var 5) (.var 2)) (.cons (.append 2 (.var 5))
  (.cons (.append 3 (.var 5))
  .nil)) .nil)
  .nil))
def m_every_spot_s1 : MS := (.whl (.cmp .ne (.var 3) (.lst .nil)) (.cons m_every_spot_s0
  .nil))
def m_every_spot : Fd := ⟨2, 6, false,
  (.cons (.par 2 3 (.lst (.cons (.tup (.cons (.cst (.int 0)) (.cons (.cst (.str [])) .nil))) .nil)) (.lst (.cons (.tup (.cons (.cst (.int 0)) (.cons (.cst (.str [])) .nil))) .nil)))
  (.cons m_every_spot_s1
  (.cons (.ret (.var 2))
  .nil)))⟩
/- counts_for: free machine size spots found spot turn last fresh letter there -/
def m_counts_for_k0 : ME := (.comp (.idx (.var 7) (.var 10)) (.tp [9, 10]) .val (.cons (.call f_next_spots (.cons (.var 0) (.cons (.var 1) (.cons (.var 5) .nil)))) .nil) (.cst (.bl true)) [9, 10])
def m_counts_for_s0 : MS := (.fors (.nm 5) .val (.cons (.var 3) .nil) (.cons (.setidx 8 (.var 5) (.blt .sum (.cons m_counts_for_k0 .nil)))
  .nil))
def m_counts_for_s1 : MS := (.fors (.nm 6) .range1 (.cons (.var 2) .nil) (.cons (.par 7 8 (.idx (.var 4) (.neg (.cst (.int 1)))) (.dct .nil .nil))
  (.cons m_counts_for_s0
  (.cons (.append 4 (.var 8))
  .nil))))
def m_counts_for_k1 : ME := (.comp (.tup (.cons (.var 5) (.cons (.ite (.cmp .mem (.idx (.var 5) (.cst (.int 0))) (.idx (.var 1) (.cst (.int 1)))) (.cst (.int 1)) (.cst (.int 0))) .nil))) (.nm 5) .val (.cons (.var 3) .nil) (.cst (.bl true)) [5])
def m_counts_for : Fd := ⟨3, 11, false,
  (.cons (.asg (.nm 3) (.call f_every_spot (.cons (.var 0) (.cons (.var 1) .nil))))
  (.cons (.asg (.nm 4) (.lst (.cons (.blt .dict (.cons m_counts_for_k1 .nil)) .nil)))
  (.cons m_counts_for_s1
  (.cons (.ret (.var 4))
  .nil))))⟩
/- need_size: free pattern size -/
def m_need_size : Fd := ⟨3, 3, false,
  (.cons (.expr (.call f_need_free (.cons (.var 0) .nil)))
  (.cons (.expr (.call f_need_pattern (.cons (.var 1) .nil)))
  (.cons (.ifs (.not (.call f_is_number (.cons (.var 2) (.cons (.cst (.int 0)) (.cons (.cst (.int 60)) .nil))))) (.cons (.raise c_InvalidNumber)
  .nil) .nil)
  .nil)))⟩
/- count: free pattern size -/
def m_count : Fd := ⟨3, 3, false,
  (.cons (.expr (.call f_need_size (.cons (.var 0) (.cons (.var 1) (.cons (.var 2) .nil)))))
  (.cons (.ret (.idx (.idx (.call f_counts_for (.cons (.var 0) (.cons (.call f_machine_for (.cons (.var 0) (.cons (.var 1) .nil))) (.cons (.var 2) .nil)))) (.var 2)) (.tup (.cons (.cst (.int 0)) (.cons (.cst (.str [])) .nil)))))
  .nil))⟩
/- nth: free pattern size number machine counts found spot left rest goal letter there many -/
def m_nth_s0 : MS := (.fors (.tp [11, 12]) .val (.cons (.call f_next_spots (.cons (.var 0) (.cons (.var 4) (.cons (.var 7) .nil)))) .nil) (.cons (.asg (.nm 13) (.idx (.idx (.var 5) (.var 9)) (.var 12)))
  (.cons (.ifs (.and (.isn (.var 10)) (.cmp .lt (.var 8) (.var 13))) (.cons (.asg (.nm 10) (.tup (.cons (.var 11) (.cons (.var 12) .nil))))
  .nil) (.cons (.ifs (.isn (.var 10)) (.cons (.asg (.nm 8) (.bin .sub (.var 8) (.var 13)))
  .nil) .nil)
  .nil))
  .nil)))
def m_nth_s1 : MS := (.fors (.nm 9) .range3 (.cons (.bin .sub (.var 2) (.cst (.int 1))) (.cons (.neg (.cst (.int 1))) (.cons (.neg (.cst (.int 1))) .nil))) (.cons (.asg (.nm 10) (.cst .non))
  (.cons m_nth_s0
  (.cons (.asg (.tp [11, 7]) (.var 10))
  (.cons (.asg (.nm 6) (.bin .add (.var 6) (.var 11)))
  .nil)))))
def m_nth : Fd := ⟨4, 14, false,
  (.cons (.expr (.call f_need_size (.cons (.var 0) (.cons (.var 1) (.cons (.var 2) .nil)))))
  (.cons (.asg (.nm 4) (.call f_machine_for (.cons (.var 0) (.cons (.var 1) .nil))))
  (.cons (.asg (.nm 5) (.call f_counts_for (.cons (.var 0) (.cons (.var 4) (.cons (.var 2) .nil)))))
  (.cons (.ifs (.not (.call f_is_number (.cons (.var 3) (.cons (.cst (.int 0)) (.cons (.bin .sub (.idx (.idx (.var 5) (.var 2)) (.tup (.cons (.cst (.int 0)) (.cons (.cst (.str [])) .nil)))) (.cst (.int 1))) .nil))))) (.cons (.raise c_InvalidNumber)
  .nil) .nil)
  (.cons (.asg (.tp [6, 7, 8]) (.tup (.cons (.cst (.str [])) (.cons (.tup (.cons (.cst (.int 0)) (.cons (.cst (.str [])) .nil))) (.cons (.var 3) .nil)))))
  (.cons m_nth_s1
  (.cons (.ret (.var 6))
  .nil)))))))⟩
-- BAD _law_error: suite
-- BAD _law_free_calls: Lambda
-- BAD _law_pattern_calls: Lambda
-- BAD _law_other_calls: Lambda
-- BAD _law_calls_of: Lambda
-- BAD _law_full_right: suite
/- _law_rounds: one two three large -/
def m__law_rounds : Fd := ⟨0, 4, false,
  (.cons (.asg (.tp [0, 1, 2]) (.tup (.cons (.tup (.cons (.cst (.str [97, 103, 97, 105, 110])) (.cons (.cst (.str [97, 97, 97])) .nil))) (.cons (.tup (.cons (.cst (.str [97, 103, 97, 105, 110])) (.cons (.cst (.str [98, 98, 98])) .nil))) (.cons (.tup (.cons (.cst (.str [97, 103, 97, 105, 110])) (.cons (.cst (.str [99, 99, 99])) .nil))) .nil)))))
  (.cons (.asg (.nm 3) (.tup (.cons (.cst (.str [116, 104, 101, 110])) (.cons (.tup (.cons (.cst (.str [116, 104, 101, 110])) (.cons (.tup (.cons (.cst (.str [111, 114])) (.cons (.var 0) (.cons (.cst (.str [97])) .nil)))) (.cons (.var 1) .nil)))) (.cons (.var 2) .nil)))))
  (.cons (.ret (.tup (.cons (.tup (.cons (.cst (.str [116, 104, 101, 110])) (.cons (.tup (.cons (.cst (.str [116, 104, 101, 110])) (.cons (.var 0) (.cons (.var 1) .nil)))) (.cons (.var 2) .nil)))) (.cons (.var 3) .nil))))
  .nil)))⟩
-- BAD _law_limit: suite
/- _law_drift_right: many loop row found part told -/
def m__law_drift_right : Fd := ⟨1, 6, false,
  (.cons (.par 1 2 (.tup (.cons (.cst (.str [97, 103, 97, 105, 110])) (.cons (.cst (.str [97, 98])) .nil))) (.bin .add (.bin .mul (.cst (.str [97])) (.var 0)) (.bin .mul (.cst (.str [98])) (.var 0))))
  (.cons (.asg (.nm 3) (.lst (.cons (.call f_takes (.cons (.tup (.cons (.cst (.str [97, 98])) .nil)) (.cons (.var 1) (.cons (.var 2) .nil)))) .nil)))
  (.cons (.append 3 (.ite (.cmp .gt (.var 0) (.cst (.int 0))) (.not (.call f_takes (.cons (.tup (.cons (.cst (.str [97, 98])) .nil)) (.cons (.var 1) (.cons (.slcL (.var 2) (.cst (.int 1))) .nil))))) (.cst (.bl true))))
  (.cons (.append 3 (.call f_takes (.cons (.tup (.cons (.cst (.str [97, 98])) .nil)) (.cons (.var 1) (.cons (.rev (.var 2)) .nil)))))
  (.cons (.append 3 (.cmp .eq (.call f_lets (.cons (.var 1) (.cons (.var 2) .nil))) (.cmp .lt (.var 0) (.cst (.int 2)))))
  (.cons (.append 3 (.cmp .eq (.call f_drifting (.cons (.tup (.cons (.cst (.str [97, 98])) .nil)) (.cons (.var 1) .nil))) (.lst (.cons (.cst (.int 0)) .nil))))
  (.cons (.append 3 (.cmp .eq (.call f_drifting (.cons (.tup (.cons (.cst (.str [97, 99])) .nil)) (.cons (.var 1) .nil))) (.lst .nil)))
  (.cons (.asg (.nm 4) (.bin .add (.bin .mul (.cst (.str [97])) (.bin .mod (.var 0) (.cst (.int 3)))) (.cst (.str [98]))))
  (.cons (.asg (.nm 5) (.call f_drift_row (.cons (.tup (.cons (.cst (.str [97, 98])) .nil)) (.cons (.tup (.cons (.cst (.str [97, 103, 97, 105, 110])) (.cons (.var 4) .nil))) (.cons (.cst (.int 0)) .nil)))))
  (.cons (.ret (.bin .add (.var 3) (.lst (.cons (.cmp .eq (.var 5) (.ite (.cmp .gt (.bin .mod (.var 0) (.cst (.int 3))) (.cst (.int 0))) (.var 4) (.cst .non))) .nil))))
  .nil))))))))))⟩
/- _law_tied_right: many tight free found -/
def m__law_tied_right : Fd := ⟨1, 4, false,
  (.cons (.par 1 2 (.tup (.cons (.cst (.str [97, 103, 97, 105, 110])) (.cons (.cst (.str [97, 98, 99])) .nil))) (.tup (.cons (.cst (.str [97, 98])) .nil)))
  (.cons (.asg (.nm 3) (.lst (.cons (.cmp .eq (.call f_drifting (.cons (.var 2) (.cons (.var 1) .nil))) (.lst .nil)) .nil)))
  (.cons (.append 3 (.cmp .eq (.call f_count (.cons (.var 2) (.cons (.var 1) (.cons (.bin .mul (.cst (.int 3)) (.var 0)) .nil)))) (.cst (.int 1))))
  (.cons (.append 3 (.cmp .eq (.call f_count (.cons (.var 2) (.cons (.var 1) (.cons (.bin .add (.bin .mul (.cst (.int 3)) (.var 0)) (.cst (.int 1))) .nil)))) (.cst (.int 0))))
  (.cons (.append 3 (.cmp .eq (.call f_nth (.cons (.var 2) (.cons (.var 1) (.cons (.bin .mul (.cst (.int 3)) (.var 0)) (.cons (.cst (.int 0)) .nil))))) (.bin .mul (.cst (.str [97, 98, 99])) (.var 0))))
  (.cons (.append 3 (.cmp .eq (.blt .len (.cons (.idx (.call f_machine_of (.cons (.var 2) (.cons (.var 1) .nil))) (.cst (.int 0))) .nil)) (.cst (.int 5))))
  (.cons (.append 3 (.call f_takes (.cons (.var 2) (.cons (.var 1) (.cons (.cst (.str [98, 97, 99, 97, 98, 99])) .nil)))))
  (.cons (.append 3 (.not (.call f_takes (.cons (.var 2) (.cons (.var 1) (.cons (.cst (.str [97, 98, 97, 99, 98, 99])) .nil))))))
  (.cons (.append 3 (.cmp .eq (.call f_fewest_held (.cons (.tup (.cons (.cst (.str [97, 98])) (.cons (.cst (.str [97, 99])) .nil))) (.cons (.var 1) .nil))) (.lst (.cons (.tup (.cons (.cst (.str [97, 98])) .nil)) (.cons (.tup (.cons (.cst (.str [97, 99])) .nil)) .nil)))))
  (.cons (.append 3 (.isn (.call f_parting (.cons (.var 2) (.cons (.var 1) (.cons (.tup (.cons (.cst (.str [97, 103, 97, 105, 110])) (.cons (.cst (.str [98, 97, 99])) .nil))) .nil))))))
  (.cons (.ret (.bin .add (.var 3) (.lst (.cons (.cmp .eq (.call f_parting (.cons (.tup .nil) (.cons (.var 1) (.cons (.tup (.cons (.cst (.str [97, 103, 97, 105, 110])) (.cons (.cst (.str [98, 97, 99])) .nil))) .nil)))) (.cst (.str [97, 98, 99]))) .nil))))
  .nil)))))))))))⟩
/- _law_between_right: many free spread row found one -/
def m__law_between_right : Fd := ⟨1, 6, false,
  (.cons (.par 1 2 (.tup (.cons (.cst (.str [97, 98])) (.cons (.cst (.str [97, 99])) .nil))) (.tup (.cons (.cst (.str [116, 104, 101, 110])) (.cons (.tup (.cons (.cst (.str [97, 103, 97, 105, 110])) (.cons (.cst (.str [97])) .nil))) (.cons (.tup (.cons (.cst (.str [97, 103, 97, 105, 110])) (.cons (.cst (.str [98, 99])) .nil))) .nil)))))
  (.cons (.asg (.nm 3) (.bin .add (.bin .mul (.cst (.str [98, 99])) (.bin .mod (.var 0) (.cst (.int 3)))) (.bin .mul (.cst (.str [97])) (.cst (.int 2)))))
  (.cons (.asg (.nm 4) (.lst (.cons (.call f_takes (.cons (.var 1) (.cons (.var 2) (.cons (.var 3) .nil)))) .nil)))
  (.cons (.append 4 (.cmp .eq (.call f_takes (.cons (.var 1) (.cons (.var 2) (.cons (.rev (.var 3)) .nil)))) (.cmp .eq (.bin .mod (.var 0) (.cst (.int 3))) (.cst (.int 0)))))
  (.cons (.append 4 (.cmp .eq (.call f_count (.cons (.var 1) (.cons (.var 2) (.cons (.var 0) .nil)))) (.bin .add (.bin .fdiv (.var 0) (.cst (.int 2))) (.cst (.int 1)))))
  (.cons (.append 4 (.call f_alike (.cons (.var 1) (.cons (.var 2) (.cons (.tup (.cons (.cst (.str [97, 103, 97, 105, 110])) (.cons (.tup (.cons (.cst (.str [111, 114])) (.cons (.cst (.str [97])) (.cons (.cst (.str [98, 99])) .nil)))) .nil))) .nil)))))
  (.cons (.append 4 (.call f_alike (.cons (.var 1) (.cons (.var 2) (.cons (.tup (.cons (.cst (.str [116, 104, 101, 110])) (.cons (.tup (.cons (.cst (.str [97, 103, 97, 105, 110])) (.cons (.cst (.str [98, 99])) .nil))) (.cons (.tup (.cons (.cst (.str [97, 103, 97, 105, 110])) (.cons (.cst (.str [97])) .nil))) .nil)))) .nil)))))
  (.cons (.asg (.nm 5) (.tup (.cons (.cst (.str [97, 103, 97, 105, 110])) (.cons (.tup (.cons (.cst (.str [111, 114])) (.cons (.cst (.str [97, 98])) (.cons (.cst (.str [99])) .nil)))) .nil))))
  (.cons (.append 4 (.call f_takes (.cons (.tup (.cons (.cst (.str [97, 99])) .nil)) (.cons (.var 5) (.cons (.cst (.str [97, 99, 98])) .nil)))))
  (.cons (.append 4 (.not (.call f_takes (.cons (.tup .nil) (.cons (.var 5) (.cons (.cst (.str [97, 99, 98])) .nil))))))
  (.cons (.append 4 (.cmp .eq (.call f_drifting (.cons (.tup (.cons (.cst (.str [97, 99])) .nil)) (.cons (.var 5) .nil))) (.lst .nil)))
  (.cons (.append 4 (.cmp .eq (.call f_drifting (.cons (.tup (.cons (.cst (.str [98, 99])) .nil)) (.cons (.var 5) .nil))) (.lst .nil)))
  (.cons (.append 4 (.call f_takes (.cons (.tup (.cons (.cst (.str [98, 99])) .nil)) (.cons (.var 5) (.cons (.cst (.str [97, 99, 98])) .nil)))))
  (.cons (.append 4 (.cmp .eq (.call f_drifting (.cons (.tup (.cons (.cst (.str [97, 98])) .nil)) (.cons (.var 5) .nil))) (.lst (.cons (.cst (.int 0)) .nil))))
  (.cons (.append 4 (.isn (.call f_parting (.cons (.tup (.cons (.cst (.str [97, 99])) .nil)) (.cons (.var 5) (.cons (.tup (.cons (.cst (.str [97, 103, 97, 105, 110])) (.cons (.tup (.cons (.cst (.str [111, 114])) (.cons (.cst (.str [99])) (.cons (.cst (.str [97, 98])) .nil)))) .nil))) .nil))))))
  (.cons (.append 4 (.not (.call f_takes (.cons (.tup (.cons (.cst (.str [97, 99])) .nil)) (.cons (.var 5) (.cons (.cst (.str [97, 97, 99, 99, 98, 98])) .nil))))))
  (.cons (.append 4 (.call f_takes (.cons (.tup (.cons (.cst (.str [97, 99])) .nil)) (.cons (.var 5) (.cons (.cst (.str [97, 99, 99, 98])) .nil)))))
  (.cons (.ret (.bin .add (.var 4) (.lst (.cons (.call f_within (.cons (.tup .nil) (.cons (.var 5) (.cons (.tup (.cons (.cst (.str [97, 103, 97, 105, 110])) (.cons (.tup (.cons (.cst (.str [111, 114])) (.cons (.cst (.str [97])) (.cons (.tup (.cons (.cst (.str [111, 114])) (.cons (.cst (.str [98])) (.cons (.cst (.str [99])) .nil)))) .nil)))) .nil))) .nil)))) .nil))))
  .nil))))))))))))))))))⟩
/- _law_nested_right: nested found tail -/
def m__law_nested_right : Fd := ⟨0, 3, false,
  (.cons (.asg (.nm 0) (.tup (.cons (.cst (.str [97, 103, 97, 105, 110])) (.cons (.tup (.cons (.cst (.str [111, 114])) (.cons (.tup (.cons (.cst (.str [97, 103, 97, 105, 110])) (.cons (.cst (.str [97, 98])) .nil))) (.cons (.cst (.str [99])) .nil)))) .nil))))
  (.cons (.asg (.nm 1) (.lst (.cons (.cmp .eq (.call f_drifting (.cons (.tup (.cons (.cst (.str [97, 98])) .nil)) (.cons (.var 0) .nil))) (.lst (.cons (.cst (.int 0)) (.cons (.cst (.int 1)) .nil)))) .nil)))
  (.cons (.append 1 (.cmp .eq (.call f_drifting (.cons (.tup (.cons (.cst (.str [97, 99])) .nil)) (.cons (.var 0) .nil))) (.lst .nil)))
  (.cons (.append 1 (.cmp .eq (.call f_drift_row (.cons (.tup (.cons (.cst (.str [97, 98])) .nil)) (.cons (.var 0) (.cons (.cst (.int 0)) .nil)))) (.cst (.str [97, 98]))))
  (.cons (.asg (.nm 2) (.tup (.cons (.cst (.str [97, 103, 97, 105, 110])) (.cons (.tup (.cons (.cst (.str [116, 104, 101, 110])) (.cons (.tup (.cons (.cst (.str [97, 103, 97, 105, 110])) (.cons (.cst (.str [97])) .nil))) (.cons (.cst (.str [98])) .nil)))) .nil))))
  (.cons (.append 1 (.cmp .eq (.call f_drifting (.cons (.tup (.cons (.cst (.str [97, 98])) .nil)) (.cons (.var 2) .nil))) (.lst (.cons (.cst (.int 0)) .nil))))
  (.cons (.append 1 (.cmp .eq (.call f_drifting (.cons (.tup (.cons (.cst (.str [97, 99])) .nil)) (.cons (.var 2) .nil))) (.lst .nil)))
  (.cons (.append 1 (.cmp .eq (.call f_drift_row (.cons (.tup (.cons (.cst (.str [97, 98])) .nil)) (.cons (.var 2) (.cons (.cst (.int 0)) .nil)))) (.cst (.str [97, 98]))))
  (.cons (.append 1 (.isn (.call f_drift_row (.cons (.tup (.cons (.cst (.str [97, 98])) .nil)) (.cons (.var 2) (.cons (.cst (.int 1)) .nil))))))
  (.cons (.append 1 (.cmp .eq (.call f_fewest_held (.cons (.tup (.cons (.cst (.str [97, 98])) (.cons (.cst (.str [97, 99])) (.cons (.cst (.str [98, 99])) .nil)))) (.cons (.var 0) .nil))) (.lst (.cons (.tup (.cons (.cst (.str [97, 98])) .nil)) .nil))))
  (.cons (.append 1 (.cmp .eq (.call f_first_same (.cons (.tup (.cons (.cst (.str [97, 98])) (.cons (.cst (.str [97, 99])) .nil))) (.cons (.cst (.str [98, 99, 97, 97])) .nil))) (.cst (.str [97, 97, 98, 99]))))
  (.cons (.append 1 (.cmp .eq (.call f_first_same (.cons (.tup (.cons (.cst (.str [97, 99])) .nil)) (.cons (.cst (.str [99, 97, 98])) .nil))) (.cst (.str [97, 99, 98]))))
  (.cons (.append 1 (.cmp .eq (.call f_first_same (.cons (.tup (.cons (.cst (.str [97, 99])) (.cons (.cst (.str [98, 99])) .nil))) (.cons (.cst (.str [99, 97, 98])) .nil))) (.cst (.str [97, 98, 99]))))
  (.cons (.append 1 (.cmp .eq (.call f_layers (.cons (.tup (.cons (.cst (.str [97, 99])) .nil)) (.cons (.cst (.str [99, 97, 98])) .nil))) (.lst (.cons (.cst (.str [97, 99])) (.cons (.cst (.str [98])) .nil)))))
  (.cons (.append 1 (.cmp .eq (.call f_layers (.cons (.tup (.cons (.cst (.str [97, 98])) .nil)) (.cons (.cst (.str [97, 97, 98])) .nil))) (.lst (.cons (.cst (.str [97, 98])) (.cons (.cst (.str [97])) .nil)))))
  (.cons (.append 1 (.cmp .eq (.call f_count_same (.cons (.tup (.cons (.cst (.str [97, 98])) (.cons (.cst (.str [98, 99])) .nil))) (.cons (.cst (.str [97, 98, 99, 98])) .nil))) (.cst (.int 6))))
  (.cons (.ret (.bin .add (.var 1) (.lst (.cons (.cmp .eq (.call f_count_same (.cons (.tup (.cons (.cst (.str [97, 99])) .nil)) (.cons (.cst (.str [97, 98, 99])) .nil))) (.cst (.int 1))) .nil))))
  .nil)))))))))))))))))⟩
/- _law_patterns_right: one two three again both_so loop tight spread nested found -/
def m__law_patterns_right : Fd := ⟨0, 10, false,
  (.cons (.asg (.tp [0, 1, 2]) (.tup (.cons (.tup (.cons (.cst (.str [97, 98])) .nil)) (.cons (.tup (.cons (.cst (.str [97, 98])) (.cons (.cst (.str [97, 99])) .nil))) (.cons (.tup (.cons (.cst (.str [97, 98])) (.cons (.cst (.str [97, 99])) (.cons (.cst (.str [98, 99])) .nil)))) .nil)))))
  (.cons (.asg (.tp [3, 4, 5, 6, 7, 8]) (.call f__law_known .nil))
  (.cons (.asg (.nm 9) (.lst .nil))
  (.cons (.append 9 (.call f_lets (.cons (.var 5) (.cons (.cst (.str [97, 98, 97, 98])) .nil))))
  (.cons (.append 9 (.not (.call f_lets (.cons (.var 5) (.cons (.cst (.str [97, 97, 98, 98])) .nil)))))
  (.cons (.append 9 (.call f_lets (.cons (.var 5) (.cons (.cst (.str [])) .nil))))
  (.cons (.append 9 (.not (.call f_lets (.cons (.var 4) (.cons (.cst (.str [98, 97])) .nil)))))
  (.cons (.append 9 (.call f_takes (.cons (.var 0) (.cons (.var 5) (.cons (.cst (.str [97, 97, 98, 98])) .nil)))))
  (.cons (.append 9 (.not (.call f_takes (.cons (.var 0) (.cons (.var 5) (.cons (.cst (.str [97, 97, 98])) .nil))))))
  (.cons (.append 9 (.not (.call f_takes (.cons (.tup .nil) (.cons (.var 5) (.cons (.cst (.str [97, 97, 98, 98])) .nil))))))
  (.cons (.append 9 (.call f_takes (.cons (.var 0) (.cons (.var 4) (.cons (.cst (.str [98, 97])) .nil)))))
  (.cons (.append 9 (.call f_takes (.cons (.var 1) (.cons (.var 7) (.cons (.cst (.str [98, 97, 99])) .nil)))))
  (.cons (.append 9 (.call f_takes (.cons (.var 0) (.cons (.var 6) (.cons (.cst (.str [98, 97, 99, 97, 98, 99])) .nil)))))
  (.cons (.append 9 (.not (.call f_hangs (.cons (.var 0) (.cons (.cst (.str [97, 98])) .nil)))))
  (.cons (.append 9 (.call f_hangs (.cons (.var 0) (.cons (.cst (.str [97, 98, 99])) .nil))))
  (.cons (.append 9 (.call f_hangs (.cons (.var 0) (.cons (.cst (.str [97, 97])) .nil))))
  (.cons (.append 9 (.not (.call f_hangs (.cons (.var 1) (.cons (.cst (.str [97, 98, 99])) .nil)))))
  (.cons (.append 9 (.call f_hangs (.cons (.var 2) (.cons (.cst (.str [])) .nil))))
  (.cons (.ret (.bin .add (.var 9) (.lst (.cons (.cmp .eq (.call f_loops (.cons (.var 8) .nil)) (.lst (.cons (.var 8) (.cons (.var 5) .nil)))) (.cons (.cmp .eq (.call f_loops (.cons (.cst (.str [97, 98])) .nil)) (.lst .nil)) .nil)))))
  .nil)))))))))))))))))))⟩
-- BAD _law_fourth_right: Attribute
end Ev

/-! E35: rules for the evaluator: comprehensions, loops, calls. -/
namespace Ev.Pl
/-- a turn of a comprehension: what it gives, if anything -/
def turn (C : EC) (own : List Nat) (tg : Tgt) (cond elt : ME) (ρ : Env) (d : D) : Out (Option D) := match setT C tg d ρ with
  | none => .no
  | some ρ1 => ((ev C cond ρ1).bind asB).bind fun b ρ2 => if b then ((ev C elt ρ2).bind (frz C)).bind fun x ρ3 => .ok (some x) (wipeE ρ3 own) else .ok none (wipeE ρ2 own)
def Turn (C : EC) (own : List Nat) (tg : Tgt) (cond elt : ME) (ρ : Env) (d : D) (r : Option D) : Prop := turn C own tg cond elt ρ d = .ok r ρ
theorem compLoop_ok {C : EC} {own : List Nat} {tg : Tgt} {cond elt : ME} {ρ : Env} {g : D → Option D} : ∀ {l : List D} {acc : List D}, (∀ d ∈ l, Turn C own tg cond elt ρ d (g d)) → compLoop C own tg (fun ρ => (ev C cond ρ).bind asB) (fun ρ => (ev C elt ρ).bind (frz C)) l ρ acc = .ok (acc.reverse ++ l.filterMap g) ρ
  | [], acc, _ => by simp [compLoop]
  | d :: l, acc, h => by
    have hd := h d (List.mem_cons_self ..)
    have ih := fun acc => compLoop_ok (acc := acc) (fun x hx => h x (List.mem_cons_of_mem _ hx))
    unfold compLoop
    unfold Turn turn at hd
    cases e1 : setT C tg d ρ with
    | none => rw [e1] at hd; cases hd
    | some ρ1 =>
      rw [e1] at hd
      have hd : (((ev C cond ρ1).bind asB).bind fun b ρ2 => if b then ((ev C elt ρ2).bind (frz C)).bind fun x ρ3 => .ok (some x) (wipeE ρ3 own) else .ok none (wipeE ρ2 own)) = Out.ok (g d) ρ := hd
      show (((ev C cond ρ1).bind asB).bind fun b ρ2 => if b then ((ev C elt ρ2).bind (frz C)).bind fun x ρ3 => compLoop C own tg (fun ρ => (ev C cond ρ).bind asB) (fun ρ => (ev C elt ρ).bind (frz C)) l (wipeE ρ3 own) (x :: acc) else compLoop C own tg (fun ρ => (ev C cond ρ).bind asB) (fun ρ => (ev C elt ρ).bind (frz C)) l (wipeE ρ2 own) acc) = _
      cases e2 : (ev C cond ρ1).bind asB with
      | no => rw [e2] at hd; exact nomatch (show (Out.no : Out (Option D)) = Out.ok (g d) ρ from hd)
      | ex x r => rw [e2] at hd; exact nomatch (show (Out.ex x r : Out (Option D)) = Out.ok (g d) ρ from hd)
      | ok b ρ2 =>
        rw [e2] at hd
        cases b with
        | false =>
          have hd : Out.ok none (wipeE ρ2 own) = Out.ok (g d) ρ := hd
          injection hd with h1 h2
          show compLoop C own tg (fun ρ => (ev C cond ρ).bind asB) (fun ρ => (ev C elt ρ).bind (frz C)) l (wipeE ρ2 own) acc = _
          rw [h2, ih, List.filterMap_cons, ← h1]
        | true =>
          have hd : (((ev C elt ρ2).bind (frz C)).bind fun x ρ3 => Out.ok (some x) (wipeE ρ3 own)) = Out.ok (g d) ρ := hd
          show (((ev C elt ρ2).bind (frz C)).bind fun x ρ3 => compLoop C own tg (fun ρ => (ev C cond ρ).bind asB) (fun ρ => (ev C elt ρ).bind (frz C)) l (wipeE ρ3 own) (x :: acc)) = _
          cases e3 : (ev C elt ρ2).bind (frz C) with
          | no => rw [e3] at hd; exact nomatch (show (Out.no : Out (Option D)) = Out.ok (g d) ρ from hd)
          | ex x r => rw [e3] at hd; exact nomatch (show (Out.ex x r : Out (Option D)) = Out.ok (g d) ρ from hd)
          | ok x ρ3 =>
            rw [e3] at hd
            have hd : Out.ok (some x) (wipeE ρ3 own) = Out.ok (g d) ρ := hd
            injection hd with h1 h2
            show compLoop C own tg (fun ρ => (ev C cond ρ).bind asB) (fun ρ => (ev C elt ρ).bind (frz C)) l (wipeE ρ3 own) (x :: acc) = _
            rw [h2, ih, List.filterMap_cons, ← h1]
            simp
theorem ev_comp {C : EC} {own : List Nat} {tg : Tgt} {k : IK} {its : MEs} {cond elt : ME} {ρ ρ1 : Env} {ds l : List D} (g : D → Option D) (h0 : evs C its ρ = .ok ds ρ1) (h1 : walkOf k ds = some l) (h2 : ∀ d ∈ l, Turn C own tg cond elt (wipeE ρ1 own) d (g d)) :
    ev C (.comp elt tg k its cond own) ρ = .ok (.fr (.lst (l.filterMap g))) (backE ρ1 (wipeE ρ1 own) own) := by
  have := compLoop_ok (acc := []) h2
  unfold ev
  rw [h0]
  show (match walkOf k ds with
    | some l => _
    | none => _) = _
  rw [h1]
  show (noEx (compLoop C own tg (fun ρ => (ev C cond ρ).bind asB) (fun ρ => (ev C elt ρ).bind (frz C)) l (wipeE ρ1 own) [])).bind _ = _
  rw [this]
  rfl
/-- a for whose body runs to its end at each turn: an invariant of the slots -/
theorem forLoop_ok {C : EC} {t : Tgt} {body : Env → OS} (I : List D → Env → Prop) : ∀ {l : List D} {ρ : Env}, I l ρ → (∀ d l ρ, I (d :: l) ρ → ∃ ρ1 ρ2, setT C t d ρ = some ρ1 ∧ body ρ1 = .nx ρ2 ∧ I l ρ2) → ∃ ρ', forLoop C t body l ρ = .nx ρ' ∧ I [] ρ'
  | [], ρ, h, _ => ⟨ρ, rfl, h⟩
  | d :: l, ρ, h, st => by
    obtain ⟨ρ1, ρ2, h1, h2, h3⟩ := st d l ρ h
    obtain ⟨ρ', e, q⟩ := forLoop_ok I h3 st
    refine ⟨ρ', ?_, q⟩
    unfold forLoop
    simp only [h1, h2]
    exact e
/-- f at level k and above: what it makes of ds -/
def Cal (T : Nat → EC) (k f : Nat) (ds : List D) (r : FR) : Prop := ∀ j, k ≤ j → ∃ run, (T j).Φ f = some ⟨false, run⟩ ∧ run ds = r
def On (T : Nat → EC) (fuel f : Nat) (m : Fd) : Prop := m.mu = false ∧ ∀ j, (T (j + 1)).Φ f = some ⟨m.mu, m.run (T j) fuel⟩
theorem Cal.of {T : Nat → EC} {fuel f k : Nat} {m : Fd} {ds : List D} {r : FR} (o : On T fuel f m) (h : ∀ j, k ≤ j → m.run (T j) fuel ds = r) : Cal T (k + 1) f ds r := fun j hj => by
  obtain ⟨j', rfl⟩ : ∃ j', j = j' + 1 := ⟨j - 1, by omega⟩
  exact ⟨_, by rw [o.2 j', o.1], h j' (by omega)⟩
def frO (r : FR) (ρ : Env) : Out VR := match r with
  | .ok f d _ => .ok (if f then .fr d else .im d) ρ
  | .ex x _ => .ex x ρ
  | .no => .no
theorem ev_call {T : Nat → EC} {k f j : Nat} {ds : List D} {r : FR} {as : MEs} {ρ ρ1 : Env} (c : Cal T k f ds r) (hj : k ≤ j) (h : evs { T j with lk := false } as ρ = .ok ds ρ1) : ev { T j with lk := false } (.call f as) ρ = frO r ρ1 := by
  obtain ⟨run, e1, e2⟩ := c j hj
  simp only [ev, e1, h, Out.bind, callF, Bool.false_eq_true, if_false, e2, frO]
  all_goals (cases r <;> rfl)
end Ev.Pl

/-! E35b: rules for simp. -/
namespace Ev.Pl
theorem g0 {α : Type} {a b : α} : (if ([] : List D).length ≤ szL then a else b) = a := if_pos (by decide)
theorem g1 {α : Type} {x : D} {a b : α} : (if ([x] : List D).length ≤ szL then a else b) = a := if_pos (by show (1 : Nat) ≤ szL; decide)
theorem g2 {α : Type} {x y : D} {a b : α} : (if ([x, y] : List D).length ≤ szL then a else b) = a := if_pos (by show (2 : Nat) ≤ szL; decide)
theorem g3 {α : Type} {x y z : D} {a b : α} : (if ([x, y, z] : List D).length ≤ szL then a else b) = a := if_pos (by show (3 : Nat) ≤ szL; decide)
theorem g4 {α : Type} {x0 x1 x2 x3 : D} {a b : α} : (if ([x0, x1, x2, x3] : List D).length ≤ szL then a else b) = a := if_pos (by show (4 : Nat) ≤ szL; decide)
theorem g5 {α : Type} {x0 x1 x2 x3 x4 : D} {a b : α} : (if ([x0, x1, x2, x3, x4] : List D).length ≤ szL then a else b) = a := if_pos (by show (5 : Nat) ≤ szL; decide)
theorem g6 {α : Type} {x0 x1 x2 x3 x4 x5 : D} {a b : α} : (if ([x0, x1, x2, x3, x4, x5] : List D).length ≤ szL then a else b) = a := if_pos (by show (6 : Nat) ≤ szL; decide)
theorem g7 {α : Type} {x0 x1 x2 x3 x4 x5 x6 : D} {a b : α} : (if ([x0, x1, x2, x3, x4, x5, x6] : List D).length ≤ szL then a else b) = a := if_pos (by show (7 : Nat) ≤ szL; decide)
theorem g8 {α : Type} {x0 x1 x2 x3 x4 x5 x6 x7 : D} {a b : α} : (if ([x0, x1, x2, x3, x4, x5, x6, x7] : List D).length ≤ szL then a else b) = a := if_pos (by show (8 : Nat) ≤ szL; decide)
theorem g9 {α : Type} {x0 x1 x2 x3 x4 x5 x6 x7 x8 : D} {a b : α} : (if ([x0, x1, x2, x3, x4, x5, x6, x7, x8] : List D).length ≤ szL then a else b) = a := if_pos (by show (9 : Nat) ≤ szL; decide)
theorem g10 {α : Type} {x0 x1 x2 x3 x4 x5 x6 x7 x8 x9 : D} {a b : α} : (if ([x0, x1, x2, x3, x4, x5, x6, x7, x8, x9] : List D).length ≤ szL then a else b) = a := if_pos (by show (10 : Nat) ≤ szL; decide)
theorem g11 {α : Type} {x0 x1 x2 x3 x4 x5 x6 x7 x8 x9 x10 : D} {a b : α} : (if ([x0, x1, x2, x3, x4, x5, x6, x7, x8, x9, x10] : List D).length ≤ szL then a else b) = a := if_pos (by show (11 : Nat) ≤ szL; decide)
theorem g12 {α : Type} {x0 x1 x2 x3 x4 x5 x6 x7 x8 x9 x10 x11 : D} {a b : α} : (if ([x0, x1, x2, x3, x4, x5, x6, x7, x8, x9, x10, x11] : List D).length ≤ szL then a else b) = a := if_pos (by show (12 : Nat) ≤ szL; decide)
theorem g13 {α : Type} {x0 x1 x2 x3 x4 x5 x6 x7 x8 x9 x10 x11 x12 : D} {a b : α} : (if ([x0, x1, x2, x3, x4, x5, x6, x7, x8, x9, x10, x11, x12] : List D).length ≤ szL then a else b) = a := if_pos (by show (13 : Nat) ≤ szL; decide)
theorem g14 {α : Type} {x0 x1 x2 x3 x4 x5 x6 x7 x8 x9 x10 x11 x12 x13 : D} {a b : α} : (if ([x0, x1, x2, x3, x4, x5, x6, x7, x8, x9, x10, x11, x12, x13] : List D).length ≤ szL then a else b) = a := if_pos (by show (14 : Nat) ≤ szL; decide)
theorem g15 {α : Type} {x0 x1 x2 x3 x4 x5 x6 x7 x8 x9 x10 x11 x12 x13 x14 : D} {a b : α} : (if ([x0, x1, x2, x3, x4, x5, x6, x7, x8, x9, x10, x11, x12, x13, x14] : List D).length ≤ szL then a else b) = a := if_pos (by show (15 : Nat) ≤ szL; decide)
theorem g16 {α : Type} {x0 x1 x2 x3 x4 x5 x6 x7 x8 x9 x10 x11 x12 x13 x14 x15 : D} {a b : α} : (if ([x0, x1, x2, x3, x4, x5, x6, x7, x8, x9, x10, x11, x12, x13, x14, x15] : List D).length ≤ szL then a else b) = a := if_pos (by show (16 : Nat) ≤ szL; decide)
theorem g17 {α : Type} {x0 x1 x2 x3 x4 x5 x6 x7 x8 x9 x10 x11 x12 x13 x14 x15 x16 : D} {a b : α} : (if ([x0, x1, x2, x3, x4, x5, x6, x7, x8, x9, x10, x11, x12, x13, x14, x15, x16] : List D).length ≤ szL then a else b) = a := if_pos (by show (17 : Nat) ≤ szL; decide)
theorem g18 {α : Type} {x0 x1 x2 x3 x4 x5 x6 x7 x8 x9 x10 x11 x12 x13 x14 x15 x16 x17 : D} {a b : α} : (if ([x0, x1, x2, x3, x4, x5, x6, x7, x8, x9, x10, x11, x12, x13, x14, x15, x16, x17] : List D).length ≤ szL then a else b) = a := if_pos (by show (18 : Nat) ≤ szL; decide)
theorem g19 {α : Type} {x0 x1 x2 x3 x4 x5 x6 x7 x8 x9 x10 x11 x12 x13 x14 x15 x16 x17 x18 : D} {a b : α} : (if ([x0, x1, x2, x3, x4, x5, x6, x7, x8, x9, x10, x11, x12, x13, x14, x15, x16, x17, x18] : List D).length ≤ szL then a else b) = a := if_pos (by show (19 : Nat) ≤ szL; decide)
theorem g20 {α : Type} {x0 x1 x2 x3 x4 x5 x6 x7 x8 x9 x10 x11 x12 x13 x14 x15 x16 x17 x18 x19 : D} {a b : α} : (if ([x0, x1, x2, x3, x4, x5, x6, x7, x8, x9, x10, x11, x12, x13, x14, x15, x16, x17, x18, x19] : List D).length ≤ szL then a else b) = a := if_pos (by show (20 : Nat) ≤ szL; decide)
theorem bop_add_int (i j : Int) : bop .add (.int i) (.int j) = some (.im (.int (i + j))) := rfl
theorem bop_sub_int (i j : Int) : bop .sub (.int i) (.int j) = some (.im (.int (i - j))) := rfl
theorem bop_add_str {s t : List Nat} (h : s.length + t.length ≤ szL) : bop .add (.str s) (.str t) = some (.im (.str (s ++ t))) := if_pos h
theorem bop_add_lst {s t : List D} (h : s.length + t.length ≤ szL) : bop .add (.lst s) (.lst t) = some (.fr (.lst (s ++ t))) := if_pos h
theorem bop_add_tup {s t : List D} (h : s.length + t.length ≤ szL) : bop .add (.tup s) (.tup t) = some (.im (.tup (s ++ t))) := if_pos h
def inL (ρ : Env) (i : Nat) : Bool := decide (i < ρ.length)
theorem wr_un (C : EC) (ρ : Env) (i : Nat) : wr { C with lk := false } ρ i = inL ρ i := rfl
theorem wr_lk (C : EC) (ρ : Env) (i : Nat) : wr { C with lk := true } ρ (i + 1) = inL ρ (i + 1) := rfl
theorem inL0 (x : Option SV) (ρ : Env) : inL (x :: ρ) 0 = true := by simp [inL]
theorem inLs (x : Option SV) (ρ : Env) (i : Nat) : inL (x :: ρ) (i + 1) = inL ρ i := by simp [inL]
theorem lenAdd1 (a : D) (l : List D) (h : l.length + 1 ≤ szL) : ([a] : List D).length + l.length ≤ szL := by rw [List.length_singleton, Nat.add_comm]; exact h
theorem lenAdd2 (a : D) (l : List D) (h : l.length + 1 ≤ szL) : l.length + ([a] : List D).length ≤ szL := h
end Ev.Pl

/-! E36: is_tuple, is_row, are_free, need_free, need_row. -/
namespace Ev.Pl
abbrev _root_.Ev.EC.un (C : EC) : EC := { C with lk := false }
theorem ev_chars {C : EC} {own : List Nat} {tg : Tgt} {its : MEs} {cond elt : ME} {ρ ρ1 : Env} {s : List Nat} (g : Nat → Option D) (h0 : evs C its ρ = .ok [.str s] ρ1) (h2 : ∀ c ∈ s, Turn C own tg cond elt (wipeE ρ1 own) (.str [c]) (g c)) :
    ev C (.comp elt tg .val its cond own) ρ = .ok (.fr (.lst (s.filterMap g))) (backE ρ1 (wipeE ρ1 own) own) := by
  have := ev_comp (k := .val) (g := fun d => match d with | .str [c] => g c | _ => none) h0 (l := chars s) rfl (fun d hd => by
    obtain ⟨c, hc, rfl⟩ := List.mem_map.mp hd
    exact h2 c hc)
  rw [this]
  have : List.filterMap (fun d => match d with | .str [c] => g c | _ => none) (chars s) = s.filterMap g := by
    unfold chars
    rw [List.filterMap_map]
    rfl
  rw [this]
def abc : List Nat := [97, 98, 99]
def inAbc (c : Nat) : Bool := abc.contains c
structure Gam (C : EC) : Prop where
  letters : C.Γ g_LETTERS = some (.str abc)
  pairs : C.Γ g_PAIRS = some (.ktp [.str [97, 98], .str [97, 99], .str [98, 99]])
theorem boolsO_mapF {α : Type} {f : α → Bool} : ∀ {l : List α}, boolsO (l.map fun x => .bl (f x)) = some (l.map f)
  | [] => rfl
  | x :: l => by simp [boolsO, boolsO_mapF (l := l)]
theorem allB_mapF {α : Type} {f : α → Bool} : ∀ {l : List α}, allB (l.map f) = l.all f
  | [] => rfl
  | x :: l => by simp [allB, allB_mapF (l := l)]
theorem is_row_k0 {C : EC} (G : Gam C) (s : List Nat) (m : D) : ev C.un m_is_row_k0 [some (.fz (.str s)), some (.fz m), none] = .ok (.fr (.lst (s.map fun c => .bl (inAbc c)))) [some (.fz (.str s)), some (.fz m), none] := by
  refine (ev_chars (g := fun c => some (.bl (inAbc c))) (s := s) rfl fun c hc => ?_).trans ?_
  · simp only [Turn, turn, setT, setNm, wr, ev, G.letters, D.isDic, Bool.false_eq_true, if_false, List.set, List.getElem?_cons_zero, List.getElem?_cons_succ, wipeE, slotAt, Option.getD, Out.bind, VR.look, cop, isIn, boolO, frz]
    rfl
  · simp [List.filterMap_eq_map]
    rfl
def isRow (s : List Nat) (m : Int) : Bool := decide ((s.length : Int) ≤ m) && s.all inAbc
theorem is_row_str {C : EC} (G : Gam C) (fuel : Nat) (s : List Nat) (m : Int) : m_is_row.run C fuel [.str s, .int m] = .ok false (.bl (isRow s m)) .non := by
  have k := is_row_k0 G s (.int m)
  simp only [Fd.run, m_is_row, initE, exs, ex, ev, evl, Out.bind, slotAt, List.length, if_true, List.map, List.cons_append, List.nil_append, List.replicate, List.getElem?_cons_zero, List.getElem?_cons_succ, Option.getD, D.flat1, tyIs, asB, VR.look, looks, Option.bind, Option.map, bfn, D.len, ofO, cop, boolO, isRow]
  simp only [EC.un] at k
  by_cases h : (s.length : Int) ≤ m
  · simp [h, k, asB, looks, VR.look, bfn, boolsO_mapF, allB_mapF, ofO, Out.then, finR, finV]
  · simp [h, asB, Out.then, finR, finV]
end Ev.Pl

/-! E37: are_free, need_row. -/
namespace Ev.Pl
abbrev dS (F : List (List Nat)) : List D := F.map .str
theorem nods_strs : ∀ F : List (List Nat), D.nods (dS F) = true
  | [] => rfl
  | x :: F => by simp [dS, D.nods, D.nod]; exact nods_strs F
theorem memD_strs (s : List Nat) : ∀ F : List (List Nat), memD (.str s) (dS F) = F.contains s
  | [] => rfl
  | x :: F => by
    show (D.eqv (.str x) (.str s) || memD (.str s) (dS F)) = _
    rw [memD_strs s F, List.contains_cons]
    show ((x == s) || _) = _
    rw [BEq.comm]
def fre (F : List (List Nat)) (a b : Nat) : Bool := F.contains [a, b] || F.contains [b, a]
theorem isIn_tup (s : List Nat) (F : List (List Nat)) : isIn (.str s) (.tup (dS F)) = some (F.contains s) := by
  simp [isIn, nods_strs, D.nod, D.dep, memD_strs]
theorem are_free_ok (C : EC) (fuel : Nat) (F : List (List Nat)) (a b : Nat) : m_are_free.run C fuel [.tup (dS F), .str [a], .str [b]] = .ok false (.bl (fre F a b)) .non := by
  have e1 := isIn_tup [a, b] F
  have e2 := isIn_tup [b, a] F
  have z : (2 : Nat) ≤ szL := by decide
  simp only [m_are_free, Fd.run, initE, exs, ex, ev, evs, evl, Out.bind, Out.then, slotAt, List.length_cons, List.length_nil, Nat.reduceAdd, if_true, List.map, List.cons_append, List.nil_append, List.replicate, List.getElem?_cons_zero, List.getElem?_cons_succ, Option.getD, D.flat1, tyIs, asB, VR.look, looks, Option.bind, Option.map, bfn, D.len, ofO, cop, boolO, bop, finR, finV, frz, ownAt, anyAt, setV, setT, setNm, wr, List.set, Bool.false_eq_true, if_false, if_pos z, e1, e2, fre]
  cases F.contains [a, b] <;> simp [e2, boolO]
theorem need_row_ok {T : Nat → EC} {k fuel : Nat} {s : List Nat} {m : Int} {b : Bool} (c : Cal T k f_is_row [.str s, .int m] (.ok false (.bl b) .non)) {j : Nat} (hj : k ≤ j) : m_need_row.run (T j) fuel [.str s, .int m] = if b then .ok false .non .non else .ex ⟨c_InvalidRow, .non⟩ .non := by
  obtain ⟨run, e1, e2⟩ := c j hj
  simp only [m_need_row, Fd.run, initE, exs, ex, ev, evs, evl, Out.bind, Out.then, slotAt, List.length_cons, List.length_nil, Nat.reduceAdd, if_true, List.map, List.cons_append, List.nil_append, List.replicate, List.getElem?_cons_zero, List.getElem?_cons_succ, Option.getD, D.flat1, tyIs, asB, VR.look, looks, Option.bind, Option.map, bfn, D.len, ofO, cop, boolO, bop, finR, finV, frz, ownAt, anyAt, setV, setT, setNm, wr, List.set, Bool.false_eq_true, if_false, e1, callF, e2]
  cases b <;> simp
end Ev.Pl

/-! E38: levels_of. -/
namespace Ev.Pl
abbrev dI (l : List Int) : List D := l.map .int
theorem ev_range {C : EC} {own : List Nat} {tg : Tgt} {its : MEs} {cond elt : ME} {ρ ρ1 : Env} {n : Nat} (g : Nat → Option D) (hn : n ≤ szL) (h0 : evs C its ρ = .ok [.int n] ρ1) (h2 : ∀ i, i < n → Turn C own tg cond elt (wipeE ρ1 own) (.int i) (g i)) :
    ev C (.comp elt tg .range1 its cond own) ρ = .ok (.fr (.lst ((List.range n).filterMap g))) (backE ρ1 (wipeE ρ1 own) own) := by
  have nf : ∀ (m a : Nat), natsFrom (a : Int) m = (List.range m).map fun i : Nat => D.int ((a + i : Nat) : Int) := by
    intro m
    induction m with
    | zero => intro a; rfl
    | succ m ih =>
      intro a
      rw [List.range_succ_eq_map, List.map_cons, List.map_map]
      show D.int a :: natsFrom ((a : Int) + 1) m = _
      have : ((a : Int) + 1) = ((a + 1 : Nat) : Int) := by omega
      rw [this, ih (a + 1)]
      congr 1
      apply List.map_congr_left
      intro i _
      simp only [Function.comp]
      congr 2
      omega
  have w : walkOf .range1 [.int (n : Int)] = some ((List.range n).map fun i : Nat => D.int (i : Int)) := by
    have h1 : (small62 (n : Int) && leSz (n : Int)) = true := by
      have : (n : Int) ≤ 16777216 := by have : n ≤ 16777216 := hn; omega
      simp only [small62, leSz, Bool.and_eq_true, Nat.blt_eq, Nat.ble_eq, szL]
      refine ⟨by omega, by omega⟩
    show (if small62 (n : Int) && leSz (n : Int) then some (natsFrom 0 (n : Int).toNat) else none) = _
    rw [if_pos h1]
    have := nf n 0
    simp at this
    simp [this]
  have := ev_comp (k := .range1) (elt := elt) (cond := cond) (tg := tg) (own := own) (g := fun d => match d with | .int i => g i.toNat | _ => none) h0 w (fun d hd => by
    obtain ⟨i, hi, rfl⟩ := List.mem_map.mp hd
    have := h2 i (List.mem_range.mp hi)
    simpa using this)
  rw [this, List.filterMap_map]
  rfl
end Ev.Pl

/-! E39: levels_of. -/
namespace Ev.Pl
theorem atI_nat {α : Type} {xs : List α} {i : Nat} {d : α} (h : i < xs.length) : atI xs (i : Int) = some (xs.getD i d) := by
  have h1 : (0 : Int) ≤ (i : Int) := by omega
  have h2 : ((i : Int) : Int) < (xs.length : Int) := by omega
  simp [atI, ixN, h2, h]
theorem idx_str {s : List Nat} {i : Nat} (h : i < s.length) : idxD (.str s) (.int (i : Int)) = some (.str [s.getD i 0]) := by
  show (atI s (i : Int)).map (fun c => D.str [c]) = _
  rw [atI_nat (d := 0) h]; rfl
theorem idx_ints {l : List Int} {i : Nat} (h : i < l.length) : idxD (.lst (dI l)) (.int (i : Int)) = some (.int (l.getD i 0)) := by
  show atI (dI l) (i : Int) = _
  rw [atI_nat (d := .non) (by simpa using h)]
  simp [List.getD_eq_getElem?_getD, h]
/-- are_free is known from level k on -/
def CFree (T : Nat → EC) (k : Nat) : Prop := ∀ (F : List (List Nat)) (a b : Nat), Cal T k f_are_free [.tup (dS F), .str [a], .str [b]] (.ok false (.bl (fre F a b)) .non)
def ahead (F : List (List Nat)) (row : List Nat) (found : List Int) (at_ c : Nat) : List Int := (List.range at_).filterMap fun i => if fre F (row.getD i 0) c then none else some (found.getD i 0 + 1)
theorem levels_k0 {T : Nat → EC} {k j : Nat} (cf : CFree T k) (hj : k ≤ j) (F : List (List Nat)) (row : List Nat) (found : List Int) (at_ c : Nat) (x5 : Option SV) (h1 : at_ ≤ row.length) (h2 : at_ = found.length) (h3 : row.length ≤ szL) :
    ev (T j).un m_levels_of_k0 [some (.fz (.tup (dS F))), some (.fz (.str row)), some (.ow (.lst (dI found))), some (.fz (.int at_)), some (.fz (.str [c])), x5, none]
     = .ok (.fr (.lst (dI (ahead F row found at_ c)))) [some (.fz (.tup (dS F))), some (.fz (.str row)), some (.ow (.lst (dI found))), some (.fz (.int at_)), some (.fz (.str [c])), x5, none] := by
  refine (ev_range (n := at_) (g := fun i => if fre F (row.getD i 0) c then none else some (.int (found.getD i 0 + 1))) (Nat.le_trans h1 h3) rfl fun i hi => ?_).trans ?_
  · obtain ⟨run, e1, e2⟩ := cf F (row.getD i 0) c j hj
    have e3 := idx_str (s := row) (i := i) (by omega)
    have e4 := idx_ints (l := found) (i := i) (by omega)
    simp only [Turn, turn, Fd.run, initE, exs, ex, ev, evs, evl, Out.bind, Out.then, slotAt, List.length_cons, List.length_nil, Nat.reduceAdd, if_true, List.map, List.cons_append, List.nil_append, List.replicate, List.getElem?_cons_zero, List.getElem?_cons_succ, Option.getD, D.flat1, tyIs, asB, VR.look, looks, Option.bind, Option.map, bfn, D.len, ofO, cop, boolO, bop, finR, finV, frz, ownAt, anyAt, setV, setT, setNm, wr, List.set, Bool.false_eq_true, if_false, Bool.false_and, Bool.and_true, Bool.true_and, Bool.not_false, Bool.not_true, Nat.reduceLT, decide_true, decide_false, reduceIte, wipeE, e1, e3, e4, callF, e2]
    cases hb : fre F (row.getD i 0) c <;> simp [Fd.run, initE, exs, ex, ev, evs, evl, Out.bind, Out.then, slotAt, List.length_cons, List.length_nil, Nat.reduceAdd, if_true, List.map, List.cons_append, List.nil_append, List.replicate, List.getElem?_cons_zero, List.getElem?_cons_succ, Option.getD, D.flat1, tyIs, asB, VR.look, looks, Option.bind, Option.map, bfn, D.len, ofO, cop, boolO, bop, finR, finV, frz, ownAt, anyAt, setV, setT, setNm, wr, List.set, Bool.false_eq_true, if_false, Bool.false_and, Bool.and_true, Bool.true_and, Bool.not_false, Bool.not_true, Nat.reduceLT, decide_true, decide_false, reduceIte, e4]
  · rw [show dI (ahead F row found at_ c) = (List.range at_).filterMap fun i => if fre F (row.getD i 0) c then none else some (.int (found.getD i 0 + 1)) by
      unfold ahead dI
      rw [List.map_filterMap]
      congr 1
      funext i
      split <;> simp]
    rfl
end Ev.Pl

/-! E40: loops by index; levels_of. -/
namespace Ev.Pl
theorem forLoop_from {C : EC} {t : Tgt} {body : Env → OS} (I : Nat → Env → Prop) {L : List D} (st : ∀ i ρ d, L[i]? = some d → I i ρ → ∃ ρ1 ρ2, setT C t d ρ = some ρ1 ∧ body ρ1 = .nx ρ2 ∧ I (i + 1) ρ2) : ∀ {l : List D} {n : Nat} {ρ : Env}, l = L.drop n → n ≤ L.length → I n ρ → ∃ ρ', forLoop C t body l ρ = .nx ρ' ∧ I L.length ρ'
  | [], n, ρ, e, hn, h => by
    have : n = L.length := by
      have := congrArg List.length e
      simp at this
      omega
    subst this
    exact ⟨ρ, rfl, h⟩
  | d :: l, n, ρ, e, hn, h => by
    have hl : n < L.length := by
      have := congrArg List.length e
      simp at this
      omega
    have e1 : L[n]? = some d := by
      have := congrArg (fun z : List D => z[0]?) e
      simpa using this.symm
    have e2 : l = L.drop (n + 1) := by
      have := congrArg List.tail e
      simpa using this
    obtain ⟨ρ1, ρ2, h1, h2, h3⟩ := st n ρ d e1 h
    obtain ⟨ρ', h4, h5⟩ := forLoop_from I st e2 (by omega) h3
    refine ⟨ρ', ?_, h5⟩
    unfold forLoop
    simp only [h1, h2]
    exact h4
theorem forLoop_idx {C : EC} {t : Tgt} {body : Env → OS} (I : Nat → Env → Prop) {L : List D} {ρ : Env} (h0 : I 0 ρ) (st : ∀ i ρ d, L[i]? = some d → I i ρ → ∃ ρ1 ρ2, setT C t d ρ = some ρ1 ∧ body ρ1 = .nx ρ2 ∧ I (i + 1) ρ2) : ∃ ρ', forLoop C t body L ρ = .nx ρ' ∧ I L.length ρ' :=
  forLoop_from I st (n := 0) (by simp) (Nat.zero_le _) h0
theorem enum_at {xs : List D} : ∀ {n : Int} {i : Nat}, (enumFrom n xs)[i]? = (xs[i]?).map fun x => .tup [.int (n + i), x] := by
  induction xs with
  | nil => intro n i; rfl
  | cons x xs ih =>
    intro n i
    cases i with
    | zero => simp [enumFrom]
    | succ i =>
      simp only [enumFrom, List.getElem?_cons_succ, ih]
      have : n + 1 + (i : Int) = n + ((i + 1 : Nat) : Int) := by omega
      rw [this]
theorem enum_len {xs : List D} : ∀ {n : Int}, (enumFrom n xs).length = xs.length := by
  induction xs with
  | nil => intro n; rfl
  | cons x xs ih => intro n; simp [enumFrom, ih]
theorem intsO_dI : ∀ l : List Int, intsO (dI l) = some l
  | [] => rfl
  | x :: l => by
    show (intsO (dI l)).map (x :: ·) = _
    rw [intsO_dI l]; rfl
def levels (F : List (List Nat)) (row : List Nat) : Nat → List Int
  | 0 => []
  | n + 1 => levels F row n ++ [maxI 0 (ahead F row (levels F row n) n (row.getD n 0))]
theorem levels_len (F : List (List Nat)) (row : List Nat) : ∀ n, (levels F row n).length = n
  | 0 => rfl
  | n + 1 => by simp [levels, levels_len F row n]
theorem ahead_len (F : List (List Nat)) (row : List Nat) (f : List Int) (n c : Nat) : (ahead F row f n c).length ≤ n := by
  unfold ahead
  have := List.length_filterMap_le (fun i => if fre F (row.getD i 0) c then none else some (f.getD i 0 + 1)) (List.range n)
  simpa using this
theorem levels_s0 {T : Nat → EC} {k j fuel : Nat} (cf : CFree T k) (hj : k ≤ j) (F : List (List Nat)) (row : List Nat) (h3 : row.length < szL) :
    ∃ x3 x4 x5, ex (T j).un fuel m_levels_of_s0 [some (.fz (.tup (dS F))), some (.fz (.str row)), some (.ow (.lst [])), none, none, none, none] = .nx [some (.fz (.tup (dS F))), some (.fz (.str row)), some (.ow (.lst (dI (levels F row row.length)))), x3, x4, x5, none] := by
  have key := forLoop_idx (C := (T j).un) (t := .tp [3, 4]) (L := enumFrom 0 (chars row)) (body := fun ρ => exs (T j).un fuel (.cons (.asg (.nm 5) m_levels_of_k0) (.cons (.asg (.nm 2) (.bin .add (.var 2) (.lst (.cons (.blt .max1 (.cons (.bin .add (.lst (.cons (.cst (.int 0)) .nil)) (.var 5)) .nil)) .nil)))) .nil)) ρ)
    (fun n ρ => n ≤ row.length ∧ ∃ x3 x4 x5, ρ = [some (.fz (.tup (dS F))), some (.fz (.str row)), some (.ow (.lst (dI (levels F row n)))), x3, x4, x5, none])
    (ρ := [some (.fz (.tup (dS F))), some (.fz (.str row)), some (.ow (.lst [])), none, none, none, none]) ⟨Nat.zero_le _, _, _, _, rfl⟩ (fun i ρ d hd hI => by
      obtain ⟨hn, x3, x4, x5, rfl⟩ := hI
      rw [enum_at] at hd
      have hi : i < row.length := by
        cases hr : (chars row)[i]? with
        | none => rw [hr] at hd; cases hd
        | some y =>
          have := (List.getElem?_eq_some_iff.mp hr).1
          simpa [chars] using this
      have hr : (chars row)[i]? = some (.str [row.getD i 0]) := by simp [chars, hi, List.getD_eq_getElem?_getD]
      rw [hr] at hd
      have hd : D.tup [.int ((0 : Int) + i), .str [row.getD i 0]] = d := Option.some.inj hd
      subst hd
      have a := levels_k0 cf hj F row (levels F row i) i (row.getD i 0) x5 hn (levels_len F row i).symm (by omega)
      have b1 : 1 + (dI (ahead F row (levels F row i) i (row.getD i 0))).length ≤ szL := by
        have := ahead_len F row (levels F row i) i (row.getD i 0)
        rw [List.length_map]; omega
      have b2 : (dI (levels F row i)).length + 1 ≤ szL := by
        have := levels_len F row i
        rw [List.length_map]; omega
      have b3 := intsO_dI (ahead F row (levels F row i) i (row.getD i 0))
      have z1 : (1 : Nat) ≤ szL := by decide
      refine ⟨_, [some (.fz (.tup (dS F))), some (.fz (.str row)), some (.ow (.lst (dI (levels F row (i+1))))), some (.fz (.int i)), some (.fz (.str [row.getD i 0])), some (.ow (.lst (dI (ahead F row (levels F row i) i (row.getD i 0))))), none], rfl, ?_, hi, _, _, _, rfl⟩
      have b1' := lenAdd1 (.int 0) _ (Nat.add_comm _ _ ▸ b1)
      have b2' := fun y => lenAdd2 y _ b2
      simp only [exs, ex, ev, evs, evl, Out.bind, Out.then, slotAt, if_true, List.map, List.cons_append, List.nil_append, List.getElem?_cons_zero, List.getElem?_cons_succ, Option.getD, D.flat1, D.isDic, tyIs, asB, VR.look, looks, Option.bind, Option.map, Option.bind_eq_bind, Option.pure_def, bfn, D.len, ofO, cop, boolO, g0, g1, g2, g3, g4, g5, g6, g7, g8, g9, g10, g11, g12, g13, g14, g15, g16, g17, g18, g19, g20, bop_add_int, bop_sub_int, frz, ownAt, anyAt, setV, setT, setNm, setNms, setOne, List.set, wr_un, wr_lk, inL0, inLs, Bool.false_eq_true, if_false, Bool.false_and, Bool.and_true, Bool.true_and, Bool.not_false, Bool.not_true, reduceIte, Int.zero_add, a, bop_add_lst b1', intsO, b3, bop_add_lst (b2' _), levels, dI, List.map_append, List.map_cons, List.map_nil]
      )
  obtain ⟨ρ', h, _, x3, x4, x5, rfl⟩ := key
  have el : (enumFrom 0 (chars row)).length = row.length := by rw [enum_len]; simp [chars]
  rw [el] at h
  refine ⟨x3, x4, x5, ?_⟩
  simp only [m_levels_of_s0, Fd.run, initE, exs, ex, ev, evs, evl, Out.bind, Out.then, slotAt, List.length_cons, List.length_nil, Nat.reduceAdd, if_true, List.map, List.cons_append, List.nil_append, List.replicate, List.getElem?_cons_zero, List.getElem?_cons_succ, Option.getD, D.flat1, D.isDic, tyIs, asB, VR.look, looks, Option.bind, Option.map, bfn, D.len, ofO, cop, boolO, bop, finR, finV, frz, ownAt, anyAt, setV, setT, setNm, wr, List.set, Bool.false_eq_true, if_false, Bool.false_and, Bool.and_true, Bool.true_and, Bool.not_false, Bool.not_true, Nat.reduceLT, decide_true, decide_false, reduceIte, walkOf, itemsOf]
  exact h
end Ev.Pl

/-! E41: comprehensions and loops over typed lists. -/
namespace Ev.Pl
theorem ev_compM {α : Type} {C : EC} {own : List Nat} {tg : Tgt} {k : IK} {its : MEs} {cond elt : ME} {ρ ρ1 : Env} {ds : List D} (w : α → D) (xs : List α) (g : α → Option D) (h0 : evs C its ρ = .ok ds ρ1) (h1 : walkOf k ds = some (xs.map w)) (h2 : ∀ x ∈ xs, Turn C own tg cond elt (wipeE ρ1 own) (w x) (g x)) :
    ev C (.comp elt tg k its cond own) ρ = .ok (.fr (.lst (xs.filterMap g))) (backE ρ1 (wipeE ρ1 own) own) := by
  have key : ∀ (xs : List α) (acc : List D), (∀ x ∈ xs, Turn C own tg cond elt (wipeE ρ1 own) (w x) (g x)) → compLoop C own tg (fun ρ => (ev C cond ρ).bind asB) (fun ρ => (ev C elt ρ).bind (frz C)) (xs.map w) (wipeE ρ1 own) acc = .ok (acc.reverse ++ xs.filterMap g) (wipeE ρ1 own) := by
    intro xs
    induction xs with
    | nil => intro acc _; simp [compLoop]
    | cons x xs ih =>
      intro acc h
      have hx := compLoop_ok (l := [w x]) (acc := acc) (g := fun _ => g x) (C := C) (own := own) (tg := tg) (cond := cond) (elt := elt) (ρ := wipeE ρ1 own) (fun d hd => by
        rw [List.mem_singleton] at hd
        subst hd
        exact h x (List.mem_cons_self ..))
      have ih := fun acc => ih acc (fun y hy => h y (List.mem_cons_of_mem _ hy))
      have hd := h x (List.mem_cons_self ..)
      unfold Turn turn at hd
      rw [List.map_cons]
      unfold compLoop
      unfold compLoop at hx
      cases e1 : setT C tg (w x) (wipeE ρ1 own) with
      | none => rw [e1] at hd; cases hd
      | some r1 =>
        rw [e1] at hd
        replace hd : (((ev C cond r1).bind asB).bind fun b ρ2 => if b then ((ev C elt ρ2).bind (frz C)).bind fun x ρ3 => .ok (some x) (wipeE ρ3 own) else .ok none (wipeE ρ2 own)) = Out.ok (g x) (wipeE ρ1 own) := hd
        show (((ev C cond r1).bind asB).bind fun b ρ2 => if b then ((ev C elt ρ2).bind (frz C)).bind fun x ρ3 => compLoop C own tg (fun ρ => (ev C cond ρ).bind asB) (fun ρ => (ev C elt ρ).bind (frz C)) (xs.map w) (wipeE ρ3 own) (x :: acc) else compLoop C own tg (fun ρ => (ev C cond ρ).bind asB) (fun ρ => (ev C elt ρ).bind (frz C)) (xs.map w) (wipeE ρ2 own) acc) = _
        cases e2 : (ev C cond r1).bind asB with
        | no => rw [e2] at hd; exact nomatch (show (Out.no : Out (Option D)) = Out.ok (g x) _ from hd)
        | ex y r => rw [e2] at hd; exact nomatch (show (Out.ex y r : Out (Option D)) = Out.ok (g x) _ from hd)
        | ok b ρ2 =>
          rw [e2] at hd
          cases b with
          | false =>
            have hd : Out.ok none (wipeE ρ2 own) = Out.ok (g x) (wipeE ρ1 own) := hd
            injection hd with h1 h2
            show compLoop C own tg (fun ρ => (ev C cond ρ).bind asB) (fun ρ => (ev C elt ρ).bind (frz C)) (xs.map w) (wipeE ρ2 own) acc = _
            rw [h2, ih, List.filterMap_cons, ← h1]
          | true =>
            have hd : (((ev C elt ρ2).bind (frz C)).bind fun x ρ3 => Out.ok (some x) (wipeE ρ3 own)) = Out.ok (g x) (wipeE ρ1 own) := hd
            show (((ev C elt ρ2).bind (frz C)).bind fun x ρ3 => compLoop C own tg (fun ρ => (ev C cond ρ).bind asB) (fun ρ => (ev C elt ρ).bind (frz C)) (xs.map w) (wipeE ρ3 own) (x :: acc)) = _
            cases e3 : (ev C elt ρ2).bind (frz C) with
            | no => rw [e3] at hd; exact nomatch (show (Out.no : Out (Option D)) = Out.ok (g x) _ from hd)
            | ex y r => rw [e3] at hd; exact nomatch (show (Out.ex y r : Out (Option D)) = Out.ok (g x) _ from hd)
            | ok y ρ3 =>
              rw [e3] at hd
              have hd : Out.ok (some y) (wipeE ρ3 own) = Out.ok (g x) (wipeE ρ1 own) := hd
              injection hd with h1 h2
              show compLoop C own tg (fun ρ => (ev C cond ρ).bind asB) (fun ρ => (ev C elt ρ).bind (frz C)) (xs.map w) (wipeE ρ3 own) (y :: acc) = _
              rw [h2, ih, List.filterMap_cons, ← h1]
              simp
  have := key xs [] h2
  unfold ev
  rw [h0]
  show (match walkOf k ds with
    | some l => _
    | none => _) = _
  rw [h1]
  show (noEx (compLoop C own tg (fun ρ => (ev C cond ρ).bind asB) (fun ρ => (ev C elt ρ).bind (frz C)) (xs.map w) (wipeE ρ1 own) [])).bind _ = _
  rw [this]
  rfl
/-- a for: I says what the slots hold at a state; P holds at each turn -/
theorem for_rel {α σ : Type} {C : EC} {t : Tgt} {body : Env → OS} (w : α → D) (I : σ → Env → Prop) (step : σ → α → σ) (P : List α → σ → Prop)
    (h : ∀ x xs s ρ, P (x :: xs) s → I s ρ → ∃ ρ1, setT C t (w x) ρ = some ρ1 ∧ ∃ ρ2, body ρ1 = .nx ρ2 ∧ I (step s x) ρ2 ∧ P xs (step s x)) :
    ∀ xs s ρ, P xs s → I s ρ → ∃ ρ', forLoop C t body (xs.map w) ρ = .nx ρ' ∧ I (xs.foldl step s) ρ' ∧ P [] (xs.foldl step s)
  | [], s, ρ, hp, hi => ⟨ρ, rfl, hi, hp⟩
  | x :: xs, s, ρ, hp, hi => by
    obtain ⟨ρ1, h1, ρ2, h2, h3, h4⟩ := h x xs s ρ hp hi
    obtain ⟨ρ', e, q⟩ := for_rel w I step P h xs (step s x) ρ2 h4 h3
    refine ⟨ρ', ?_, q⟩
    rw [List.map_cons]
    unfold forLoop
    simp only [h1, h2]
    exact e
/-- a while with a measure -/
theorem whl_rel {σ : Type} {cond : Env → Out Bool} {body : Env → OS} (I : σ → Env → Prop) (c : σ → Bool) (step : σ → σ) (mu : σ → Nat)
    (h : ∀ s ρ, I s ρ → ∃ ρ1, cond ρ = .ok (c s) ρ1 ∧ (c s = false → I s ρ1) ∧ (c s = true → ∃ ρ2, body ρ1 = .nx ρ2 ∧ I (step s) ρ2 ∧ mu (step s) < mu s)) :
    ∀ n s ρ, mu s < n → I s ρ → ∃ ρ' s', whlLoop cond body n ρ = .nx ρ' ∧ I s' ρ' ∧ c s' = false
  | 0, s, ρ, hn, _ => absurd hn (Nat.not_lt_zero _)
  | n + 1, s, ρ, hn, hi => by
    obtain ⟨ρ1, h1, h2, h3⟩ := h s ρ hi
    cases e : c s with
    | false =>
      refine ⟨ρ1, s, ?_, h2 e, e⟩
      unfold whlLoop
      rw [h1, e]
      rfl
    | true =>
      obtain ⟨ρ2, h4, h5, h6⟩ := h3 e
      obtain ⟨ρ', s', e', q⟩ := whl_rel I c step mu h n (step s) ρ2 (by omega) h5
      refine ⟨ρ', s', ?_, q⟩
      unfold whlLoop
      rw [h1, e]
      simp only [Out.then, if_true, h4]
      exact e'
theorem joinL_one : ∀ l : List Nat, joinL [] (l.map fun c => [c]) = l
  | [] => rfl
  | [c] => rfl
  | c :: d :: l => by
    have := joinL_one (d :: l)
    rw [List.map_cons] at this
    simp only [List.map_cons, joinL, this]
    rfl
theorem strsO_map {α : Type} (f : α → List Nat) : ∀ l : List α, strsO (l.map fun c => .str (f c)) = some (l.map f)
  | [] => rfl
  | x :: l => by simp [strsO, strsO_map f l]
theorem sumN_one : ∀ l : List Nat, sumN (l.map fun c => [c]) = l.length
  | [] => rfl
  | c :: l => by simp [sumN, sumN_one l]; omega
/-- "".join of letters -/
theorem join_letters {l : List Nat} (h : l.length ≤ szL) : mfn .join (.str []) [.lst (l.map fun c => .str [c])] = some (.im (.str l)) := by
  show (strsO (l.map fun c => .str [c])).bind _ = _
  rw [strsO_map (fun c => [c])]
  show (if sumN (l.map fun c => [c]) + _ * 0 ≤ szL then _ else _) = _
  rw [sumN_one, Nat.mul_zero, Nat.add_zero, if_pos h, joinL_one]
theorem filterMap_ite {α β : Type} (p : α → Bool) (f : α → β) : ∀ l : List α, (l.filterMap fun x => if p x then some (f x) else none) = (l.filter p).map f
  | [] => rfl
  | x :: l => by
    rw [List.filterMap_cons]
    cases h : p x
    · simp [h, filterMap_ite p f l]
    · simp [h, filterMap_ite p f l]
section
variable {α : Type} {C : EC} {own : List Nat} {tg : Tgt} {k : IK} {its : MEs} {cond elt : ME} {ρ ρ1 ρ2 : Env} {ds : List D}
theorem comp_map (w : α → D) (xs : List α) (r : α → D) (h0 : evs C its ρ = .ok ds ρ1) (h1 : walkOf k ds = some (xs.map w)) (hb : backE ρ1 (wipeE ρ1 own) own = ρ2) (h2 : ∀ x ∈ xs, Turn C own tg cond elt (wipeE ρ1 own) (w x) (some (r x))) :
    ev C (.comp elt tg k its cond own) ρ = .ok (.fr (.lst (xs.map r))) ρ2 := by
  rw [ev_compM w xs (fun x => some (r x)) h0 h1 h2, hb]
  congr 3
  induction xs with
  | nil => rfl
  | cons x xs ih => simp
theorem comp_flt (w : α → D) (xs : List α) (p : α → Bool) (r : α → D) (h0 : evs C its ρ = .ok ds ρ1) (h1 : walkOf k ds = some (xs.map w)) (hb : backE ρ1 (wipeE ρ1 own) own = ρ2) (h2 : ∀ x ∈ xs, Turn C own tg cond elt (wipeE ρ1 own) (w x) (if p x then some (r x) else none)) :
    ev C (.comp elt tg k its cond own) ρ = .ok (.fr (.lst ((xs.filter p).map r))) ρ2 := by
  rw [ev_compM w xs (fun x => if p x then some (r x) else none) h0 h1 h2, hb, filterMap_ite p r]
theorem evs_glo {g : Nat} {d : D} (h : C.Γ g = some d) (nd : d.isDic = false := by rfl) : evs C (.cons (.glo g) .nil) ρ = .ok [d] ρ := by
  simp only [evs, ev, h, nd, Out.bind, frz, Bool.false_eq_true, if_false]
end
theorem nods_chars : ∀ l : List Nat, D.nods (l.map fun c => .str [c]) = true
  | [] => rfl
  | x :: l => by
    show (D.nod (.str [x]) && D.nods (l.map fun c => .str [c])) = true
    rw [nods_chars l]; rfl
theorem memD_chars (c : Nat) : ∀ l : List Nat, memD (.str [c]) (l.map fun c => .str [c]) = l.contains c
  | [] => rfl
  | x :: l => by
    show (D.eqv (.str [x]) (.str [c]) || memD (.str [c]) (l.map fun c => .str [c])) = _
    rw [memD_chars c l, List.contains_cons]
    show (([x] == [c]) || _) = _
    have : ([x] == [c]) = (c == x) := by
      rw [BEq.comm (a := c)]
      simp
    rw [this]
theorem isIn_chars (c : Nat) (l : List Nat) : isIn (.str [c]) (.lst (l.map fun c => .str [c])) = some (l.contains c) := by
  simp [isIn, nods_chars, D.nod, D.dep, memD_chars]
theorem ex_fors {C : EC} {fuel : Nat} {t : Tgt} {k : IK} {its : MEs} {body : MSs} {ρ ρ1 : Env} {ds l : List D} {r : OS} (h0 : evs C its ρ = .ok ds ρ1) (h1 : walkOf k ds = some l) (h2 : forLoop C t (fun ρ => exs C fuel body ρ) l ρ1 = r) : ex C fuel (.fors t k its body) ρ = r := by
  unfold ex
  rw [h0]
  simp only [Out.then, h1]
  exact h2
theorem ex_whl {C : EC} {fuel : Nat} {c : ME} {body : MSs} {ρ : Env} {r : OS} (h : whlLoop (fun ρ => (ev C c ρ).bind asB) (fun ρ => exs C fuel body ρ) fuel ρ = r) : ex C fuel (.whl c body) ρ = r := by
  unfold ex
  exact h
theorem dS_append (a b : List (List Nat)) : dS (a ++ b) = dS a ++ dS b := List.map_append ..
theorem dI_append (a b : List Int) : dI (a ++ b) = dI a ++ dI b := List.map_append ..
theorem evs_one {C : EC} {a : ME} {ρ ρ1 : Env} {d : D} (h : ev C a ρ = .ok (.im d) ρ1) : evs C (.cons a .nil) ρ = .ok [d] ρ1 := by
  simp only [evs, h, Out.bind, frz]
theorem evs_oneF {C : EC} {a : ME} {ρ ρ1 : Env} {d : D} (h : ev C a ρ = .ok (.fr d) ρ1) : evs C (.cons a .nil) ρ = .ok [d] ρ1 := by
  simp only [evs, h, Out.bind, frz]
theorem Fd.run_un {C : EC} {m : Fd} {fuel : Nat} {ds : List D} (ρ : Env) (h : ds.length = m.n) (hm : m.mu = false) (e : initE m.N false ds = ρ) : m.run C fuel ds = finR false (exs C.un fuel m.body ρ) := by
  unfold Fd.run
  rw [if_pos h, hm, e]
theorem Cal.use {T : Nat → EC} {k f j : Nat} {ds : List D} {r : FR} (c : Cal T k f ds r) (hj : k ≤ j) : ∃ run, (T j).Φ f = some ⟨false, run⟩ ∧ run ds = r := c j hj
theorem idxD_dic {ps : List (D × D)} {k d : D} (h : keyFits ps k = true) (e : lookK ps k = some d) : idxD (.dic ps) k = some d := by
  simp only [idxD, h, if_true, e]
end Ev.Pl

/-! E42: levels_of, layered, next_rows. -/
namespace Ev.Pl
/-- what is known of levels_of from level k on -/
theorem levels_of_ok {T : Nat → EC} {k fuel : Nat} (o : On T fuel f_levels_of m_levels_of) (cf : CFree T k) (F : List (List Nat)) (row : List Nat) (h3 : row.length < szL) : Cal T (k + 1) f_levels_of [.tup (dS F), .str row] (.ok true (.lst (dI (levels F row row.length))) .non) := by
  refine Cal.of o fun j hj => ?_
  obtain ⟨x3, x4, x5, e⟩ := levels_s0 (fuel := fuel) cf hj F row h3
  rw [Fd.run_un [some (.fz (.tup (dS F))), some (.fz (.str row)), none, none, none, none, none] rfl rfl rfl]
  simp only [m_levels_of, exs, ex, ev, evs, evl, Out.bind, Out.then, slotAt, if_true, List.map, List.cons_append, List.nil_append, List.getElem?_cons_zero, List.getElem?_cons_succ, Option.getD, D.flat1, D.isDic, tyIs, asB, VR.look, looks, Option.bind, Option.map, Option.bind_eq_bind, Option.pure_def, bfn, D.len, ofO, cop, boolO, g0, g1, g2, g3, g4, g5, g6, g7, g8, g9, g10, g11, g12, g13, g14, g15, g16, g17, g18, g19, g20, bop_add_int, bop_sub_int, frz, ownAt, anyAt, setV, setT, setNm, setNms, setOne, List.set, wr_un, wr_lk, inL0, inLs, Bool.false_eq_true, if_false, Bool.false_and, Bool.and_true, Bool.true_and, Bool.not_false, Bool.not_true, reduceIte, EC.un] at e ⊢
  simp only [e, exs, ex, ev, evs, evl, Out.bind, Out.then, slotAt, if_true, List.map, List.cons_append, List.nil_append, List.getElem?_cons_zero, List.getElem?_cons_succ, Option.getD, D.flat1, D.isDic, tyIs, asB, VR.look, looks, Option.bind, Option.map, Option.bind_eq_bind, Option.pure_def, bfn, D.len, ofO, cop, boolO, g0, g1, g2, g3, g4, g5, g6, g7, g8, g9, g10, g11, g12, g13, g14, g15, g16, g17, g18, g19, g20, bop_add_int, bop_sub_int, frz, ownAt, anyAt, setV, setT, setNm, setNms, setOne, List.set, wr_un, wr_lk, inL0, inLs, Bool.false_eq_true, if_false, Bool.false_and, Bool.and_true, Bool.true_and, Bool.not_false, Bool.not_true, reduceIte, finR, finV]
def here (row : List Nat) (lv : List Int) (l : Int) : List Nat := ((row.zip lv).filter fun p => p.2 == l).map (·.1)
def layer (row : List Nat) (lv : List Int) (l : Int) : List Nat := abc.filter fun c => (here row lv l).contains c
def layersN (lv : List Int) : Int := maxI 0 (lv.map (· + 1))
def layeredM (F : List (List Nat)) (row : List Nat) : List (List Nat) := (List.range (layersN (levels F row row.length)).toNat).map fun l : Nat => layer row (levels F row row.length) (l : Int)
theorem dI_map {α : Type} (f : α → Int) (l : List α) : dI (l.map f) = l.map fun x => .int (f x) := List.map_map
theorem dS_map {α : Type} (f : α → List Nat) (l : List α) : dS (l.map f) = l.map fun x => .str (f x) := List.map_map
theorem walk_range {n : Nat} (hn : n ≤ szL) : walkOf .range1 [.int (n : Int)] = some ((List.range n).map fun i : Nat => D.int (i : Int)) := by
  have nf : ∀ (m a : Nat), natsFrom (a : Int) m = (List.range m).map fun i : Nat => D.int ((a + i : Nat) : Int) := by
    intro m
    induction m with
    | zero => intro a; rfl
    | succ m ih =>
      intro a
      rw [List.range_succ_eq_map, List.map_cons, List.map_map]
      show D.int a :: natsFrom ((a : Int) + 1) m = _
      have : ((a : Int) + 1) = ((a + 1 : Nat) : Int) := by omega
      rw [this, ih (a + 1)]
      congr 1
      apply List.map_congr_left
      intro i _
      simp only [Function.comp]
      congr 2
      omega
  have h1 : (small62 (n : Int) && leSz (n : Int)) = true := by
    have : (n : Int) ≤ 16777216 := by have : n ≤ 16777216 := hn; omega
    simp only [small62, leSz, Bool.and_eq_true, Nat.blt_eq, Nat.ble_eq, szL]
    refine ⟨by omega, by omega⟩
  show (if small62 (n : Int) && leSz (n : Int) then some (natsFrom 0 (n : Int).toNat) else none) = _
  rw [if_pos h1]
  have := nf n 0
  simp at this
  simp [this]
theorem maxI_le {b : Int} : ∀ {l : List Int} {m : Int}, m ≤ b → (∀ x ∈ l, x ≤ b) → maxI m l ≤ b
  | [], m, h, _ => h
  | x :: l, m, h, q => by
    unfold maxI
    refine maxI_le ?_ fun y hy => q y (List.mem_cons_of_mem _ hy)
    have := q x (List.mem_cons_self ..)
    split <;> assumption
theorem le_maxI : ∀ {l : List Int} {m : Int}, m ≤ maxI m l
  | [], m => Int.le_refl _
  | x :: l, m => by
    unfold maxI
    refine Int.le_trans ?_ le_maxI
    split <;> omega
theorem levels_bd (F : List (List Nat)) (row : List Nat) : ∀ n, ∀ x ∈ levels F row n, 0 ≤ x ∧ x < n
  | 0, x, h => by simp [levels] at h
  | n + 1, x, h => by
    have ih := levels_bd F row n
    rw [levels, List.mem_append] at h
    rcases h with h | h
    · have := ih x h; omega
    · rw [List.mem_singleton] at h
      subst h
      refine ⟨le_maxI, Int.lt_of_le_of_lt (maxI_le (b := n) (by omega) fun y hy => ?_) (by omega)⟩
      unfold ahead at hy
      obtain ⟨i, hi, e⟩ := List.mem_filterMap.mp hy
      rw [List.mem_range] at hi
      split at e
      · cases e
      · injection e with e
        have hl := levels_len F row n
        have m : (levels F row n).getD i 0 ∈ levels F row n := by
          rw [List.getD_eq_getElem?_getD, List.getElem?_eq_getElem (by omega)]
          exact List.getElem_mem _
        have := ih _ m
        omega
theorem layersN_bd (F : List (List Nat)) (row : List Nat) : 0 ≤ layersN (levels F row row.length) ∧ (layersN (levels F row row.length)).toNat ≤ row.length := by
  have h1 : 0 ≤ layersN (levels F row row.length) := le_maxI
  have h2 : layersN (levels F row row.length) ≤ row.length := maxI_le (by omega) fun x hx => by
    obtain ⟨y, hy, rfl⟩ := List.mem_map.mp hx
    have := levels_bd F row row.length y hy
    omega
  omega
theorem pairUp_map {row : List Nat} : ∀ {lv : List Int}, pairUp (chars row) (dI lv) = (row.zip lv).map fun p => .tup [.str [p.1], .int p.2] := by
  induction row with
  | nil => intro lv; rfl
  | cons c row ih =>
    intro lv
    cases lv with
    | nil => rfl
    | cons l lv =>
      show D.tup [.str [c], .int l] :: pairUp (chars row) (dI lv) = _
      rw [ih]; rfl
section
variable {C : EC} (F : List (List Nat)) (row : List Nat) (lv : List Int) (fo : List D) (l : Int) (x4 x5 x6 x7 : Option SV)
theorem layered_k0 : ev C.un m_layered_k0 [some (.fz (.tup (dS F))), some (.fz (.str row)), some (.ow (.lst (dI lv))), some (.ow (.lst fo)), x4, x5, x6, x7] = .ok (.fr (.lst (dI (lv.map (· + 1))))) [some (.fz (.tup (dS F))), some (.fz (.str row)), some (.fz (.lst (dI lv))), some (.ow (.lst fo)), x4, x5, x6, x7] := by
  rw [dI_map]
  refine comp_map D.int lv _ rfl rfl rfl fun i hi => ?_
  simp only [Turn, turn, exs, ex, ev, evs, evl, Out.bind, Out.then, slotAt, if_true, List.map, List.cons_append, List.nil_append, List.getElem?_cons_zero, List.getElem?_cons_succ, Option.getD, D.flat1, D.isDic, tyIs, asB, VR.look, looks, Option.bind, Option.map, Option.bind_eq_bind, Option.pure_def, bfn, D.len, ofO, cop, boolO, g0, g1, g2, g3, g4, g5, g6, g7, g8, g9, g10, g11, g12, g13, g14, g15, g16, g17, g18, g19, g20, bop_add_int, bop_sub_int, frz, ownAt, anyAt, setV, setT, setNm, setNms, setOne, List.set, wr_un, wr_lk, inL0, inLs, Bool.false_eq_true, if_false, Bool.false_and, Bool.and_true, Bool.true_and, Bool.not_false, Bool.not_true, reduceIte, wipeE, Function.comp]
theorem layered_k1 (G : Gam C) (hr : List Nat) : ev C.un m_layered_k1 [some (.fz (.tup (dS F))), some (.fz (.str row)), some (.fz (.lst (dI lv))), some (.ow (.lst fo)), x4, x5, some (.ow (.lst (hr.map fun c => .str [c]))), x7] = .ok (.fr (.lst ((abc.filter fun c => hr.contains c).map fun c => .str [c]))) [some (.fz (.tup (dS F))), some (.fz (.str row)), some (.fz (.lst (dI lv))), some (.ow (.lst fo)), x4, x5, some (.ow (.lst (hr.map fun c => .str [c]))), x7] := by
  refine comp_flt (fun c => .str [c]) abc _ _ (evs_glo G.letters) rfl rfl fun c hc => ?_
  have q := isIn_chars c hr
  simp only [Turn, turn, exs, ex, ev, evs, evl, Out.bind, Out.then, slotAt, if_true, List.map, List.cons_append, List.nil_append, List.getElem?_cons_zero, List.getElem?_cons_succ, Option.getD, D.flat1, D.isDic, tyIs, asB, VR.look, looks, Option.bind, Option.map, Option.bind_eq_bind, Option.pure_def, bfn, D.len, ofO, cop, boolO, g0, g1, g2, g3, g4, g5, g6, g7, g8, g9, g10, g11, g12, g13, g14, g15, g16, g17, g18, g19, g20, bop_add_int, bop_sub_int, frz, ownAt, anyAt, setV, setT, setNm, setNms, setOne, List.set, wr_un, wr_lk, inL0, inLs, Bool.false_eq_true, if_false, Bool.false_and, Bool.and_true, Bool.true_and, Bool.not_false, Bool.not_true, reduceIte, wipeE, q]
  cases hr.contains c <;> simp only [exs, ex, ev, evs, evl, Out.bind, Out.then, slotAt, if_true, List.map, List.cons_append, List.nil_append, List.getElem?_cons_zero, List.getElem?_cons_succ, Option.getD, D.flat1, D.isDic, tyIs, asB, VR.look, looks, Option.bind, Option.map, Option.bind_eq_bind, Option.pure_def, bfn, D.len, ofO, cop, boolO, g0, g1, g2, g3, g4, g5, g6, g7, g8, g9, g10, g11, g12, g13, g14, g15, g16, g17, g18, g19, g20, bop_add_int, bop_sub_int, frz, ownAt, anyAt, setV, setT, setNm, setNms, setOne, List.set, wr_un, wr_lk, inL0, inLs, Bool.false_eq_true, if_false, Bool.false_and, Bool.and_true, Bool.true_and, Bool.not_false, Bool.not_true, reduceIte, wipeE]
theorem layered_k2 (h : row.length = lv.length) : ev C.un m_layered_k2 [some (.fz (.tup (dS F))), some (.fz (.str row)), some (.fz (.lst (dI lv))), some (.ow (.lst fo)), some (.fz (.int l)), x5, x6, x7] = .ok (.fr (.lst ((here row lv l).map fun c => .str [c]))) [some (.fz (.tup (dS F))), some (.fz (.str row)), some (.fz (.lst (dI lv))), some (.ow (.lst fo)), some (.fz (.int l)), x5, x6, x7] := by
  rw [here, List.map_map]
  refine comp_flt (fun p : Nat × Int => .tup [.str [p.1], .int p.2]) (row.zip lv) _ _ rfl (congrArg some pairUp_map) rfl fun p hp => ?_
  have q : eqO (.int p.2) (.int l) = some (p.2 == l) := rfl
  simp only [Turn, turn, exs, ex, ev, evs, evl, Out.bind, Out.then, slotAt, if_true, List.map, List.cons_append, List.nil_append, List.getElem?_cons_zero, List.getElem?_cons_succ, Option.getD, D.flat1, D.isDic, tyIs, asB, VR.look, looks, Option.bind, Option.map, Option.bind_eq_bind, Option.pure_def, bfn, D.len, ofO, cop, boolO, g0, g1, g2, g3, g4, g5, g6, g7, g8, g9, g10, g11, g12, g13, g14, g15, g16, g17, g18, g19, g20, bop_add_int, bop_sub_int, frz, ownAt, anyAt, setV, setT, setNm, setNms, setOne, List.set, wr_un, wr_lk, inL0, inLs, Bool.false_eq_true, if_false, Bool.false_and, Bool.and_true, Bool.true_and, Bool.not_false, Bool.not_true, reduceIte, wipeE, q, Function.comp]
  cases p.2 == l <;> simp only [exs, ex, ev, evs, evl, Out.bind, Out.then, slotAt, if_true, List.map, List.cons_append, List.nil_append, List.getElem?_cons_zero, List.getElem?_cons_succ, Option.getD, D.flat1, D.isDic, tyIs, asB, VR.look, looks, Option.bind, Option.map, Option.bind_eq_bind, Option.pure_def, bfn, D.len, ofO, cop, boolO, g0, g1, g2, g3, g4, g5, g6, g7, g8, g9, g10, g11, g12, g13, g14, g15, g16, g17, g18, g19, g20, bop_add_int, bop_sub_int, frz, ownAt, anyAt, setV, setT, setNm, setNms, setOne, List.set, wr_un, wr_lk, inL0, inLs, Bool.false_eq_true, if_false, Bool.false_and, Bool.and_true, Bool.true_and, Bool.not_false, Bool.not_true, reduceIte, wipeE]
end
theorem foldl_snoc {α β : Type} (f : α → β) : ∀ (l : List α) (s : List β), l.foldl (fun s x => s ++ [f x]) s = s ++ l.map f
  | [], s => by simp
  | x :: l, s => by rw [List.foldl_cons, foldl_snoc f l]; simp
theorem layered_ok {T : Nat → EC} {k fuel : Nat} (o : On T fuel f_layered m_layered) (G : ∀ j, Gam (T j)) (F : List (List Nat)) (row : List Nat) (h3 : row.length < szL) (cl : Cal T k f_levels_of [.tup (dS F), .str row] (.ok true (.lst (dI (levels F row row.length))) .non)) : Cal T (k + 1) f_layered [.tup (dS F), .str row] (.ok true (.lst (dS (layeredM F row))) .non) := by
  refine Cal.of o fun j hj => ?_
  obtain ⟨run, e1, e2⟩ := cl.use hj
  rw [Fd.run_un [some (.fz (.tup (dS F))), some (.fz (.str row)), none, none, none, none, none, none] rfl rfl rfl]
  have bd := layersN_bd F row
  have hl := levels_len F row row.length
  generalize hlv : levels F row row.length = lv at *
  obtain ⟨n, hn⟩ : ∃ n : Nat, layersN lv = (n : Int) := ⟨(layersN lv).toNat, by omega⟩
  have wk := walk_range (n := n) (by omega)
  have key := for_rel (C := (T j).un) (t := .nm 4) (body := fun ρ => exs (T j).un fuel (.cons (.asg (.nm 6) m_layered_k2) (.cons (.asg (.nm 3) (.bin .add (.var 3) (.lst (.cons (.meth .join (.cst (.str [])) (.cons m_layered_k1 .nil)) .nil)))) .nil)) ρ)
    (fun i : Nat => D.int (i : Int)) (fun (s : List (List Nat)) ρ => ∃ x4 x6, ρ = [some (.fz (.tup (dS F))), some (.fz (.str row)), some (.fz (.lst (dI lv))), some (.ow (.lst (dS s))), x4, none, x6, none])
    (fun s (l : Nat) => s ++ [layer row lv (l : Int)]) (fun rest s => s.length + rest.length ≤ n) (fun l rest s ρ hp hi => by
      obtain ⟨x4, x6, rfl⟩ := hi
      have a := layered_k2 (C := T j) F row lv (dS s) (l : Int) none x6 none hl.symm
      have b := layered_k1 (C := T j) F row lv (dS s) (some (.fz (.int (l : Int)))) none none (G j) (here row lv l)
      have c := join_letters (l := layer row lv (l : Int)) (by
        have : (layer row lv (l : Int)).length ≤ abc.length := List.length_filter_le ..
        have q : abc.length = 3 := rfl
        show _ ≤ 16777216
        omega)
      have d := fun y => lenAdd2 y (dS s) (by
        rw [List.length_map]
        rw [List.length_cons] at hp
        omega)
      refine ⟨_, rfl, ?_⟩
      simp only [EC.un, layer] at a b c
      simp only [exs, ex, ev, evs, evl, Out.bind, Out.then, slotAt, if_true, List.map, List.cons_append, List.nil_append, List.getElem?_cons_zero, List.getElem?_cons_succ, Option.getD, D.flat1, D.isDic, tyIs, asB, VR.look, looks, Option.bind, Option.map, Option.bind_eq_bind, Option.pure_def, bfn, D.len, ofO, cop, boolO, g0, g1, g2, g3, g4, g5, g6, g7, g8, g9, g10, g11, g12, g13, g14, g15, g16, g17, g18, g19, g20, bop_add_int, bop_sub_int, frz, ownAt, anyAt, setV, setT, setNm, setNms, setOne, List.set, wr_un, wr_lk, inL0, inLs, Bool.false_eq_true, if_false, Bool.false_and, Bool.and_true, Bool.true_and, Bool.not_false, Bool.not_true, reduceIte, EC.un, a, b, mkind, c, bop_add_lst (d _)]
      exact ⟨_, rfl, ⟨_, _, by rw [dS_append]; rfl⟩, by simp at hp ⊢; omega⟩) (List.range n) [] [some (.fz (.tup (dS F))), some (.fz (.str row)), some (.fz (.lst (dI lv))), some (.ow (.lst [])), none, none, none, none] (by simp) ⟨_, _, rfl⟩
  rw [foldl_snoc] at key
  have k0 := layered_k0 (C := T j) F row lv [] none none none none
  have b3 := intsO_dI (lv.map (· + 1))
  have b1 := lenAdd1 (.int 0) (dI (lv.map (· + 1))) (by rw [List.length_map, List.length_map]; omega)
  obtain ⟨ρ', e, ⟨x4, x6, rfl⟩, _⟩ := key
  have es : ex (T j).un fuel m_layered_s0 [some (.fz (.tup (dS F))), some (.fz (.str row)), some (.ow (.lst (dI lv))), some (.ow (.lst [])), none, none, none, none] = .nx [some (.fz (.tup (dS F))), some (.fz (.str row)), some (.fz (.lst (dI lv))), some (.ow (.lst (dS ([] ++ (List.range n).map fun l : Nat => layer row lv (l : Int))))), x4, none, x6, none] := by
    refine ex_fors (ds := [.int n]) ?_ wk e
    rw [layersN] at hn
    simp only [EC.un] at k0
    simp only [exs, ex, ev, evs, evl, Out.bind, Out.then, slotAt, if_true, List.map, List.cons_append, List.nil_append, List.getElem?_cons_zero, List.getElem?_cons_succ, Option.getD, D.flat1, D.isDic, tyIs, asB, VR.look, looks, Option.bind, Option.map, Option.bind_eq_bind, Option.pure_def, bfn, D.len, ofO, cop, boolO, g0, g1, g2, g3, g4, g5, g6, g7, g8, g9, g10, g11, g12, g13, g14, g15, g16, g17, g18, g19, g20, bop_add_int, bop_sub_int, frz, ownAt, anyAt, setV, setT, setNm, setNms, setOne, List.set, wr_un, wr_lk, inL0, inLs, Bool.false_eq_true, if_false, Bool.false_and, Bool.and_true, Bool.true_and, Bool.not_false, Bool.not_true, reduceIte, EC.un, k0, bop_add_lst b1, intsO, b3, hn]
  simp only [EC.un] at es
  simp only [m_layered, exs, ex, ev, evs, evl, Out.bind, Out.then, slotAt, if_true, List.map, List.cons_append, List.nil_append, List.getElem?_cons_zero, List.getElem?_cons_succ, Option.getD, D.flat1, D.isDic, tyIs, asB, VR.look, looks, Option.bind, Option.map, Option.bind_eq_bind, Option.pure_def, bfn, D.len, ofO, cop, boolO, g0, g1, g2, g3, g4, g5, g6, g7, g8, g9, g10, g11, g12, g13, g14, g15, g16, g17, g18, g19, g20, bop_add_int, bop_sub_int, frz, ownAt, anyAt, setV, setT, setNm, setNms, setOne, List.set, wr_un, wr_lk, inL0, inLs, Bool.false_eq_true, if_false, Bool.false_and, Bool.and_true, Bool.true_and, Bool.not_false, Bool.not_true, reduceIte, EC.un, e1, callF, e2, es, finR, finV, layeredM, hlv]
  rw [show (layersN lv).toNat = n by rw [hn]; rfl]
end Ev.Pl

/-! E43: next_rows, first_of. -/
namespace Ev.Pl
theorem slcH_nat (s : List Nat) (i : Nat) : slcD (.str s) none (some (i : Int)) = some (.im (.str (s.take i))) := by
  have h : ¬ ((i : Int) < 0) := by omega
  simp only [slcD, cut, sIx, h, if_false, List.drop_zero, Nat.sub_zero, Int.toNat_natCast]
  rw [List.take_eq_take_iff.mpr]
  omega
theorem slcL_nat (s : List Nat) (i : Nat) : slcD (.str s) (some (i : Int)) none = some (.im (.str (s.drop i))) := by
  have h : ¬ ((i : Int) < 0) := by omega
  simp only [slcD, cut, sIx, h, if_false, Int.toNat_natCast]
  congr 4
  rw [List.take_of_length_le (by rw [List.length_drop]; exact Nat.le_refl _)]
  by_cases q : i ≤ s.length
  · rw [Nat.min_eq_left q]
  · rw [List.drop_of_length_le (by omega), List.drop_of_length_le (by omega)]
def next1 (F : List (List Nat)) (row : List Nat) (c : Nat) : Option (Nat × List Nat) := match findC c 0 row with
  | some i => if (row.take i).all fun o => fre F c o then some (c, row.take i ++ row.drop (i + 1)) else none
  | none => none
def nexts (F : List (List Nat)) (row : List Nat) : List (Nat × List Nat) := abc.filterMap (next1 F row)
abbrev wP (p : Nat × List Nat) : D := .tup [.str [p.1], .str p.2]
theorem findC_ge {c : Nat} : ∀ {s : List Nat} {n i : Nat}, findC c n s = some i → n ≤ i ∧ i < n + s.length
  | [], n, i, h => by cases h
  | x :: s, n, i, h => by
    unfold findC at h
    split at h
    · cases h; simp
    · have := findC_ge h
      simp; omega
theorem next_k0 {T : Nat → EC} {k j : Nat} (cf : CFree T k) (hj : k ≤ j) (F : List (List Nat)) (row : List Nat) (fo : List D) (c i : Nat) (x5 : Option SV) :
    ev (T j).un m_next_rows_k0 [some (.fz (.tup (dS F))), some (.fz (.str row)), some (.ow (.lst fo)), some (.fz (.str [c])), some (.fz (.int i)), x5]
     = .ok (.fr (.lst ((row.take i).map fun o => .bl (fre F c o)))) [some (.fz (.tup (dS F))), some (.fz (.str row)), some (.ow (.lst fo)), some (.fz (.str [c])), some (.fz (.int i)), x5] := by
  refine comp_map (fun o => .str [o]) (row.take i) _ (ds := [.str (row.take i)]) (evs_one (by simp only [exs, ex, ev, evs, evl, Out.bind, Out.then, slotAt, if_true, List.map, List.cons_append, List.nil_append, List.getElem?_cons_zero, List.getElem?_cons_succ, Option.getD, D.flat1, D.isDic, tyIs, asB, VR.look, looks, Option.bind, Option.map, Option.bind_eq_bind, Option.pure_def, bfn, D.len, ofO, cop, boolO, g0, g1, g2, g3, g4, g5, g6, g7, g8, g9, g10, g11, g12, g13, g14, g15, g16, g17, g18, g19, g20, bop_add_int, bop_sub_int, frz, ownAt, anyAt, setV, setT, setNm, setNms, setOne, List.set, wr_un, wr_lk, inL0, inLs, Bool.false_eq_true, if_false, Bool.false_and, Bool.and_true, Bool.true_and, Bool.not_false, Bool.not_true, reduceIte, slcH_nat]; rfl)) rfl rfl fun o ho => ?_
  obtain ⟨run, e1, e2⟩ := cf F c o j hj
  simp only [Turn, turn, exs, ex, ev, evs, evl, Out.bind, Out.then, slotAt, if_true, List.map, List.cons_append, List.nil_append, List.getElem?_cons_zero, List.getElem?_cons_succ, Option.getD, D.flat1, D.isDic, tyIs, asB, VR.look, looks, Option.bind, Option.map, Option.bind_eq_bind, Option.pure_def, bfn, D.len, ofO, cop, boolO, g0, g1, g2, g3, g4, g5, g6, g7, g8, g9, g10, g11, g12, g13, g14, g15, g16, g17, g18, g19, g20, bop_add_int, bop_sub_int, frz, ownAt, anyAt, setV, setT, setNm, setNms, setOne, List.set, wr_un, wr_lk, inL0, inLs, Bool.false_eq_true, if_false, Bool.false_and, Bool.and_true, Bool.true_and, Bool.not_false, Bool.not_true, reduceIte, wipeE, e1, callF, e2]
theorem next_rows_ok {T : Nat → EC} {k fuel : Nat} (o : On T fuel f_next_rows m_next_rows) (G : ∀ j, Gam (T j)) (cf : CFree T k) (F : List (List Nat)) (row : List Nat) (h3 : row.length < szL) : Cal T (k + 1) f_next_rows [.tup (dS F), .str row] (.ok true (.lst ((nexts F row).map wP)) .non) := by
  refine Cal.of o fun j hj => ?_
  rw [Fd.run_un [some (.fz (.tup (dS F))), some (.fz (.str row)), none, none, none, none] rfl rfl rfl]
  have key := for_rel (C := (T j).un) (t := .nm 3) (body := fun ρ => exs (T j).un fuel (.cons (.asg (.nm 4) (.meth .find (.var 1) (.cons (.var 3) .nil))) (.cons (.ifs (.and (.cmp .ge (.var 4) (.cst (.int 0))) (.blt .all (.cons m_next_rows_k0 .nil))) (.cons (.append 2 (.tup (.cons (.var 3) (.cons (.bin .add (.slcH (.var 1) (.var 4)) (.slcL (.var 1) (.bin .add (.var 4) (.cst (.int 1))))) .nil)))) .nil) .nil) .nil)) ρ)
    (fun c : Nat => D.str [c]) (fun (s : List (Nat × List Nat)) ρ => ∃ x3 x4, ρ = [some (.fz (.tup (dS F))), some (.fz (.str row)), some (.ow (.lst (s.map wP))), x3, x4, none])
    (fun s c => s ++ (next1 F row c).toList) (fun rest s => s.length + rest.length ≤ 3) (fun c rest s ρ hp hi => by
      obtain ⟨x3, x4, rfl⟩ := hi
      refine ⟨_, rfl, ?_⟩
      cases hf : findC c 0 row with
      | none =>
        have z : decide ((0 : Int) ≤ -1) = false := by decide
        simp only [exs, ex, ev, evs, evl, Out.bind, Out.then, slotAt, if_true, List.map, List.cons_append, List.nil_append, List.getElem?_cons_zero, List.getElem?_cons_succ, Option.getD, D.flat1, D.isDic, tyIs, asB, VR.look, looks, Option.bind, Option.map, Option.bind_eq_bind, Option.pure_def, bfn, D.len, ofO, cop, boolO, g0, g1, g2, g3, g4, g5, g6, g7, g8, g9, g10, g11, g12, g13, g14, g15, g16, g17, g18, g19, g20, bop_add_int, bop_sub_int, frz, ownAt, anyAt, setV, setT, setNm, setNms, setOne, List.set, wr_un, wr_lk, inL0, inLs, Bool.false_eq_true, if_false, Bool.false_and, Bool.and_true, Bool.true_and, Bool.not_false, Bool.not_true, reduceIte, mkind, mfn, hf, z]
        exact ⟨_, rfl, ⟨_, _, by simp [next1, hf]; exact ⟨rfl, rfl⟩⟩, by simp [next1, hf] at hp ⊢; omega⟩
      | some i =>
        have z : decide ((0 : Int) ≤ (i : Int)) = true := by simp
        have b := next_k0 cf hj F row (s.map wP) c i none
        have b2 : allB ((row.take i).map fun o => fre F c o) = (row.take i).all fun o => fre F c o := allB_mapF
        have b3 : boolsO ((row.take i).map fun o => .bl (fre F c o)) = some ((row.take i).map fun o => fre F c o) := boolsO_mapF
        have i1 := (findC_ge hf).2
        have c1 : (i : Int) + 1 = ((i + 1 : Nat) : Int) := by omega
        have d : (row.take i).length + (row.drop (i + 1)).length ≤ szL := by
          rw [List.length_take, List.length_drop]; omega
        have le : Nat.blt (s.map wP).length szL = true := by
          rw [Nat.blt_eq, List.length_map]
          rw [List.length_cons] at hp
          show _ < 16777216
          omega
        simp only [EC.un] at b
        simp only [exs, ex, ev, evs, evl, Out.bind, Out.then, slotAt, if_true, List.map, List.cons_append, List.nil_append, List.getElem?_cons_zero, List.getElem?_cons_succ, Option.getD, D.flat1, D.isDic, tyIs, asB, VR.look, looks, Option.bind, Option.map, Option.bind_eq_bind, Option.pure_def, bfn, D.len, ofO, cop, boolO, g0, g1, g2, g3, g4, g5, g6, g7, g8, g9, g10, g11, g12, g13, g14, g15, g16, g17, g18, g19, g20, bop_add_int, bop_sub_int, frz, ownAt, anyAt, setV, setT, setNm, setNms, setOne, List.set, wr_un, wr_lk, inL0, inLs, Bool.false_eq_true, if_false, Bool.false_and, Bool.and_true, Bool.true_and, Bool.not_false, Bool.not_true, reduceIte, EC.un, mkind, mfn, hf, z, b, b2, b3]
        cases hall : (row.take i).all fun o => fre F c o with
        | false =>
          simp only [exs, ex, ev, evs, evl, Out.bind, Out.then, slotAt, if_true, List.map, List.cons_append, List.nil_append, List.getElem?_cons_zero, List.getElem?_cons_succ, Option.getD, D.flat1, D.isDic, tyIs, asB, VR.look, looks, Option.bind, Option.map, Option.bind_eq_bind, Option.pure_def, bfn, D.len, ofO, cop, boolO, g0, g1, g2, g3, g4, g5, g6, g7, g8, g9, g10, g11, g12, g13, g14, g15, g16, g17, g18, g19, g20, bop_add_int, bop_sub_int, frz, ownAt, anyAt, setV, setT, setNm, setNms, setOne, List.set, wr_un, wr_lk, inL0, inLs, Bool.false_eq_true, if_false, Bool.false_and, Bool.and_true, Bool.true_and, Bool.not_false, Bool.not_true, reduceIte]
          exact ⟨_, rfl, ⟨_, _, by simp [next1, hf, hall]; exact ⟨rfl, rfl⟩⟩, by simp [next1, hf, hall] at hp ⊢; omega⟩
        | true =>
          simp only [exs, ex, ev, evs, evl, Out.bind, Out.then, slotAt, if_true, List.map, List.cons_append, List.nil_append, List.getElem?_cons_zero, List.getElem?_cons_succ, Option.getD, D.flat1, D.isDic, tyIs, asB, VR.look, looks, Option.bind, Option.map, Option.bind_eq_bind, Option.pure_def, bfn, D.len, ofO, cop, boolO, g0, g1, g2, g3, g4, g5, g6, g7, g8, g9, g10, g11, g12, g13, g14, g15, g16, g17, g18, g19, g20, bop_add_int, bop_sub_int, frz, ownAt, anyAt, setV, setT, setNm, setNms, setOne, List.set, wr_un, wr_lk, inL0, inLs, Bool.false_eq_true, if_false, Bool.false_and, Bool.and_true, Bool.true_and, Bool.not_false, Bool.not_true, reduceIte, slcH_nat, c1, slcL_nat, bop_add_str d, le]
          exact ⟨_, rfl, ⟨_, _, by simp [next1, hf, hall]; exact ⟨rfl, rfl⟩⟩, by simp [next1, hf, hall] at hp ⊢; omega⟩) abc [] [some (.fz (.tup (dS F))), some (.fz (.str row)), some (.ow (.lst [])), none, none, none] (by decide) ⟨_, _, rfl⟩
  obtain ⟨ρ', e, ⟨x3, x4, rfl⟩, _⟩ := key
  have es : ex (T j).un fuel m_next_rows_s0 [some (.fz (.tup (dS F))), some (.fz (.str row)), some (.ow (.lst [])), none, none, none] = .nx [some (.fz (.tup (dS F))), some (.fz (.str row)), some (.ow (.lst ((abc.foldl (fun s c => s ++ (next1 F row c).toList) []).map wP))), x3, x4, none] :=
    ex_fors (evs_glo (G j).letters) rfl e
  have ef : abc.foldl (fun s c => s ++ (next1 F row c).toList) [] = nexts F row := by
    simp only [abc, nexts, List.foldl, List.filterMap, List.nil_append]
    cases next1 F row 97 <;> cases next1 F row 98 <;> cases next1 F row 99 <;> rfl
  rw [ef] at es
  simp only [EC.un] at es
  simp only [m_next_rows, exs, ex, ev, evs, evl, Out.bind, Out.then, slotAt, if_true, List.map, List.cons_append, List.nil_append, List.getElem?_cons_zero, List.getElem?_cons_succ, Option.getD, D.flat1, D.isDic, tyIs, asB, VR.look, looks, Option.bind, Option.map, Option.bind_eq_bind, Option.pure_def, bfn, D.len, ofO, cop, boolO, g0, g1, g2, g3, g4, g5, g6, g7, g8, g9, g10, g11, g12, g13, g14, g15, g16, g17, g18, g19, g20, bop_add_int, bop_sub_int, frz, ownAt, anyAt, setV, setT, setNm, setNms, setOne, List.set, wr_un, wr_lk, inL0, inLs, Bool.false_eq_true, if_false, Bool.false_and, Bool.and_true, Bool.true_and, Bool.not_false, Bool.not_true, reduceIte, EC.un, es, finR, finV]
/-! first_of -/
theorem eqO_str (a b : List Nat) : eqO (.str a) (.str b) = some (a == b) := by
  simp [eqO, D.nod, D.dep]; rfl
def firstM (F : List (List Nat)) : Nat → List Nat → List Nat
  | 0, _ => []
  | n + 1, row => match nexts F row with
    | [] => []
    | p :: _ => p.1 :: firstM F n p.2
theorem next1_facts {F : List (List Nat)} {row : List Nat} {c : Nat} {p : Nat × List Nat} (h : next1 F row c = some p) : p.1 = c ∧ p.2.length + 1 = row.length ∧ ∀ x ∈ p.2, x ∈ row := by
  unfold next1 at h
  split at h
  · rename_i i hi
    split at h
    · cases h
      have := (findC_ge hi).2
      refine ⟨rfl, by simp; omega, fun x hx => ?_⟩
      rw [List.mem_append] at hx
      rcases hx with hx | hx
      · exact List.mem_of_mem_take hx
      · exact List.mem_of_mem_drop hx
    · cases h
  · cases h
theorem nexts_facts {F : List (List Nat)} {row : List Nat} {p : Nat × List Nat} (h : p ∈ nexts F row) : p.1 ∈ abc ∧ p.2.length + 1 = row.length ∧ ∀ x ∈ p.2, x ∈ row := by
  obtain ⟨c, hc, e⟩ := List.mem_filterMap.mp h
  obtain ⟨e1, e2, e3⟩ := next1_facts e
  exact ⟨e1 ▸ hc, e2, e3⟩
theorem nexts_len (F : List (List Nat)) (row : List Nat) : (nexts F row).length ≤ 3 := List.length_filterMap_le ..
theorem nexts_ne {F : List (List Nat)} {c : Nat} {row : List Nat} (h : c ∈ abc) : nexts F (c :: row) ≠ [] := by
  intro e
  have : next1 F (c :: row) c = some (c, row) := by simp [next1, findC]
  have m : (c, row) ∈ nexts F (c :: row) := List.mem_filterMap.mpr ⟨c, h, this⟩
  rw [e] at m
  cases m
/-- a row: letters a, b, c -/
def IsRow (row : List Nat) : Prop := ∀ x ∈ row, x ∈ abc
theorem firstM_spec (F : List (List Nat)) : ∀ {row : List Nat} {p : Nat × List Nat} {ps}, nexts F row = p :: ps → firstM F row.length row = p.1 :: firstM F p.2.length p.2 := by
  intro row p ps e
  have := (nexts_facts (F := F) (row := row) (p := p) (by rw [e]; exact List.mem_cons_self ..)).2.1
  rw [← this, firstM, e]
def CNext (T : Nat → EC) (k : Nat) : Prop := ∀ (F : List (List Nat)) (row : List Nat), row.length < szL → Cal T k f_next_rows [.tup (dS F), .str row] (.ok true (.lst ((nexts F row).map wP)) .non)
theorem first_of_ok {T : Nat → EC} {k fuel : Nat} (o : On T fuel f_first_of m_first_of) (cn : CNext T k) (F : List (List Nat)) (row : List Nat) (h3 : row.length < szL) (hf : row.length < fuel) (hr : IsRow row) : Cal T (k + 1) f_first_of [.tup (dS F), .str row] (.ok false (.str (firstM F row.length row)) .non) := by
  refine Cal.of o fun j hj => ?_
  rw [Fd.run_un [some (.fz (.tup (dS F))), some (.fz (.str row)), none, none] rfl rfl rfl]
  have key := whl_rel (cond := fun ρ => (ev (T j).un (.cmp .ne (.var 1) (.cst (.str []))) ρ).bind asB) (body := fun ρ => exs (T j).un fuel (.cons (.asg (.tp [3, 1]) (.idx (.call f_next_rows (.cons (.var 0) (.cons (.var 1) .nil))) (.cst (.int 0)))) (.cons (.asg (.nm 2) (.bin .add (.var 2) (.var 3))) .nil)) ρ)
    (fun (s : List Nat × List Nat) ρ => IsRow s.1 ∧ s.2 ++ firstM F s.1.length s.1 = firstM F row.length row ∧ s.2.length + s.1.length = row.length ∧ ∃ x3, ρ = [some (.fz (.tup (dS F))), some (.fz (.str s.1)), some (.fz (.str s.2)), x3])
    (fun s => !(s.1 == [])) (fun s => match nexts F s.1 with | [] => s | p :: _ => (p.2, s.2 ++ [p.1])) (fun s => s.1.length) (fun s ρ hi => by
      obtain ⟨r, fo⟩ := s
      obtain ⟨h1, h2, h5, x3, rfl⟩ := hi
      dsimp only at h1 h2 h5
      refine ⟨_, by simp only [exs, ex, ev, evs, evl, Out.bind, Out.then, slotAt, if_true, List.map, List.cons_append, List.nil_append, List.getElem?_cons_zero, List.getElem?_cons_succ, Option.getD, D.flat1, D.isDic, tyIs, asB, VR.look, looks, Option.bind, Option.map, Option.bind_eq_bind, Option.pure_def, bfn, D.len, ofO, cop, boolO, g0, g1, g2, g3, g4, g5, g6, g7, g8, g9, g10, g11, g12, g13, g14, g15, g16, g17, g18, g19, g20, bop_add_int, bop_sub_int, frz, ownAt, anyAt, setV, setT, setNm, setNms, setOne, List.set, wr_un, wr_lk, inL0, inLs, Bool.false_eq_true, if_false, Bool.false_and, Bool.and_true, Bool.true_and, Bool.not_false, Bool.not_true, reduceIte, eqO_str], fun _ => ⟨h1, h2, h5, x3, rfl⟩, fun hc => ?_⟩
      obtain ⟨run, e1, e2⟩ := cn F r (by omega) j hj
      cases r with
      | nil => simp at hc
      | cons c r =>
        cases hn : nexts F (c :: r) with
        | nil => exact absurd hn (nexts_ne (h1 c (List.mem_cons_self ..)))
        | cons p ps =>
          have fs := nexts_facts (F := F) (row := c :: r) (p := p) (by rw [hn]; exact List.mem_cons_self ..)
          have ix : idxD (.lst (wP p :: ps.map wP)) (.int 0) = some (wP p) := by simp [idxD, atI, ixN]
          have d : fo.length + ([p.1] : List Nat).length ≤ szL := by
            simp only [List.length_cons, List.length_nil] at h5 ⊢
            omega
          have fsp := firstM_spec F hn
          simp only [exs, ex, ev, evs, evl, Out.bind, Out.then, slotAt, if_true, List.map, List.cons_append, List.nil_append, List.getElem?_cons_zero, List.getElem?_cons_succ, Option.getD, D.flat1, D.isDic, tyIs, asB, VR.look, looks, Option.bind, Option.map, Option.bind_eq_bind, Option.pure_def, bfn, D.len, ofO, cop, boolO, g0, g1, g2, g3, g4, g5, g6, g7, g8, g9, g10, g11, g12, g13, g14, g15, g16, g17, g18, g19, g20, bop_add_int, bop_sub_int, frz, ownAt, anyAt, setV, setT, setNm, setNms, setOne, List.set, wr_un, wr_lk, inL0, inLs, Bool.false_eq_true, if_false, Bool.false_and, Bool.and_true, Bool.true_and, Bool.not_false, Bool.not_true, reduceIte, e1, callF, e2, hn, ix, bop_add_str d]
          refine ⟨_, rfl, ⟨fun x hx => h1 x (fs.2.2 x hx), ?_, ?_, _, rfl⟩, ?_⟩
          · rw [← h2, fsp, List.append_assoc]; rfl
          · simp at h5 ⊢
            have := fs.2.1
            simp at this
            omega
          · have := fs.2.1
            omega) fuel (row, []) [some (.fz (.tup (dS F))), some (.fz (.str row)), some (.fz (.str [])), none] hf ⟨hr, rfl, by simp, none, rfl⟩
  obtain ⟨ρ', ⟨r, fo⟩, e, ⟨_, h2, _, x3, rfl⟩, hc⟩ := key
  dsimp only at h2 hc
  have : r = [] := by
    cases r with
    | nil => rfl
    | cons c r => simp at hc
  subst this
  have h2 : fo = firstM F row.length row := by simpa [firstM] using h2
  subst h2
  have es : ex (T j).un fuel m_first_of_s0 [some (.fz (.tup (dS F))), some (.fz (.str row)), some (.fz (.str [])), none] = .nx [some (.fz (.tup (dS F))), some (.fz (.str [])), some (.fz (.str (firstM F row.length row))), x3] := ex_whl e
  simp only [EC.un] at es
  simp only [m_first_of, exs, ex, ev, evs, evl, Out.bind, Out.then, slotAt, if_true, List.map, List.cons_append, List.nil_append, List.getElem?_cons_zero, List.getElem?_cons_succ, Option.getD, D.flat1, D.isDic, tyIs, asB, VR.look, looks, Option.bind, Option.map, Option.bind_eq_bind, Option.pure_def, bfn, D.len, ofO, cop, boolO, g0, g1, g2, g3, g4, g5, g6, g7, g8, g9, g10, g11, g12, g13, g14, g15, g16, g17, g18, g19, g20, bop_add_int, bop_sub_int, frz, ownAt, anyAt, setV, setT, setNm, setNms, setOne, List.set, wr_un, wr_lk, inL0, inLs, Bool.false_eq_true, if_false, Bool.false_and, Bool.and_true, Bool.true_and, Bool.not_false, Bool.not_true, reduceIte, EC.un, es, finR, finV]
end Ev.Pl

/-! E44: is_hanging. -/
namespace Ev.Pl
def nearM (F : List (List Nat)) (ls fo : List Nat) : List Nat := ls.filter fun l => !(fo.all fun o => fre F l o)
def hangStep (F : List (List Nat)) (ls fo : List Nat) : List Nat := abc.filter fun c => fo.contains c || (nearM F ls fo).contains c
def hangM (F : List (List Nat)) (ls : List Nat) : Bool := ls.all fun c => (ls.foldl (fun fo _ => hangStep F ls fo) (ls.take 1)).contains c
section
variable {C : EC} (F : List (List Nat)) (ls fo nr : List Nat) (x3 x4 x5 x6 : Option SV)
theorem hang_k0 : ev C.un m_is_hanging_k0 [some (.fz (.tup (dS F))), some (.fz (.str ls)), some (.fz (.str fo)), x3, x4, x5, x6] = .ok (.fr (.lst (ls.map fun c => .bl (fo.contains c)))) [some (.fz (.tup (dS F))), some (.fz (.str ls)), some (.fz (.str fo)), x3, x4, x5, x6] := by
  refine comp_map (fun c => .str [c]) ls _ (ds := [.str ls]) rfl rfl rfl fun c hc => ?_
  simp only [Turn, turn, exs, ex, ev, evs, evl, Out.bind, Out.then, slotAt, if_true, List.map, List.cons_append, List.nil_append, List.getElem?_cons_zero, List.getElem?_cons_succ, Option.getD, D.flat1, D.isDic, tyIs, asB, VR.look, looks, Option.bind, Option.map, Option.bind_eq_bind, Option.pure_def, bfn, D.len, ofO, cop, boolO, g0, g1, g2, g3, g4, g5, g6, g7, g8, g9, g10, g11, g12, g13, g14, g15, g16, g17, g18, g19, g20, bop_add_int, bop_sub_int, frz, ownAt, anyAt, setV, setT, setNm, setNms, setOne, List.set, wr_un, wr_lk, inL0, inLs, Bool.false_eq_true, if_false, Bool.false_and, Bool.and_true, Bool.true_and, Bool.not_false, Bool.not_true, reduceIte, wipeE, isIn]
theorem hang_k1 (G : Gam C) : ev C.un m_is_hanging_k1 [some (.fz (.tup (dS F))), some (.fz (.str ls)), some (.fz (.str fo)), x3, some (.ow (.lst (nr.map fun c => .str [c]))), x5, x6] = .ok (.fr (.lst ((abc.filter fun c => fo.contains c || nr.contains c).map fun c => .str [c]))) [some (.fz (.tup (dS F))), some (.fz (.str ls)), some (.fz (.str fo)), x3, some (.ow (.lst (nr.map fun c => .str [c]))), x5, x6] := by
  refine comp_flt (fun c => .str [c]) abc _ _ (evs_glo G.letters) rfl rfl fun c hc => ?_
  have q := isIn_chars c nr
  have q2 : isIn (.str [c]) (.str fo) = some (fo.contains c) := rfl
  simp only [Turn, turn, exs, ex, ev, evs, evl, Out.bind, Out.then, slotAt, if_true, List.map, List.cons_append, List.nil_append, List.getElem?_cons_zero, List.getElem?_cons_succ, Option.getD, D.flat1, D.isDic, tyIs, asB, VR.look, looks, Option.bind, Option.map, Option.bind_eq_bind, Option.pure_def, bfn, D.len, ofO, cop, boolO, g0, g1, g2, g3, g4, g5, g6, g7, g8, g9, g10, g11, g12, g13, g14, g15, g16, g17, g18, g19, g20, bop_add_int, bop_sub_int, frz, ownAt, anyAt, setV, setT, setNm, setNms, setOne, List.set, wr_un, wr_lk, inL0, inLs, Bool.false_eq_true, if_false, Bool.false_and, Bool.and_true, Bool.true_and, Bool.not_false, Bool.not_true, reduceIte, wipeE, q, q2]
  cases fo.contains c <;> simp only [exs, ex, ev, evs, evl, Out.bind, Out.then, slotAt, if_true, List.map, List.cons_append, List.nil_append, List.getElem?_cons_zero, List.getElem?_cons_succ, Option.getD, D.flat1, D.isDic, tyIs, asB, VR.look, looks, Option.bind, Option.map, Option.bind_eq_bind, Option.pure_def, bfn, D.len, ofO, cop, boolO, g0, g1, g2, g3, g4, g5, g6, g7, g8, g9, g10, g11, g12, g13, g14, g15, g16, g17, g18, g19, g20, bop_add_int, bop_sub_int, frz, ownAt, anyAt, setV, setT, setNm, setNms, setOne, List.set, wr_un, wr_lk, inL0, inLs, Bool.false_eq_true, if_false, Bool.false_and, Bool.and_true, Bool.true_and, Bool.not_false, Bool.not_true, reduceIte, wipeE, q, Bool.true_or, Bool.false_or]
  cases nr.contains c <;> simp only [exs, ex, ev, evs, evl, Out.bind, Out.then, slotAt, if_true, List.map, List.cons_append, List.nil_append, List.getElem?_cons_zero, List.getElem?_cons_succ, Option.getD, D.flat1, D.isDic, tyIs, asB, VR.look, looks, Option.bind, Option.map, Option.bind_eq_bind, Option.pure_def, bfn, D.len, ofO, cop, boolO, g0, g1, g2, g3, g4, g5, g6, g7, g8, g9, g10, g11, g12, g13, g14, g15, g16, g17, g18, g19, g20, bop_add_int, bop_sub_int, frz, ownAt, anyAt, setV, setT, setNm, setNms, setOne, List.set, wr_un, wr_lk, inL0, inLs, Bool.false_eq_true, if_false, Bool.false_and, Bool.and_true, Bool.true_and, Bool.not_false, Bool.not_true, reduceIte, wipeE]
end
theorem hang_k2 {T : Nat → EC} {k j : Nat} (cf : CFree T k) (hj : k ≤ j) (F : List (List Nat)) (ls fo : List Nat) (l : Nat) (x3 x4 x6 : Option SV) :
    ev (T j).un m_is_hanging_k2 [some (.fz (.tup (dS F))), some (.fz (.str ls)), some (.fz (.str fo)), x3, x4, some (.fz (.str [l])), x6] = .ok (.fr (.lst (fo.map fun o => .bl (fre F l o)))) [some (.fz (.tup (dS F))), some (.fz (.str ls)), some (.fz (.str fo)), x3, x4, some (.fz (.str [l])), x6] := by
  refine comp_map (fun c => .str [c]) fo _ (ds := [.str fo]) rfl rfl rfl fun c hc => ?_
  obtain ⟨run, e1, e2⟩ := cf F l c j hj
  simp only [Turn, turn, exs, ex, ev, evs, evl, Out.bind, Out.then, slotAt, if_true, List.map, List.cons_append, List.nil_append, List.getElem?_cons_zero, List.getElem?_cons_succ, Option.getD, D.flat1, D.isDic, tyIs, asB, VR.look, looks, Option.bind, Option.map, Option.bind_eq_bind, Option.pure_def, bfn, D.len, ofO, cop, boolO, g0, g1, g2, g3, g4, g5, g6, g7, g8, g9, g10, g11, g12, g13, g14, g15, g16, g17, g18, g19, g20, bop_add_int, bop_sub_int, frz, ownAt, anyAt, setV, setT, setNm, setNms, setOne, List.set, wr_un, wr_lk, inL0, inLs, Bool.false_eq_true, if_false, Bool.false_and, Bool.and_true, Bool.true_and, Bool.not_false, Bool.not_true, reduceIte, wipeE, e1, callF, e2]
theorem hang_k3 {T : Nat → EC} {k j : Nat} (cf : CFree T k) (hj : k ≤ j) (F : List (List Nat)) (ls fo : List Nat) (x3 x4 x5 x6 : Option SV) :
    ev (T j).un m_is_hanging_k3 [some (.fz (.tup (dS F))), some (.fz (.str ls)), some (.fz (.str fo)), x3, x4, x5, x6] = .ok (.fr (.lst ((nearM F ls fo).map fun c => .str [c]))) [some (.fz (.tup (dS F))), some (.fz (.str ls)), some (.fz (.str fo)), x3, x4, x5, x6] := by
  refine comp_flt (fun c => .str [c]) ls _ _ (ds := [.str ls]) rfl rfl rfl fun c hc => ?_
  have a := hang_k2 cf hj F ls fo c x3 x4 x6
  have b2 : allB (fo.map fun o => fre F c o) = fo.all fun o => fre F c o := allB_mapF
  have b3 : boolsO (fo.map fun o => .bl (fre F c o)) = some (fo.map fun o => fre F c o) := boolsO_mapF
  simp only [EC.un] at a
  simp only [Turn, turn, exs, ex, ev, evs, evl, Out.bind, Out.then, slotAt, if_true, List.map, List.cons_append, List.nil_append, List.getElem?_cons_zero, List.getElem?_cons_succ, Option.getD, D.flat1, D.isDic, tyIs, asB, VR.look, looks, Option.bind, Option.map, Option.bind_eq_bind, Option.pure_def, bfn, D.len, ofO, cop, boolO, g0, g1, g2, g3, g4, g5, g6, g7, g8, g9, g10, g11, g12, g13, g14, g15, g16, g17, g18, g19, g20, bop_add_int, bop_sub_int, frz, ownAt, anyAt, setV, setT, setNm, setNms, setOne, List.set, wr_un, wr_lk, inL0, inLs, Bool.false_eq_true, if_false, Bool.false_and, Bool.and_true, Bool.true_and, Bool.not_false, Bool.not_true, reduceIte, EC.un, wipeE, a, b2, b3]
  cases fo.all fun o => fre F c o <;> simp only [exs, ex, ev, evs, evl, Out.bind, Out.then, slotAt, if_true, List.map, List.cons_append, List.nil_append, List.getElem?_cons_zero, List.getElem?_cons_succ, Option.getD, D.flat1, D.isDic, tyIs, asB, VR.look, looks, Option.bind, Option.map, Option.bind_eq_bind, Option.pure_def, bfn, D.len, ofO, cop, boolO, g0, g1, g2, g3, g4, g5, g6, g7, g8, g9, g10, g11, g12, g13, g14, g15, g16, g17, g18, g19, g20, bop_add_int, bop_sub_int, frz, ownAt, anyAt, setV, setT, setNm, setNms, setOne, List.set, wr_un, wr_lk, inL0, inLs, Bool.false_eq_true, if_false, Bool.false_and, Bool.and_true, Bool.true_and, Bool.not_false, Bool.not_true, reduceIte, wipeE]
theorem is_hanging_ok {T : Nat → EC} {k fuel : Nat} (o : On T fuel f_is_hanging m_is_hanging) (G : ∀ j, Gam (T j)) (cf : CFree T k) (F : List (List Nat)) (ls : List Nat) : Cal T (k + 1) f_is_hanging [.tup (dS F), .str ls] (.ok false (.bl (hangM F ls)) .non) := by
  refine Cal.of o fun j hj => ?_
  rw [Fd.run_un [some (.fz (.tup (dS F))), some (.fz (.str ls)), none, none, none, none, none] rfl rfl rfl]
  have key := for_rel (C := (T j).un) (t := .nm 3) (body := fun ρ => exs (T j).un fuel (.cons (.asg (.nm 4) m_is_hanging_k3) (.cons (.asg (.nm 2) (.meth .join (.cst (.str [])) (.cons m_is_hanging_k1 .nil))) .nil)) ρ)
    (fun c : Nat => D.str [c]) (fun (s : List Nat) ρ => ∃ x3 x4, ρ = [some (.fz (.tup (dS F))), some (.fz (.str ls)), some (.fz (.str s)), x3, x4, none, none])
    (fun s c => hangStep F ls s) (fun rest s => True) (fun c rest s ρ hp hi => by
      obtain ⟨x3, x4, rfl⟩ := hi
      refine ⟨_, rfl, ?_⟩
      have a := hang_k3 cf hj F ls s (some (.fz (.str [c]))) x4 none none
      have b := hang_k1 F ls s (nearM F ls s) (some (.fz (.str [c]))) none none (G j)
      have d := join_letters (l := hangStep F ls s) (by
        have : (hangStep F ls s).length ≤ abc.length := List.length_filter_le ..
        have q : abc.length = 3 := rfl
        show _ ≤ 16777216
        omega)
      simp only [EC.un, hangStep] at a b d
      simp only [exs, ex, ev, evs, evl, Out.bind, Out.then, slotAt, if_true, List.map, List.cons_append, List.nil_append, List.getElem?_cons_zero, List.getElem?_cons_succ, Option.getD, D.flat1, D.isDic, tyIs, asB, VR.look, looks, Option.bind, Option.map, Option.bind_eq_bind, Option.pure_def, bfn, D.len, ofO, cop, boolO, g0, g1, g2, g3, g4, g5, g6, g7, g8, g9, g10, g11, g12, g13, g14, g15, g16, g17, g18, g19, g20, bop_add_int, bop_sub_int, frz, ownAt, anyAt, setV, setT, setNm, setNms, setOne, List.set, wr_un, wr_lk, inL0, inLs, Bool.false_eq_true, if_false, Bool.false_and, Bool.and_true, Bool.true_and, Bool.not_false, Bool.not_true, reduceIte, EC.un, a, b, mkind, d]
      exact ⟨_, rfl, ⟨_, _, rfl⟩, trivial⟩) ls (ls.take 1) [some (.fz (.tup (dS F))), some (.fz (.str ls)), some (.fz (.str (ls.take 1))), none, none, none, none] trivial ⟨_, _, rfl⟩
  obtain ⟨ρ', e, ⟨x3, x4, rfl⟩, _⟩ := key
  have es : ex (T j).un fuel m_is_hanging_s0 [some (.fz (.tup (dS F))), some (.fz (.str ls)), some (.fz (.str (ls.take 1))), none, none, none, none] = .nx [some (.fz (.tup (dS F))), some (.fz (.str ls)), some (.fz (.str (ls.foldl (fun fo _ => hangStep F ls fo) (ls.take 1)))), x3, x4, none, none] :=
    ex_fors (ds := [.str ls]) rfl rfl e
  have c1 : ((1 : Int)) = ((1 : Nat) : Int) := rfl
  have sl : slcD (.str ls) none (some 1) = some (.im (.str (ls.take 1))) := slcH_nat ls 1
  have k0 := hang_k0 (C := T j) F ls (ls.foldl (fun fo _ => hangStep F ls fo) (ls.take 1)) x3 x4 none none
  have b2 : allB (ls.map fun c => (ls.foldl (fun fo _ => hangStep F ls fo) (ls.take 1)).contains c) = hangM F ls := allB_mapF
  have b3 : boolsO (ls.map fun c => .bl ((ls.foldl (fun fo _ => hangStep F ls fo) (ls.take 1)).contains c)) = some (ls.map fun c => (ls.foldl (fun fo _ => hangStep F ls fo) (ls.take 1)).contains c) := boolsO_mapF
  simp only [EC.un] at es k0
  simp only [m_is_hanging, exs, ex, ev, evs, evl, Out.bind, Out.then, slotAt, if_true, List.map, List.cons_append, List.nil_append, List.getElem?_cons_zero, List.getElem?_cons_succ, Option.getD, D.flat1, D.isDic, tyIs, asB, VR.look, looks, Option.bind, Option.map, Option.bind_eq_bind, Option.pure_def, bfn, D.len, ofO, cop, boolO, g0, g1, g2, g3, g4, g5, g6, g7, g8, g9, g10, g11, g12, g13, g14, g15, g16, g17, g18, g19, g20, bop_add_int, bop_sub_int, frz, ownAt, anyAt, setV, setT, setNm, setNms, setOne, List.set, wr_un, wr_lk, inL0, inLs, Bool.false_eq_true, if_false, Bool.false_and, Bool.and_true, Bool.true_and, Bool.not_false, Bool.not_true, reduceIte, EC.un, sl, es, k0, b3, b2, finR, finV]
end Ev.Pl

/-! E45: counted. -/
namespace Ev.Pl
abbrev Lv := List (List Nat × Int)
abbrev wL (p : List Nat × Int) : D × D := (.str p.1, .int p.2)
abbrev dL (l : Lv) : D := .dic (l.map wL)
def getL (k : List Nat) (l : Lv) : Option Int := (l.find? fun p => p.1 == k).map (·.2)
def putL (k : List Nat) (v : Int) (l : Lv) : Lv := if l.any (fun p => p.1 == k) then l.map fun p => if p.1 == k then (p.1, v) else p else l ++ [(k, v)]
theorem keyFits_L (l : Lv) (k : List Nat) : keyFits (l.map wL) (.str k) = true := by
  cases l <;> rfl
theorem lookK_L (l : Lv) (k : List Nat) : lookK (l.map wL) (.str k) = (getL k l).map .int := by
  unfold lookK getL
  induction l with
  | nil => rfl
  | cons p l ih =>
    rw [List.map_cons, List.find?_cons, List.find?_cons]
    show (match (p.1 == k) with | true => some (wL p) | false => _).map _ = _
    cases h : p.1 == k
    · simpa using ih
    · rfl
theorem putK_L (l : Lv) (k : List Nat) (v : Int) : putK (.str k) (.int v) (l.map wL) = (putL k v l).map wL := by
  unfold putK putL
  have e : ((l.map wL).any fun p => D.eqv p.1 (.str k)) = l.any fun p => p.1 == k := by
    rw [List.any_map]; rfl
  rw [e]
  split
  · rw [List.map_map, List.map_map]
    apply List.map_congr_left
    intro p _
    show (if (p.1 == k) = true then _ else _) = wL (if (p.1 == k) = true then _ else _)
    split <;> rfl
  · rw [List.map_append]; rfl
theorem putL_len (l : Lv) (k : List Nat) (v : Int) : (putL k v l).length ≤ l.length + 1 := by
  unfold putL
  split <;> simp
theorem putL_keys {l : Lv} {k : List Nat} {v : Int} {p : List Nat × Int} (h : p ∈ putL k v l) : p.1 = k ∨ ∃ q ∈ l, q.1 = p.1 := by
  unfold putL at h
  split at h
  · obtain ⟨q, hq, e⟩ := List.mem_map.mp h
    refine .inr ⟨q, hq, ?_⟩
    subst e
    split <;> rfl
  · rw [List.mem_append, List.mem_singleton] at h
    rcases h with h | h
    · exact .inr ⟨p, h, rfl⟩
    · exact .inl (by rw [h])
def stepIn (v : Int) (later : Lv) (p : Nat × List Nat) : Lv := putL p.2 ((getL p.2 later).getD 0 + v) later
def stepKey (F : List (List Nat)) (level : Lv) (s : Int × Lv) (rest : List Nat) : Int × Lv :=
  (if rest == [] then s.1 + (getL rest level).getD 0 else s.1, (nexts F rest).foldl (stepIn ((getL rest level).getD 0)) s.2)
def countStep (F : List (List Nat)) (s : Int × Lv) : Int × Lv := (s.2.map (·.1)).foldl (stepKey F s.2) (s.1, [])
def countL (F : List (List Nat)) : Nat → Int × Lv → Int
  | 0, s => s.1
  | n + 1, s => if s.2.isEmpty then s.1 else countL F n (countStep F s)
def countM (F : List (List Nat)) (row : List Nat) : Int := countL F (row.length + 1) (0, [(row, 1)])
theorem getL_mem {l : Lv} {k : List Nat} (h : k ∈ l.map (·.1)) : ∃ v, getL k l = some v := by
  unfold getL
  cases e : l.find? fun p => p.1 == k with
  | some p => exact ⟨p.2, rfl⟩
  | none =>
    obtain ⟨p, hp, rfl⟩ := List.mem_map.mp h
    have := List.find?_eq_none.mp e p hp
    simp at this
theorem foldl_len {v : Int} : ∀ (ps : List (Nat × List Nat)) (l : Lv), (ps.foldl (stepIn v) l).length ≤ l.length + ps.length
  | [], l => Nat.le_refl _
  | p :: ps, l => by
    have := foldl_len (v := v) ps (stepIn v l p)
    have q := putL_len l p.2 ((getL p.2 l).getD 0 + v)
    have e : stepIn v l p = putL p.2 ((getL p.2 l).getD 0 + v) l := rfl
    rw [List.foldl_cons, List.length_cons]
    rw [e] at this ⊢
    omega
theorem foldl_keys {v : Int} {n : Nat} : ∀ (ps : List (Nat × List Nat)) (l : Lv), (∀ p ∈ ps, p.2.length = n) → (∀ p ∈ l, p.1.length = n) → ∀ p ∈ ps.foldl (stepIn v) l, p.1.length = n
  | [], l, _, h => h
  | p :: ps, l, h1, h2 => by
    refine foldl_keys ps _ (fun q hq => h1 q (List.mem_cons_of_mem _ hq)) fun q hq => ?_
    rcases putL_keys hq with e | ⟨r, hr, e⟩
    · rw [e]; exact h1 p (List.mem_cons_self ..)
    · rw [← e]; exact h2 r hr
theorem keys_len {F : List (List Nat)} {level : Lv} {n : Nat} : ∀ (ks : List (List Nat)) (s : Int × Lv), (∀ k ∈ ks, k.length = n + 1) → (∀ p ∈ s.2, p.1.length = n) → ∀ p ∈ (ks.foldl (stepKey F level) s).2, p.1.length = n
  | [], s, _, h => h
  | k :: ks, s, h1, h2 => by
    refine keys_len ks _ (fun q hq => h1 q (List.mem_cons_of_mem _ hq)) ?_
    refine foldl_keys _ _ (fun p hp => ?_) h2
    have := (nexts_facts hp).2.1
    have := h1 k (List.mem_cons_self ..)
    omega
theorem keys_cnt {F : List (List Nat)} {level : Lv} : ∀ (ks : List (List Nat)) (s : Int × Lv), (ks.foldl (stepKey F level) s).2.length ≤ s.2.length + 3 * ks.length
  | [], s => by simp
  | k :: ks, s => by
    have := keys_cnt (F := F) (level := level) ks (stepKey F level s k)
    have q := foldl_len (v := (getL k level).getD 0) (nexts F k) s.2
    have r := nexts_len F k
    rw [List.foldl_cons, List.length_cons]
    have e : (stepKey F level s k).2 = (nexts F k).foldl (stepIn ((getL k level).getD 0)) s.2 := rfl
    rw [e] at this
    omega
theorem nexts_nil (F : List (List Nat)) : nexts F [] = [] := rfl
theorem keys_nil {F : List (List Nat)} {level : Lv} : ∀ (ks : List (List Nat)) (s : Int × Lv), (∀ k ∈ ks, k = []) → (ks.foldl (stepKey F level) s).2 = s.2
  | [], s, _ => rfl
  | k :: ks, s, h => by
    rw [List.foldl_cons, keys_nil ks _ fun q hq => h q (List.mem_cons_of_mem _ hq)]
    have := h k (List.mem_cons_self ..)
    subst this
    simp [stepKey, nexts_nil]
end Ev.Pl

/-! E46: counted's loops. -/
namespace Ev.Pl
theorem counted_s0 {T : Nat → EC} {k j fuel : Nat} (cn : CNext T k) (hj : k ≤ j) (F : List (List Nat)) (row rest : List Nat) (fo v : Int) (level later : Lv) (x6 x7 : Option SV) (hr : rest.length < szL) (hv : getL rest level = some v) (hb : later.length + 3 < szL) :
    ∃ x6' x7', ex (T j).un fuel m_counted_s0 [some (.fz (.tup (dS F))), some (.fz (.str row)), some (.fz (.int fo)), some (.fz (dL level)), some (.ow (dL later)), some (.fz (.str rest)), x6, x7]
      = .nx [some (.fz (.tup (dS F))), some (.fz (.str row)), some (.fz (.int fo)), some (.fz (dL level)), some (.ow (dL ((nexts F rest).foldl (stepIn v) later))), some (.fz (.str rest)), x6', x7'] := by
  have key := for_rel (C := (T j).un) (t := .tp [6, 7]) (body := fun ρ => exs (T j).un fuel (.cons (.setidx 4 (.var 7) (.bin .add (.meth .get2 (.var 4) (.cons (.var 7) (.cons (.cst (.int 0)) .nil))) (.idx (.var 3) (.var 5)))) .nil) ρ)
    wP (fun (s : Lv) ρ => ∃ x6 x7, ρ = [some (.fz (.tup (dS F))), some (.fz (.str row)), some (.fz (.int fo)), some (.fz (dL level)), some (.ow (dL s)), some (.fz (.str rest)), x6, x7])
    (stepIn v) (fun rst s => s.length + rst.length < szL) (fun p rst s ρ hp hi => by
      obtain ⟨x6, x7, rfl⟩ := hi
      refine ⟨_, rfl, ?_⟩
      have e : stepIn v s p = putL p.2 ((getL p.2 s).getD 0 + v) s := rfl
      rw [e]
      generalize hu : (getL p.2 s).getD 0 = u
      have a1 := keyFits_L s p.2
      have a2 := lookK_L s p.2
      have a3 := idxD_dic (keyFits_L level rest) (by rw [lookK_L, hv]; rfl : lookK (level.map wL) (.str rest) = some (.int v))
      have a4 := putK_L s p.2 (u + v)
      have a5 : Nat.blt (s.map wL).length szL = true := by
        rw [Nat.blt_eq, List.length_map]
        omega
      have a6 : (Option.map D.int (getL p.2 s)).getD (.int 0) = .int u := by rw [← hu]; cases getL p.2 s <;> rfl
      have a7 : mfn .get2 (dL s) [.str p.2, .int 0] = some (.im (.int u)) := by
        show (if keyFits (s.map wL) (.str p.2) then some (VR.im ((lookK (s.map wL) (.str p.2)).getD (.int 0))) else none) = _
        rw [a1, a2, a6]; rfl
      have a8 : ∀ (x6 x7 : Option SV), setAt 4 (.str p.2) (.int (u + v)) [some (.fz (.tup (dS F))), some (.fz (.str row)), some (.fz (.int fo)), some (.fz (dL level)), some (.ow (dL s)), some (.fz (.str rest)), x6, x7] = .nx [some (.fz (.tup (dS F))), some (.fz (.str row)), some (.fz (.int fo)), some (.fz (dL level)), some (.ow (dL (putL p.2 (u + v) s))), some (.fz (.str rest)), x6, x7] := fun x6 x7 => by
        simp only [setAt, exs, ex, ev, evs, evl, Out.bind, Out.then, slotAt, if_true, List.map, List.cons_append, List.nil_append, List.getElem?_cons_zero, List.getElem?_cons_succ, Option.getD, D.flat1, D.isDic, tyIs, asB, VR.look, looks, Option.bind, Option.map, Option.bind_eq_bind, Option.pure_def, bfn, D.len, ofO, cop, boolO, g0, g1, g2, g3, g4, g5, g6, g7, g8, g9, g10, g11, g12, g13, g14, g15, g16, g17, g18, g19, g20, bop_add_int, bop_sub_int, frz, ownAt, anyAt, setV, setT, setNm, setNms, setOne, List.set, wr_un, wr_lk, inL0, inLs, Bool.false_eq_true, if_false, Bool.false_and, Bool.and_true, Bool.true_and, Bool.not_false, Bool.not_true, reduceIte, a1, a5, a4]
      simp only [dL] at a3 a7 a8
      simp only [exs, ex, ev, evs, evl, Out.bind, Out.then, slotAt, if_true, List.map, List.cons_append, List.nil_append, List.getElem?_cons_zero, List.getElem?_cons_succ, Option.getD, D.flat1, D.isDic, tyIs, asB, VR.look, looks, Option.bind, Option.map, Option.bind_eq_bind, Option.pure_def, bfn, D.len, ofO, cop, boolO, g0, g1, g2, g3, g4, g5, g6, g7, g8, g9, g10, g11, g12, g13, g14, g15, g16, g17, g18, g19, g20, bop_add_int, bop_sub_int, frz, ownAt, anyAt, setV, setT, setNm, setNms, setOne, List.set, wr_un, wr_lk, inL0, inLs, Bool.false_eq_true, if_false, Bool.false_and, Bool.and_true, Bool.true_and, Bool.not_false, Bool.not_true, reduceIte, mkind, a7, a3, a8]
      refine ⟨_, rfl, ⟨_, _, rfl⟩, ?_⟩
      have q := putL_len s p.2 (u + v)
      rw [List.length_cons] at hp
      omega) (nexts F rest) later [some (.fz (.tup (dS F))), some (.fz (.str row)), some (.fz (.int fo)), some (.fz (dL level)), some (.ow (dL later)), some (.fz (.str rest)), x6, x7] (by have := nexts_len F rest; omega) ⟨_, _, rfl⟩
  obtain ⟨ρ', e, ⟨x6', x7', rfl⟩, _⟩ := key
  obtain ⟨run, e1, e2⟩ := cn F rest hr j hj
  refine ⟨x6', x7', ex_fors (ds := [.lst ((nexts F rest).map wP)]) (evs_oneF (by simp only [exs, ex, ev, evs, evl, Out.bind, Out.then, slotAt, if_true, List.map, List.cons_append, List.nil_append, List.getElem?_cons_zero, List.getElem?_cons_succ, Option.getD, D.flat1, D.isDic, tyIs, asB, VR.look, looks, Option.bind, Option.map, Option.bind_eq_bind, Option.pure_def, bfn, D.len, ofO, cop, boolO, g0, g1, g2, g3, g4, g5, g6, g7, g8, g9, g10, g11, g12, g13, g14, g15, g16, g17, g18, g19, g20, bop_add_int, bop_sub_int, frz, ownAt, anyAt, setV, setT, setNm, setNms, setOne, List.set, wr_un, wr_lk, inL0, inLs, Bool.false_eq_true, if_false, Bool.false_and, Bool.and_true, Bool.true_and, Bool.not_false, Bool.not_true, reduceIte, e1, callF, e2])) rfl e⟩
theorem ex_forkeys {C : EC} {fuel : Nat} {t : Tgt} {e : ME} {body : MSs} {ρ ρ1 ρ2 : Env} {ps : List (D × D)} (h0 : (ev C e ρ).bind (frz C) = .ok (.dic ps) ρ1) (h1 : ps.all (·.1.isKey) = true) (h2 : forLoop C t (fun ρ => exs C fuel body ρ) (ps.map (·.1)) ρ1 = .nx ρ2) : ex C fuel (.forkeys t e body) ρ = .nx ρ2 := by
  unfold ex
  rw [h0]
  simp only [Out.then, h1, if_true]
  rw [h2]
  rfl
theorem isKeys_L (l : Lv) : (l.map wL).all (·.1.isKey) = true := by
  rw [List.all_map, List.all_eq_true]
  intro p _
  rfl
theorem counted_s1 {T : Nat → EC} {k j fuel : Nat} (cn : CNext T k) (hj : k ≤ j) (F : List (List Nat)) (row : List Nat) (fo : Int) (level : Lv) (x3 x5 x6 x7 : Option SV) (h3 : x3 = some (.ow (dL level)) ∨ x3 = some (.fz (dL level))) (hr : ∀ p ∈ level, p.1.length < szL) (hb : 3 * level.length + 3 < szL) :
    ∃ x5' x6' x7', ex (T j).un fuel m_counted_s1 [some (.fz (.tup (dS F))), some (.fz (.str row)), some (.fz (.int fo)), x3, some (.ow (dL [])), x5, x6, x7]
      = .nx [some (.fz (.tup (dS F))), some (.fz (.str row)), some (.fz (.int (countStep F (fo, level)).1)), some (.fz (dL level)), some (.ow (dL (countStep F (fo, level)).2)), x5', x6', x7'] := by
  have key := for_rel (C := (T j).un) (t := .nm 5) (body := fun ρ => exs (T j).un fuel (.cons (.ifs (.cmp .eq (.var 5) (.cst (.str []))) (.cons (.asg (.nm 2) (.bin .add (.var 2) (.idx (.var 3) (.var 5)))) .nil) .nil) (.cons m_counted_s0 .nil)) ρ)
    D.str (fun (s : Int × Lv) ρ => ∃ x5 x6 x7, ρ = [some (.fz (.tup (dS F))), some (.fz (.str row)), some (.fz (.int s.1)), some (.fz (dL level)), some (.ow (dL s.2)), x5, x6, x7])
    (stepKey F level) (fun ks s => s.2.length + 3 * ks.length + 3 < szL ∧ ∀ k ∈ ks, k ∈ level.map (·.1)) (fun kk rst s ρ hp hi => by
      obtain ⟨x5, x6, x7, rfl⟩ := hi
      obtain ⟨f, l⟩ := s
      refine ⟨_, rfl, ?_⟩
      obtain ⟨hp1, hp2⟩ := hp
      have km := hp2 kk (List.mem_cons_self ..)
      obtain ⟨v, hv⟩ := getL_mem km
      have kl : kk.length < szL := by
        obtain ⟨p, hp, rfl⟩ := List.mem_map.mp km
        exact hr p hp
      have a3 := idxD_dic (keyFits_L level kk) (by rw [lookK_L, hv]; rfl : lookK (level.map wL) (.str kk) = some (.int v))
      have fin : (stepKey F level (f, l) kk).2.length + 3 * rst.length + 3 < szL ∧ ∀ k ∈ rst, k ∈ level.map (·.1) := by
        refine ⟨?_, fun k hk => hp2 k (List.mem_cons_of_mem _ hk)⟩
        have q := keys_cnt (F := F) (level := level) [kk] (f, l)
        simp only [List.foldl_cons, List.foldl_nil, List.length_singleton] at q
        rw [List.length_cons] at hp1
        dsimp only at hp1 q ⊢
        omega
      have hv2 : (getL kk level).getD 0 = v := by rw [hv]; rfl
      have es : stepKey F level (f, l) kk = (if kk == [] then f + v else f, (nexts F kk).foldl (stepIn v) l) := by
        unfold stepKey
        rw [hv2]
      rw [es] at fin ⊢
      cases hk : kk == [] with
      | true =>
        obtain ⟨x6', x7', b⟩ := counted_s0 (fuel := fuel) cn hj F row kk (f + v) v level l x6 x7 kl hv (by rw [List.length_cons] at hp1; dsimp only at hp1; omega)
        simp only [EC.un, dL] at b
        simp only [exs, ex, ev, evs, evl, Out.bind, Out.then, slotAt, if_true, List.map, List.cons_append, List.nil_append, List.getElem?_cons_zero, List.getElem?_cons_succ, Option.getD, D.flat1, D.isDic, tyIs, asB, VR.look, looks, Option.bind, Option.map, Option.bind_eq_bind, Option.pure_def, bfn, D.len, ofO, cop, boolO, g0, g1, g2, g3, g4, g5, g6, g7, g8, g9, g10, g11, g12, g13, g14, g15, g16, g17, g18, g19, g20, bop_add_int, bop_sub_int, frz, ownAt, anyAt, setV, setT, setNm, setNms, setOne, List.set, wr_un, wr_lk, inL0, inLs, Bool.false_eq_true, if_false, Bool.false_and, Bool.and_true, Bool.true_and, Bool.not_false, Bool.not_true, reduceIte, EC.un, eqO_str, hk, a3, b]
        rw [hk] at fin
        exact ⟨_, rfl, ⟨_, _, _, rfl⟩, fin⟩
      | false =>
        obtain ⟨x6', x7', b⟩ := counted_s0 (fuel := fuel) cn hj F row kk f v level l x6 x7 kl hv (by rw [List.length_cons] at hp1; dsimp only at hp1; omega)
        simp only [EC.un, dL] at b
        simp only [exs, ex, ev, evs, evl, Out.bind, Out.then, slotAt, if_true, List.map, List.cons_append, List.nil_append, List.getElem?_cons_zero, List.getElem?_cons_succ, Option.getD, D.flat1, D.isDic, tyIs, asB, VR.look, looks, Option.bind, Option.map, Option.bind_eq_bind, Option.pure_def, bfn, D.len, ofO, cop, boolO, g0, g1, g2, g3, g4, g5, g6, g7, g8, g9, g10, g11, g12, g13, g14, g15, g16, g17, g18, g19, g20, bop_add_int, bop_sub_int, frz, ownAt, anyAt, setV, setT, setNm, setNms, setOne, List.set, wr_un, wr_lk, inL0, inLs, Bool.false_eq_true, if_false, Bool.false_and, Bool.and_true, Bool.true_and, Bool.not_false, Bool.not_true, reduceIte, EC.un, eqO_str, hk, a3, b]
        rw [hk] at fin
        exact ⟨_, rfl, ⟨_, _, _, rfl⟩, fin⟩) (level.map (·.1)) (fo, []) [some (.fz (.tup (dS F))), some (.fz (.str row)), some (.fz (.int fo)), some (.fz (dL level)), some (.ow (dL [])), x5, x6, x7] ⟨by rw [List.length_map]; simp only [List.length_nil]; omega, fun k hk => hk⟩ ⟨_, _, _, rfl⟩
  obtain ⟨ρ', e, ⟨x5', x6', x7', rfl⟩, _⟩ := key
  refine ⟨x5', x6', x7', ex_forkeys (ps := level.map wL) (by rcases h3 with rfl | rfl <;> simp only [exs, ex, ev, evs, evl, Out.bind, Out.then, slotAt, if_true, List.map, List.cons_append, List.nil_append, List.getElem?_cons_zero, List.getElem?_cons_succ, Option.getD, D.flat1, D.isDic, tyIs, asB, VR.look, looks, Option.bind, Option.map, Option.bind_eq_bind, Option.pure_def, bfn, D.len, ofO, cop, boolO, g0, g1, g2, g3, g4, g5, g6, g7, g8, g9, g10, g11, g12, g13, g14, g15, g16, g17, g18, g19, g20, bop_add_int, bop_sub_int, frz, ownAt, anyAt, setV, setT, setNm, setNms, setOne, List.set, wr_un, wr_lk, inL0, inLs, Bool.false_eq_true, if_false, Bool.false_and, Bool.and_true, Bool.true_and, Bool.not_false, Bool.not_true, reduceIte] <;> rfl) (isKeys_L level) ?_⟩
  rw [show (level.map wL).map (·.1) = (level.map (·.1)).map D.str by rw [List.map_map, List.map_map]; rfl]
  exact e
theorem eqO_dic (l : Lv) : eqO (dL l) (.dic []) = some l.isEmpty := by
  have h : (l.map wL).all (fun x => x.1.isKey) = true := isKeys_L l
  cases l with
  | nil => rfl
  | cons p l =>
    simp only [eqO, D.nod, Bool.false_and, Bool.false_eq_true, if_false]
    rw [if_pos h]; rfl
def muC (s : Int × Lv) : Nat := match s.2 with
  | [] => 0
  | p :: _ => p.1.length + 1
theorem counted_ok {T : Nat → EC} {k fuel : Nat} (o : On T fuel f_counted m_counted) (cn : CNext T k) (F : List (List Nat)) (row : List Nat) (h3 : row.length ≤ 14) (hf : 20 < fuel) : Cal T (k + 1) f_counted [.tup (dS F), .str row] (.ok false (.int (countM F row)) .non) := by
  refine Cal.of o fun j hj => ?_
  rw [Fd.run_un [some (.fz (.tup (dS F))), some (.fz (.str row)), none, none, none, none, none, none] rfl rfl rfl]
  have key := whl_rel (cond := fun ρ => (ev (T j).un (.cmp .ne (.var 3) (.dct .nil .nil)) ρ).bind asB) (body := fun ρ => exs (T j).un fuel (.cons (.asg (.nm 4) (.dct .nil .nil)) (.cons m_counted_s1 (.cons (.asg (.nm 3) (.var 4)) .nil))) ρ)
    (fun (s : Int × Lv) ρ => (∃ m, muC s ≤ m ∧ countL F m s = countM F row) ∧ (∃ n t, t + n ≤ 14 ∧ s.2.length ≤ 3 ^ t ∧ ∀ p ∈ s.2, p.1.length = n) ∧ ∃ x3 x4 x5 x6 x7, (x3 = some (.ow (dL s.2)) ∨ x3 = some (.fz (dL s.2))) ∧ ρ = [some (.fz (.tup (dS F))), some (.fz (.str row)), some (.fz (.int s.1)), x3, x4, x5, x6, x7])
    (fun s => !s.2.isEmpty) (countStep F) muC (fun s ρ hi => by
      obtain ⟨⟨m, hm, hR⟩, ⟨n, t, h1, h2, h5⟩, x3, x4, x5, x6, x7, hx3, rfl⟩ := hi
      obtain ⟨f, l⟩ := s
      have eo := eqO_dic l
      refine ⟨_, by simp only [dL] at eo hx3; rcases hx3 with rfl | rfl <;> simp only [exs, ex, ev, evs, evl, Out.bind, Out.then, slotAt, if_true, List.map, List.cons_append, List.nil_append, List.getElem?_cons_zero, List.getElem?_cons_succ, Option.getD, D.flat1, D.isDic, tyIs, asB, VR.look, looks, Option.bind, Option.map, Option.bind_eq_bind, Option.pure_def, bfn, D.len, ofO, cop, boolO, g0, g1, g2, g3, g4, g5, g6, g7, g8, g9, g10, g11, g12, g13, g14, g15, g16, g17, g18, g19, g20, bop_add_int, bop_sub_int, frz, ownAt, anyAt, setV, setT, setNm, setNms, setOne, List.set, wr_un, wr_lk, inL0, inLs, Bool.false_eq_true, if_false, Bool.false_and, Bool.and_true, Bool.true_and, Bool.not_false, Bool.not_true, reduceIte, eo] <;> rfl, fun _ => ⟨⟨m, hm, hR⟩, ⟨n, t, h1, h2, h5⟩, x3, x4, x5, x6, x7, hx3, rfl⟩, fun hc => ?_⟩
      have pw : 3 ^ t ≤ 3 ^ 14 := Nat.pow_le_pow_right (by omega) (by omega)
      have p14 : 3 ^ 14 = 4782969 := by decide
      dsimp only at h2 h5
      obtain ⟨x5', x6', x7', b⟩ := counted_s1 (fuel := fuel) cn hj F row f l x3 x5 x6 x7 hx3 (fun p hp => by rw [h5 p hp]; show n < 16777216; omega) (by show _ < 16777216; omega)
      simp only [EC.un, dL, List.map_nil] at b
      simp only [exs, ex, ev, evs, evl, Out.bind, Out.then, slotAt, if_true, List.map, List.cons_append, List.nil_append, List.getElem?_cons_zero, List.getElem?_cons_succ, Option.getD, D.flat1, D.isDic, tyIs, asB, VR.look, looks, Option.bind, Option.map, Option.bind_eq_bind, Option.pure_def, bfn, D.len, ofO, cop, boolO, g0, g1, g2, g3, g4, g5, g6, g7, g8, g9, g10, g11, g12, g13, g14, g15, g16, g17, g18, g19, g20, bop_add_int, bop_sub_int, frz, ownAt, anyAt, setV, setT, setNm, setNms, setOne, List.set, wr_un, wr_lk, inL0, inLs, Bool.false_eq_true, if_false, Bool.false_and, Bool.and_true, Bool.true_and, Bool.not_false, Bool.not_true, reduceIte, EC.un, b]
      have mu1 : muC (countStep F (f, l)) < muC (f, l) := by
        cases l with
        | nil => simp at hc
        | cons p l =>
          have hp : muC (f, p :: l) = n + 1 := by
            show p.1.length + 1 = _
            rw [h5 p (List.mem_cons_self ..)]
          rw [hp]
          have kk : ∀ k ∈ (p :: l).map (·.1), k.length = n := fun k hk => by
            obtain ⟨q, hq, rfl⟩ := List.mem_map.mp hk
            exact h5 q hq
          cases n with
          | zero =>
            have := keys_nil (F := F) (level := p :: l) ((p :: l).map (·.1)) (f, []) fun k hk => List.eq_nil_of_length_eq_zero (kk k hk)
            have e : (countStep F (f, p :: l)).2 = [] := this
            unfold muC
            rw [e]
            exact Nat.succ_pos _
          | succ n =>
            have := keys_len (F := F) (level := p :: l) (n := n) ((p :: l).map (·.1)) (f, []) kk (by simp)
            have e : (countStep F (f, p :: l)).2 = (((p :: l).map (·.1)).foldl (stepKey F (p :: l)) (f, [])).2 := rfl
            rw [← e] at this
            unfold muC
            split
            · omega
            · rename_i q _ eq
              have := this q (by rw [eq]; exact List.mem_cons_self ..)
              omega
      refine ⟨_, rfl, ⟨?_, ?_, _, _, _, _, _, .inr rfl, rfl⟩, mu1⟩
      · cases m with
        | zero => omega
        | succ m =>
          refine ⟨m, by omega, ?_⟩
          rw [← hR, countL]
          rw [if_neg]
          intro h
          rw [h] at hc
          exact absurd hc (by decide)
      · have kc := keys_cnt (F := F) (level := l) (l.map (·.1)) (f, [])
        rw [List.length_map] at kc
        have e : (countStep F (f, l)).2 = ((l.map (·.1)).foldl (stepKey F l) (f, [])).2 := rfl
        rw [← e] at kc
        cases n with
        | zero =>
          have := keys_nil (F := F) (level := l) (l.map (·.1)) (f, []) fun k hk => by
            obtain ⟨q, hq, rfl⟩ := List.mem_map.mp hk
            exact List.eq_nil_of_length_eq_zero (h5 q hq)
          rw [← e] at this
          exact ⟨0, 0, by omega, by rw [this]; simp, by rw [this]; simp⟩
        | succ n =>
          have := keys_len (F := F) (level := l) (n := n) (l.map (·.1)) (f, []) (fun k hk => by
            obtain ⟨q, hq, rfl⟩ := List.mem_map.mp hk
            exact h5 q hq) (by simp)
          rw [← e] at this
          refine ⟨n, t + 1, by omega, ?_, this⟩
          simp only [List.length_nil] at kc
          rw [Nat.pow_succ]
          omega) fuel (0, [(row, 1)]) [some (.fz (.tup (dS F))), some (.fz (.str row)), some (.fz (.int 0)), some (.ow (dL [(row, 1)])), none, none, none, none] (by simp [muC]; omega) ⟨⟨row.length + 1, Nat.le_refl _, rfl⟩, ⟨row.length, 0, by omega, by simp, by simp⟩, _, none, none, none, none, .inl rfl, rfl⟩
  obtain ⟨ρ', ⟨f, l⟩, e, ⟨⟨m, hm, hR⟩, _, x3, x4, x5, x6, x7, hx3, rfl⟩, hc⟩ := key
  have el : l.isEmpty = true := by
    dsimp only at hc
    cases h : l.isEmpty
    · rw [h] at hc; exact absurd hc (by decide)
    · rfl
  have ef : f = countM F row := by
    rw [← hR]
    cases m with
    | zero => rfl
    | succ m =>
      show f = if l.isEmpty = true then f else _
      rw [if_pos el]
  have es : ex (T j).un fuel m_counted_s2 [some (.fz (.tup (dS F))), some (.fz (.str row)), some (.fz (.int 0)), some (.ow (dL [(row, 1)])), none, none, none, none] = .nx [some (.fz (.tup (dS F))), some (.fz (.str row)), some (.fz (.int f)), x3, x4, x5, x6, x7] := ex_whl e
  simp only [EC.un, dL, List.map] at es
  have ne : ((2 : Nat) != 3) = true := by decide
  simp only [m_counted, exs, ex, ev, evs, evl, Out.bind, Out.then, slotAt, if_true, List.map, List.cons_append, List.nil_append, List.getElem?_cons_zero, List.getElem?_cons_succ, Option.getD, D.flat1, D.isDic, tyIs, asB, VR.look, looks, Option.bind, Option.map, Option.bind_eq_bind, Option.pure_def, bfn, D.len, ofO, cop, boolO, g0, g1, g2, g3, g4, g5, g6, g7, g8, g9, g10, g11, g12, g13, g14, g15, g16, g17, g18, g19, g20, bop_add_int, bop_sub_int, frz, ownAt, anyAt, setV, setT, setNm, setNms, setOne, List.set, wr_un, wr_lk, inL0, inLs, Bool.false_eq_true, if_false, Bool.false_and, Bool.and_true, Bool.true_and, Bool.not_false, Bool.not_true, reduceIte, EC.un, notSl, D.isKey, ne, es, finR, finV, ef]
end Ev.Pl

/-! E47: draws. -/
namespace Ev.Pl
theorem bop_mod {i j : Int} (h : j ≠ 0) : bop .mod (.int i) (.int j) = some (.im (.int (i.fmod j))) := if_pos h
theorem bop_fdiv {i j : Int} (h : j ≠ 0) (h2 : j.natAbs < 1073741824) : bop .fdiv (.int i) (.int j) = some (.im (.int (i.fdiv j))) := if_pos ⟨h, h2⟩
theorem bop_mul {i j : Int} (h : (small64 i || small64 j) = true) : bop .mul (.int i) (.int j) = some (.im (.int (i * j))) := if_pos h
/-- a source of draws -/
def Src (s : D) : Prop := ∃ x y : Int, s = .lst [.int x, .int y] ∧ 0 ≤ x ∧ 0 ≤ y ∧ y < 9223372036854775808
def DrawsTo (T : Nat → EC) (k f : Nat) (as : List D) (Q : D → Prop) : Prop := ∀ j, k ≤ j → ∃ run, (T j).Φ f = some ⟨true, run⟩ ∧ ∀ s, Src s → ∃ d s', run (s :: as) = .ok false d s' ∧ Src s' ∧ Q d
def OnM (T : Nat → EC) (fuel f : Nat) (m : Fd) : Prop := m.mu = true ∧ ∀ j, (T (j + 1)).Φ f = some ⟨m.mu, m.run (T j) fuel⟩
theorem DrawsTo.of {T : Nat → EC} {fuel f k : Nat} {m : Fd} {as : List D} {Q : D → Prop} (o : OnM T fuel f m) (h : ∀ j, k ≤ j → ∀ s, Src s → ∃ d s', m.run (T j) fuel (s :: as) = .ok false d s' ∧ Src s' ∧ Q d) : DrawsTo T (k + 1) f as Q := fun j hj => by
  obtain ⟨j', rfl⟩ : ∃ j', j = j' + 1 := ⟨j - 1, by omega⟩
  exact ⟨_, by rw [o.2 j', o.1], h j' (by omega)⟩
theorem Fd.run_mu {C : EC} {m : Fd} {fuel : Nat} {ds : List D} (ρ : Env) (h : ds.length = m.n) (hm : m.mu = true) (e : initE m.N true ds = ρ) : m.run C fuel ds = finR true (exs { C with lk := true } fuel m.body ρ) := by
  unfold Fd.run
  rw [if_pos h, hm, e]
theorem idx2_0 (x y : D) : idxD (.lst [x, y]) (.int 0) = some x := rfl
theorem idx2_1 (x y : D) : idxD (.lst [x, y]) (.int 1) = some y := rfl
theorem draw_ok {T : Nat → EC} {fuel : Nat} (o : OnM T fuel f__law_draw m__law_draw) (n : Int) (h0 : 0 < n) (hn : n < 1073741824) : DrawsTo T 1 f__law_draw [.int n] (fun d => ∃ i : Int, d = .int i ∧ 0 ≤ i ∧ i < n) := by
  refine DrawsTo.of (k := 0) o fun j _ s hs => ?_
  obtain ⟨x, y, rfl, hx, hy, hy2⟩ := hs
  rw [Fd.run_mu [some (.ow (.lst [.int x, .int y])), some (.fz (.int n)), none] rfl rfl rfl]
  have m1 := bop_mod (i := x) (j := n) (by omega)
  have m2 := bop_fdiv (i := x) (j := n) (by omega) (by omega)
  have l1 : (x.fmod n) < n := Int.fmod_lt_of_pos _ h0
  have l2 : 0 ≤ (x.fmod n) := Int.fmod_nonneg_of_pos _ h0
  have l3 : 0 ≤ x.fdiv n := Int.fdiv_nonneg hx (by omega)
  cases hd : decide ((0 : Int) < x) with
  | true =>
    have a1 : ∀ (x2 : Option SV), setAt 0 (.int 0) (.int (x.fdiv n)) [some (.ow (.lst [.int x, .int y])), some (.fz (.int n)), x2] = .nx [some (.ow (.lst [.int (x.fdiv n), .int y])), some (.fz (.int n)), x2] := fun _ => rfl
    simp only [m__law_draw, exs, ex, ev, evs, evl, Out.bind, Out.then, slotAt, if_true, List.map, List.cons_append, List.nil_append, List.getElem?_cons_zero, List.getElem?_cons_succ, Option.getD, D.flat1, D.isDic, tyIs, asB, VR.look, looks, Option.bind, Option.map, Option.bind_eq_bind, Option.pure_def, bfn, D.len, ofO, cop, boolO, g0, g1, g2, g3, g4, g5, g6, g7, g8, g9, g10, g11, g12, g13, g14, g15, g16, g17, g18, g19, g20, bop_add_int, bop_sub_int, frz, ownAt, anyAt, setV, setT, setNm, setNms, setOne, List.set, wr_un, wr_lk, inL0, inLs, Bool.false_eq_true, if_false, Bool.false_and, Bool.and_true, Bool.true_and, Bool.not_false, Bool.not_true, reduceIte, idx2_0, hd, m1, m2, a1, finR, finV]
    exact ⟨_, _, rfl, ⟨_, _, rfl, l3, hy, hy2⟩, _, rfl, l2, l1⟩
  | false =>
    have k1 := bop_mul (i := y) (j := 48271) (by rw [show small64 48271 = true from rfl, Bool.or_true])
    have k2 := bop_mod (i := y * 48271) (j := 2147483647) (by omega)
    generalize hz : (y * 48271).fmod 2147483647 = z at k2
    have z1 : 0 ≤ z := by rw [← hz]; exact Int.fmod_nonneg_of_pos _ (by omega)
    have z2 : z < 2147483647 := by rw [← hz]; exact Int.fmod_lt_of_pos _ (by omega)
    have a1 : ∀ (x2 : Option SV), setAt 0 (.int 1) (.int z) [some (.ow (.lst [.int x, .int y])), some (.fz (.int n)), x2] = .nx [some (.ow (.lst [.int x, .int z])), some (.fz (.int n)), x2] := fun _ => rfl
    have k3 := bop_mul (i := z) (j := z) (by
      have : small64 z = true := by
        unfold small64
        rw [Nat.blt_eq]
        omega
      rw [this]; rfl)
    have k4 := bop_mod (i := z * z) (j := 2147483629) (by omega)
    have k5 := bop_fdiv (i := (z * z).fmod 2147483629) (j := 64) (by omega) (by decide)
    have k6 := bop_mod (i := ((z * z).fmod 2147483629).fdiv 64) (j := n) (by omega)
    simp only [m__law_draw, exs, ex, ev, evs, evl, Out.bind, Out.then, slotAt, if_true, List.map, List.cons_append, List.nil_append, List.getElem?_cons_zero, List.getElem?_cons_succ, Option.getD, D.flat1, D.isDic, tyIs, asB, VR.look, looks, Option.bind, Option.map, Option.bind_eq_bind, Option.pure_def, bfn, D.len, ofO, cop, boolO, g0, g1, g2, g3, g4, g5, g6, g7, g8, g9, g10, g11, g12, g13, g14, g15, g16, g17, g18, g19, g20, bop_add_int, bop_sub_int, frz, ownAt, anyAt, setV, setT, setNm, setNms, setOne, List.set, wr_un, wr_lk, inL0, inLs, Bool.false_eq_true, if_false, Bool.false_and, Bool.and_true, Bool.true_and, Bool.not_false, Bool.not_true, reduceIte, idx2_0, idx2_1, hd, k1, k2, k3, k4, k5, k6, a1, finR, finV]
    exact ⟨_, _, rfl, ⟨_, _, rfl, hx, z1, by omega⟩, _, rfl, Int.fmod_nonneg_of_pos _ h0, Int.fmod_lt_of_pos _ h0⟩
theorem src_own {s : D} (h : Src s) : ∃ x y : Int, s = .lst [.int x, .int y] := by
  obtain ⟨x, y, e, _⟩ := h
  exact ⟨x, y, e⟩
theorem atI_in {xs : List D} {i : Int} (h0 : 0 ≤ i) (h1 : i < xs.length) : ∃ d ∈ xs, atI xs i = some d := by
  obtain ⟨n, rfl⟩ : ∃ n : Nat, i = n := ⟨i.toNat, by omega⟩
  have hn : n < xs.length := by omega
  refine ⟨xs[n], List.getElem_mem _, ?_⟩
  rw [atI_nat (d := .non) hn, List.getD_eq_getElem?_getD, List.getElem?_eq_getElem hn]
  rfl
theorem law_of_ok {T : Nat → EC} {fuel : Nat} (o : OnM T fuel f__law_draw m__law_draw) (o2 : OnM T fuel f__law_of m__law_of) (xs : List D) (h0 : 0 < xs.length) (hn : xs.length < 1073741824) : DrawsTo T 2 f__law_of [.lst xs] (fun d => d ∈ xs) := by
  refine DrawsTo.of (k := 1) o2 fun j hj s hs => ?_
  rw [Fd.run_mu [some (.ow s), some (.fz (.lst xs))] rfl rfl rfl]
  obtain ⟨run, r1, r2⟩ := draw_ok o (xs.length : Int) (by omega) (by omega) j hj
  obtain ⟨d, s', r3, r4, i, rfl, h2, h3⟩ := r2 s hs
  obtain ⟨d, m, ea⟩ := atI_in h2 h3
  have ix : idxD (.lst xs) (.int i) = some d := ea
  refine ⟨d, s', ?_, r4, m⟩
  simp only [m__law_of, exs, ex, ev, evs, evl, Out.bind, Out.then, slotAt, if_true, List.map, List.cons_append, List.nil_append, List.getElem?_cons_zero, List.getElem?_cons_succ, Option.getD, D.flat1, D.isDic, tyIs, asB, VR.look, looks, Option.bind, Option.map, Option.bind_eq_bind, Option.pure_def, bfn, D.len, ofO, cop, boolO, g0, g1, g2, g3, g4, g5, g6, g7, g8, g9, g10, g11, g12, g13, g14, g15, g16, g17, g18, g19, g20, bop_add_int, bop_sub_int, frz, ownAt, anyAt, setV, setT, setNm, setNms, setOne, List.set, wr_un, wr_lk, inL0, inLs, Bool.false_eq_true, if_false, Bool.false_and, Bool.and_true, Bool.true_and, Bool.not_false, Bool.not_true, reduceIte, r1, callM, r3, ix, finR, finV]
theorem comp_inv {α : Type} {C : EC} {own : List Nat} {tg : Tgt} {k : IK} {its : MEs} {cond elt : ME} {ρ ρ1 : Env} {ds : List D} (w : α → D) (xs : List α) (I : Env → Prop) (Q : D → Prop) (h0 : evs C its ρ = .ok ds ρ1) (h1 : walkOf k ds = some (xs.map w)) (hi : I (wipeE ρ1 own)) (h2 : ∀ x ∈ xs, ∀ ρ, I ρ → ∃ ρ' d, turn C own tg cond elt ρ (w x) = .ok (some d) ρ' ∧ I ρ' ∧ Q d) :
    ∃ ys ρ', ev C (.comp elt tg k its cond own) ρ = .ok (.fr (.lst ys)) (backE ρ1 ρ' own) ∧ I ρ' ∧ ys.length = xs.length ∧ ∀ y ∈ ys, Q y := by
  have key : ∀ (xs : List α) (acc : List D) ρ, (∀ x ∈ xs, ∀ ρ, I ρ → ∃ ρ' d, turn C own tg cond elt ρ (w x) = .ok (some d) ρ' ∧ I ρ' ∧ Q d) → I ρ → ∃ ys ρ', compLoop C own tg (fun ρ => (ev C cond ρ).bind asB) (fun ρ => (ev C elt ρ).bind (frz C)) (xs.map w) ρ acc = .ok (acc.reverse ++ ys) ρ' ∧ I ρ' ∧ ys.length = xs.length ∧ ∀ y ∈ ys, Q y := by
    intro xs
    induction xs with
    | nil => intro acc ρ _ hi; exact ⟨[], ρ, by simp [compLoop], hi, rfl, by simp⟩
    | cons x xs ih =>
      intro acc ρ h hi
      obtain ⟨ρ', d, t, hi', hq⟩ := h x (List.mem_cons_self ..) ρ hi
      obtain ⟨ys, ρ'', e, hi'', hl, hqs⟩ := ih (d :: acc) ρ' (fun y hy => h y (List.mem_cons_of_mem _ hy)) hi'
      refine ⟨d :: ys, ρ'', ?_, hi'', by simp [hl], fun y hy => ?_⟩
      · unfold turn at t
        rw [List.map_cons]
        unfold compLoop
        cases e1 : setT C tg (w x) ρ with
        | none => rw [e1] at t; cases t
        | some r1 =>
          rw [e1] at t
          dsimp only at t ⊢
          cases e2 : (ev C cond r1).bind asB with
          | no => rw [e2] at t; cases t
          | ex y r => rw [e2] at t; cases t
          | ok b ρ2 =>
            rw [e2] at t
            cases b with
            | false =>
              have t : Out.ok none (wipeE ρ2 own) = Out.ok (some d) ρ' := t
              injection t with t1 t2
              cases t1
            | true =>
              have t : (((ev C elt ρ2).bind (frz C)).bind fun x ρ3 => Out.ok (some x) (wipeE ρ3 own)) = Out.ok (some d) ρ' := t
              show (((ev C elt ρ2).bind (frz C)).bind fun x ρ3 => compLoop C own tg (fun ρ => (ev C cond ρ).bind asB) (fun ρ => (ev C elt ρ).bind (frz C)) (xs.map w) (wipeE ρ3 own) (x :: acc)) = _
              cases e3 : (ev C elt ρ2).bind (frz C) with
              | no => rw [e3] at t; exact nomatch (show (Out.no : Out (Option D)) = Out.ok (some d) ρ' from t)
              | ex y r => rw [e3] at t; exact nomatch (show (Out.ex y r : Out (Option D)) = Out.ok (some d) ρ' from t)
              | ok y ρ3 =>
                rw [e3] at t
                have t : Out.ok (some y) (wipeE ρ3 own) = Out.ok (some d) ρ' := t
                injection t with t1 t2
                injection t1 with t1
                subst t1
                rw [← t2] at e
                show compLoop C own tg (fun ρ => (ev C cond ρ).bind asB) (fun ρ => (ev C elt ρ).bind (frz C)) (xs.map w) (wipeE ρ3 own) (y :: acc) = _
                rw [e]
                simp
      · rcases List.mem_cons.mp hy with rfl | hy
        · exact hq
        · exact hqs y hy
  obtain ⟨ys, ρ', e, q⟩ := key xs [] _ h2 hi
  refine ⟨ys, ρ', ?_, q⟩
  unfold ev
  rw [h0]
  show (match walkOf k ds with
    | some l => _
    | none => _) = _
  rw [h1]
  show (noEx (compLoop C own tg (fun ρ => (ev C cond ρ).bind asB) (fun ρ => (ev C elt ρ).bind (frz C)) (xs.map w) (wipeE ρ1 own) [])).bind _ = _
  rw [e]
  rfl
end Ev.Pl

/-! E48: law_row, law_source. -/
namespace Ev.Pl
instance (r : List Nat) : Decidable (IsRow r) := inferInstanceAs (Decidable (∀ x ∈ r, x ∈ abc))
theorem law_row_ok {T : Nat → EC} {fuel : Nat} (o : OnM T fuel f__law_draw m__law_draw) (o2 : OnM T fuel f__law_of m__law_of) (o3 : OnM T fuel f__law_row m__law_row) (n : Nat) (hn : n ≤ 1000) : DrawsTo T 3 f__law_row [.int n] (fun d => ∃ r, d = .str r ∧ r.length ≤ n ∧ IsRow r) := by
  refine DrawsTo.of (k := 2) o3 fun j hj s hs => ?_
  rw [Fd.run_mu [some (.ow s), some (.fz (.int n)), none, none, none] rfl rfl rfl]
  obtain ⟨run, r1, r2⟩ := law_of_ok o o2 [.str [97, 98, 99], .str [97, 98, 99], .str [97, 98], .str [97, 97, 98]] (by decide) (by decide) j hj
  obtain ⟨d, s', r3, r4, hd⟩ := r2 s hs
  have hd : ∃ ls : List Nat, d = .str ls ∧ IsRow ls ∧ 0 < ls.length ∧ ls.length < 100 := by
    simp only [List.mem_cons, List.not_mem_nil, or_false] at hd
    rcases hd with rfl | rfl | rfl | rfl
    · exact ⟨_, rfl, by decide, by decide, by decide⟩
    · exact ⟨_, rfl, by decide, by decide, by decide⟩
    · exact ⟨_, rfl, by decide, by decide, by decide⟩
    · exact ⟨_, rfl, by decide, by decide, by decide⟩
  obtain ⟨ls, rfl, hr, hl1, hl2⟩ := hd
  obtain ⟨run2, q1, q2⟩ := draw_ok o ((n : Int) + 1) (by omega) (by omega) j (by omega)
  obtain ⟨d, s2, q3, q4, i, rfl, h2, h3⟩ := q2 s' r4
  obtain ⟨m, rfl⟩ : ∃ m : Nat, i = m := ⟨i.toNat, by omega⟩
  obtain ⟨run4, p1, p2⟩ := law_of_ok o o2 (chars ls) (by simpa [chars] using hl1) (by simp [chars]; omega) j hj
  have wk := walk_range (n := m) (by show m ≤ 16777216; omega)
  have key := comp_inv (C := { T j with lk := true }) (own := [4]) (tg := .nm 4) (cond := .cst (.bl true)) (elt := .callm f__law_of 0 (.cons (.blt .list (.cons (.var 2) .nil)) .nil)) (k := .range1) (its := .cons (.var 3) .nil)
    (ρ := [some (.ow s2), some (.fz (.int n)), some (.fz (.str ls)), some (.fz (.int m)), none]) (ρ1 := [some (.ow s2), some (.fz (.int n)), some (.fz (.str ls)), some (.fz (.int m)), none]) (ds := [.int m])
    (fun i : Nat => D.int (i : Int)) (List.range m) (fun ρ => ∃ s, Src s ∧ ρ = [some (.ow s), some (.fz (.int n)), some (.fz (.str ls)), some (.fz (.int m)), none]) (fun d => d ∈ chars ls) rfl wk ⟨s2, q4, rfl⟩ (fun i _ ρ hi => by
      obtain ⟨s, hs, rfl⟩ := hi
      obtain ⟨d, s', r3, r4, hd⟩ := p2 s hs
      simp only [turn, exs, ex, ev, evs, evl, Out.bind, Out.then, slotAt, if_true, List.map, List.cons_append, List.nil_append, List.getElem?_cons_zero, List.getElem?_cons_succ, Option.getD, D.flat1, D.isDic, tyIs, asB, VR.look, looks, Option.bind, Option.map, Option.bind_eq_bind, Option.pure_def, bfn, D.len, ofO, cop, boolO, g0, g1, g2, g3, g4, g5, g6, g7, g8, g9, g10, g11, g12, g13, g14, g15, g16, g17, g18, g19, g20, bop_add_int, bop_sub_int, frz, ownAt, anyAt, setV, setT, setNm, setNms, setOne, List.set, wr_un, wr_lk, inL0, inLs, Bool.false_eq_true, if_false, Bool.false_and, Bool.and_true, Bool.true_and, Bool.not_false, Bool.not_true, reduceIte, p1, callM, r3, wipeE]
      exact ⟨_, _, rfl, ⟨_, r4, rfl⟩, hd⟩)
  obtain ⟨ys, ρ', e, ⟨s4, hs4, rfl⟩, hl, hy⟩ := key
  obtain ⟨row, rfl, hrow⟩ : ∃ row : List Nat, ys = row.map (fun c => D.str [c]) ∧ IsRow row := by
    clear e hl
    induction ys with
    | nil => exact ⟨[], rfl, fun _ h => nomatch h⟩
    | cons y ys ih =>
      obtain ⟨row, rfl, h⟩ := ih fun y hy' => hy y (List.mem_cons_of_mem _ hy')
      obtain ⟨c, hc, rfl⟩ := List.mem_map.mp (hy y (List.mem_cons_self ..))
      refine ⟨c :: row, rfl, fun x hx => ?_⟩
      rcases List.mem_cons.mp hx with rfl | hx
      · exact hr x hc
      · exact h x hx
  have hlen : row.length ≤ n := by
    rw [List.length_map, List.length_range] at hl
    omega
  have jn := join_letters (l := row) (by show _ ≤ 16777216; omega)
  have c1 : bop .add (.int n) (.int 1) = some (.im (.int ((n : Int) + 1))) := rfl
  have e' : ev { T j with lk := true } m__law_row_k0 [some (.ow s2), some (.fz (.int n)), some (.fz (.str ls)), some (.fz (.int m)), none] = .ok (.fr (.lst (row.map fun c => D.str [c]))) [some (.ow s4), some (.fz (.int n)), some (.fz (.str ls)), some (.fz (.int m)), none] := e
  refine ⟨.str row, s4, ?_, hs4, row, rfl, hlen, hrow⟩
  simp only [m__law_row, exs, ex, ev, evs, evl, Out.bind, Out.then, slotAt, if_true, List.map, List.cons_append, List.nil_append, List.getElem?_cons_zero, List.getElem?_cons_succ, Option.getD, D.flat1, D.isDic, tyIs, asB, VR.look, looks, Option.bind, Option.map, Option.bind_eq_bind, Option.pure_def, bfn, D.len, ofO, cop, boolO, g0, g1, g2, g3, g4, g5, g6, g7, g8, g9, g10, g11, g12, g13, g14, g15, g16, g17, g18, g19, g20, bop_add_int, bop_sub_int, frz, ownAt, anyAt, setV, setT, setNm, setNms, setOne, List.set, wr_un, wr_lk, inL0, inLs, Bool.false_eq_true, if_false, Bool.false_and, Bool.and_true, Bool.true_and, Bool.not_false, Bool.not_true, reduceIte, r1, callM, r3, q1, q3, e', mkind, jn, finR, finV]
theorem law_source_ok {T : Nat → EC} {fuel : Nat} (o : On T fuel f__law_source m__law_source) (ns : List Int) (k : Nat) (hk : k < 1000) : ∃ s, Src s ∧ Cal T 1 f__law_source [.scr ns, .int k] (.ok true s .non) := by
  have hc : ∃ cell : Int, 0 ≤ cell ∧ ∀ C fuel, m__law_source.run C fuel [.scr ns, .int k] = finR false (exs C.un fuel (.cons (.ifs (.cmp .lt (.var 2) (.bin .pow (.cst (.int 10)) (.cst (.int 18)))) (.cons (.ret (.lst (.cons (.cst (.int 0)) (.cons (.bin .add (.cst (.int 1)) (.bin .mod (.blt .int (.cons (.bin .add (.bin .mul (.var 2) (.cst (.int 7919))) (.bin .mul (.cst (.int 104729)) (.var 1))) .nil)) (.cst (.int 2147483646)))) .nil)))) .nil) .nil) (.cons (.ret (.lst (.cons (.var 2) (.cons (.bin .add (.cst (.int 1)) (.bin .mod (.blt .int (.cons (.bin .add (.var 2) (.var 1)) .nil)) (.cst (.int 2147483646)))) .nil)))) .nil)) [some (.fz (.scr ns)), some (.fz (.int k)), some (.fz (.int cell))]) := by
    by_cases h : k < ns.length
    · have z : decide ((k : Int) < (ns.length : Int)) = true := by simp; exact h
      have ix : idxD (.scr ns) (.int (k : Int)) = some (.int (ns.getD k 0)) := by
        show (atI ns (k : Int)).map D.int = _
        rw [atI_nat (d := 0) h]; rfl
      refine ⟨if ns.getD k 0 < 0 then -ns.getD k 0 else ns.getD k 0, by split <;> omega, fun C fuel => ?_⟩
      rw [Fd.run_un [some (.fz (.scr ns)), some (.fz (.int k)), none] rfl rfl rfl]
      congr 1
      unfold m__law_source
      dsimp only
      rw [exs]
      simp only [ex, ev, evl, Out.bind, Out.then, setV, setT, setNm, wr_un, inL0, inLs, if_true, List.set, slotAt, List.getElem?_cons_zero, List.getElem?_cons_succ, Option.getD, VR.look]
      rw [exs]
      simp only [exs, ex, ev, evs, evl, Out.bind, Out.then, slotAt, if_true, List.map, List.cons_append, List.nil_append, List.getElem?_cons_zero, List.getElem?_cons_succ, Option.getD, D.flat1, D.isDic, tyIs, asB, VR.look, looks, Option.bind, Option.map, Option.bind_eq_bind, Option.pure_def, bfn, D.len, ofO, cop, boolO, g0, g1, g2, g3, g4, g5, g6, g7, g8, g9, g10, g11, g12, g13, g14, g15, g16, g17, g18, g19, g20, bop_add_int, bop_sub_int, frz, ownAt, anyAt, setV, setT, setNm, setNms, setOne, List.set, wr_un, wr_lk, inL0, inLs, Bool.false_eq_true, if_false, Bool.false_and, Bool.and_true, Bool.true_and, Bool.not_false, Bool.not_true, reduceIte, z, ix]
    · have z : decide ((k : Int) < (ns.length : Int)) = false := by simp; omega
      refine ⟨0, by omega, fun C fuel => ?_⟩
      rw [Fd.run_un [some (.fz (.scr ns)), some (.fz (.int k)), none] rfl rfl rfl]
      congr 1
      unfold m__law_source
      dsimp only
      rw [exs]
      simp only [ex, ev, evl, Out.bind, Out.then, setV, setT, setNm, wr_un, inL0, inLs, if_true, List.set, slotAt, List.getElem?_cons_zero, List.getElem?_cons_succ, Option.getD, VR.look]
      rw [exs]
      simp only [exs, ex, ev, evs, evl, Out.bind, Out.then, slotAt, if_true, List.map, List.cons_append, List.nil_append, List.getElem?_cons_zero, List.getElem?_cons_succ, Option.getD, D.flat1, D.isDic, tyIs, asB, VR.look, looks, Option.bind, Option.map, Option.bind_eq_bind, Option.pure_def, bfn, D.len, ofO, cop, boolO, g0, g1, g2, g3, g4, g5, g6, g7, g8, g9, g10, g11, g12, g13, g14, g15, g16, g17, g18, g19, g20, bop_add_int, bop_sub_int, frz, ownAt, anyAt, setV, setT, setNm, setNms, setOne, List.set, wr_un, wr_lk, inL0, inLs, Bool.false_eq_true, if_false, Bool.false_and, Bool.and_true, Bool.true_and, Bool.not_false, Bool.not_true, reduceIte, z]
  obtain ⟨cell, h0, hc⟩ := hc
  have p : bop .pow (.int 10) (.int 18) = some (.im (.int 1000000000000000000)) := by rfl
  have m1 := bop_mul (i := cell) (j := 7919) (by rw [show small64 7919 = true from rfl, Bool.or_true])
  have m2 := bop_mul (i := 104729) (j := (k : Int)) (by rw [show small64 104729 = true from rfl]; rfl)
  have m3 := bop_mod (i := cell * 7919 + 104729 * (k : Int)) (j := 2147483646) (by omega)
  have m4 := bop_mod (i := cell + (k : Int)) (j := 2147483646) (by omega)
  have b (i : Int) : 0 ≤ i.fmod 2147483646 ∧ i.fmod 2147483646 < 2147483646 := ⟨Int.fmod_nonneg_of_pos _ (by omega), Int.fmod_lt_of_pos _ (by omega)⟩
  cases hd : decide (cell < 1000000000000000000) with
  | true =>
    have := b (cell * 7919 + 104729 * (k : Int))
    refine ⟨.lst [.int 0, .int (1 + (cell * 7919 + 104729 * (k : Int)).fmod 2147483646)], ⟨_, _, rfl, by omega, by omega, by omega⟩, Cal.of (k := 0) o fun j _ => ?_⟩
    rw [hc]
    simp only [exs, ex, ev, evs, evl, Out.bind, Out.then, slotAt, if_true, List.map, List.cons_append, List.nil_append, List.getElem?_cons_zero, List.getElem?_cons_succ, Option.getD, D.flat1, D.isDic, tyIs, asB, VR.look, looks, Option.bind, Option.map, Option.bind_eq_bind, Option.pure_def, bfn, D.len, ofO, cop, boolO, g0, g1, g2, g3, g4, g5, g6, g7, g8, g9, g10, g11, g12, g13, g14, g15, g16, g17, g18, g19, g20, bop_add_int, bop_sub_int, frz, ownAt, anyAt, setV, setT, setNm, setNms, setOne, List.set, wr_un, wr_lk, inL0, inLs, Bool.false_eq_true, if_false, Bool.false_and, Bool.and_true, Bool.true_and, Bool.not_false, Bool.not_true, reduceIte, p, hd, m1, m2, m3, finR, finV]
  | false =>
    have := b (cell + (k : Int))
    refine ⟨.lst [.int cell, .int (1 + (cell + (k : Int)).fmod 2147483646)], ⟨_, _, rfl, h0, by omega, by omega⟩, Cal.of (k := 0) o fun j _ => ?_⟩
    rw [hc]
    simp only [exs, ex, ev, evs, evl, Out.bind, Out.then, slotAt, if_true, List.map, List.cons_append, List.nil_append, List.getElem?_cons_zero, List.getElem?_cons_succ, Option.getD, D.flat1, D.isDic, tyIs, asB, VR.look, looks, Option.bind, Option.map, Option.bind_eq_bind, Option.pure_def, bfn, D.len, ofO, cop, boolO, g0, g1, g2, g3, g4, g5, g6, g7, g8, g9, g10, g11, g12, g13, g14, g15, g16, g17, g18, g19, g20, bop_add_int, bop_sub_int, frz, ownAt, anyAt, setV, setT, setNm, setNms, setOne, List.set, wr_un, wr_lk, inL0, inLs, Bool.false_eq_true, if_false, Bool.false_and, Bool.and_true, Bool.true_and, Bool.not_false, Bool.not_true, reduceIte, p, hd, m4, finR, finV]
end Ev.Pl

/-! E49: need_free, need_row and what stands on them. -/
namespace Ev.Pl
def prs : List (List Nat) := [[97, 98], [97, 99], [98, 99]]
def frees : List (List (List Nat)) := [[], [[97, 98]], [[97, 98], [97, 99]], [[97, 98], [97, 99], [98, 99]], [[97, 98], [98, 99]], [[97, 99]], [[97, 99], [98, 99]], [[98, 99]]]
theorem frees_len {F : List (List Nat)} (h : F ∈ frees) : F.length ≤ 3 := by
  revert F; decide
theorem frees_prs {F : List (List Nat)} (h : F ∈ frees) : prs.filter (fun p => F.contains p) = F := by
  revert F; decide
theorem eqvs_dS : ∀ a b : List (List Nat), D.eqvs (dS a) (dS b) = (a == b)
  | [], [] => rfl
  | [], _ :: _ => rfl
  | _ :: _, [] => rfl
  | x :: a, y :: b => by
    show (D.eqv (.str x) (.str y) && D.eqvs (dS a) (dS b)) = _
    rw [eqvs_dS a b]; rfl
theorem deps_dS : ∀ a : List (List Nat), D.deps (dS a) = 0
  | [] => rfl
  | x :: a => by
    show max (D.dep (.str x)) (D.deps (dS a)) = 0
    rw [deps_dS a]; rfl
theorem eqO_tup (a b : List (List Nat)) : eqO (.tup (dS a)) (.tup (dS b)) = some (a == b) := by
  have : (D.tup (dS a)).dep = 1 := by show D.deps (dS a) + 1 = 1; rw [deps_dS]
  unfold eqO
  rw [this]
  simp only [D.nod, nods_strs, Bool.true_and, Nat.ble]
  rw [if_pos (by simp)]
  show some (D.eqvs (dS a) (dS b)) = _
  rw [eqvs_dS]
theorem eqO_lst (a b : List (List Nat)) : eqO (.lst (dS a)) (.lst (dS b)) = some (a == b) := by
  have : (D.lst (dS a)).dep = 1 := by show D.deps (dS a) + 1 = 1; rw [deps_dS]
  unfold eqO
  rw [this]
  simp only [D.nod, nods_strs, Bool.true_and, Nat.ble]
  rw [if_pos (by simp)]
  show some (D.eqvs (dS a) (dS b)) = _
  rw [eqvs_dS]
theorem is_tuple_tup (C : EC) (fuel : Nat) (xs : List D) (a b : Int) : m_is_tuple.run C fuel [.tup xs, .int a, .int b] = .ok false (.bl (decide (a ≤ xs.length) && decide ((xs.length : Int) ≤ b))) .non := by
  rw [Fd.run_un [some (.fz (.tup xs)), some (.fz (.int a)), some (.fz (.int b))] rfl rfl rfl]
  simp only [m_is_tuple, exs, ex, ev, evs, evl, Out.bind, Out.then, slotAt, if_true, List.map, List.cons_append, List.nil_append, List.getElem?_cons_zero, List.getElem?_cons_succ, Option.getD, D.flat1, D.isDic, tyIs, asB, VR.look, looks, Option.bind, Option.map, Option.bind_eq_bind, Option.pure_def, bfn, D.len, ofO, cop, boolO, g0, g1, g2, g3, g4, g5, g6, g7, g8, g9, g10, g11, g12, g13, g14, g15, g16, g17, g18, g19, g20, bop_add_int, bop_sub_int, frz, ownAt, anyAt, setV, setT, setNm, setNms, setOne, List.set, wr_un, wr_lk, inL0, inLs, Bool.false_eq_true, if_false, Bool.false_and, Bool.and_true, Bool.true_and, Bool.not_false, Bool.not_true, reduceIte]
  cases decide (a ≤ (xs.length : Int)) <;> simp only [exs, ex, ev, evs, evl, Out.bind, Out.then, slotAt, if_true, List.map, List.cons_append, List.nil_append, List.getElem?_cons_zero, List.getElem?_cons_succ, Option.getD, D.flat1, D.isDic, tyIs, asB, VR.look, looks, Option.bind, Option.map, Option.bind_eq_bind, Option.pure_def, bfn, D.len, ofO, cop, boolO, g0, g1, g2, g3, g4, g5, g6, g7, g8, g9, g10, g11, g12, g13, g14, g15, g16, g17, g18, g19, g20, bop_add_int, bop_sub_int, frz, ownAt, anyAt, setV, setT, setNm, setNms, setOne, List.set, wr_un, wr_lk, inL0, inLs, Bool.false_eq_true, if_false, Bool.false_and, Bool.and_true, Bool.true_and, Bool.not_false, Bool.not_true, reduceIte, finR, finV, Bool.false_and, Bool.true_and]
section
variable {C : EC} (F : List (List Nat)) (x1 : Option SV)
theorem need_free_k1 : ev C.un m_need_free_k1 [some (.fz (.tup (dS F))), x1] = .ok (.fr (.lst (F.map fun _ => .bl true))) [some (.fz (.tup (dS F))), x1] := by
  refine comp_map D.str F _ (ds := [.tup (dS F)]) rfl rfl rfl fun c hc => ?_
  simp only [Turn, turn, exs, ex, ev, evs, evl, Out.bind, Out.then, slotAt, if_true, List.map, List.cons_append, List.nil_append, List.getElem?_cons_zero, List.getElem?_cons_succ, Option.getD, D.flat1, D.isDic, tyIs, asB, VR.look, looks, Option.bind, Option.map, Option.bind_eq_bind, Option.pure_def, bfn, D.len, ofO, cop, boolO, g0, g1, g2, g3, g4, g5, g6, g7, g8, g9, g10, g11, g12, g13, g14, g15, g16, g17, g18, g19, g20, bop_add_int, bop_sub_int, frz, ownAt, anyAt, setV, setT, setNm, setNms, setOne, List.set, wr_un, wr_lk, inL0, inLs, Bool.false_eq_true, if_false, Bool.false_and, Bool.and_true, Bool.true_and, Bool.not_false, Bool.not_true, reduceIte, wipeE]
theorem need_free_k0 (G : Gam C) : ev C.un m_need_free_k0 [some (.fz (.tup (dS F))), x1] = .ok (.fr (.lst (dS (prs.filter fun p => F.contains p)))) [some (.fz (.tup (dS F))), x1] := by
  refine comp_flt D.str prs _ _ (evs_glo G.pairs) rfl rfl fun c hc => ?_
  have q := isIn_tup c F
  simp only [Turn, turn, exs, ex, ev, evs, evl, Out.bind, Out.then, slotAt, if_true, List.map, List.cons_append, List.nil_append, List.getElem?_cons_zero, List.getElem?_cons_succ, Option.getD, D.flat1, D.isDic, tyIs, asB, VR.look, looks, Option.bind, Option.map, Option.bind_eq_bind, Option.pure_def, bfn, D.len, ofO, cop, boolO, g0, g1, g2, g3, g4, g5, g6, g7, g8, g9, g10, g11, g12, g13, g14, g15, g16, g17, g18, g19, g20, bop_add_int, bop_sub_int, frz, ownAt, anyAt, setV, setT, setNm, setNms, setOne, List.set, wr_un, wr_lk, inL0, inLs, Bool.false_eq_true, if_false, Bool.false_and, Bool.and_true, Bool.true_and, Bool.not_false, Bool.not_true, reduceIte, wipeE, q]
  cases F.contains c <;> simp only [exs, ex, ev, evs, evl, Out.bind, Out.then, slotAt, if_true, List.map, List.cons_append, List.nil_append, List.getElem?_cons_zero, List.getElem?_cons_succ, Option.getD, D.flat1, D.isDic, tyIs, asB, VR.look, looks, Option.bind, Option.map, Option.bind_eq_bind, Option.pure_def, bfn, D.len, ofO, cop, boolO, g0, g1, g2, g3, g4, g5, g6, g7, g8, g9, g10, g11, g12, g13, g14, g15, g16, g17, g18, g19, g20, bop_add_int, bop_sub_int, frz, ownAt, anyAt, setV, setT, setNm, setNms, setOne, List.set, wr_un, wr_lk, inL0, inLs, Bool.false_eq_true, if_false, Bool.false_and, Bool.and_true, Bool.true_and, Bool.not_false, Bool.not_true, reduceIte, wipeE]
end
theorem need_free_ok {T : Nat → EC} {fuel : Nat} (o : On T fuel f_need_free m_need_free) (o2 : On T fuel f_is_tuple m_is_tuple) (G : ∀ j, Gam (T j)) (F : List (List Nat)) (hF : F ∈ frees) : Cal T 2 f_need_free [.tup (dS F)] (.ok false .non .non) := by
  refine Cal.of (k := 1) o fun j hj => ?_
  obtain ⟨run, e1, e2⟩ := Cal.of (k := 0) o2 (fun j _ => is_tuple_tup (T j) fuel (dS F) 0 3) j hj
  have l := frees_len hF
  have z : (decide ((0 : Int) ≤ (dS F).length) && decide (((dS F).length : Int) ≤ 3)) = true := by
    rw [List.length_map, Bool.and_eq_true]
    simp; omega
  rw [z] at e2
  rw [Fd.run_un [some (.fz (.tup (dS F))), none] rfl rfl rfl]
  have k1 := need_free_k1 (C := T j) F none
  have k0 := need_free_k0 (C := T j) F none (G j)
  rw [frees_prs hF] at k0
  have b3 : boolsO (F.map fun _ => .bl true) = some (F.map fun _ => true) := boolsO_mapF
  have b4 : allB (F.map fun _ => true) = true := by rw [allB_mapF]; simp
  have b5 := eqO_tup F F
  rw [show (F == F) = true by simp] at b5
  simp only [EC.un] at k0 k1
  simp only [m_need_free, exs, ex, ev, evs, evl, Out.bind, Out.then, slotAt, if_true, List.map, List.cons_append, List.nil_append, List.getElem?_cons_zero, List.getElem?_cons_succ, Option.getD, D.flat1, D.isDic, tyIs, asB, VR.look, looks, Option.bind, Option.map, Option.bind_eq_bind, Option.pure_def, bfn, D.len, ofO, cop, boolO, g0, g1, g2, g3, g4, g5, g6, g7, g8, g9, g10, g11, g12, g13, g14, g15, g16, g17, g18, g19, g20, bop_add_int, bop_sub_int, frz, ownAt, anyAt, setV, setT, setNm, setNms, setOne, List.set, wr_un, wr_lk, inL0, inLs, Bool.false_eq_true, if_false, Bool.false_and, Bool.and_true, Bool.true_and, Bool.not_false, Bool.not_true, reduceIte, EC.un, e1, callF, e2, k0, k1, b3, b4, b5, finR, finV]
theorem is_row_cal {T : Nat → EC} {fuel : Nat} (o : On T fuel f_is_row m_is_row) (G : ∀ j, Gam (T j)) (s : List Nat) (m : Int) : Cal T 1 f_is_row [.str s, .int m] (.ok false (.bl (isRow s m)) .non) :=
  Cal.of (k := 0) o fun j _ => is_row_str (G j) fuel s m
theorem need_row_cal {T : Nat → EC} {fuel : Nat} (o : On T fuel f_is_row m_is_row) (o2 : On T fuel f_need_row m_need_row) (G : ∀ j, Gam (T j)) (s : List Nat) (m : Int) : Cal T 2 f_need_row [.str s, .int m] (if isRow s m then .ok false .non .non else .ex ⟨c_InvalidRow, .non⟩ .non) :=
  Cal.of (k := 1) o2 fun j hj => need_row_ok (is_row_cal o G s m) hj
theorem isRow_of {s : List Nat} {m : Nat} (h : IsRow s) (hl : s.length ≤ m) : isRow s m = true := by
  unfold isRow
  rw [Bool.and_eq_true, List.all_eq_true]
  refine ⟨by simp; exact hl, fun x hx => ?_⟩
  have := h x hx
  unfold inAbc
  simpa using this
theorem isRow_long {s : List Nat} {m : Nat} (hl : m < s.length) : isRow s m = false := by
  unfold isRow
  rw [Bool.and_eq_false_iff]
  left
  simp
  exact hl
/-- the tables that all laws share -/
structure Base (T : Nat → EC) (fuel : Nat) : Prop where
  G : ∀ j, Gam (T j)
  is_tuple : On T fuel f_is_tuple m_is_tuple
  is_row : On T fuel f_is_row m_is_row
  are_free : On T fuel f_are_free m_are_free
  need_free : On T fuel f_need_free m_need_free
structure Rows (T : Nat → EC) (fuel : Nat) : Prop extends Base T fuel where
  need_row : On T fuel f_need_row m_need_row
  levels_of : On T fuel f_levels_of m_levels_of
  layered : On T fuel f_layered m_layered
  next_rows : On T fuel f_next_rows m_next_rows
  first_of : On T fuel f_first_of m_first_of
  counted : On T fuel f_counted m_counted
  is_free : On T fuel f_is_free m_is_free
  same : On T fuel f_same m_same
  layers : On T fuel f_layers m_layers
  first_same : On T fuel f_first_same m_first_same
  count_same : On T fuel f_count_same m_count_same
  is_hanging : On T fuel f_is_hanging m_is_hanging
  hangs : On T fuel f_hangs m_hangs
section
variable {T : Nat → EC} {fuel : Nat}
theorem Base.cf (B : Base T fuel) : CFree T 1 := fun F a b => Cal.of (k := 0) B.are_free fun j _ => are_free_ok (T j) fuel F a b
theorem Rows.cn (B : Rows T fuel) : CNext T 2 := fun F row h => next_rows_ok B.next_rows B.G B.cf F row h
variable (B : Rows T fuel) {F : List (List Nat)} (hF : F ∈ frees) {r1 r2 : List Nat} (h1 : IsRow r1) (h2 : IsRow r2)
include B hF
theorem Rows.is_free_cal : Cal T 3 f_is_free [.tup (dS F)] (.ok false (.bl true) .non) := by
  refine Cal.of (k := 2) B.is_free fun j hj => ?_
  obtain ⟨run, e1, e2⟩ := need_free_ok B.need_free B.is_tuple B.G F hF j hj
  rw [Fd.run_un [some (.fz (.tup (dS F)))] rfl rfl rfl]
  simp only [m_is_free, exs, ex, ev, evs, evl, Out.bind, Out.then, slotAt, if_true, List.map, List.cons_append, List.nil_append, List.getElem?_cons_zero, List.getElem?_cons_succ, Option.getD, D.flat1, D.isDic, tyIs, asB, VR.look, looks, Option.bind, Option.map, Option.bind_eq_bind, Option.pure_def, bfn, D.len, ofO, cop, boolO, g0, g1, g2, g3, g4, g5, g6, g7, g8, g9, g10, g11, g12, g13, g14, g15, g16, g17, g18, g19, g20, bop_add_int, bop_sub_int, frz, ownAt, anyAt, setV, setT, setNm, setNms, setOne, List.set, wr_un, wr_lk, inL0, inLs, Bool.false_eq_true, if_false, Bool.false_and, Bool.and_true, Bool.true_and, Bool.not_false, Bool.not_true, reduceIte, e1, callF, e2, finR, finV]
theorem Rows.same_cal (h1 : IsRow r1) (h2 : IsRow r2) (l1 : r1.length ≤ 60) (l2 : r2.length ≤ 60) : Cal T 4 f_same [.tup (dS F), .str r1, .str r2] (.ok false (.bl (layeredM F r1 == layeredM F r2)) .non) := by
  refine Cal.of (k := 3) B.same fun j hj => ?_
  obtain ⟨run, e1, e2⟩ := need_free_ok B.need_free B.is_tuple B.G F hF j (by omega)
  obtain ⟨run2, a1, a2⟩ := need_row_cal B.is_row B.need_row B.G r1 60 j (by omega)
  obtain ⟨run3, b1, b2⟩ := need_row_cal B.is_row B.need_row B.G r2 60 j (by omega)
  rw [a1] at b1
  cases b1
  rw [show isRow r1 60 = true from isRow_of h1 l1] at a2
  rw [show isRow r2 60 = true from isRow_of h2 l2] at b2
  have s1 : r1.length < szL := by show _ < 16777216; omega
  have s2 : r2.length < szL := by show _ < 16777216; omega
  obtain ⟨run4, c1, c2⟩ := layered_ok B.layered B.G F r1 s1 (levels_of_ok B.levels_of B.cf F r1 s1) j (by omega)
  obtain ⟨run5, d1, d2⟩ := layered_ok B.layered B.G F r2 s2 (levels_of_ok B.levels_of B.cf F r2 s2) j (by omega)
  rw [c1] at d1
  cases d1
  have q := eqO_lst (layeredM F r1) (layeredM F r2)
  rw [Fd.run_un [some (.fz (.tup (dS F))), some (.fz (.str r1)), some (.fz (.str r2))] rfl rfl rfl]
  simp only [m_same, exs, ex, ev, evs, evl, Out.bind, Out.then, slotAt, if_true, List.map, List.cons_append, List.nil_append, List.getElem?_cons_zero, List.getElem?_cons_succ, Option.getD, D.flat1, D.isDic, tyIs, asB, VR.look, looks, Option.bind, Option.map, Option.bind_eq_bind, Option.pure_def, bfn, D.len, ofO, cop, boolO, g0, g1, g2, g3, g4, g5, g6, g7, g8, g9, g10, g11, g12, g13, g14, g15, g16, g17, g18, g19, g20, bop_add_int, bop_sub_int, frz, ownAt, anyAt, setV, setT, setNm, setNms, setOne, List.set, wr_un, wr_lk, inL0, inLs, Bool.false_eq_true, if_false, Bool.false_and, Bool.and_true, Bool.true_and, Bool.not_false, Bool.not_true, reduceIte, e1, callF, e2, a1, a2, b2, c1, c2, d2, q, finR, finV]
theorem Rows.layers_cal (h1 : IsRow r1) (l1 : r1.length ≤ 60) : Cal T 4 f_layers [.tup (dS F), .str r1] (.ok true (.lst (dS (layeredM F r1))) .non) := by
  refine Cal.of (k := 3) B.layers fun j hj => ?_
  obtain ⟨run, e1, e2⟩ := need_free_ok B.need_free B.is_tuple B.G F hF j (by omega)
  obtain ⟨run2, a1, a2⟩ := need_row_cal B.is_row B.need_row B.G r1 60 j (by omega)
  rw [show isRow r1 60 = true from isRow_of h1 l1] at a2
  have s1 : r1.length < szL := by show _ < 16777216; omega
  obtain ⟨run4, c1, c2⟩ := layered_ok B.layered B.G F r1 s1 (levels_of_ok B.levels_of B.cf F r1 s1) j (by omega)
  rw [Fd.run_un [some (.fz (.tup (dS F))), some (.fz (.str r1))] rfl rfl rfl]
  simp only [m_layers, exs, ex, ev, evs, evl, Out.bind, Out.then, slotAt, if_true, List.map, List.cons_append, List.nil_append, List.getElem?_cons_zero, List.getElem?_cons_succ, Option.getD, D.flat1, D.isDic, tyIs, asB, VR.look, looks, Option.bind, Option.map, Option.bind_eq_bind, Option.pure_def, bfn, D.len, ofO, cop, boolO, g0, g1, g2, g3, g4, g5, g6, g7, g8, g9, g10, g11, g12, g13, g14, g15, g16, g17, g18, g19, g20, bop_add_int, bop_sub_int, frz, ownAt, anyAt, setV, setT, setNm, setNms, setOne, List.set, wr_un, wr_lk, inL0, inLs, Bool.false_eq_true, if_false, Bool.false_and, Bool.and_true, Bool.true_and, Bool.not_false, Bool.not_true, reduceIte, e1, callF, e2, a1, a2, c1, c2, finR, finV]
theorem Rows.first_cal (h1 : IsRow r1) (l1 : r1.length ≤ 60) (hf : 100 < fuel) : Cal T 4 f_first_same [.tup (dS F), .str r1] (.ok false (.str (firstM F r1.length r1)) .non) := by
  refine Cal.of (k := 3) B.first_same fun j hj => ?_
  obtain ⟨run, e1, e2⟩ := need_free_ok B.need_free B.is_tuple B.G F hF j (by omega)
  obtain ⟨run2, a1, a2⟩ := need_row_cal B.is_row B.need_row B.G r1 60 j (by omega)
  rw [show isRow r1 60 = true from isRow_of h1 l1] at a2
  have s1 : r1.length < szL := by show _ < 16777216; omega
  obtain ⟨run4, c1, c2⟩ := first_of_ok B.first_of B.cn F r1 s1 (by omega) h1 j (by omega)
  rw [Fd.run_un [some (.fz (.tup (dS F))), some (.fz (.str r1))] rfl rfl rfl]
  simp only [m_first_same, exs, ex, ev, evs, evl, Out.bind, Out.then, slotAt, if_true, List.map, List.cons_append, List.nil_append, List.getElem?_cons_zero, List.getElem?_cons_succ, Option.getD, D.flat1, D.isDic, tyIs, asB, VR.look, looks, Option.bind, Option.map, Option.bind_eq_bind, Option.pure_def, bfn, D.len, ofO, cop, boolO, g0, g1, g2, g3, g4, g5, g6, g7, g8, g9, g10, g11, g12, g13, g14, g15, g16, g17, g18, g19, g20, bop_add_int, bop_sub_int, frz, ownAt, anyAt, setV, setT, setNm, setNms, setOne, List.set, wr_un, wr_lk, inL0, inLs, Bool.false_eq_true, if_false, Bool.false_and, Bool.and_true, Bool.true_and, Bool.not_false, Bool.not_true, reduceIte, e1, callF, e2, a1, a2, c1, c2, finR, finV]
theorem Rows.count_cal (h1 : IsRow r1) (hf : 100 < fuel) : Cal T 4 f_count_same [.tup (dS F), .str r1] (if r1.length ≤ 14 then .ok false (.int (countM F r1)) .non else .ex ⟨c_InvalidRow, .non⟩ .non) := by
  refine Cal.of (k := 3) B.count_same fun j hj => ?_
  obtain ⟨run, e1, e2⟩ := need_free_ok B.need_free B.is_tuple B.G F hF j (by omega)
  obtain ⟨run2, a1, a2⟩ := need_row_cal B.is_row B.need_row B.G r1 14 j (by omega)
  rw [Fd.run_un [some (.fz (.tup (dS F))), some (.fz (.str r1))] rfl rfl rfl]
  by_cases l1 : r1.length ≤ 14
  · rw [show isRow r1 14 = true from isRow_of h1 l1] at a2
    obtain ⟨run4, c1, c2⟩ := counted_ok B.counted B.cn F r1 l1 (by omega) j (by omega)
    simp only [m_count_same, exs, ex, ev, evs, evl, Out.bind, Out.then, slotAt, if_true, List.map, List.cons_append, List.nil_append, List.getElem?_cons_zero, List.getElem?_cons_succ, Option.getD, D.flat1, D.isDic, tyIs, asB, VR.look, looks, Option.bind, Option.map, Option.bind_eq_bind, Option.pure_def, bfn, D.len, ofO, cop, boolO, g0, g1, g2, g3, g4, g5, g6, g7, g8, g9, g10, g11, g12, g13, g14, g15, g16, g17, g18, g19, g20, bop_add_int, bop_sub_int, frz, ownAt, anyAt, setV, setT, setNm, setNms, setOne, List.set, wr_un, wr_lk, inL0, inLs, Bool.false_eq_true, if_false, Bool.false_and, Bool.and_true, Bool.true_and, Bool.not_false, Bool.not_true, reduceIte, e1, callF, e2, a1, a2, c1, c2, finR, finV, if_pos l1]
  · rw [show isRow r1 14 = false from isRow_long (m := 14) (by omega)] at a2
    simp only [m_count_same, exs, ex, ev, evs, evl, Out.bind, Out.then, slotAt, if_true, List.map, List.cons_append, List.nil_append, List.getElem?_cons_zero, List.getElem?_cons_succ, Option.getD, D.flat1, D.isDic, tyIs, asB, VR.look, looks, Option.bind, Option.map, Option.bind_eq_bind, Option.pure_def, bfn, D.len, ofO, cop, boolO, g0, g1, g2, g3, g4, g5, g6, g7, g8, g9, g10, g11, g12, g13, g14, g15, g16, g17, g18, g19, g20, bop_add_int, bop_sub_int, frz, ownAt, anyAt, setV, setT, setNm, setNms, setOne, List.set, wr_un, wr_lk, inL0, inLs, Bool.false_eq_true, if_false, Bool.false_and, Bool.and_true, Bool.true_and, Bool.not_false, Bool.not_true, reduceIte, e1, callF, e2, a1, a2, finR, finV, if_neg l1]
omit B hF in
theorem hangs_k0 {C : EC} (G : Gam C) (F : D) (r : List Nat) (x2 : Option SV) : ev C.un m_hangs_k0 [some (.fz F), some (.fz (.str r)), x2] = .ok (.fr (.lst ((abc.filter fun c => r.contains c).map fun c => .str [c]))) [some (.fz F), some (.fz (.str r)), x2] := by
  refine comp_flt (fun c => .str [c]) abc _ _ (evs_glo G.letters) rfl rfl fun c hc => ?_
  have q : isIn (.str [c]) (.str r) = some (r.contains c) := rfl
  simp only [Turn, turn, exs, ex, ev, evs, evl, Out.bind, Out.then, slotAt, if_true, List.map, List.cons_append, List.nil_append, List.getElem?_cons_zero, List.getElem?_cons_succ, Option.getD, D.flat1, D.isDic, tyIs, asB, VR.look, looks, Option.bind, Option.map, Option.bind_eq_bind, Option.pure_def, bfn, D.len, ofO, cop, boolO, g0, g1, g2, g3, g4, g5, g6, g7, g8, g9, g10, g11, g12, g13, g14, g15, g16, g17, g18, g19, g20, bop_add_int, bop_sub_int, frz, ownAt, anyAt, setV, setT, setNm, setNms, setOne, List.set, wr_un, wr_lk, inL0, inLs, Bool.false_eq_true, if_false, Bool.false_and, Bool.and_true, Bool.true_and, Bool.not_false, Bool.not_true, reduceIte, wipeE, q]
  cases r.contains c <;> simp only [exs, ex, ev, evs, evl, Out.bind, Out.then, slotAt, if_true, List.map, List.cons_append, List.nil_append, List.getElem?_cons_zero, List.getElem?_cons_succ, Option.getD, D.flat1, D.isDic, tyIs, asB, VR.look, looks, Option.bind, Option.map, Option.bind_eq_bind, Option.pure_def, bfn, D.len, ofO, cop, boolO, g0, g1, g2, g3, g4, g5, g6, g7, g8, g9, g10, g11, g12, g13, g14, g15, g16, g17, g18, g19, g20, bop_add_int, bop_sub_int, frz, ownAt, anyAt, setV, setT, setNm, setNms, setOne, List.set, wr_un, wr_lk, inL0, inLs, Bool.false_eq_true, if_false, Bool.false_and, Bool.and_true, Bool.true_and, Bool.not_false, Bool.not_true, reduceIte, wipeE]
theorem Rows.hangs_cal (h1 : IsRow r1) (l1 : r1.length ≤ 60) : Cal T 4 f_hangs [.tup (dS F), .str r1] (.ok false (.bl (hangM F (abc.filter fun c => r1.contains c))) .non) := by
  refine Cal.of (k := 3) B.hangs fun j hj => ?_
  obtain ⟨run, e1, e2⟩ := need_free_ok B.need_free B.is_tuple B.G F hF j (by omega)
  obtain ⟨run2, a1, a2⟩ := need_row_cal B.is_row B.need_row B.G r1 60 j (by omega)
  rw [show isRow r1 60 = true from isRow_of h1 l1] at a2
  obtain ⟨run4, c1, c2⟩ := is_hanging_ok B.is_hanging B.G B.cf F (abc.filter fun c => r1.contains c) j (by omega)
  have k0 := hangs_k0 (B.G j) (.tup (dS F)) r1 none
  have jn := join_letters (l := abc.filter fun c => r1.contains c) (by
    have : (abc.filter fun c => r1.contains c).length ≤ abc.length := List.length_filter_le ..
    have q : abc.length = 3 := rfl
    show _ ≤ 16777216
    omega)
  simp only [EC.un] at k0
  rw [Fd.run_un [some (.fz (.tup (dS F))), some (.fz (.str r1)), none] rfl rfl rfl]
  simp only [m_hangs, exs, ex, ev, evs, evl, Out.bind, Out.then, slotAt, if_true, List.map, List.cons_append, List.nil_append, List.getElem?_cons_zero, List.getElem?_cons_succ, Option.getD, D.flat1, D.isDic, tyIs, asB, VR.look, looks, Option.bind, Option.map, Option.bind_eq_bind, Option.pure_def, bfn, D.len, ofO, cop, boolO, g0, g1, g2, g3, g4, g5, g6, g7, g8, g9, g10, g11, g12, g13, g14, g15, g16, g17, g18, g19, g20, bop_add_int, bop_sub_int, frz, ownAt, anyAt, setV, setT, setNm, setNms, setOne, List.set, wr_un, wr_lk, inL0, inLs, Bool.false_eq_true, if_false, Bool.false_and, Bool.and_true, Bool.true_and, Bool.not_false, Bool.not_true, reduceIte, EC.un, e1, callF, e2, a1, a2, k0, mkind, jn, c1, c2, finR, finV]
end
end Ev.Pl

/-! the program of law k01 (printed by prog.py) -/
namespace Ev
open PySem PySem.Spec L2
open PyProof.Rows hiding St
namespace k01
/- _law_right: value row good due words short -/
def m__law_right : Fd := ⟨2, 6, false,
  (.cons (.asg (.nm 2) (.and (.cmp .mem (.var 0) (.call f__law_frees .nil)) (.isin (.var 0) .tuple)))
  (.cons (.ifs (.not (.call f__law_truly (.cons (.call f_is_free (.cons (.var 0) .nil)) (.cons (.var 2) .nil)))) (.cons (.ret (.cst (.bl false)))
  .nil) .nil)
  (.cons (.asg (.nm 3) (.ite (.not (.var 2)) (.cst (.str [102, 114, 101, 101])) (.ite (.call f__law_is_row (.cons (.var 1) (.cons (.cst (.int 60)) .nil))) (.cst (.str [110, 111, 110, 101])) (.cst (.str [114, 111, 119])))))
  (.cons (.asg (.nm 4) (.lst (.cons (.lam w__law_word (.call f_same (.cons (.var 0) (.cons (.cst (.str [])) (.cons (.var 1) .nil))))) .nil)))
  (.cons (.append 4 (.lam w__law_word (.call f_layers (.cons (.var 0) (.cons (.var 1) .nil)))))
  (.cons (.append 4 (.lam w__law_word (.call f_first_same (.cons (.var 0) (.cons (.var 1) .nil)))))
  (.cons (.append 4 (.lam w__law_word (.call f_hangs (.cons (.var 0) (.cons (.var 1) .nil)))))
  (.cons (.ifs (.cmp .ne (.var 4) (.bin .mul (.lst (.cons (.var 3) .nil)) (.cst (.int 4)))) (.cons (.ret (.cst (.bl false)))
  .nil) .nil)
  (.cons (.asg (.nm 5) (.ite (.not (.var 2)) (.cst (.str [102, 114, 101, 101])) (.ite (.call f__law_is_row (.cons (.var 1) (.cons (.cst (.int 14)) .nil))) (.cst (.str [110, 111, 110, 101])) (.cst (.str [114, 111, 119])))))
  (.cons (.ret (.cmp .eq (.lam w__law_word (.call f_count_same (.cons (.var 0) (.cons (.var 1) .nil)))) (.var 5)))
  .nil))))))))))⟩
/- law: script k source turn free -/
def m_law_k0 : ME := (.comp (.call f_is_free (.cons (.var 4) .nil)) (.nm 4) .val (.cons (.call f__law_frees .nil) .nil) (.cst (.bl true)) [4])
def m_law_s0 : MS := (.fors (.nm 3) .range1 (.cons (.cst (.int 12)) .nil) (.cons (.ifs (.not (.call f__law_right (.cons (.callm f__law_odd 2 .nil) (.cons (.callm f__law_odd 2 .nil) .nil)))) (.cons (.ret (.cst (.bl false)))
  .nil) .nil)
  (.cons (.ifs (.not (.call f__law_right (.cons (.callm f__law_of 2 (.cons (.call f__law_frees .nil) .nil)) (.cons (.callm f__law_row 2 (.cons (.cst (.int 20)) .nil)) .nil)))) (.cons (.ret (.cst (.bl false)))
  .nil) .nil)
  .nil)))
def m_law_s1 : MS := (.fors (.nm 1) .range1 (.cons (.bin .add (.cst (.int 1)) (.blt .min2 (.cons (.blt .len (.cons (.var 0) .nil)) (.cons (.cst (.int 10)) .nil)))) .nil) (.cons (.asg (.nm 2) (.call f__law_source (.cons (.var 0) (.cons (.var 1) .nil))))
  (.cons m_law_s0
  .nil)))
def m_law : Fd := ⟨1, 5, false,
  (.cons m_law_s1
  (.cons (.ifs (.cmp .ne m_law_k0 (.bin .mul (.lst (.cons (.cst (.bl true)) .nil)) (.cst (.int 8)))) (.cons (.ret (.cst (.bl false)))
  .nil) .nil)
  (.cons (.ifs (.cmp .ne (.lam w__law_word (.call f_same (.cons (.tup .nil) (.cons (.cst .non) (.cons (.cst .non) .nil))))) (.cst (.str [114, 111, 119]))) (.cons (.ret (.cst (.bl false)))
  .nil) .nil)
  (.cons (.ifs (.cmp .ne (.lam w__law_word (.call f_same (.cons (.tup .nil) (.cons (.bin .mul (.cst (.str [97])) (.cst (.int 61))) (.cons (.cst (.str [])) .nil))))) (.cst (.str [114, 111, 119]))) (.cons (.ret (.cst (.bl false)))
  .nil) .nil)
  (.cons (.ifs (.or (.cmp .ne (.lam w__law_word (.call f_count_same (.cons (.tup .nil) (.cons (.bin .mul (.cst (.str [97])) (.cst (.int 15))) .nil)))) (.cst (.str [114, 111, 119]))) (.cmp .ne (.call f_count_same (.cons (.tup .nil) (.cons (.bin .mul (.cst (.str [97])) (.cst (.int 14))) .nil))) (.cst (.int 1)))) (.cons (.ret (.cst (.bl false)))
  .nil) .nil)
  (.cons (.ret (.and (.call f_same (.cons (.tup (.cons (.cst (.str [97, 98])) .nil)) (.cons (.bin .mul (.cst (.str [97, 98])) (.cst (.int 30))) (.cons (.bin .mul (.cst (.str [98, 97])) (.cst (.int 30))) .nil)))) (.and (.not (.call f_is_free (.cons (.tup (.cons (.cst (.str [97, 99])) (.cons (.cst (.str [97, 98])) .nil))) .nil))) (.not (.call f_is_free (.cons (.lst (.cons (.cst (.str [97, 98])) .nil)) .nil))))))
  .nil))))))⟩
def top (i : Nat) : Stmt := PySem.Challenge.pw_loopsapart_k01_rows_free_pairs_and_error.main.body.getD i (.Pass ⟨0, 0, 0, 0⟩)
def prog : PSet' where
  rows := [
    ⟨f_is_tuple, top 7, "is_tuple", ["value", "least", "most"], ["value", "least", "most"], m_is_tuple, false⟩,
    ⟨f_is_row, top 8, "is_row", ["value", "most", "letter"], ["value", "most"], m_is_row, false⟩,
    ⟨f_are_free, top 9, "are_free", ["free", "one", "other"], ["free", "one", "other"], m_are_free, false⟩,
    ⟨f_need_free, top 10, "need_free", ["value", "pair"], ["value"], m_need_free, false⟩,
    ⟨f_need_row, top 11, "need_row", ["value", "most"], ["value", "most"], m_need_row, false⟩,
    ⟨f_levels_of, top 12, "levels_of", ["free", "row", "found", "at", "letter", "ahead", "place"], ["free", "row"], m_levels_of, false⟩,
    ⟨f_layered, top 13, "layered", ["free", "row", "levels", "found", "level", "one", "here", "letter"], ["free", "row"], m_layered, false⟩,
    ⟨f_next_rows, top 14, "next_rows", ["free", "row", "found", "letter", "at", "other"], ["free", "row"], m_next_rows, false⟩,
    ⟨f_first_of, top 15, "first_of", ["free", "row", "found", "letter"], ["free", "row"], m_first_of, false⟩,
    ⟨f_counted, top 16, "counted", ["free", "row", "found", "level", "later", "rest", "letter", "less"], ["free", "row"], m_counted, false⟩,
    ⟨f_is_free, top 17, "is_free", ["value"], ["value"], m_is_free, false⟩,
    ⟨f_same, top 18, "same", ["free", "first", "second"], ["free", "first", "second"], m_same, false⟩,
    ⟨f_layers, top 19, "layers", ["free", "row"], ["free", "row"], m_layers, false⟩,
    ⟨f_first_same, top 20, "first_same", ["free", "row"], ["free", "row"], m_first_same, false⟩,
    ⟨f_count_same, top 21, "count_same", ["free", "row"], ["free", "row"], m_count_same, false⟩,
    ⟨f_is_hanging, top 23, "is_hanging", ["free", "letters", "found", "turn", "near", "letter", "other"], ["free", "letters"], m_is_hanging, false⟩,
    ⟨f_hangs, top 24, "hangs", ["free", "row", "letter"], ["free", "row"], m_hangs, false⟩,
    ⟨f__law_source, top 26, "_law_source", ["script", "k", "cell"], ["script", "k"], m__law_source, false⟩,
    ⟨f__law_draw, top 27, "_law_draw", ["source", "many", "found"], ["source", "many"], m__law_draw, false⟩,
    ⟨f__law_of, top 28, "_law_of", ["source", "items"], ["source", "items"], m__law_of, false⟩,
    ⟨f__law_frees, top 29, "_law_frees", ["found"], [], m__law_frees, false⟩,
    ⟨f__law_row, top 30, "_law_row", ["source", "most", "letters", "many", "turn"], ["source", "most"], m__law_row, false⟩,
    ⟨f__law_truly, top 31, "_law_truly", ["told", "due"], ["told", "due"], m__law_truly, false⟩,
    ⟨f__law_odd, top 32, "_law_odd", ["source", "items"], ["source"], m__law_odd, false⟩,
    ⟨f__law_is_row, top 34, "_law_is_row", ["value", "most", "letter"], ["value", "most"], m__law_is_row, false⟩,
    ⟨f__law_right, top 35, "_law_right", ["value", "row", "good", "due", "words", "short"], ["value", "row"], m__law_right, true⟩,
    ⟨f_law, top 36, "law", ["script", "k", "source", "turn", "free"], ["script"], m_law, true⟩]
  words := [
    ⟨top 33, "_law_word", "call", ["call", "e"], (some (.str [110, 111, 110, 101])), [(c_InvalidFree, .retIs c_LoopError (.str [102, 114, 101, 101]) (.str [101, 108, 115, 101])), (c_InvalidRow, .retIs c_LoopError (.str [114, 111, 119]) (.str [101, 108, 115, 101]))]⟩]
  cls := ["LoopError", "InvalidFree", "InvalidRow"]
  glo := [("LETTERS", (.str [97, 98, 99])), ("PAIRS", (.ktp [(.str [97, 98]), (.str [97, 99]), (.str [98, 99])]))]
def bindAll : BindAll prog.rows := ⟨fun _ _ _ _ _ _ us hl => match us, hl with | [_, _, _], _ => rfl, fun _ _ _ _ _ _ us hl => match us, hl with | [_, _], _ => rfl, fun _ _ _ _ _ _ us hl => match us, hl with | [_, _, _], _ => rfl, fun _ _ _ _ _ _ us hl => match us, hl with | [_], _ => rfl, fun _ _ _ _ _ _ us hl => match us, hl with | [_, _], _ => rfl, fun _ _ _ _ _ _ us hl => match us, hl with | [_, _], _ => rfl, fun _ _ _ _ _ _ us hl => match us, hl with | [_, _], _ => rfl, fun _ _ _ _ _ _ us hl => match us, hl with | [_, _], _ => rfl, fun _ _ _ _ _ _ us hl => match us, hl with | [_, _], _ => rfl, fun _ _ _ _ _ _ us hl => match us, hl with | [_, _], _ => rfl, fun _ _ _ _ _ _ us hl => match us, hl with | [_], _ => rfl, fun _ _ _ _ _ _ us hl => match us, hl with | [_, _, _], _ => rfl, fun _ _ _ _ _ _ us hl => match us, hl with | [_, _], _ => rfl, fun _ _ _ _ _ _ us hl => match us, hl with | [_, _], _ => rfl, fun _ _ _ _ _ _ us hl => match us, hl with | [_, _], _ => rfl, fun _ _ _ _ _ _ us hl => match us, hl with | [_, _], _ => rfl, fun _ _ _ _ _ _ us hl => match us, hl with | [_, _], _ => rfl, fun _ _ _ _ _ _ us hl => match us, hl with | [_, _], _ => rfl, fun _ _ _ _ _ _ us hl => match us, hl with | [_, _], _ => rfl, fun _ _ _ _ _ _ us hl => match us, hl with | [_, _], _ => rfl, fun _ _ _ _ _ _ us hl => match us, hl with | [], _ => rfl, fun _ _ _ _ _ _ us hl => match us, hl with | [_, _], _ => rfl, fun _ _ _ _ _ _ us hl => match us, hl with | [_, _], _ => rfl, fun _ _ _ _ _ _ us hl => match us, hl with | [_], _ => rfl, fun _ _ _ _ _ _ us hl => match us, hl with | [_, _], _ => rfl, fun _ _ _ _ _ _ us hl => match us, hl with | [_, _], _ => rfl, fun _ _ _ _ _ _ us hl => match us, hl with | [_], _ => rfl, trivial⟩
def bindAllW : BindAllW prog.words := ⟨fun _ _ _ _ _ _ us hl => match us, hl with | [_], _ => rfl, trivial⟩
theorem progok : prog.ok 40 = true := by decide +kernel
end k01
end Ev

/-! k01's plain law. -/
namespace Ev.Pl.k01
open Ev.k01
abbrev fu : Nat := 100000
abbrev T (j : Nat) : EC := prog.lev fu j
theorem rows : Rows T fu where
  G := fun j => by cases j <;> exact ⟨rfl, rfl⟩
  is_tuple := ⟨rfl, fun _ => rfl⟩
  is_row := ⟨rfl, fun _ => rfl⟩
  are_free := ⟨rfl, fun _ => rfl⟩
  need_free := ⟨rfl, fun _ => rfl⟩
  need_row := ⟨rfl, fun _ => rfl⟩
  levels_of := ⟨rfl, fun _ => rfl⟩
  layered := ⟨rfl, fun _ => rfl⟩
  next_rows := ⟨rfl, fun _ => rfl⟩
  first_of := ⟨rfl, fun _ => rfl⟩
  counted := ⟨rfl, fun _ => rfl⟩
  is_free := ⟨rfl, fun _ => rfl⟩
  same := ⟨rfl, fun _ => rfl⟩
  layers := ⟨rfl, fun _ => rfl⟩
  first_same := ⟨rfl, fun _ => rfl⟩
  count_same := ⟨rfl, fun _ => rfl⟩
  is_hanging := ⟨rfl, fun _ => rfl⟩
  hangs := ⟨rfl, fun _ => rfl⟩
theorem oD : OnM T fu f__law_draw m__law_draw := ⟨rfl, fun _ => rfl⟩
theorem oO : OnM T fu f__law_of m__law_of := ⟨rfl, fun _ => rfl⟩
theorem oR : OnM T fu f__law_row m__law_row := ⟨rfl, fun _ => rfl⟩
theorem oOdd : OnM T fu f__law_odd m__law_odd := ⟨rfl, fun _ => rfl⟩
theorem oS : On T fu f__law_source m__law_source := ⟨rfl, fun _ => rfl⟩
def oddL : List D := [.non, .bl true, .int 0, .int 1, .str [], .str [97,98], .str [97,98,99], .str [98,97], .str [100], .tup [], .lst [], .tup [.str [97,98]], .tup [.str [97,99]], .tup [.str [97,98], .str [97,99]], .tup [.str [97,99], .str [97,98]],
  .tup [.str [97,98], .str [97,98]], .tup [.str [98,97]], .lst [.str [97,98]], .tup [.str [97,98], .str [98,99]], .tup [.str [97,98], .str [97,99], .str [98,99]], .tup [.str [98,99], .str [97,98]], .tup [.str [99,98]],
  .tup [.str [97,98], .non], .tup [.str [97,98], .str [97,99], .str [98,99], .str [97,98]], .tup [.str [97], .str [98]], .tup [.str [97,97]], .str (List.replicate 61 97), .int 1000000000000000000000000000000]
def okT : FR → Bool | .ok false (.bl true) .non => true | _ => false
theorem okT_eq {r : FR} (h : okT r = true) : r = .ok false (.bl true) .non := by
  unfold okT at h
  split at h
  · rfl
  · cases h
theorem odd_all : (oddL.all fun v => oddL.all fun r => okT (m__law_right.run (T 11) fu [v, r])) = true := by decide +kernel
end Ev.Pl.k01

/-! k01's plain law. -/
namespace Ev.Pl.k01
open Ev.k01
theorem bop_addL {s t : List D} (h : Nat.ble (s.length + t.length) 1000 = true) : bop .add (.lst s) (.lst t) = some (.fr (.lst (s ++ t))) := if_pos (by
  have := Nat.ble_eq.mp h
  show _ ≤ 16777216
  omega)
theorem odd_ok : DrawsTo T 3 f__law_odd [] (fun d => d ∈ oddL) := by
  refine DrawsTo.of (k := 2) oOdd fun j hj s hs => ?_
  obtain ⟨run, r1, r2⟩ := law_of_ok oD oO oddL (by decide) (by decide) j hj
  obtain ⟨d, s', r3, r4, hd⟩ := r2 s hs
  refine ⟨d, s', ?_, r4, hd⟩
  rw [Fd.run_mu [some (.ow s), none] rfl rfl rfl]
  have p : bop .pow (.int 10) (.int 30) = some (.im (.int 1000000000000000000000000000000)) := by rfl
  have q : bop .mul (.str [97]) (.int 61) = some (.im (.str (List.replicate 61 97))) := by rfl
  simp only [oddL] at r3
  simp (decide := true) only [m__law_odd, exs, ex, ev, evs, evl, Out.bind, Out.then, slotAt, if_true, List.map, List.cons_append, List.nil_append, List.getElem?_cons_zero, List.getElem?_cons_succ, Option.getD, D.flat1, D.isDic, tyIs, asB, VR.look, looks, Option.bind, Option.map, Option.bind_eq_bind, Option.pure_def, bfn, D.len, ofO, cop, boolO, g0, g1, g2, g3, g4, g5, g6, g7, g8, g9, g10, g11, g12, g13, g14, g15, g16, g17, g18, g19, g20, bop_add_int, bop_sub_int, frz, ownAt, anyAt, setV, setT, setNm, setNms, setOne, List.set, wr_un, wr_lk, inL0, inLs, Bool.false_eq_true, if_false, Bool.false_and, Bool.and_true, Bool.true_and, Bool.not_false, Bool.not_true, reduceIte, p, q, bop_addL, r1, callM, r3, finR, finV]
/-- the eight free pairs, as the law lists them -/
def frl : D := .lst (frees.map fun F => .tup (dS F))
theorem frees_cal : Cal T 1 f__law_frees [] (.ok true frl .non) := Cal.of (k := 0) ⟨rfl, fun _ => rfl⟩ fun j _ => by
  rw [Fd.run_un [none] rfl rfl rfl]
  simp (decide := true) only [m__law_frees, exs, ex, ev, evs, evl, Out.bind, Out.then, slotAt, if_true, List.map, List.cons_append, List.nil_append, List.getElem?_cons_zero, List.getElem?_cons_succ, Option.getD, D.flat1, D.isDic, tyIs, asB, VR.look, looks, Option.bind, Option.map, Option.bind_eq_bind, Option.pure_def, bfn, D.len, ofO, cop, boolO, g0, g1, g2, g3, g4, g5, g6, g7, g8, g9, g10, g11, g12, g13, g14, g15, g16, g17, g18, g19, g20, bop_add_int, bop_sub_int, frz, ownAt, anyAt, setV, setT, setNm, setNms, setOne, List.set, wr_un, wr_lk, inL0, inLs, Bool.false_eq_true, if_false, Bool.false_and, Bool.and_true, Bool.true_and, Bool.not_false, Bool.not_true, reduceIte, bop_addL, finR, finV]
  rfl
theorem frees_in {F : List (List Nat)} (h : F ∈ frees) : isIn (.tup (dS F)) frl = some true := by
  revert F; decide +kernel
theorem truly_cal (a b : Bool) : Cal T 1 f__law_truly [.bl a, .bl b] (.ok false (.bl (a == b)) .non) := Cal.of (k := 0) ⟨rfl, fun _ => rfl⟩ fun j _ => by
  rw [Fd.run_un [some (.fz (.bl a)), some (.fz (.bl b))] rfl rfl rfl]
  have e : eqO (.bl a) (.bl b) = some (a == b) := rfl
  simp only [m__law_truly, exs, ex, ev, evs, evl, Out.bind, Out.then, slotAt, if_true, List.map, List.cons_append, List.nil_append, List.getElem?_cons_zero, List.getElem?_cons_succ, Option.getD, D.flat1, D.isDic, tyIs, asB, VR.look, looks, Option.bind, Option.map, Option.bind_eq_bind, Option.pure_def, bfn, D.len, ofO, cop, boolO, g0, g1, g2, g3, g4, g5, g6, g7, g8, g9, g10, g11, g12, g13, g14, g15, g16, g17, g18, g19, g20, bop_add_int, bop_sub_int, frz, ownAt, anyAt, setV, setT, setNm, setNms, setOne, List.set, wr_un, wr_lk, inL0, inLs, Bool.false_eq_true, if_false, Bool.false_and, Bool.and_true, Bool.true_and, Bool.not_false, Bool.not_true, reduceIte, e, finR, finV]
theorem law_is_row_cal (s : List Nat) (m : Int) : Cal T 1 f__law_is_row [.str s, .int m] (.ok false (.bl (isRow s m)) .non) := Cal.of (k := 0) ⟨rfl, fun _ => rfl⟩ fun j _ => by
  rw [Fd.run_un [some (.fz (.str s)), some (.fz (.int m)), none] rfl rfl rfl]
  have k0 : ev (T j).un m__law_is_row_k0 [some (.fz (.str s)), some (.fz (.int m)), none] = .ok (.fr (.lst ((s.filter fun c => !inAbc c).map fun c => .str [c]))) [some (.fz (.str s)), some (.fz (.int m)), none] := by
    refine comp_flt (fun c => .str [c]) s _ _ (ds := [.str s]) rfl rfl rfl fun c hc => ?_
    have q : isIn (.str [c]) (.str [97, 98, 99]) = some (inAbc c) := rfl
    simp only [Turn, turn, exs, ex, ev, evs, evl, Out.bind, Out.then, slotAt, if_true, List.map, List.cons_append, List.nil_append, List.getElem?_cons_zero, List.getElem?_cons_succ, Option.getD, D.flat1, D.isDic, tyIs, asB, VR.look, looks, Option.bind, Option.map, Option.bind_eq_bind, Option.pure_def, bfn, D.len, ofO, cop, boolO, g0, g1, g2, g3, g4, g5, g6, g7, g8, g9, g10, g11, g12, g13, g14, g15, g16, g17, g18, g19, g20, bop_add_int, bop_sub_int, frz, ownAt, anyAt, setV, setT, setNm, setNms, setOne, List.set, wr_un, wr_lk, inL0, inLs, Bool.false_eq_true, if_false, Bool.false_and, Bool.and_true, Bool.true_and, Bool.not_false, Bool.not_true, reduceIte, wipeE, q]
    cases inAbc c <;> simp only [exs, ex, ev, evs, evl, Out.bind, Out.then, slotAt, if_true, List.map, List.cons_append, List.nil_append, List.getElem?_cons_zero, List.getElem?_cons_succ, Option.getD, D.flat1, D.isDic, tyIs, asB, VR.look, looks, Option.bind, Option.map, Option.bind_eq_bind, Option.pure_def, bfn, D.len, ofO, cop, boolO, g0, g1, g2, g3, g4, g5, g6, g7, g8, g9, g10, g11, g12, g13, g14, g15, g16, g17, g18, g19, g20, bop_add_int, bop_sub_int, frz, ownAt, anyAt, setV, setT, setNm, setNms, setOne, List.set, wr_un, wr_lk, inL0, inLs, Bool.false_eq_true, if_false, Bool.false_and, Bool.and_true, Bool.true_and, Bool.not_false, Bool.not_true, reduceIte, wipeE]
  have e : ∀ l : List Nat, eqO (.lst (l.map fun c => .str [c])) (.lst []) = some l.isEmpty := fun l => by
    have := eqO_lst (l.map fun c => [c]) []
    rw [dS_map] at this
    rw [show dS [] = [] from rfl] at this
    rw [this]
    cases l <;> rfl
  have e2 : (s.filter fun c => !inAbc c).isEmpty = s.all inAbc := by
    clear k0
    induction s with
    | nil => rfl
    | cons c s ih =>
      rw [List.filter_cons, List.all_cons]
      cases inAbc c
      · rfl
      · simpa using ih
  simp only [EC.un] at k0
  unfold isRow
  by_cases h : m < (s.length : Int)
  · have h1 : decide (m < (s.length : Int)) = true := by simpa using h
    have h2 : decide ((s.length : Int) ≤ m) = false := by simpa using h
    simp only [m__law_is_row, exs, ex, ev, evs, evl, Out.bind, Out.then, slotAt, if_true, List.map, List.cons_append, List.nil_append, List.getElem?_cons_zero, List.getElem?_cons_succ, Option.getD, D.flat1, D.isDic, tyIs, asB, VR.look, looks, Option.bind, Option.map, Option.bind_eq_bind, Option.pure_def, bfn, D.len, ofO, cop, boolO, g0, g1, g2, g3, g4, g5, g6, g7, g8, g9, g10, g11, g12, g13, g14, g15, g16, g17, g18, g19, g20, bop_add_int, bop_sub_int, frz, ownAt, anyAt, setV, setT, setNm, setNms, setOne, List.set, wr_un, wr_lk, inL0, inLs, Bool.false_eq_true, if_false, Bool.false_and, Bool.and_true, Bool.true_and, Bool.not_false, Bool.not_true, reduceIte, h1, h2, finR, finV]
  · have h1 : decide (m < (s.length : Int)) = false := by simpa using h
    have h2 : decide ((s.length : Int) ≤ m) = true := by simpa using h
    simp only [m__law_is_row, exs, ex, ev, evs, evl, Out.bind, Out.then, slotAt, if_true, List.map, List.cons_append, List.nil_append, List.getElem?_cons_zero, List.getElem?_cons_succ, Option.getD, D.flat1, D.isDic, tyIs, asB, VR.look, looks, Option.bind, Option.map, Option.bind_eq_bind, Option.pure_def, bfn, D.len, ofO, cop, boolO, g0, g1, g2, g3, g4, g5, g6, g7, g8, g9, g10, g11, g12, g13, g14, g15, g16, g17, g18, g19, g20, bop_add_int, bop_sub_int, frz, ownAt, anyAt, setV, setT, setNm, setNms, setOne, List.set, wr_un, wr_lk, inL0, inLs, Bool.false_eq_true, if_false, Bool.false_and, Bool.and_true, Bool.true_and, Bool.not_false, Bool.not_true, reduceIte, EC.un, h1, h2, k0, e, e2, finR, finV]
theorem lamw (j : Nat) : (T j).Λ w__law_word = some (some (.str [110, 111, 110, 101]), [(c_InvalidFree, .retIs c_LoopError (.str [102, 114, 101, 101]) (.str [101, 108, 115, 101])), (c_InvalidRow, .retIs c_LoopError (.str [114, 111, 119]) (.str [101, 108, 115, 101]))]) := by cases j <;> rfl
theorem pickw (j : Nat) : pick (T j).sub ⟨c_InvalidRow, .non⟩ [(c_InvalidFree, .retIs c_LoopError (.str [102, 114, 101, 101]) (.str [101, 108, 115, 101])), (c_InvalidRow, .retIs c_LoopError (.str [114, 111, 119]) (.str [101, 108, 115, 101]))] = .hit (.str [114, 111, 119]) := by cases j <;> rfl
theorem right_ok {F : List (List Nat)} (hF : F ∈ frees) {r : List Nat} (hr : IsRow r) (hl : r.length ≤ 60) : Cal T 5 f__law_right [.tup (dS F), .str r] (.ok false (.bl true) .non) := Cal.of (k := 4) ⟨rfl, fun _ => rfl⟩ fun j hj => by
  rw [Fd.run_un [some (.fz (.tup (dS F))), some (.fz (.str r)), none, none, none, none] rfl rfl rfl]
  obtain ⟨u1, a1, a2⟩ := frees_cal j (by omega)
  have a3 := frees_in hF
  obtain ⟨u2, b1, b2⟩ := truly_cal true true j (by omega)
  obtain ⟨u3, c1, c2⟩ := rows.is_free_cal hF j (by omega)
  obtain ⟨u4, d1, d2⟩ := law_is_row_cal r 60 j (by omega)
  obtain ⟨u4', d1', d3⟩ := law_is_row_cal r 14 j (by omega)
  rw [d1] at d1'
  cases d1'
  rw [show isRow r 60 = true from isRow_of hr hl] at d2
  obtain ⟨u5, e1, e2⟩ := rows.same_cal hF (r1 := []) (r2 := r) (by decide) hr (by decide) hl j (by omega)
  obtain ⟨u6, f1, f2⟩ := rows.layers_cal hF (r1 := r) hr hl j (by omega)
  obtain ⟨u7, y1, y2⟩ := rows.first_cal hF (r1 := r) hr hl (by decide) j (by omega)
  obtain ⟨u8, h1, h2⟩ := rows.hangs_cal hF (r1 := r) hr hl j (by omega)
  obtain ⟨u9, i1, i2⟩ := rows.count_cal hF (r1 := r) hr (by decide) j (by omega)
  have l1 := lamw j
  have l2 := pickw j
  have m1 : bop .mul (.lst [.str [110, 111, 110, 101]]) (.int 4) = some (.fr (.lst [.str [110, 111, 110, 101], .str [110, 111, 110, 101], .str [110, 111, 110, 101], .str [110, 111, 110, 101]])) := by rfl
  have m2 : eqO (.lst [.str [110, 111, 110, 101], .str [110, 111, 110, 101], .str [110, 111, 110, 101], .str [110, 111, 110, 101]]) (.lst [.str [110, 111, 110, 101], .str [110, 111, 110, 101], .str [110, 111, 110, 101], .str [110, 111, 110, 101]]) = some true := by rfl
  have m3 : ∀ s : List Nat, eqO (.str s) (.str s) = some true := fun s => by rw [eqO_str]; simp
  have m4 : (true == true) = true := rfl
  have bl1 : ∀ x : D, Nat.blt ([x] : List D).length szL = true := fun _ => rfl
  have bl2 : ∀ x y : D, Nat.blt ([x, y] : List D).length szL = true := fun _ _ => rfl
  have bl3 : ∀ x y z : D, Nat.blt ([x, y, z] : List D).length szL = true := fun _ _ _ => rfl
  by_cases q : r.length ≤ 14
  · rw [show isRow r 14 = true from isRow_of hr q] at d3
    rw [if_pos q] at i2
    simp only [m__law_right, exs, ex, ev, evs, evl, Out.bind, Out.then, slotAt, if_true, List.map, List.cons_append, List.nil_append, List.getElem?_cons_zero, List.getElem?_cons_succ, Option.getD, D.flat1, D.isDic, tyIs, asB, VR.look, looks, Option.bind, Option.map, Option.bind_eq_bind, Option.pure_def, bfn, D.len, ofO, cop, boolO, g0, g1, g2, g3, g4, g5, g6, g7, g8, g9, g10, g11, g12, g13, g14, g15, g16, g17, g18, g19, g20, bop_add_int, bop_sub_int, frz, ownAt, anyAt, setV, setT, setNm, setNms, setOne, List.set, wr_un, wr_lk, inL0, inLs, Bool.false_eq_true, if_false, Bool.false_and, Bool.and_true, Bool.true_and, Bool.not_false, Bool.not_true, reduceIte, a1, a2, a3, b1, b2, c1, c2, d1, d2, d3, e1, e2, f1, f2, y1, y2, h1, h2, i1, i2, l1, callF, m1, m2, m3, m4, bl1, bl2, bl3, finR, finV]
  · rw [show isRow r 14 = false from isRow_long (m := 14) (by omega)] at d3
    rw [if_neg q] at i2
    simp only [m__law_right, exs, ex, ev, evs, evl, Out.bind, Out.then, slotAt, if_true, List.map, List.cons_append, List.nil_append, List.getElem?_cons_zero, List.getElem?_cons_succ, Option.getD, D.flat1, D.isDic, tyIs, asB, VR.look, looks, Option.bind, Option.map, Option.bind_eq_bind, Option.pure_def, bfn, D.len, ofO, cop, boolO, g0, g1, g2, g3, g4, g5, g6, g7, g8, g9, g10, g11, g12, g13, g14, g15, g16, g17, g18, g19, g20, bop_add_int, bop_sub_int, frz, ownAt, anyAt, setV, setT, setNm, setNms, setOne, List.set, wr_un, wr_lk, inL0, inLs, Bool.false_eq_true, if_false, Bool.false_and, Bool.and_true, Bool.true_and, Bool.not_false, Bool.not_true, reduceIte, a1, a2, a3, b1, b2, c1, c2, d1, d2, d3, e1, e2, f1, f2, y1, y2, h1, h2, i1, i2, l1, l2, callF, m1, m2, m3, m4, bl1, bl2, bl3, finR, finV]
/-- a turn of the law's inner loop, at level 11 -/
theorem right11 {v r : D} (hv : v ∈ oddL) (hr : r ∈ oddL) : m__law_right.run (T 11) fu [v, r] = .ok false (.bl true) .non :=
  okT_eq (List.all_eq_true.mp (List.all_eq_true.mp odd_all v hv) r hr)
theorem for_inv {α : Type} {C : EC} {t : Tgt} {body : Env → OS} (w : α → D) (I : Env → Prop) : ∀ (xs : List α) (ρ : Env), (∀ x ∈ xs, ∀ ρ, I ρ → ∃ ρ1, setT C t (w x) ρ = some ρ1 ∧ ∃ ρ2, body ρ1 = .nx ρ2 ∧ I ρ2) → I ρ → ∃ ρ', forLoop C t body (xs.map w) ρ = .nx ρ' ∧ I ρ'
  | [], ρ, _, hi => ⟨ρ, rfl, hi⟩
  | x :: xs, ρ, h, hi => by
    obtain ⟨ρ1, h1, ρ2, h2, h3⟩ := h x (List.mem_cons_self ..) ρ hi
    obtain ⟨ρ', e, q⟩ := for_inv w I xs ρ2 (fun y hy => h y (List.mem_cons_of_mem _ hy)) h3
    refine ⟨ρ', ?_, q⟩
    rw [List.map_cons]
    unfold forLoop
    simp only [h1, h2]
    exact e
theorem inner (sc : D) (k : Int) (s : D) (hs : Src s) (x3 x4 : Option SV) : ∃ s' x3', Src s' ∧ ex (T 12).un fu m_law_s0 [some (.fz sc), some (.fz (.int k)), some (.ow s), x3, x4] = .nx [some (.fz sc), some (.fz (.int k)), some (.ow s'), x3', x4] := by
  obtain ⟨u1, a1, a2⟩ := odd_ok 12 (by omega)
  obtain ⟨u2, b1, b2⟩ := law_of_ok oD oO (frees.map fun F => .tup (dS F)) (by decide) (by decide) 12 (by omega)
  obtain ⟨u3, c1, c2⟩ := law_row_ok oD oO oR 20 (by omega) 12 (by omega)
  obtain ⟨u4, d1, d2⟩ := frees_cal 12 (by omega)
  have e1 : (T 12).Φ f__law_right = some ⟨false, m__law_right.run (T 11) fu⟩ := rfl
  have key := for_inv (C := (T 12).un) (t := .nm 3) (body := fun ρ => exs (T 12).un fu (.cons (.ifs (.not (.call f__law_right (.cons (.callm f__law_odd 2 .nil) (.cons (.callm f__law_odd 2 .nil) .nil)))) (.cons (.ret (.cst (.bl false))) .nil) .nil)
    (.cons (.ifs (.not (.call f__law_right (.cons (.callm f__law_of 2 (.cons (.call f__law_frees .nil) .nil)) (.cons (.callm f__law_row 2 (.cons (.cst (.int 20)) .nil)) .nil)))) (.cons (.ret (.cst (.bl false))) .nil) .nil) .nil)) ρ)
    (fun i : Nat => D.int (i : Int)) (fun ρ => ∃ s' x3', Src s' ∧ ρ = [some (.fz sc), some (.fz (.int k)), some (.ow s'), x3', x4]) (List.range 12) [some (.fz sc), some (.fz (.int k)), some (.ow s), x3, x4] (fun i _ ρ hi => by
      obtain ⟨s', x3', hs', rfl⟩ := hi
      refine ⟨_, rfl, ?_⟩
      obtain ⟨v, s1, p1, p2, p3⟩ := a2 s' hs'
      obtain ⟨r, s2, q1, q2, q3⟩ := a2 s1 p2
      have t1 := right11 p3 q3
      obtain ⟨v2, s3, p4, p5, p6⟩ := b2 s2 q2
      obtain ⟨F, hF, rfl⟩ := List.mem_map.mp p6
      obtain ⟨r2, s4, q4, q5, row, rfl, hl, hr⟩ := c2 s3 p5
      obtain ⟨u5, y1, y2⟩ := right_ok hF hr (by omega) 12 (by omega)
      rw [e1] at y1
      cases y1
      have q4 : u3 [s3, .int 20] = .ok false (.str row) s4 := q4
      have fl : frl = .lst (frees.map fun F => .tup (dS F)) := rfl
      rw [fl] at d2
      simp only [exs, ex, ev, evs, evl, Out.bind, Out.then, slotAt, if_true, List.map, List.cons_append, List.nil_append, List.getElem?_cons_zero, List.getElem?_cons_succ, Option.getD, D.flat1, D.isDic, tyIs, asB, VR.look, looks, Option.bind, Option.map, Option.bind_eq_bind, Option.pure_def, bfn, D.len, ofO, cop, boolO, g0, g1, g2, g3, g4, g5, g6, g7, g8, g9, g10, g11, g12, g13, g14, g15, g16, g17, g18, g19, g20, bop_add_int, bop_sub_int, frz, ownAt, anyAt, setV, setT, setNm, setNms, setOne, List.set, wr_un, wr_lk, inL0, inLs, Bool.false_eq_true, if_false, Bool.false_and, Bool.and_true, Bool.true_and, Bool.not_false, Bool.not_true, reduceIte, a1, callM, p1, q1, e1, callF, t1, b1, d1, d2, p4, c1, q4, y2]
      exact ⟨_, rfl, _, _, q5, rfl⟩) ⟨s, x3, hs, rfl⟩
  obtain ⟨ρ', e, s', x3', hs', rfl⟩ := key
  refine ⟨s', x3', hs', ex_fors (ds := [.int 12]) rfl (walk_range (n := 12) (by decide)) e⟩
theorem outer (ns : List Int) (h : ns.length ≤ 63) : ∃ x1 x2 x3, ex (T 12).un fu m_law_s1 [some (.fz (.scr ns)), none, none, none, none] = .nx [some (.fz (.scr ns)), x1, x2, x3, none] := by
  obtain ⟨m, hm, hm2⟩ : ∃ m : Nat, (1 + (if (10 : Int) < (ns.length : Int) then 10 else (ns.length : Int))) = m ∧ m ≤ 11 := by
    split
    · exact ⟨11, rfl, by omega⟩
    · exact ⟨1 + ns.length, by omega, by omega⟩
  have key := for_inv (C := (T 12).un) (t := .nm 1) (body := fun ρ => exs (T 12).un fu (.cons (.asg (.nm 2) (.call f__law_source (.cons (.var 0) (.cons (.var 1) .nil)))) (.cons m_law_s0 .nil)) ρ)
    (fun i : Nat => D.int (i : Int)) (fun ρ => ∃ x1 x2 x3, ρ = [some (.fz (.scr ns)), x1, x2, x3, none]) (List.range m) [some (.fz (.scr ns)), none, none, none, none] (fun i hi ρ hρ => by
      obtain ⟨x1, x2, x3, rfl⟩ := hρ
      refine ⟨_, rfl, ?_⟩
      obtain ⟨s, hs, c⟩ := law_source_ok oS ns i (by have := List.mem_range.mp hi; omega)
      obtain ⟨u, a1, a2⟩ := c 12 (by omega)
      obtain ⟨s', x3', hs', e⟩ := inner (.scr ns) i s hs x3 none
      simp only [EC.un] at e
      simp only [exs, ex, ev, evs, evl, Out.bind, Out.then, slotAt, if_true, List.map, List.cons_append, List.nil_append, List.getElem?_cons_zero, List.getElem?_cons_succ, Option.getD, D.flat1, D.isDic, tyIs, asB, VR.look, looks, Option.bind, Option.map, Option.bind_eq_bind, Option.pure_def, bfn, D.len, ofO, cop, boolO, g0, g1, g2, g3, g4, g5, g6, g7, g8, g9, g10, g11, g12, g13, g14, g15, g16, g17, g18, g19, g20, bop_add_int, bop_sub_int, frz, ownAt, anyAt, setV, setT, setNm, setNms, setOne, List.set, wr_un, wr_lk, inL0, inLs, Bool.false_eq_true, if_false, Bool.false_and, Bool.and_true, Bool.true_and, Bool.not_false, Bool.not_true, reduceIte, EC.un, a1, callF, a2, e]
      exact ⟨_, rfl, _, _, _, rfl⟩) ⟨_, _, _, rfl⟩
  obtain ⟨ρ', e, x1, x2, x3, rfl⟩ := key
  refine ⟨x1, x2, x3, ex_fors (ds := [.int m]) ?_ (walk_range (by show m ≤ 16777216; omega)) e⟩
  simp only [exs, ex, ev, evs, evl, Out.bind, Out.then, slotAt, if_true, List.map, List.cons_append, List.nil_append, List.getElem?_cons_zero, List.getElem?_cons_succ, Option.getD, D.flat1, D.isDic, tyIs, asB, VR.look, looks, Option.bind, Option.map, Option.bind_eq_bind, Option.pure_def, bfn, D.len, ofO, cop, boolO, g0, g1, g2, g3, g4, g5, g6, g7, g8, g9, g10, g11, g12, g13, g14, g15, g16, g17, g18, g19, g20, bop_add_int, bop_sub_int, frz, ownAt, anyAt, setV, setT, setNm, setNms, setOne, List.set, wr_un, wr_lk, inL0, inLs, Bool.false_eq_true, if_false, Bool.false_and, Bool.and_true, Bool.true_and, Bool.not_false, Bool.not_true, reduceIte, hm]
theorem exs_nx {C : EC} {fuel : Nat} {a : MS} {r : MSs} {ρ ρ1 : Env} (h : ex C fuel a ρ = .nx ρ1) : exs C fuel (.cons a r) ρ = exs C fuel r ρ1 := by rw [exs, h]
theorem ev_and_true {C : EC} {a b : ME} {ρ ρ1 ρ2 : Env} {r : VR} (h1 : ev C a ρ = .ok (.im (.bl true)) ρ1) (h2 : ev C b ρ1 = .ok r ρ2) : ev C (.and a b) ρ = .ok r ρ2 := by
  rw [ev, h1]
  exact h2
section
variable (sc : D) (x1 x2 x3 : Option SV)
theorem st1 : (match m_law.body with | .cons _ (.cons a _) => ex (T 12).un fu a [some (.fz sc), x1, x2, x3, none] | _ => .no) = .nx [some (.fz sc), x1, x2, x3, none] := by
  kernel_rfl
theorem st2 : (match m_law.body with | .cons _ (.cons _ (.cons a _)) => ex (T 12).un fu a [some (.fz sc), x1, x2, x3, none] | _ => .no) = .nx [some (.fz sc), x1, x2, x3, none] := by
  kernel_rfl
theorem st3 : (match m_law.body with | .cons _ (.cons _ (.cons _ (.cons a _))) => ex (T 12).un fu a [some (.fz sc), x1, x2, x3, none] | _ => .no) = .nx [some (.fz sc), x1, x2, x3, none] := by
  kernel_rfl
theorem st4 : (match m_law.body with | .cons _ (.cons _ (.cons _ (.cons _ (.cons a _)))) => ex (T 12).un fu a [some (.fz sc), x1, x2, x3, none] | _ => .no) = .nx [some (.fz sc), x1, x2, x3, none] := by
  kernel_rfl
theorem st5 : (match m_law.body with | .cons _ (.cons _ (.cons _ (.cons _ (.cons _ (.cons (.ret (.and _ e)) _))))) => ev (T 12).un e [some (.fz sc), x1, x2, x3, none] | _ => .no) = .ok (.im (.bl true)) [some (.fz sc), x1, x2, x3, none] := by
  kernel_rfl
def rA : List Nat := rep 30 [97, 98]
def rB : List Nat := rep 30 [98, 97]
theorem lay_same : (layeredM [[97, 98]] rA == layeredM [[97, 98]] rB) = true := by decide +kernel
theorem suffix : (match m_law.body with | .cons _ r => finR false (exs (T 12).un fu r [some (.fz sc), x1, x2, x3, none]) | .nil => .no) = .ok false (.bl true) .non := by
  have h1 := st1 sc x1 x2 x3
  have h2 := st2 sc x1 x2 x3
  have h3 := st3 sc x1 x2 x3
  have h4 := st4 sc x1 x2 x3
  have h5 := st5 sc x1 x2 x3
  obtain ⟨u, a1, a2⟩ := rows.same_cal (F := [[97, 98]]) (by decide) (r1 := rA) (r2 := rB) (by unfold IsRow; decide) (by unfold IsRow; decide) (by decide) (by decide) 12 (by decide)
  rw [lay_same] at a2
  have a2 : u [.tup [.str [97, 98]], .str rA, .str rB] = .ok false (.bl true) .non := a2
  have m1 : bop .mul (.str [97, 98]) (.int 30) = some (.im (.str rA)) := by rfl
  have m2 : bop .mul (.str [98, 97]) (.int 30) = some (.im (.str rB)) := by rfl
  unfold m_law at h1 h2 h3 h4 h5 ⊢
  dsimp only at h1 h2 h3 h4 h5 ⊢
  rw [exs_nx h1, exs_nx h2, exs_nx h3, exs_nx h4, exs, ex, ev_and_true (ρ1 := [some (.fz sc), x1, x2, x3, none]) ?_ h5]
  · rfl
  · simp only [exs, ex, ev, evs, evl, Out.bind, Out.then, slotAt, if_true, List.map, List.cons_append, List.nil_append, List.getElem?_cons_zero, List.getElem?_cons_succ, Option.getD, D.flat1, D.isDic, tyIs, asB, VR.look, looks, Option.bind, Option.map, Option.bind_eq_bind, Option.pure_def, bfn, D.len, ofO, cop, boolO, g0, g1, g2, g3, g4, g5, g6, g7, g8, g9, g10, g11, g12, g13, g14, g15, g16, g17, g18, g19, g20, bop_add_int, bop_sub_int, frz, ownAt, anyAt, setV, setT, setNm, setNms, setOne, List.set, wr_un, wr_lk, inL0, inLs, Bool.false_eq_true, if_false, Bool.false_and, Bool.and_true, Bool.true_and, Bool.not_false, Bool.not_true, reduceIte, a1, callF, m1, m2, a2]
end
theorem plain : Plain prog fu 12 ⟨f_law, top 36, "law", ["script", "k", "source", "turn", "free"], ["script"], m_law, true⟩ := by
  intro ns h _
  refine ⟨false, ?_⟩
  show m_law.run (T 12) fu [.scr ns] = _
  rw [Fd.run_un [some (.fz (.scr ns)), none, none, none, none] rfl rfl rfl]
  obtain ⟨x1, x2, x3, e⟩ := outer ns h
  have s := suffix (.scr ns) x1 x2 x3
  unfold m_law at s ⊢
  dsimp only at s ⊢
  rw [exs, e]
  exact s
end Ev.Pl.k01

set_option maxHeartbeats 0
namespace Ev.k01
open PySem PySem.Spec PyProof.Rows
open L2 hiding St
abbrev R : PySem.W.OpenRow := PySem.W.OpenLaw.row PySem.Challenge.rw_loopsapart_k01_rows_free_pairs_and_error
abbrev hk : PySem.W.Hook := He.hookX 4 (faOf prog) (fnOfS prog) [] (tfOf prog) (exB prog)
def ob (s : PySem.W.SharedT) := He.obsX 4 (faOf prog) (fnOfS prog) [] (tfOf prog) (exB prog) (HandSHeadRun.getT s)
theorem ob_eq (s : PySem.W.SharedT) : ob s = hk.obs s.abs := He.obsX_eq (HandSHeadRun.getT_eq s)
theorem run (w : World) : HandSHeadRun.RunEq R (PySem.W.view R.prog [36]) hk ob 4000 ["LoopError", "InvalidFree", "InvalidRow", "LETTERS", "PAIRS", "is_tuple", "is_row", "are_free", "need_free", "need_row", "levels_of", "layered", "next_rows", "first_of", "counted", "is_free", "same", "layers", "first_same", "count_same", "is_hanging", "hangs", "_law_source", "_law_draw", "_law_of", "_law_frees", "_law_row", "_law_truly", "_law_odd", "_law_word", "_law_is_row", "_law_right"] w := by
  intro os
  kernel_rfl
end Ev.k01
open PySem PySem.W PySem.Calls PyProof.Rows
theorem PySem.Challenge.cw_loopsapart_k01_rows_free_pairs_and_error_holds : PySem.Challenge.rw_loopsapart_k01_rows_free_pairs_and_error.Holds := by
  w_on; o_law
  refine HandSHeadRun.head_any (r := OpenLaw.row PySem.Challenge.rw_loopsapart_k01_rows_free_pairs_and_error) (q := view (OpenLaw.row PySem.Challenge.rw_loopsapart_k01_rows_free_pairs_and_error).prog [36]) (H := Ev.k01.hk) (ob := Ev.k01.ob) (M := 4000) (loose := ["LoopError", "InvalidFree", "InvalidRow", "LETTERS", "PAIRS", "is_tuple", "is_row", "are_free", "need_free", "need_row", "levels_of", "layered", "next_rows", "first_of", "counted", "is_free", "same", "layers", "first_same", "count_same", "is_hanging", "hangs", "_law_source", "_law_draw", "_law_of", "_law_frees", "_law_row", "_law_truly", "_law_odd", "_law_word", "_law_is_row", "_law_right"]) (d := HandSHeadRun.topDef (OpenLaw.row PySem.Challenge.rw_loopsapart_k01_rows_free_pairs_and_error).prog 36) (kwd := []) Ev.k01.ob_eq
    (by kernel_rfl) (fun s => by kernel_rfl) Ev.k01.run (by kernel_rfl) (by kernel_rfl) (by kernel_rfl) (by rfl) (by first | assumption | decide +kernel) (by decide +kernel) ⟨rfl, rfl, rfl, rfl, rfl, by decide +kernel⟩ ?hw ?hc
  case hw => w_witness2
  case hc => exact Ev.walk_end (l := PySem.Challenge.rw_loopsapart_k01_rows_free_pairs_and_error) (S := Ev.k01.prog) (n := 40) (J := 12) (i := Ev.f_law) rfl (by kernel_rfl) (by kernel_rfl) ⟨rfl, by decide, by decide⟩ Ev.k01.progok Ev.k01.bindAll Ev.k01.bindAllW rfl rfl rfl rfl Ev.Pl.k01.plain

