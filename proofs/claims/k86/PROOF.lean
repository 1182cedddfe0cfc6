import PyProof.Rows.All
import Wide.All
import OpenK.AllK
import Wide.FinOn
import HandS.ForMost
import HandS.ForExc
import HandS.Wide
import HandS.TupAny
import HandS.TupMul
import HandS.Lambda
import HandS.Zip
import HandS.TryMany
import HandS.IsInst
import HandS.ExcField
import HandS.Flow
import HandS.Star
import HandS.RaiseMore
import HandS.Deep
import HandS.WideBits
import PyProof.ReprRoads
import PyProof.CallFns
import PySem.Syntax
import PySem.Eval
import KE.KLam
import HandS.Call
import KE.GoesEnum
import KE.GoesMore
import HandS.Iter
import HandS.Comp
import HandS.Style
import HandS.ExcOwn
import HandS.Exc
import KE.KExcSuper
import HandS.ExcInit
import HandS.FStr
import HandS.HeadHook2
import HandS.Codes
import HandS.Defaults
import KE.KStateDown
import HandS.Head0
import HandS.Head1
import HandS.Head2
import HandS.EndTab
import HandS.HeadWalk
import PySem.Challenge.RW_makesmore_k86_errors_of_wages_and_passin
section
/-! The IR of a small part of Python and its big-step interpreter. Own work. -/
set_option linter.all false
namespace MX

/-- values; tuples are trees, what changes stands in the store -/
inductive D where
  | non | bl (b : Bool) | int (i : Int) | str (s : List Nat) | tup (xs : List D) | loc (n : Nat) | fn (g : Nat) | any
  /-- what the choice at place n makes of these -/
  | cho (n : Nat) (xs : List D)
  deriving Inhabited, Repr

inductive Op2 where
  | add | sub | mul | fdiv | mod | pow
  deriving DecidableEq, Repr
inductive Cm where
  | eq | ne | lt | le | gt | ge | is | isn | inn | nin
  deriving DecidableEq, Repr
inductive BF where
  | len | abs | int | max | min | all | any | sum | tuple | list | repr | str | sorted | dict
  deriving DecidableEq, Repr
inductive BM where
  | append | extend | pop | index | get
  deriving DecidableEq, Repr
/-- built-in types of isinstance -/
inductive BT where
  | int | bool | tuple | str | list | dict | cls (c : Nat)
  deriving DecidableEq, Repr

/-- targets of for, of comprehensions -/
inductive T where
  | nm (i : Nat) | tp (is : List Nat)
  deriving DecidableEq, Repr
inductive E where
  | var (i : Nat) | int (i : Int) | bl (b : Bool) | non | str (s : List Nat) | glo (g : Nat)
  | op (o : Op2) (a b : E) | neg (a : E) | not (a : E) | cmp (c : Cm) (a b : E) | chain (c d : Cm) (x y z : E)
  | and (a b : E) | or (a b : E) | ite (c a b : E)
  | tup (es : List E) | lst (es : List E) | star (a : E)
  | call (f : Nat) (es : List E) | callv (i : Nat) (es : List E) | bi (b : BF) (es : List E) | isi (a : E) (t : BT)
  | mk (c : Nat) (es : List E) | meth (o : E) (m : Nat) (es : List E) | attr (o : E) (f : Nat)
  | sub (a i : E) | slc (a : E) (lo hi : Option E) | bm (o : E) (m : BM) (es : List E)
  | lc (elt : E) (tg : T) (it : E) (ifs : List E) (own : List Nat)
  | lam (np : Nat) (body : E) (caps : List Nat)
  | rng1 (a : E) | rng2 (a b : E) | enu (a : E) | zip (a b : E)
  deriving Inhabited, Repr
/-- targets of an assignment -/
inductive Tg where
  | nm (i : Nat) | at (o : E) (f : Nat) | ix (o i : E)
  deriving Repr
inductive S where
  | exp (e : E) | set (t : Tg) (e : E) | tup (ts : List Tg) (e : E)
  | ifs (c : E) (a b : List S) | whl (c : E) (b : List S) | for (t : T) (it : E) (b : List S)
  | ret (e : E) | retN | brk | cnt | pas
  | rai (c : Nat) | raiA (c : Nat) (e : E)
  | try (b : List S) (hs : List (Nat × Option (Nat × Nat) × List Nat))
  deriving Inhabited, Repr

inductive Ob where
  | lst (xs : List D) | frz (xs : List D) | ins (c : Nat) (fs : List (Nat × D)) | cel (v : Option D) | lam (np : Nat) (body : E) (caps : List Nat)
  /-- a choice of so many, perhaps known; dice, so often rolled; the script -/
  | cho (k : Nat) (o : Option Nat) | dice (t : Nat) | scr (n : Nat)
  deriving Inhabited

inductive Tr where
  | nil | nd (v : Option Ob) (l r : Tr)
  deriving Inhabited
def Tr.get : Tr → Nat → Option Ob
  | .nil, _ => none
  | .nd v l r, n => cond (Nat.beq n 0) v (cond (Nat.beq (n % 2) 1) (l.get (n / 2)) (r.get (n / 2 - 1)))
def Tr.set (o : Ob) : Nat → Tr → Nat → Tr
  | 0, t, _ => t
  | k + 1, .nil, n => cond (Nat.beq n 0) (.nd (some o) .nil .nil) (cond (Nat.beq (n % 2) 1) (.nd none (Tr.set o k .nil (n / 2)) .nil) (.nd none .nil (Tr.set o k .nil (n / 2 - 1))))
  | k + 1, .nd v l r, n => cond (Nat.beq n 0) (.nd (some o) l r) (cond (Nat.beq (n % 2) 1) (.nd v (Tr.set o k l (n / 2)) r) (.nd v l (Tr.set o k r (n / 2 - 1))))
structure St where
  t : Tr
  nx : Nat
  deriving Inhabited
def St.get (s : St) (n : Nat) : Option Ob := s.t.get n
def St.set (s : St) (n : Nat) (o : Ob) : St := ⟨Tr.set o 30 s.t n, s.nx⟩

inductive R (α : Type) where
  | ok (a : α) (st : St) | exc (c : Nat) (fs : List (Nat × D)) (st : St) | bad
@[inline] def R.bind {α β : Type} (r : R α) (f : α → St → R β) : R β :=
  match r with
  | .ok a st => f a st
  | .exc c fs st => .exc c fs st
  | .bad => .bad
def R.of {α : Type} (o : Option α) (st : St) : R α :=
  match o with
  | some a => .ok a st
  | none => .bad
/-- a new object -/
def alloc (o : Ob) (st : St) : R D := cond (Nat.ble st.nx 1000000) (.ok (.loc st.nx) ⟨Tr.set o 30 st.t st.nx, st.nx + 1⟩) .bad

abbrev Sg := List (Option D)
inductive F where
  | nx (σ : Sg) (st : St) | ret (d : D) (st : St) | brk (σ : Sg) (st : St) | cnt (σ : Sg) (st : St) | exc (c : Nat) (fs : List (Nat × D)) (st : St) | bad

/-- how a def is called: by its body; by its body, for each choice by itself; by a given reading -/
inductive Kd where
  | pl | fork | ov (n : Nat)
  deriving Repr
structure Fun where
  np : Nat
  ns : Nat
  cells : List Nat
  body : List S
  /-- the last parameters' defaults -/
  dfl : List D
  kd : Kd := .pl
structure Cls where
  init : Option Nat
  meths : List (Nat × Nat)
  /-- an exception class of one argument: its attribute -/
  fld : Option Nat
  /-- itself and its own bases -/
  ups : List Nat
inductive GI where
  | fn (f : Fun) | cls (c : Cls) | val (d : D)
structure Gb where
  tab : List GI
  /-- given readings, by the depth that is left and their number -/
  ov : Nat → Nat → List D → St → R D := fun _ _ _ _ => .bad

/-- a frame: its slots, and which of them are cells -/
structure Fr where
  σ : Sg
  κ : List (Nat × Nat)

structure Evs where
  e : E → Sg → List (Nat × Nat) → St → R D
  t : E → Sg → List (Nat × Nat) → St → R Bool
  l : List E → Sg → List (Nat × Nat) → St → R (List D)
  ss : List S → Sg → List (Nat × Nat) → St → F
  call : Nat → List D → St → R D
  callv : D → List D → St → R D
  lcg : E → T → D → List E → Nat → Sg → D → St → R D
  forg : T → D → List S → Nat → Sg → List (Nat × Nat) → St → F
  whl : E → List S → Sg → List (Nat × Nat) → St → F

/-! ### pure helpers -/
/-- a known choice is taken -/
def nrm (st : St) (d : D) : D := match d with
  | .cho n xs => (match st.get n with
    | some (.cho _ (some i)) => xs.getD i d
    | _ => d)
  | _ => d
def isD : D → D → Bool
  | .non, .non => true
  | _, _ => false
mutual
/-- data: no functions, no instances -/
def datD (st : St) : Nat → D → Bool
  | 0, _ => false
  | n + 1, d => match nrm st d with
    | .non | .bl _ | .int _ => true
    | .str s => s.all fun c => Nat.blt c 1114112
    | .tup xs => datL st n xs
    | .loc p => match st.get p with
      | some (.lst xs) => datL st n xs
      | _ => false
    | _ => false
def datL (st : St) : Nat → List D → Bool
  | 0, _ => false
  | n + 1, ds => match ds with
    | [] => true
    | x :: xs => datD st n x && datL st n xs
end
mutual
def eqD (st : St) : Nat → D → D → Option Bool
  | 0, _, _ => none
  | n + 1, a, b =>
    match nrm st a with
    | .non => match nrm st b with
      | .non => some true
      | _ => some false
    | .bl x => match nrm st b with
      | .bl y => some (x == y)
      | .int y => some (decide ((if x then 1 else 0 : Int) = y))
      | _ => some false
    | .int x => match nrm st b with
      | .int y => some (decide (x = y))
      | .bl y => some (decide (x = (if y then 1 else 0 : Int)))
      | _ => some false
    | .str x => match nrm st b with
      | .str y => some (decide (x = y))
      | _ => some false
    | .tup xs => match nrm st b with
      | .tup ys => eqL st n xs ys
      | _ => some false
    | .loc p => match nrm st b with
      | .loc q => match st.get p, st.get q with
        | some (.lst xs), some (.lst ys) => eqL st n xs ys
        | _, _ => none
      | _ => some false
    | _ => none
def eqL (st : St) : Nat → List D → List D → Option Bool
  | 0, _, _ => none
  | n + 1, xs, ys => match xs with
    | [] => match ys with
      | [] => some true
      | _ => some false
    | x :: xs => match ys with
      | [] => some false
      | y :: ys => match eqD st n x y with
        | some true => eqL st n xs ys
        | some false => some false
        | none => none
end
def eqX0 (st : St) (a b : D) : Option Bool := cond (datD st 60 a && datD st 60 b) (eqD st 60 a b) none
mutual
/-- the first choice that is not known -/
def pnd (st : St) : Nat → D → Option Nat
  | 0, _ => none
  | n + 1, d => match d with
    | .cho p _ => (match st.get p with
      | some (.cho _ none) => some p
      | _ => none)
    | .tup xs => pndL st n xs
    | .loc p => (match st.get p with
      | some (.lst xs) => pndL st n xs
      | _ => none)
    | _ => none
def pndL (st : St) : Nat → List D → Option Nat
  | 0, _ => none
  | n + 1, ds => match ds with
    | [] => none
    | x :: xs => match pnd st n x with
      | some p => some p
      | none => pndL st n xs
end
/-- the same answer for all choices -/
def allB1 (f : Nat → Option Bool) : Nat → Option Bool
  | 0 => none
  | 1 => f 0
  | n + 2 => match f (n + 1), allB1 f (n + 1) with
    | some a, some b => cond (a == b) (some a) none
    | _, _ => none
def eqF : Nat → St → D → D → Option Bool
  | 0, st, a, b => eqX0 st a b
  | n + 1, st, a, b => match pndL st 9 [a, b] with
    | none => eqX0 st a b
    | some p => cond (Nat.blt p st.nx) (match st.get p with
      | some (.cho k none) => allB1 (fun i => eqF n (st.set p (.cho k (some i))) a b) k
      | _ => none) none
def eqX (st : St) (a b : D) : Option Bool := eqF 2 st a b
def flatD : D → Bool
  | .non | .bl _ | .int _ | .str _ => true
  | _ => false
def eqU : D → D → Bool
  | .non, .non => true
  | .bl x, .bl y => x == y
  | .bl x, .int y => decide ((if x then 1 else 0 : Int) = y)
  | .int x, .bl y => decide (x = (if y then 1 else 0 : Int))
  | .int x, .int y => decide (x = y)
  | .str x, .str y => decide (x = y)
  | _, _ => false
def seqOf (st : St) : D → Option (List D)
  | .tup xs => some xs
  | .loc n => match st.get n with
    | some (.lst xs) | some (.frz xs) => some xs
    | _ => none
  | _ => none
def tru (st : St) : D → Option Bool
  | .non => some false
  | .bl b => some b
  | .int i => some (!decide (i = 0))
  | .str s => cond (Nat.ble s.length 100000) (some (!s.isEmpty)) none
  | .tup xs => some (!xs.isEmpty)
  | .loc n => match st.get n with
    | some (.lst xs) => some (!xs.isEmpty)
    | _ => none
  | _ => none
def normIx (n : Nat) (i : Int) : Option Nat :=
  if 0 ≤ i then (if i < n then some i.toNat else none) else (if 0 ≤ i + n then some (i + n).toNat else none)
def cutIx (n : Nat) (d : Nat) : Option Int → Nat
  | none => d
  | some i => if 0 ≤ i then min i.toNat n else (i + n).toNat
def cut {α : Type} (xs : List α) (lo hi : Option Int) : List α :=
  let a := cutIx xs.length 0 lo
  let b := cutIx xs.length xs.length hi
  (xs.drop a).take (b - a)
def digits : Nat → Nat → List Nat → List Nat
  | 0, _, acc => acc
  | k + 1, n, acc => cond (Nat.beq (n / 10) 0) ((48 + n % 10) :: acc) (digits k (n / 10) ((48 + n % 10) :: acc))
def intStr (i : Int) : List Nat :=
  match i with
  | .ofNat n => digits 700 n []
  | .negSucc n => 45 :: digits 700 (n + 1) []
def commaJ : List (List Nat) → List Nat
  | [] => []
  | [x] => x
  | x :: y :: r => x ++ 44 :: 32 :: commaJ (y :: r)
def okCh (c : Nat) : Bool := decide (32 ≤ c) && decide (c < 127) && decide (c ≠ 39) && decide (c ≠ 92)
mutual
def reprD : Nat → D → Option (List Nat)
  | 0, _ => none
  | n + 1, d => match d with
    | .non => some [78, 111, 110, 101]
    | .bl true => some [84, 114, 117, 101]
    | .bl false => some [70, 97, 108, 115, 101]
    | .int i => cond (Nat.ble i.natAbs.log2 1900) (some (intStr i)) none
    | .str s => cond (s.all okCh && Nat.ble s.length 1000) (some (39 :: s ++ [39])) none
    | .tup xs => match xs with
      | [] => some [40, 41]
      | [x] => match reprD n x with
        | some s => some (40 :: s ++ [44, 41])
        | none => none
      | xs => match reprL n xs with
        | some ss => some (40 :: commaJ ss ++ [41])
        | none => none
    | _ => none
def reprL : Nat → List D → Option (List (List Nat))
  | 0, _ => none
  | n + 1, [] => some []
  | n + 1, x :: xs => match reprD n x, reprL n xs with
    | some s, some ss => some (s :: ss)
    | _, _ => none
end
def lookM (m : Nat) : List (Nat × Nat) → Option Nat
  | [] => none
  | (g, d) :: r => cond (Nat.beq m g) (some d) (lookM m r)
/-- a plain class of the text -/
def ownC (G : Gb) (c : Nat) : Bool := match G.tab[c]? with
  | some (.cls k) => k.init.isSome
  | _ => false
/-- the attribute is no method of the class -/
def notM (G : Gb) (c f : Nat) : Bool := match G.tab[c]? with
  | some (.cls k) => k.init.isSome && (lookM f k.meths).isNone
  | _ => false
def notTy (G : Gb) (st : St) (n : Nat) : Option Bool := match st.get n with
  | some (.lst _) => some false
  | some (.ins k _) => cond (ownC G k) (some false) none
  | _ => none
def isTy (G : Gb) (st : St) (d : D) : BT → Option Bool
  | .int => match d with
    | .int _ => some true
    | .bl _ => some true
    | .loc n => notTy G st n
    | .fn _ | .any | .cho _ _ => none
    | _ => some false
  | .bool => match d with
    | .bl _ => some true
    | .loc n => notTy G st n
    | .fn _ | .any | .cho _ _ => none
    | _ => some false
  | .tuple => match d with
    | .tup _ => some true
    | .loc n => notTy G st n
    | .fn _ | .any | .cho _ _ => none
    | _ => some false
  | .str => match d with
    | .str _ => some true
    | .loc n => notTy G st n
    | .fn _ | .any | .cho _ _ => none
    | _ => some false
  | .list => match d with
    | .loc n => match st.get n with
      | some (.lst _) => some true
      | some (.ins k _) => cond (ownC G k) (some false) none
      | _ => none
    | .fn _ | .any | .cho _ _ => none
    | _ => some false
  | .dict => none
  | .cls c => cond (ownC G c) (match d with
    | .loc n => match st.get n with
      | some (.ins k _) => cond (ownC G k) (some (Nat.beq k c)) none
      | some (.lst _) => some false
      | _ => none
    | .fn _ | .any | .cho _ _ => none
    | _ => some false) none
/-- a text ahead of texts -/
def catAll (x : List Nat) : List D → Option (List D)
  | [] => some []
  | .str y :: r => cond (Nat.ble (x.length + y.length) 100000) ((catAll x r).map (.str (x ++ y) :: ·)) none
  | _ :: _ => none
/-- the texts of data -/
def reprAll : List D → Option (List D)
  | [] => some []
  | d :: r => match reprD 20 d with
    | some s => cond (Nat.ble s.length 100000) ((reprAll r).map (.str s :: ·)) none
    | none => none
def binop (o : Op2) (a b : D) (st : St) : R D :=
  match o, a, b with
  | .add, .int i, .int j => .ok (.int (i + j)) st
  | .sub, .int i, .int j => .ok (.int (i - j)) st
  | .mul, .int i, .int j => cond (Nat.ble (i.natAbs.log2 + j.natAbs.log2) 900000) (.ok (.int (i * j)) st) .bad
  | .fdiv, .int i, .int j => cond (decide (0 < j) && Nat.ble j.natAbs.log2 8000) (.ok (.int (i / j)) st) .bad
  | .mod, .int i, .int j => cond (decide (0 < j)) (.ok (.int (i % j)) st) .bad
  | .pow, .int i, .int j => cond (decide (0 ≤ j) && decide (j ≤ 1000) && Nat.ble i.natAbs.log2 1000) (.ok (.int (i ^ j.toNat)) st) .bad
  | .add, .str x, .cho n ds => match catAll x ds with
    | some es => .ok (.cho n es) st
    | none => .bad
  | .add, .str x, .str y => cond (Nat.ble (x.length + y.length) 100000) (.ok (.str (x ++ y)) st) .bad
  | .add, .tup x, .tup y => cond (Nat.ble (x.length + y.length) 100000) (.ok (.tup (x ++ y)) st) .bad
  | .add, .loc p, .loc q => match st.get p, st.get q with
    | some (.lst x), some (.lst y) => cond (Nat.ble (x.length + y.length) 100000) (alloc (.lst (x ++ y)) st) .bad
    | _, _ => .bad
  | .mul, .tup x, .int k => cond (decide (k ≤ 1000) && decide (-1000 ≤ k) && Nat.ble x.length 1000) (.ok (.tup (List.replicate k.toNat x).flatten) st) .bad
  | .mul, .loc p, .int k => match st.get p with
    | some (.lst x) => cond (decide (k ≤ 1000) && decide (-1000 ≤ k) && Nat.ble x.length 1000) (alloc (.lst (List.replicate k.toNat x).flatten) st) .bad
    | _ => .bad
  | _, _, _ => .bad
def inD (st : St) (a b : D) : Option Bool :=
  match seqOf st b with
  | some xs => cond (flatD a && xs.all flatD) (some (xs.any fun y => eqU y a)) none
  | none => none
def cmpop (c : Cm) (a b : D) (st : St) : R D :=
  match c with
  | .eq => match eqX st a b with
    | some r => .ok (.bl r) st
    | none => .bad
  | .ne => match eqX st a b with
    | some r => .ok (.bl (!r)) st
    | none => .bad
  | .lt => match a, b with
    | .int i, .int j => .ok (.bl (decide (i < j))) st
    | _, _ => .bad
  | .le => match a, b with
    | .int i, .int j => .ok (.bl (decide (i ≤ j))) st
    | _, _ => .bad
  | .gt => match a, b with
    | .int i, .int j => .ok (.bl (decide (j < i))) st
    | _, _ => .bad
  | .ge => match a, b with
    | .int i, .int j => .ok (.bl (decide (j ≤ i))) st
    | _, _ => .bad
  | .is => match b with
    | .non => match a with
      | .any | .cho _ _ => .bad
      | .non => .ok (.bl true) st
      | _ => .ok (.bl false) st
    | _ => .bad
  | .isn => match b with
    | .non => match a with
      | .any | .cho _ _ => .bad
      | .non => .ok (.bl false) st
      | _ => .ok (.bl true) st
    | _ => .bad
  | .inn => match inD st a b with
    | some r => .ok (.bl r) st
    | none => .bad
  | .nin => match inD st a b with
    | some r => .ok (.bl (!r)) st
    | none => .bad
def allI : List D → Option (List Int)
  | [] => some []
  | .int i :: r => (allI r).map (i :: ·)
  | _ :: _ => none
def allB : List D → Option (List Bool)
  | [] => some []
  | .bl i :: r => (allB r).map (i :: ·)
  | _ :: _ => none
def bltn (G : Gb) (b : BF) (as : List D) (st : St) : R D :=
  match b, as with
  | .len, [d] => match d with
    | .str s => cond (Nat.ble s.length 100000) (.ok (.int s.length) st) .bad
    | d => match seqOf st d with
      | some xs => .ok (.int xs.length) st
      | none => match d with
        | .loc p => match st.get p with
          | some (.scr n) => .ok (.int n) st
          | _ => .bad
        | _ => .bad
  | .abs, [.int i] => .ok (.int (if i < 0 then -i else i)) st
  | .int, [.int i] => .ok (.int i) st
  | .int, [.bl b] => .ok (.int (if b then 1 else 0)) st
  | .max, [.int i, .int j] => .ok (.int (if j > i then j else i)) st
  | .min, [.int i, .int j] => .ok (.int (if j < i then j else i)) st
  | .all, [.loc p] => match st.get p with
    | some (.lst xs) => match allB xs with
      | some bs => .ok (.bl (bs.all id)) st
      | none => .bad
    | _ => .bad
  | .any, [.loc p] => match st.get p with
    | some (.lst xs) => match allB xs with
      | some bs => .ok (.bl (bs.any id)) st
      | none => .bad
    | _ => .bad
  | .sum, [.loc p] => match st.get p with
    | some (.lst xs) => match allI xs with
      | some ns => .ok (.int ns.sum) st
      | none => .bad
    | _ => .bad
  | .tuple, [.tup xs] => .ok (.tup xs) st
  | .tuple, [.loc p] => match st.get p with
    | some (.lst xs) => .ok (.tup xs) st
    | _ => .bad
  | .list, [d] => match seqOf st d with
    | some xs => alloc (.lst xs) st
    | none => .bad
  | .repr, [.cho n ds] => match reprAll ds with
    | some es => .ok (.cho n es) st
    | none => .bad
  | .repr, [d] => match reprD 20 d with
    | some s => cond (Nat.ble s.length 100000) (.ok (.str s) st) .bad
    | none => .bad
  | _, _ => .bad
def lookF (f : Nat) : List (Nat × D) → Option D
  | [] => none
  | (g, d) :: r => cond (Nat.beq f g) (some d) (lookF f r)
def putF (f : Nat) (d : D) : List (Nat × D) → List (Nat × D)
  | [] => [(f, d)]
  | (g, e) :: r => cond (Nat.beq f g) ((g, d) :: r) ((g, e) :: putF f d r)
def slot (σ : Sg) (i : Nat) (st : St) : R D :=
  match σ[i]? with
  | some (some d) => .ok (nrm st d) st
  | _ => .bad
/-- a slot is written, its cell too -/
def cellOf (i : Nat) : List (Nat × Nat) → Option Nat
  | [] => none
  | (j, c) :: r => cond (Nat.beq i j) (some c) (cellOf i r)
def putCell (κ : List (Nat × Nat)) (i : Nat) (d : D) (st : St) : St :=
  match cellOf i κ with
  | some c => st.set c (.cel (some d))
  | none => st
/-- the items at some places -/
def ixAll (xs : List D) : List D → Option (List D)
  | [] => some []
  | .int k :: r => match normIx xs.length k with
    | some j => match xs[j]? with
      | some d => (ixAll xs r).map (d :: ·)
      | none => none
    | none => none
  | _ :: _ => none
def getIx (a i : D) (st : St) : R D :=
  match i with
  | .int k => match seqOf st a with
    | some xs => match normIx xs.length k with
      | some j => R.of (xs[j]?.map (nrm st)) st
      | none => .bad
    | none => .bad
  | .cho p is => match seqOf st a with
    | some xs => match ixAll xs is with
      | some es => .ok (.cho p es) st
      | none => .bad
    | none => .bad
  | _ => .bad
def setIx (a i d : D) (st : St) : Option St :=
  match a, i with
  | .loc p, .int k => match st.get p with
    | some (.lst xs) => match normIx xs.length k with
      | some j => some (st.set p (.lst (xs.set j d)))
      | none => none
    | _ => none
  | _, _ => none
def doSlice (a : D) (lo hi : Option Int) (st : St) : R D :=
  match a with
  | .tup xs => .ok (.tup (cut xs lo hi)) st
  | .loc p => match st.get p with
    | some (.lst xs) => alloc (.lst (cut xs lo hi)) st
    | _ => .bad
  | _ => .bad
def method (m : BM) (o : D) (as : List D) (st : St) : R D :=
  match m, o, as with
  | .append, .loc p, [d] => match st.get p with
    | some (.lst xs) => cond (Nat.ble xs.length 100000) (.ok .non (st.set p (.lst (xs ++ [d])))) .bad
    | _ => .bad
  | .extend, .loc p, [.loc q] => match st.get p, st.get q with
    | some (.lst xs), some (.lst ys) => cond (Nat.beq p q || !Nat.ble (xs.length + ys.length) 100000) .bad (.ok .non (st.set p (.lst (xs ++ ys))))
    | _, _ => .bad
  | _, _, _ => .bad
def wipe (σ : Sg) : List Nat → Sg
  | [] => σ
  | v :: vs => (wipe σ vs).set v none

def gloD (G : Gb) (g : Nat) (st : St) : R D := match G.tab[g]? with
  | some (.val d) => .ok d st
  | some (.fn _) => .ok (.fn g) st
  | _ => .bad
/-! ### what changes, and whether it did -/
mutual
def samD : Nat → D → D → Bool
  | 0, _, _ => false
  | n + 1, a, b => match a with
    | .non => (match b with | .non => true | _ => false)
    | .bl x => (match b with | .bl y => x == y | _ => false)
    | .int x => (match b with | .int y => decide (x = y) | _ => false)
    | .str x => (match b with | .str y => decide (x = y) | _ => false)
    | .tup xs => (match b with | .tup ys => samL n xs ys | _ => false)
    | .loc x => (match b with | .loc y => Nat.beq x y | _ => false)
    | .fn x => (match b with | .fn y => Nat.beq x y | _ => false)
    | .cho x xs => (match b with | .cho y ys => Nat.beq x y && samL n xs ys | _ => false)
    | .any => false
def samL : Nat → List D → List D → Bool
  | 0, _, _ => false
  | n + 1, xs, ys => match xs with
    | [] => (match ys with | [] => true | _ => false)
    | x :: xs => (match ys with | y :: ys => samD n x y && samL n xs ys | [] => false)
end
def samF : List (Nat × D) → List (Nat × D) → Bool
  | [], [] => true
  | (f, x) :: xs, (g, y) :: ys => Nat.beq f g && (samD 60 x y && samF xs ys)
  | _, _ => false
/-- an object that can change -/
def isMut : Option Ob → Bool
  | some (.lst _) | some (.ins _ _) | some (.dice _) | some (.scr _) => true
  | _ => false
def samOb : Option Ob → Option Ob → Bool
  | some (.lst xs), some (.lst ys) => samL 200 xs ys
  | some (.ins c fs), some (.ins d gs) => Nat.beq c d && samF fs gs
  | some (.dice t), some (.dice u) => Nat.beq t u
  | some (.scr t), some (.scr u) => Nat.beq t u
  | _, _ => false
def mutL (st : St) : Nat → List Nat → List Nat
  | 0, acc => acc
  | n + 1, acc => mutL st n (cond (isMut (st.get n)) (n :: acc) acc)
/-- an open choice -/
def unk (st : St) : D → Option Nat
  | .cho p _ => match st.get p with
    | some (.cho _ none) => some p
    | _ => none
  | _ => none
def minO : Option Nat → Option Nat → Option Nat
  | none, b => b
  | a, none => a
  | some a, some b => some (cond (Nat.ble a b) a b)
def unkC (st : St) : List Nat → Option Nat
  | [] => none
  | c :: cs => minO (match st.get c with
    | some (.cel (some d)) => unk st d
    | _ => none) (unkC st cs)
/-- the first open choice that a call can see -/
def unkA (st : St) : List D → Option Nat
  | [] => none
  | d :: ds => minO (match d with
    | .loc n => (match st.get n with
      | some (.lam _ _ cs) => unkC st cs
      | _ => none)
    | d => unk st d) (unkA st ds)
def allO (f : Nat → Option D) : Nat → List D → Option (List D)
  | 0, acc => some acc
  | n + 1, acc => match f n with
    | some d => allO f n (d :: acc)
    | none => none
def mergeD (p : Nat) (vs : List D) : D := match vs with
  | v :: r => cond (r.all (samD 2 v)) v (.cho p vs)
  | [] => .cho p []
/-- a plain answer that changed nothing -/
def keepD (st : St) (w : List Nat) : R D → Option D
  | .ok v st' => cond (flatD v && w.all fun n => samOb (st.get n) (st'.get n)) (some v) none
  | _ => none
end MX
end
section
/-! From the model's syntax to the IR. Own work. -/
set_option linter.all false
namespace MX
open PySem

/-- what a def is compiled with: its names by slot, the scope in which it stands, the globals, the attributes, the own methods -/
structure CC where
  N : List Str
  sc : Scope
  gl : List (Str × Nat)
  cl : List Nat          -- which globals are classes
  at_ : List Str         -- attributes and methods, by number
  lam : Bool             -- may lambdas be made here
def ixOf (x : Str) : List Str → Nat → Option Nat
  | [], _ => none
  | y :: r, n => if x = y then some n else ixOf x r (n + 1)
def nmOk (x : Str) : Bool := !(x == ("__debug__" : Str)) && (!(x == ("__classdict__" : Str)) && !(x == ("__name__" : Str)))
def CC.slot (c : CC) (x : Str) : Option Nat :=
  match c.sc.names.lookup x with
  | some .local | some .cell | some .free => if nmOk x then ixOf x c.N 0 else none
  | _ => none
/-- a name that is bound here -/
def CC.slotL (c : CC) (x : Str) : Option Nat :=
  match c.sc.names.lookup x with
  | some .local | some .cell => if nmOk x then ixOf x c.N 0 else none
  | _ => none
def CC.glob (c : CC) (x : Str) : Option Nat :=
  match c.sc.names.lookup x with
  | some .globalImplicit => if nmOk x then c.gl.lookup x else none
  | _ => none
/-- a name that may be bound by the module itself -/
def under (x : Str) : Bool := match x.cps[0]? with
  | some c => Nat.beq c 95
  | none => true
/-- a built-in name: not bound by the text -/
def CC.blt (c : CC) (x : Str) : Bool :=
  match c.sc.names.lookup x with
  | some .globalImplicit => (nmOk x && !under x) && (c.gl.lookup x).isNone
  | _ => false
def opOf : Operator → Option Op2
  | .Add => some .add | .Sub => some .sub | .Mult => some .mul | .FloorDiv => some .fdiv | .Mod => some .mod | .Pow => some .pow
  | _ => none
def cmOf : CmpOp → Cm
  | .Eq => .eq | .NotEq => .ne | .Lt => .lt | .LtE => .le | .Gt => .gt | .GtE => .ge | .Is => .is | .IsNot => .isn | .In => .inn | .NotIn => .nin
def isNone : Expr → Bool
  | .Constant .none _ _ => true
  | _ => false
def isStar : Expr → Bool
  | .Starred .. => true
  | _ => false
def isSlice : Expr → Bool
  | .Slice .. => true
  | _ => false
def isSet : Expr → Bool
  | .Set .. => true
  | _ => false
def cmOk (o : CmpOp) (b : Expr) : Bool := match o with
  | .Is | .IsNot => isNone b
  | _ => !isSet b
def bfOf (x : Str) : Option BF :=
  if x = "len" then some .len else if x = "abs" then some .abs else if x = "int" then some .int else if x = "max" then some .max else if x = "min" then some .min
  else if x = "all" then some .all else if x = "any" then some .any else if x = "sum" then some .sum else if x = "tuple" then some .tuple else if x = "list" then some .list
  else if x = "repr" then some .repr else none
def bmOf (x : Str) : Option BM :=
  if x = "append" then some .append else if x = "extend" then some .extend else none
def btOf (c : CC) (x : Str) : Option BT :=
  match c.glob x with
  | some g => if c.cl.contains g then some (.cls g) else none
  | none => if c.blt x then (if x = "int" then some .int else if x = "bool" then some .bool else if x = "tuple" then some .tuple else if x = "str" then some .str else if x = "list" then some .list else none) else none
def tgOf (c : CC) : Expr → Option T
  | .Name x _ => (c.slotL x).map .nm
  | .Tuple es _ _ => (es.mapM fun (e : Expr) => match e with
    | .Name x _ => c.slotL x
    | _ => none).map .tp
  | _ => none
/-- a receiver that may have attributes read in the plain way -/
def recvOk : Expr → Bool
  | .Call (.Name _ _) [] [] _ => false
  | _ => true
def oneLine (p q : Pos) : Bool := p.endLine == q.line
def fewArgs (es : List Expr) : Bool := decide (es.length < 25) && !es.any isStar
def argNames (a : Arguments) : Option (List Str) :=
  match a with
  | ⟨[], as, none, [], [], none, []⟩ => some (as.map (·.arg))
  | _ => none
def frees (sc : Scope) : List Str := (sc.names.filter fun y => y.2 == .free).map (·.1)
/-- a lambda's names: its parameters, then what it captures -/
def lamB (ps : List Str) (sc : Scope) : Bool :=
  decide (sc.kind = .function) && !sc.isCoroutine && !sc.isGenerator && decide (ps ++ frees sc).Nodup &&
  (sc.names.all fun y => !decide (y.2 = .cell) && (!decide (y.2 = .local) || ps.contains y.1)) && (ps.all fun x => decide (sc.names.lookup x = some .local)) && ((frees sc).all fun x => decide (sc.names.lookup x = some .free))
/-- the slots of a block's own names -/
def ownOf (c : CC) (sc : Scope) : List Nat := (sc.names.filter fun y => y.2 == .local || y.2 == .cell).filterMap fun y => ixOf y.1 c.N 0
/-- pairs are taken apart at once -/
def itOk (t : Expr) : E → Bool
  | .enu _ | .zip _ _ => match t with
    | .Tuple .. => true
    | _ => false
  | _ => true
/-- a block's names: its own, or captured -/
def blkS (c : CC) (sc : Scope) : Bool :=
  decide (sc.kind = .function) && (sc.names.all fun y => decide (sc.names.lookup y.1 = some y.2) && (!decide (y.2 = .free) || decide (c.sc.names.lookup y.1 = some .cell) || decide (c.sc.names.lookup y.1 = some .free)) &&
    (!(decide (y.2 = .local) || decide (y.2 = .cell)) || (ixOf y.1 c.N 0).isSome || !c.N.contains y.1))
def CC.inner (c : CC) (sc : Scope) : CC := { c with sc := sc, lam := false }
mutual
def cE : Nat → CC → Expr → Option E
  | 0, _, _ => none
  | n + 1, c, e =>
    match e with
    | .Name x _ => match c.slot x with
      | some i => some (.var i)
      | none => match c.glob x with
        | some g => if c.cl.contains g then none else some (.glo g)
        | none => none
    | .Constant (.int i) _ _ => some (.int i)
    | .Constant (.bool b) _ _ => some (.bl b)
    | .Constant .none _ _ => some .non
    | .Constant (.str x) _ _ => some (.str x.cps.toList)
    | .BinOp a o b _ => do return .op (← opOf o) (← cE n c a) (← cE n c b)
    | .UnaryOp .USub a _ => do return .neg (← cE n c a)
    | .UnaryOp .Not a _ => do return .not (← cE n c a)
    | .Compare a [o] [b] _ => if cmOk o b then do return .cmp (cmOf o) (← cE n c a) (← cE n c b) else none
    | .Compare a [o, p] [b, d] _ => if cmOk o b && cmOk p d then do return .chain (cmOf o) (cmOf p) (← cE n c a) (← cE n c b) (← cE n c d) else none
    | .BoolOp o vs _ => cB n c o vs
    | .IfExp t a b _ => do return .ite (← cE n c t) (← cE n c a) (← cE n c b)
    | .Tuple es _ _ => do return .tup (← cL n c es)
    | .List es _ => do return .lst (← cL n c es)
    | .Attribute o f _ => if !recvOk o then none else do return .attr (← cE n c o) (← ixOf f c.at_ 0)
    | .Subscript a (.Slice lo hi none _) _ => do return .slc (← cE n c a) (← cO n c lo) (← cO n c hi)
    | .Subscript a i _ => if isSlice i then none else do return .sub (← cE n c a) (← cE n c i)
    | .Call (.Name f _) es [] _ =>
      if !fewArgs es then none else
      match c.slot f with
      | some i => do return .callv i (← cL n c es)
      | none => match c.glob f with
        | some g => if c.cl.contains g then do return .mk g (← cL n c es) else do return .call g (← cL n c es)
        | none => if !c.blt f then none else
          if f = "isinstance" then match es with
            | [a, .Name t _] => do return .isi (← cE n c a) (← btOf c t)
            | _ => none
          else if es.isEmpty then none else do return .bi (← bfOf f) (← cL n c es)
    | .Call (.Attribute o m p) es [] q =>
      if !fewArgs es || !recvOk o then none else
      match ixOf m c.at_ 0 with
      | some k => if oneLine p q then do return .meth (← cE n c o) k (← cL n c es) else none
      | none => if oneLine p q && !es.isEmpty then do return .bm (← cE n c o) (← bmOf m) (← cL n c es) else none
    | .ListComp elt [⟨tg, it, ifs, 0⟩] sc _ => do
      let ci := c.inner sc
      let x ← cI n c it
      if itOk tg x && blkS c sc then return .lc (← cE n ci elt) (← tgOf ci tg) x (← cL n ci ifs) (ownOf c sc) else none
    | .Lambda a body sc _ => if !c.lam then none else do
      let ps ← argNames a
      let ci := { c with N := ps ++ frees sc, sc := sc, lam := false }
      if !lamB ps sc then none else
      return .lam ps.length (← cE n ci body) (← (frees sc).mapM fun x => ixOf x c.N 0)
    | _ => none
def cB : Nat → CC → BoolOp → List Expr → Option E
  | 0, _, _, _ => none
  | n + 1, c, o, vs => match vs with
    | [a] => cE n c a
    | a :: b :: r => do
      let x ← cE n c a
      let y ← cB n c o (b :: r)
      return match o with
        | .And => .and x y
        | .Or => .or x y
    | [] => none
def cL : Nat → CC → List Expr → Option (List E)
  | 0, _, _ => none
  | n + 1, c, es => match es with
    | [] => some []
    | .Starred a _ :: r => do return .star (← cE n c a) :: (← cL n c r)
    | a :: r => do return (← cE n c a) :: (← cL n c r)
def cO : Nat → CC → Option Expr → Option (Option E)
  | 0, _, _ => none
  | n + 1, c, e => match e with
    | none => some none
    | some e => (cE n c e).map some
def cI : Nat → CC → Expr → Option E
  | 0, _, _ => none
  | n + 1, c, e => match e with
    | .Call (.Name f _) es [] _ => if c.blt f && fewArgs es then
        (if f = "range" then match es with
          | [a] => do return .rng1 (← cE n c a)
          | [a, b] => do return .rng2 (← cE n c a) (← cE n c b)
          | _ => none
        else if f = "enumerate" then match es with
          | [a] => do return .enu (← cE n c a)
          | _ => none
        else if f = "zip" then match es with
          | [a, b] => do return .zip (← cE n c a) (← cE n c b)
          | _ => none
        else cE n c e) else cE n c e
    | e => cE n c e
end
end MX
end
section
set_option linter.all false
namespace MX
theorem beq_ff {a b : Nat} (h : a ≠ b) : Nat.beq a b = false := by
  cases e : Nat.beq a b with
  | false => rfl
  | true => exact absurd (Nat.eq_of_beq_eq_true e) h
theorem beq_tt {a b : Nat} (h : a = b) : Nat.beq a b = true := by subst h; exact Nat.beq_refl a
theorem Tr.get_nil (n : Nat) : Tr.get .nil n = none := rfl
theorem Tr.get_nd (v l r n) : Tr.get (.nd v l r) n = cond (Nat.beq n 0) v (cond (Nat.beq (n % 2) 1) (l.get (n / 2)) (r.get (n / 2 - 1))) := rfl
theorem Tr.get_set (o : Ob) : ∀ (k : Nat) (t : Tr) (n m : Nat), n + 1 < 2 ^ k → Tr.get (Tr.set o k t n) m = if m = n then some o else Tr.get t m
  | 0, t, n, m, h => by omega
  | k + 1, t, n, m, h => by
    have h' : n + 1 < 2 * 2 ^ k := by rw [Nat.pow_succ] at h; omega
    have e1 : n % 2 = 1 → n / 2 + 1 < 2 ^ k := fun _ => by omega
    have e2 : n % 2 ≠ 1 → n ≠ 0 → n / 2 - 1 + 1 < 2 ^ k := fun _ _ => by omega
    by_cases n0 : n = 0
    · subst n0
      cases t with
      | nil =>
        show Tr.get (.nd (some o) .nil .nil) m = _
        rw [Tr.get_nd]
        by_cases m0 : m = 0
        · rw [beq_tt m0, if_pos m0]; rfl
        · rw [beq_ff m0, if_neg m0]
          cases Nat.beq (m % 2) 1 <;> rfl
      | nd v l r =>
        show Tr.get (.nd (some o) l r) m = _
        rw [Tr.get_nd, Tr.get_nd]
        by_cases m0 : m = 0
        · rw [beq_tt m0, if_pos m0]; rfl
        · rw [beq_ff m0, if_neg m0]; rfl
    · have q0 := beq_ff n0
      by_cases n1 : n % 2 = 1
      · have q1 := beq_tt n1
        have ih := fun t m => Tr.get_set o k t (n / 2) m (e1 n1)
        have key : ∀ v l r, Tr.get (.nd v (Tr.set o k l (n / 2)) r) m = if m = n then some o else Tr.get (.nd v l r) m := fun v l r => by
          rw [Tr.get_nd, Tr.get_nd]
          by_cases m0 : m = 0
          · rw [beq_tt m0, if_neg (by omega)]; rfl
          · rw [beq_ff m0]
            by_cases m1 : m % 2 = 1
            · rw [beq_tt m1]
              show Tr.get (Tr.set o k l (n / 2)) (m / 2) = if m = n then some o else l.get (m / 2)
              rw [ih]
              by_cases e : m = n
              · rw [if_pos e, if_pos (by rw [e])]
              · rw [if_neg e, if_neg (by omega)]
            · rw [beq_ff m1, if_neg (by omega)]; rfl
        cases t with
        | nil =>
          show Tr.get (cond (Nat.beq n 0) _ (cond (Nat.beq (n % 2) 1) (.nd none (Tr.set o k .nil (n / 2)) .nil) _)) m = _
          rw [q0, q1]
          show Tr.get (.nd none (Tr.set o k .nil (n / 2)) .nil) m = _
          rw [key]
          by_cases e : m = n
          · rw [if_pos e, if_pos e]
          · rw [if_neg e, if_neg e, Tr.get_nd]
            cases Nat.beq m 0 <;> cases Nat.beq (m % 2) 1 <;> rfl
        | nd v l r =>
          show Tr.get (cond (Nat.beq n 0) _ (cond (Nat.beq (n % 2) 1) (.nd v (Tr.set o k l (n / 2)) r) _)) m = _
          rw [q0, q1]
          exact key v l r
      · have q1 := beq_ff n1
        have ih := fun t m => Tr.get_set o k t (n / 2 - 1) m (e2 n1 n0)
        have key : ∀ v l r, Tr.get (.nd v l (Tr.set o k r (n / 2 - 1))) m = if m = n then some o else Tr.get (.nd v l r) m := fun v l r => by
          rw [Tr.get_nd, Tr.get_nd]
          by_cases m0 : m = 0
          · rw [beq_tt m0, if_neg (by omega)]; rfl
          · rw [beq_ff m0]
            by_cases m1 : m % 2 = 1
            · rw [beq_tt m1, if_neg (by omega)]; rfl
            · rw [beq_ff m1]
              show Tr.get (Tr.set o k r (n / 2 - 1)) (m / 2 - 1) = if m = n then some o else r.get (m / 2 - 1)
              rw [ih]
              by_cases e : m = n
              · rw [if_pos e, if_pos (by rw [e])]
              · rw [if_neg e, if_neg (by omega)]
        cases t with
        | nil =>
          show Tr.get (cond (Nat.beq n 0) _ (cond (Nat.beq (n % 2) 1) _ (.nd none .nil (Tr.set o k .nil (n / 2 - 1))))) m = _
          rw [q0, q1]
          show Tr.get (.nd none .nil (Tr.set o k .nil (n / 2 - 1))) m = _
          rw [key]
          by_cases e : m = n
          · rw [if_pos e, if_pos e]
          · rw [if_neg e, if_neg e, Tr.get_nd]
            cases Nat.beq m 0 <;> cases Nat.beq (m % 2) 1 <;> rfl
        | nd v l r =>
          show Tr.get (cond (Nat.beq n 0) _ (cond (Nat.beq (n % 2) 1) _ (.nd v l (Tr.set o k r (n / 2 - 1))))) m = _
          rw [q0, q1]
          exact key v l r
theorem St.get_set {st : St} {n : Nat} {o : Ob} (h : n ≤ 1000001) (m : Nat) : (st.set n o).get m = if m = n then some o else st.get m :=
  Tr.get_set o 30 st.t n m (by rw [show (2:Nat) ^ 30 = 1073741824 from by decide]; omega)
theorem St.set_nx {st : St} {n : Nat} {o : Ob} : (st.set n o).nx = st.nx := rfl
theorem alloc_ok {o : Ob} {st : St} {d : D} {st' : St} (h : alloc o st = .ok d st') : d = .loc st.nx ∧ st'.nx = st.nx + 1 ∧ st.nx ≤ 1000000 ∧ ∀ m, st'.get m = if m = st.nx then some o else st.get m := by
  unfold alloc at h
  cases e : Nat.ble st.nx 1000000 with
  | false => rw [e] at h; cases h
  | true =>
    rw [e] at h
    have h : R.ok (D.loc st.nx) (⟨Tr.set o 30 st.t st.nx, st.nx + 1⟩ : St) = .ok d st' := h
    injection h with h1 h2
    have hle := Nat.le_of_ble_eq_true e
    subst h1 h2
    exact ⟨rfl, rfl, hle, fun m => Tr.get_set o 30 st.t st.nx m (by rw [show (2:Nat) ^ 30 = 1073741824 from by decide]; omega)⟩
theorem alloc_cases (o : Ob) (st : St) : alloc o st = .bad ∨ ∃ st', alloc o st = .ok (.loc st.nx) st' ∧ st'.nx = st.nx + 1 ∧ st.nx ≤ 1000000 ∧ ∀ m, st'.get m = if m = st.nx then some o else st.get m := by
  cases e : alloc o st with
  | bad => exact .inl rfl
  | ok d st' =>
    obtain ⟨rfl, h⟩ := alloc_ok e
    exact .inr ⟨st', rfl, h⟩
  | exc c fs st' =>
    unfold alloc at e
    cases q : Nat.ble st.nx 1000000 <;> rw [q] at e <;> cases e
end MX
end
section
set_option Elab.async false
set_option linter.all false
set_option autoImplicit false
set_option maxRecDepth 100000
set_option maxHeartbeats 4000000
/-! How the interpreter's states lie to the model's. Own work. -/
namespace MX
open PySem PySem.Spec PyProof.Rows L2

/-- the fixed things of one law -/
structure Wd where
  P : Program
  w : World
  K : PySem.W.Frag
  mg : Str → Option Value
  base : Heap
  G : Gb
  ad : Nat → Addr
  gl : List (Str × Nat)
  cl : List Nat
  at_ : List Str
  T : List (Addr × Str)
  /-- so often the dice were rolled before -/
  g : Nat

/-- where an object stands; where a cell does -/
abbrev Asg := Nat → Option Addr × Addr

mutual
inductive RD (K : PySem.W.Frag) (ad : Nat → Addr) (nx : Nat) (ρ : Asg) (H : Hp) : D → V → Prop
  | non : RD K ad nx ρ H .non .non
  | bl (b : Bool) : RD K ad nx ρ H (.bl b) (.bl b)
  | int (i : Int) : RD K ad nx ρ H (.int i) (.int i)
  | str (s : List Nat) : RD K ad nx ρ H (.str s) (.str ⟨s.toArray⟩)
  | tup {ds : List D} {a : Addr} {vs : List V} : SqT K H a vs → RDs K ad nx ρ H ds vs → RD K ad nx ρ H (.tup ds) (.ref a)
  | loc {n : Nat} {a : Addr} : n < nx → (ρ n).1 = some a → RD K ad nx ρ H (.loc n) (.ref a)
  | fn (g : Nat) : RD K ad nx ρ H (.fn g) (.ref (ad g))
  | cho {n : Nat} {ds : List D} {d : D} {v : V} : n < nx → ds[(ρ n).2]? = some d → RD K ad nx ρ H d v → RD K ad nx ρ H (.cho n ds) v
inductive RDs (K : PySem.W.Frag) (ad : Nat → Addr) (nx : Nat) (ρ : Asg) (H : Hp) : List D → List V → Prop
  | nil : RDs K ad nx ρ H [] []
  | cons {d : D} {ds : List D} {v : V} {vs : List V} : RD K ad nx ρ H d v → RDs K ad nx ρ H ds vs → RDs K ad nx ρ H (d :: ds) (v :: vs)
end

/-- what is never changed here -/
def Fix : HO → Prop
  | .tup _ | .frz _ _ | .own _ | .ext _ | .xd _ | .rng _ _ | .met _ _ => True
  | _ => False
def NoTbl : HO → Prop
  | .tbl _ => False
  | _ => True

structure Ext (nx : Nat) (ρ : Asg) (H : Hp) (nx' : Nat) (ρ' : Asg) (H' : Hp) : Prop where
  le : nx ≤ nx'
  old : ∀ n, n < nx → ρ' n = ρ n
  new : ∀ n a, nx ≤ n → n < nx' → (ρ' n).1 = some a → H a = none
  thr : ∀ a o, H a = some o → ∃ o', H' a = some o'
  fix : ∀ a o, H a = some o → Fix o → H' a = some o
  frm : ∀ a o, H a = some o → (∀ n, n < nx → (ρ n).1 ≠ some a) → NoTbl o → H' a = some o

section
variable {K : PySem.W.Frag} {ad : Nat → Addr} {nx nx' nx'' : Nat} {ρ ρ' ρ'' : Asg} {H H' H'' : Hp} {d : D} {v : V} {ds es : List D} {vs us : List V} {a : Addr}
theorem Ext.refl : Ext nx ρ H nx ρ H := ⟨Nat.le_refl _, fun _ _ => rfl, fun n _ h1 h2 => absurd h2 (Nat.not_lt.mpr h1), fun _ o h => ⟨o, h⟩, fun _ _ h _ => h, fun _ _ h _ _ => h⟩
theorem Ext.trans (x : Ext nx ρ H nx' ρ' H') (y : Ext nx' ρ' H' nx'' ρ'' H'') : Ext nx ρ H nx'' ρ'' H'' where
  le := Nat.le_trans x.le y.le
  old := fun n h => (y.old n (Nat.lt_of_lt_of_le h x.le)).trans (x.old n h)
  new := fun n a h1 h2 h3 => by
    by_cases h : n < nx'
    · rw [y.old n h] at h3; exact x.new n a h1 h h3
    · have q := y.new n a (Nat.not_lt.mp h) h2 h3
      cases e : H a with
      | none => rfl
      | some o =>
        obtain ⟨o', e'⟩ := x.thr _ _ e
        rw [e'] at q; cases q
  thr := fun a o h => by
    obtain ⟨o', h'⟩ := x.thr a o h
    exact y.thr a o' h'
  fix := fun a o h f => y.fix a o (x.fix a o h f) f
  frm := fun a o h n t => y.frm a o (x.frm a o h n t) (fun m hm => by
    by_cases h' : m < nx
    · rw [x.old m h']; exact n m h'
    · intro e
      have q := x.new m a (Nat.not_lt.mp h') hm e
      rw [h] at q; cases q) t
theorem Ext.sqT {vs : List V} (x : Ext nx ρ H nx' ρ' H') (h : SqT K H a vs) : SqT K H' a vs := by
  rcases h with (h | ⟨o, h⟩) | h
  · exact .inl (.inl (x.fix _ _ h trivial))
  · exact .inl (.inr ⟨o, x.fix _ _ h trivial⟩)
  · exact .inr h
mutual
theorem RD.mono (x : Ext nx ρ H nx' ρ' H') : ∀ {d : D} {v : V}, RD K ad nx ρ H d v → RD K ad nx' ρ' H' d v
  | _, _, .non => .non
  | _, _, .bl b => .bl b
  | _, _, .int i => .int i
  | _, _, .str s => .str s
  | _, _, .tup h r => .tup (x.sqT h) (RDs.mono x r)
  | _, _, .loc (n := n) h e => .loc (Nat.lt_of_lt_of_le h x.le) (by rw [x.old n h]; exact e)
  | _, _, .fn g => .fn g
  | _, _, .cho (n := n) h e r => .cho (Nat.lt_of_lt_of_le h x.le) (by rw [x.old n h]; exact e) (RD.mono x r)
theorem RDs.mono (x : Ext nx ρ H nx' ρ' H') : ∀ {ds : List D} {vs : List V}, RDs K ad nx ρ H ds vs → RDs K ad nx' ρ' H' ds vs
  | _, _, .nil => .nil
  | _, _, .cons h r => .cons (RD.mono x h) (RDs.mono x r)
end
theorem RDs.length : ∀ {ds : List D} {vs : List V}, RDs K ad nx ρ H ds vs → ds.length = vs.length
  | _, _, .nil => rfl
  | _, _, .cons _ r => by rw [List.length_cons, List.length_cons, RDs.length r]
theorem RDs.get : ∀ {ds : List D} {vs : List V} {i : Nat} {d : D}, RDs K ad nx ρ H ds vs → ds[i]? = some d → ∃ v, vs[i]? = some v ∧ RD K ad nx ρ H d v
  | _, _, _, _, .nil, e => by simp at e
  | _, _, 0, _, .cons h _, e => by simp at e; subst e; exact ⟨_, rfl, h⟩
  | _, _, i + 1, _, .cons _ r, e => by
    obtain ⟨v, h1, h2⟩ := RDs.get (i := i) r (by simpa using e)
    exact ⟨v, by simpa using h1, h2⟩
theorem RDs.append : ∀ {ds es : List D} {vs us : List V}, RDs K ad nx ρ H ds vs → RDs K ad nx ρ H es us → RDs K ad nx ρ H (ds ++ es) (vs ++ us)
  | _, _, _, _, .nil, r => r
  | _, _, _, _, .cons h t, r => .cons h (RDs.append t r)
theorem RDs.set : ∀ {ds : List D} {vs : List V} (i : Nat), RDs K ad nx ρ H ds vs → RD K ad nx ρ H d v → RDs K ad nx ρ H (ds.set i d) (vs.set i v)
  | _, _, _, .nil, _ => .nil
  | _, _, 0, .cons _ t, h => .cons h t
  | _, _, i + 1, .cons g t, h => .cons g (RDs.set i t h)
theorem RDs.drop : ∀ {ds : List D} {vs : List V} (i : Nat), RDs K ad nx ρ H ds vs → RDs K ad nx ρ H (ds.drop i) (vs.drop i)
  | _, _, 0, r => r
  | _, _, _ + 1, .nil => .nil
  | _, _, i + 1, .cons _ t => RDs.drop i t
theorem RDs.take : ∀ {ds : List D} {vs : List V} (i : Nat), RDs K ad nx ρ H ds vs → RDs K ad nx ρ H (ds.take i) (vs.take i)
  | _, _, 0, _ => .nil
  | _, _, _ + 1, .nil => .nil
  | _, _, i + 1, .cons h t => .cons h (RDs.take i t)
theorem RDs.nil_of (h : RDs K ad nx ρ H [] vs) : vs = [] := by cases h; rfl
end

/-! ### what stands in the store -/
/-- a lambda's object -/
def LamO (f : Addr) (q : Str) (params : Arguments) (body : Expr) (scope : Scope) (cl : List (Str × Addr)) (c' : Addr) : HO :=
  .ext fun h => ∃ (pm ctv : Value), h.get? f = some (PySem.W.kla_obj "<lambda>" q params body scope cl pm c' ctv)
/-- attributes by number -/
def nmAt (l : List Str) (f : Nat) : Str := l.getD f ("" : Str)
inductive RF (K : PySem.W.Frag) (ad : Nat → Addr) (at_ : List Str) (nx : Nat) (ρ : Asg) (H : Hp) : List (Nat × D) → List (Str × V) → Prop
  | nil : RF K ad at_ nx ρ H [] []
  | cons {f : Nat} {d : D} {v : V} {fs : List (Nat × D)} {vs : List (Str × V)} : f < at_.length → RD K ad nx ρ H d v → RF K ad at_ nx ρ H fs vs → RF K ad at_ nx ρ H ((f, d) :: fs) ((nmAt at_ f, v) :: vs)
theorem RF.mono {K : PySem.W.Frag} {ad : Nat → Addr} {at_ : List Str} {nx nx' : Nat} {ρ ρ' : Asg} {H H' : Hp} (x : Ext nx ρ H nx' ρ' H') : ∀ {fs : List (Nat × D)} {vs : List (Str × V)}, RF K ad at_ nx ρ H fs vs → RF K ad at_ nx' ρ' H' fs vs
  | _, _, .nil => .nil
  | _, _, .cons l h r => .cons l (h.mono x) (RF.mono x r)

section
variable (W : Wd)
abbrev Wd.RD (W : Wd) := MX.RD W.K W.ad
abbrev Wd.RDs (W : Wd) := MX.RDs W.K W.ad
/-- a frame's cells; what is known of the cells that were made ahead of it -/
structure Fm where
  κ : List (Nat × Nat)
  out : Nat → Addr → Prop
/-- what a cell holds: the running frame's own, or one of a frame that was made ahead -/
def CellOk (X : Cx) (κ : Fm) (σ : L2.St) (nx : Nat) (ρ : Asg) (H : Hp) (n : Nat) (a : Addr) : Option D → Prop
  | none => True
  | some d => (∃ (i : Nat) (x : Str) (v : V), cellOf i κ.κ = some n ∧ X.N[i]? = some x ∧ X.env.kindOf x = some .cell ∧ X.fn x = true ∧ X.env.cells.lookup x = some a ∧ σ[i]? = some (some v) ∧ W.RD nx ρ H d v) ∨
      (κ.out n a ∧ ∃ (u : Value) (v : V), X.s_0.heap.IsCell a (some u) ∧ RelV v u ∧ W.RD nx ρ H d v ∧ X.H_0 a = none ∧ a ∉ X.fs ∧ a ∉ X.ex)
/-- what is known of dice -/
def DiceI (t : Nat) (x y z : Int) : Prop := 0 ≤ y ∧ y < 2 ^ 80 ∧ 0 ≤ z ∧ z ≤ t ∧ t ≤ 1000000
def cLam (c : Wd) (ps : List Str) (sc : Scope) : CC := ⟨ps ++ frees sc, sc, c.gl, c.cl, c.at_, false⟩
inductive RO (X : Cx) (κ : Fm) (σ : L2.St) (nx : Nat) (ρ : Asg) (H : Hp) (n : Nat) : Ob → Option Addr × Addr → Prop
  | lst {ds : List D} {a b : Addr} {vs : List V} : H a = some (.lst vs) → W.RDs nx ρ H ds vs → RO X κ σ nx ρ H n (.lst ds) (some a, b)
  | frz {ds : List D} {a b : Addr} {o : Obj} {vs : List V} : H a = some (.frz o (.lst vs)) → W.RDs nx ρ H ds vs → RO X κ σ nx ρ H n (.frz ds) (some a, b)
  | ins {c : Nat} {a b dx : Addr} {fs : List (Nat × D)} {vs : List (Str × V)} : H a = some (.ins (W.ad c) dx vs) → RF W.K W.ad W.at_ nx ρ H fs vs → RO X κ σ nx ρ H n (.ins c fs) (some a, b)
  | cel {v : Option D} {a : Addr} : CellOk W X κ σ nx ρ H n a v → RO X κ σ nx ρ H n (.cel v) (none, a)
  | cho {k : Nat} {o : Option Nat} {b : Addr} : b < k → (∀ i, o = some i → b = i) → RO X κ σ nx ρ H n (.cho k o) (none, b)
  | dice {t : Nat} {a b : Addr} {x y z : Int} : H a = some (.lst [.int x, .int y, .int z]) → DiceI (t + W.g) x y z → RO X κ σ nx ρ H n (.dice t) (some a, b)
  | scr {m : Nat} {a b : Addr} {ns : List Int} : Rd H a (.lst (ns.map V.int)) → ns.length = m → m ≤ 63 → (∀ z ∈ ns, Builtin.Int.intBits z ≤ 1048576) → RO X κ σ nx ρ H n (.scr m) (some a, b)
  | lam {np m : Nat} {ir : E} {caps : List Nat} {a b c' : Addr} {q : Str} {params : Arguments} {body : Expr} {scope : Scope} {cl : List (Str × Addr)} {ps : List Str} : H a = some (LamO a q params body scope cl c') → H c' = some (LamX.CodeO c' q) →
      argNames params = some ps → ps.length = np → lamB ps scope = true → cE m (cLam W ps scope) body = some ir → caps.length = (frees scope).length → (∀ (y : Str) (c : Addr), cl.lookup y = some c → y ∈ frees scope) → (∀ (y z : Str) (c : Addr), cl.lookup y = some c → cl.lookup z = some c → y = z) →
      (∀ (j : Nat) (y : Str), (frees scope)[j]? = some y → ∃ k : Nat, caps[j]? = some k ∧ k < nx ∧ cl.lookup y = some (ρ k).2) → RO X κ σ nx ρ H n (.lam np ir caps) (some a, b)

structure SRel (X : Cx) (κ : Fm) (σ : L2.St) (st : St) (ρ : Asg) (H : Hp) : Prop where
  get : ∀ n, n < st.nx → ∃ ob, st.get n = some ob ∧ RO W X κ σ st.nx ρ H n ob (ρ n)
  inj : ∀ m n a, m < st.nx → n < st.nx → (ρ m).1 = some a → (ρ n).1 = some a → m = n
  tab : LamX.Tabs W.T H
  kap : ∀ i m, cellOf i κ.κ = some m → m < st.nx ∧ (ρ m).1 = none ∧ ∃ x, X.N[i]? = some x ∧ X.env.kindOf x = some .cell ∧ X.env.cells.lookup x = some (ρ m).2 ∧ X.fn x = true
  few : st.nx ≤ 1000001
structure LRel (σd : Sg) (σ : L2.St) (nx : Nat) (ρ : Asg) (H : Hp) : Prop where
  len : σd.length = σ.length
  get : ∀ (i : Nat) (d : D), σd[i]? = some (some d) → ∃ v : V, σ[i]? = some (some v) ∧ W.RD nx ρ H d v
end
section
variable {W : Wd} {X : Cx} {σ : L2.St} {nx nx' : Nat} {ρ ρ' : Asg} {H H' : Hp} {a : Addr} {σd : Sg}
theorem LRel.mono (x : Ext nx ρ H nx' ρ' H') (l : LRel W σd σ nx ρ H) : LRel W σd σ nx' ρ' H' := ⟨l.len, fun i d h => by
  obtain ⟨v, h1, h2⟩ := l.get i d h
  exact ⟨v, h1, h2.mono x⟩⟩
theorem LRel.set {i : Nat} {d : D} {v : V} (l : LRel W σd σ nx ρ H) (r : W.RD nx ρ H d v) : LRel W (σd.set i (some d)) (σ.set i (some v)) nx ρ H := ⟨by rw [List.length_set, List.length_set]; exact l.len, fun j e h => by
  by_cases hj : i = j
  · subst hj
    by_cases hl : i < σd.length
    · rw [List.getElem?_set_self hl] at h
      cases h
      exact ⟨v, by rw [List.getElem?_set_self (by rw [← l.len]; exact hl)], r⟩
    · rw [List.getElem?_eq_none (by simpa using hl)] at h; cases h
  · rw [List.getElem?_set_ne hj] at h
    obtain ⟨w, h1, h2⟩ := l.get j e h
    exact ⟨w, by rw [List.getElem?_set_ne hj]; exact h1, h2⟩⟩
theorem LRel.wipe1 {i : Nat} (l : LRel W σd σ nx ρ H) : LRel W (σd.set i none) (σ.set i none) nx ρ H := ⟨by rw [List.length_set, List.length_set]; exact l.len, fun j e h => by
  by_cases hj : i = j
  · subst hj
    by_cases hl : i < σd.length
    · rw [List.getElem?_set_self hl] at h; cases h
    · rw [List.getElem?_eq_none (by simpa using hl)] at h; cases h
  · rw [List.getElem?_set_ne hj] at h
    obtain ⟨w, h1, h2⟩ := l.get j e h
    exact ⟨w, by rw [List.getElem?_set_ne hj]; exact h1, h2⟩⟩
theorem LRel.wipe (l : LRel W σd σ nx ρ H) : ∀ vs : List Nat, LRel W (MX.wipe σd vs) (L2.wipe σ vs) nx ρ H
  | [] => l
  | v :: vs => (LRel.wipe l vs).wipe1
theorem CellOk.mono {κ : Fm} {n : Nat} (x : Ext nx ρ H nx' ρ' H') : ∀ {o : Option D}, CellOk W X κ σ nx ρ H n a o → CellOk W X κ σ nx' ρ' H' n a o
  | none, _ => trivial
  | some d, .inl ⟨i, y, v, h0, h1, h2, h3, h4, h5, h6⟩ => .inl ⟨i, y, v, h0, h1, h2, h3, h4, h5, h6.mono x⟩
  | some d, .inr ⟨h0, u, v, h1, h2, h3, h4⟩ => .inr ⟨h0, u, v, h1, h2, h3.mono x, h4⟩
end
section
variable {W : Wd} {X : Cx} {κ : Fm} {σ : L2.St} {st st' : St} {nx nx' : Nat} {ρ ρ' : Asg} {H H' : Hp} {a p : Addr} {σd : Sg} {ob : Ob} {o : HO} {z : Option Addr × Addr}
theorem RO.there {n : Nat} (h : RO W X κ σ nx ρ H n ob z) (e : z.1 = some a) : ∃ o, H a = some o := by
  cases h with
  | lst h _ => cases e; exact ⟨_, h⟩
  | frz h _ => cases e; exact ⟨_, h⟩
  | ins h _ => cases e; exact ⟨_, h⟩
  | cel h => cases e
  | cho _ _ => cases e
  | dice h _ => cases e; exact ⟨_, h⟩
  | scr h _ _ _ =>
    cases e
    rcases h with h | ⟨b, h⟩
    · exact ⟨_, h⟩
    · exact ⟨_, h⟩
  | lam h _ => cases e; exact ⟨_, h⟩
theorem RO.cel_fst {n : Nat} {v : Option D} (h : RO W X κ σ nx ρ H n (.cel v) z) : z.1 = none := by cases h; rfl
/-- an object that is not the changed one -/
theorem RO.mono {n : Nat} (x : Ext nx ρ H nx' ρ' H') (h : RO W X κ σ nx ρ H n ob z) (k : ∀ a o, z.1 = some a → H a = some o → H' a = some o) : RO W X κ σ nx' ρ' H' n ob z := by
  cases h with
  | lst h r => exact .lst (k _ _ rfl h) (RDs.mono x r)
  | frz h r => exact .frz (k _ _ rfl h) (RDs.mono x r)
  | ins h r => exact .ins (k _ _ rfl h) (r.mono x)
  | cel h => exact .cel (h.mono x)
  | cho h1 h2 => exact .cho h1 h2
  | dice h1 h2 => exact .dice (k _ _ rfl h1) h2
  | scr h1 h2 h3 h4 => exact .scr (h1.elim (fun z => .inl (k _ _ rfl z)) fun ⟨b, z⟩ => .inr ⟨b, k _ _ rfl z⟩) h2 h3 h4
  | lam h1 h2 h3 h4 h5 h6 h7 k1 k2 h8 =>
    refine .lam (k _ _ rfl h1) (x.fix _ _ h2 trivial) h3 h4 h5 h6 h7 k1 k2 fun j y e => ?_
    obtain ⟨k', e1, e2, e3⟩ := h8 j y e
    exact ⟨k', e1, Nat.lt_of_lt_of_le e2 x.le, by rw [x.old k' e2]; exact e3⟩
theorem SRel.there (s : SRel W X κ σ st ρ H) {n : Nat} (h : n < st.nx) (e : (ρ n).1 = some a) : ∃ o, H a = some o := by
  obtain ⟨ob, _, r⟩ := s.get n h
  exact r.there e
def Asg.put (ρ : Asg) (n : Nat) (z : Option Addr × Addr) : Asg := fun m => if m = n then z else ρ m
theorem put_same {n : Nat} : (ρ.put n z) n = z := if_pos rfl
theorem put_ne {n m : Nat} (h : m ≠ n) : (ρ.put n z) m = ρ m := if_neg h
theorem noTbl_tabs {T : List (Addr × Str)} (t : LamX.Tabs T H) (hp : H p = none) : LamX.Tabs T (upd H p o) := t.ext fun b u q => by rw [upd_ne (ne_of_none q hp)]; exact q
/-- a new object -/
theorem ext_new (hp : H p = none) : Ext nx ρ H (nx + 1) (ρ.put nx (some p, 0)) (upd H p o) where
  le := Nat.le_succ _
  old := fun n h => put_ne (Nat.ne_of_lt h)
  new := fun n a h1 h2 h3 => by
    have e : n = nx := by omega
    subst e
    rw [put_same] at h3
    cases h3
    exact hp
  thr := fun b u q => ⟨u, by rw [upd_ne (ne_of_none q hp)]; exact q⟩
  fix := fun b u q _ => by rw [upd_ne (ne_of_none q hp)]; exact q
  frm := fun b u q _ _ => by rw [upd_ne (ne_of_none q hp)]; exact q
theorem SRel.new (s : SRel W X κ σ st ρ H) (hp : H p = none) (hn : st'.nx = st.nx + 1) (hl : st.nx ≤ 1000000) (hg : ∀ m, st'.get m = if m = st.nx then some ob else st.get m)
    (hr : RO W X κ σ (st.nx + 1) (ρ.put st.nx (some p, 0)) (upd H p o) st.nx ob (some p, 0)) : Ext st.nx ρ H st'.nx (ρ.put st.nx (some p, 0)) (upd H p o) ∧ SRel W X κ σ st' (ρ.put st.nx (some p, 0)) (upd H p o) := by
  have x : Ext st.nx ρ H st'.nx (ρ.put st.nx (some p, 0)) (upd H p o) := by rw [hn]; exact ext_new hp
  refine ⟨x, ⟨fun n h => ?_, fun m n a h1 h2 e1 e2 => ?_, noTbl_tabs s.tab hp, fun i m e => ?_, by omega⟩⟩
  · by_cases e : n = st.nx
    · subst e
      exact ⟨ob, by rw [hg, if_pos rfl], by rw [put_same, hn]; exact hr⟩
    · obtain ⟨ob', g, r⟩ := s.get n (by omega)
      refine ⟨ob', by rw [hg, if_neg e]; exact g, ?_⟩
      rw [put_ne e]
      exact r.mono x fun a o' _ q => by rw [upd_ne (ne_of_none q hp)]; exact q
  · by_cases em : m = st.nx <;> by_cases en : n = st.nx
    · rw [em, en]
    · rw [em, put_same] at e1
      rw [put_ne en] at e2
      cases e1
      obtain ⟨u, q⟩ := s.there (by omega) e2
      rw [hp] at q; cases q
    · rw [en, put_same] at e2
      rw [put_ne em] at e1
      cases e2
      obtain ⟨u, q⟩ := s.there (by omega) e1
      rw [hp] at q; cases q
    · rw [put_ne em] at e1
      rw [put_ne en] at e2
      exact s.inj m n a (by omega) (by omega) e1 e2
  · obtain ⟨h1, h2, y, h3⟩ := s.kap i m e
    have ne : m ≠ st.nx := by omega
    exact ⟨by omega, by rw [put_ne ne]; exact h2, y, by rw [put_ne ne]; exact h3⟩
/-- an object is changed -/
theorem SRel.chg {n : Nat} (s : SRel W X κ σ st ρ H) (h : n < st.nx) (e : (ρ n).1 = some a) (hm : ∀ u, H a = some u → ¬ Fix u ∧ NoTbl u)
    (hr : RO W X κ σ st.nx ρ (upd H a o) n ob (ρ n)) (hc : ∀ v, ob ≠ .cel v) : Ext st.nx ρ H (st.set n ob).nx ρ (upd H a o) ∧ SRel W X κ σ (st.set n ob) ρ (upd H a o) := by
  have few := s.few
  have x : Ext st.nx ρ H st.nx ρ (upd H a o) := {
    le := Nat.le_refl _
    old := fun _ _ => rfl
    new := fun n' _ h1 h2 => absurd h2 (Nat.not_lt.mpr h1)
    thr := fun b u q => by
      by_cases hb : b = a
      · subst hb; exact ⟨o, upd_same⟩
      · exact ⟨u, by rw [upd_ne hb]; exact q⟩
    fix := fun b u q f => by
      have hb : b ≠ a := fun z => by subst z; exact (hm _ q).1 f
      rw [upd_ne hb]; exact q
    frm := fun b u q k _ => by
      have hb : b ≠ a := fun z => by subst z; exact k n h e
      rw [upd_ne hb]; exact q }
  refine ⟨x, ⟨fun m hm' => ?_, s.inj, fun q hq => ?_, fun i m ek => ?_, few⟩⟩
  · by_cases em : m = n
    · subst em
      exact ⟨ob, by rw [St.get_set (by omega), if_pos rfl], hr⟩
    · obtain ⟨ob', g, r⟩ := s.get m hm'
      refine ⟨ob', by rw [St.get_set (by omega), if_neg em]; exact g, r.mono x fun b u hb q => ?_⟩
      have nb : b ≠ a := fun z => em (s.inj m n a hm' h (by rw [← z]; exact hb) e)
      rw [upd_ne nb]; exact q
  · obtain ⟨ps, h1, h2, h3⟩ := s.tab q hq
    have n1 : q.1 ≠ a := fun z => by
      rw [z] at h1
      exact (hm _ h1).2
    refine ⟨ps, by rw [upd_ne n1]; exact h1, h2, fun pos cv hcv => ?_⟩
    obtain ⟨c, e1, e2⟩ := h3 pos cv hcv
    exact ⟨c, e1, x.fix _ _ e2 trivial⟩
  · exact s.kap i m ek
end
end MX
end
section
set_option Elab.async false
set_option linter.all false
set_option autoImplicit false
set_option maxRecDepth 100000
set_option maxHeartbeats 4000000
namespace MX
open PySem PySem.Spec PyProof.Rows L2

/-- where one stands: the context, the frame's cells, what is wished of exceptions -/
structure Jx where
  X : Cx
  κ : Fm
  Wx : WX

section
variable (W : Wd)
def ExcR (nx : Nat) (ρ : Asg) (H : Hp) : List (Nat × D) → Option Addr → Prop
  | [], _ => True
  | [(f, d)], dd => ∃ (dx : Addr) (v : V), dd = some dx ∧ H dx = some (.xd [(nmAt W.at_ f, v)]) ∧ W.RD nx ρ H d v
  | _ :: _ :: _, _ => False
abbrev Rl (α β : Type) := Nat → Asg → Hp → α → β → Prop
abbrev rD : Rl D V := W.RD
abbrev rDs : Rl (List D) (List V) := W.RDs
def rB : Rl Bool Bool := fun _ _ _ a b => a = b
variable (J : Jx)
def Post {α β : Type} (σ : L2.St) (nx : Nat) (ρ : Asg) (H : Hp) (rl : Rl α β) (Q : β → Hp → Prop) : R α → Prop
  | .ok a st' => ∀ (ρ' : Asg) (H' : Hp) (b : β), Ext nx ρ H st'.nx ρ' H' → SRel W J.X J.κ σ st' ρ' H' → rl st'.nx ρ' H' a b → Q b H'
  | .exc c fs st' => ∀ (ρ' : Asg) (H' : Hp) (dd : Option Addr), Ext nx ρ H st'.nx ρ' H' → SRel W J.X J.κ σ st' ρ' H' → ExcR W st'.nx ρ' H' fs dd → J.Wx (.ref (W.ad c)) dd σ H'
  | .bad => False
/-- the reading of what the interpreter does -/
def sem {α β : Type} (rl : Rl α β) (f : Sg → St → R α) : L2.St → Hp → (β → Hp → Prop) → Prop := fun σ H Q =>
  ∃ σd st ρ, LRel W σd σ st.nx ρ H ∧ SRel W J.X J.κ σ st ρ H ∧ Post W J σ st.nx ρ H rl Q (f σd st)
end
section
variable {W : Wd} {J : Jx} {α β γ δ : Type} {σ : L2.St} {nx nx' : Nat} {ρ ρ' : Asg} {H H' : Hp} {rl : Rl α β} {rl2 : Rl γ δ} {Q Q' : β → Hp → Prop} {st st' : St}
theorem ExcR.mono {fs : List (Nat × D)} {dd : Option Addr} (x : Ext nx ρ H nx' ρ' H') (h : ExcR W nx ρ H fs dd) : ExcR W nx' ρ' H' fs dd := by
  match fs, h with
  | [], _ => exact trivial
  | [(f, d)], ⟨dx, v, e, h1, h2⟩ => exact ⟨dx, v, e, x.fix _ _ h1 trivial, h2.mono x⟩
theorem Post.shift {r : R α} (x : Ext nx ρ H nx' ρ' H') (p : Post W J σ nx ρ H rl Q r) : Post W J σ nx' ρ' H' rl Q r := by
  cases r with
  | ok a st' => exact fun ρ'' H'' b y s r => p ρ'' H'' b (x.trans y) s r
  | exc c fs st' => exact fun ρ'' H'' dd y s r => p ρ'' H'' dd (x.trans y) s r
  | bad => exact p
theorem Post.mono {r : R α} (p : Post W J σ nx ρ H rl Q r) (h : ∀ b H', Q b H' → Q' b H') : Post W J σ nx ρ H rl Q' r := by
  cases r with
  | ok a st' => exact fun ρ'' H'' b y s r => h _ _ (p ρ'' H'' b y s r)
  | exc c fs st' => exact p
  | bad => exact p
/-- what is known behind a first step -/
structure Aft (W : Wd) (J : Jx) {α β γ δ : Type} (σ : L2.St) (nx : Nat) (ρ : Asg) (H : Hp) (rl : Rl α β) (rl2 : Rl γ δ) (Q : δ → Hp → Prop) (f : α → St → R γ) (b : β) (H' : Hp) : Prop where
  ex : ∃ (a : α) (st' : St) (ρ' : Asg), Ext nx ρ H st'.nx ρ' H' ∧ SRel W J.X J.κ σ st' ρ' H' ∧ rl st'.nx ρ' H' a b ∧ Post W J σ st'.nx ρ' H' rl2 Q (f a st')
theorem Post.bind {Q : δ → Hp → Prop} {r : R α} {f : α → St → R γ} (p : Post W J σ nx ρ H rl2 Q (r.bind f)) : Post W J σ nx ρ H rl (Aft W J σ nx ρ H rl rl2 Q f) r := by
  cases r with
  | ok a st' => exact fun ρ' H' b x s r => ⟨a, st', ρ', x, s, r, Post.shift x p⟩
  | exc c fs st' => exact p
  | bad => exact p
/-- an answer at once -/
theorem Post.now {a : α} {b : β} (p : Post W J σ st.nx ρ H rl Q (.ok a st)) (s : SRel W J.X J.κ σ st ρ H) (r : rl st.nx ρ H a b) : Q b H := p ρ H b .refl s r
theorem _root_.L2.PE.imp {X : Cx} {e : Expr} {t t' : TE} (h : PE X e t) (k : ∀ σ H Q, t' σ H Q → t σ H Q) : PE X e t' := ⟨fun pins s σ H Q I q => h.run pins s σ H Q I (k _ _ _ q)⟩
theorem _root_.L2.PT.imp {X : Cx} {e : Expr} {t t' : TT} (h : PT X e t) (k : ∀ σ H Q, t' σ H Q → t σ H Q) : PT X e t' := ⟨fun pins s σ H Q I q => h.run pins s σ H Q I (k _ _ _ q)⟩
theorem _root_.L2.PW.imp {X : Cx} {e : Expr} {t t' : TT} (h : PW X e t) (k : ∀ σ H Q, t' σ H Q → t σ H Q) : PW X e t' := ⟨fun wh pins s σ H Q I q => h.run wh pins s σ H Q I (k _ _ _ q)⟩
theorem _root_.L2.PA.imp {X : Cx} {e : List Expr} {t t' : TA} (h : PA X e t) (k : ∀ σ H Q, t' σ H Q → t σ H Q) : PA X e t' := ⟨fun pos pins s σ H Q I q => h.run pos pins s σ H Q I (k _ _ _ q)⟩
theorem OpR.imp {X : Cx} {f : Value → Value → Sem Value} {r r' : R2} (h : OpR X f r) (k : ∀ x y H Q, r' x y H Q → r x y H Q) : OpR X f r' := fun pins s σ H x y v u Q I rx ry q => h pins s σ H x y v u Q I rx ry (k _ _ _ _ q)
end
theorem R.bind_assoc {α β γ : Type} (r : R α) (f : α → St → R β) (g : β → St → R γ) : (r.bind f).bind g = r.bind fun a st => (f a st).bind g := by cases r <;> rfl
/-- two in a row -/
theorem sem2 {W : Wd} {J : Jx} {f g : Sg → St → R D} {k : D → D → St → R D} {σ : L2.St} {H : Hp} {Q : VK} {r : R2}
    (h : sem W J (rD W) (fun σd st => (f σd st).bind fun x st => (g σd st).bind fun y st => k x y st) σ H Q)
    (leaf : ∀ (d e : D) (v u : V) (st : St) (ρ : Asg) (H : Hp), SRel W J.X J.κ σ st ρ H → W.RD st.nx ρ H d v → W.RD st.nx ρ H e u → Post W J σ st.nx ρ H (rD W) Q (k d e st) → r v u H Q) :
    tOp r (sem W J (rD W) f) (sem W J (rD W) g) σ H Q := by
  obtain ⟨σd, st, ρ, l, s, p⟩ := h
  refine ⟨σd, st, ρ, l, s, (Post.bind (rl := rD W) p).mono fun v H1 ⟨d, st1, ρ1, x1, s1, r1, p1⟩ => ?_⟩
  refine ⟨σd, st1, ρ1, l.mono x1, s1, (Post.bind (rl := rD W) p1).mono fun u H2 ⟨e, st2, ρ2, x2, s2, r2, p2⟩ => ?_⟩
  exact leaf d e v u st2 ρ2 H2 s2 (RD.mono x2 r1) r2 p2
theorem sem1 {W : Wd} {J : Jx} {α β : Type} {rl : Rl α β} {f : Sg → St → R D} {k : D → St → R α} {σ : L2.St} {H : Hp} {Q : β → Hp → Prop} {r : V → Hp → (β → Hp → Prop) → Prop}
    (h : sem W J rl (fun σd st => (f σd st).bind k) σ H Q)
    (leaf : ∀ (d : D) (v : V) (st : St) (ρ : Asg) (H : Hp), SRel W J.X J.κ σ st ρ H → W.RD st.nx ρ H d v → Post W J σ st.nx ρ H rl Q (k d st) → r v H Q) :
    sem W J (rD W) f σ H (fun v H1 => r v H1 Q) := by
  obtain ⟨σd, st, ρ, l, s, p⟩ := h
  exact ⟨σd, st, ρ, l, s, (Post.bind (rl := rD W) p).mono fun v H1 ⟨d, st1, ρ1, x1, s1, r1, p1⟩ => leaf d v st1 ρ1 H1 s1 r1 p1⟩
end MX
end
section
set_option Elab.async false
set_option linter.all false
set_option autoImplicit false
set_option maxRecDepth 100000
set_option maxHeartbeats 4000000
/-! tuple * int, where it is no new tuple or an empty one. -/
namespace MX
open PySem PySem.Spec PyProof.Rows L2
theorem tmul_same {l : Addr} {items : Array Value} {n : Nat} {dd : Option Addr} {sl : Array (Option Value)} {x : Int} {u : Tok} (g0 : (decide (x < -(2 ^ 63)) || decide (x ≥ 2 ^ 63)) = false) (g1 : (items.isEmpty || x == 1) = true) :
    Meets (Builtin.«tuple.__mul__» ⟨[.ref l, .int x u], []⟩) (fun _ R s => s.heap.get? l = some { cls := .type "tuple", dict := dd, data := .seq items n, slots := sl } ∧ R (.ok (.ret (Value.ref l))) s) :=
  .of_wp fun prog w A R s h => by
    obtain ⟨hp, g, d, tk, os⟩ := s
    obtain ⟨hl, h⟩ := h
    have ix := AutoSeq1.idx_int
    wp_walk using wpAny_loadPart' hl
    repeat (first
      | (refine wpAny_ite_false (decide_eq_false (by rw [g0]; exact Bool.false_ne_true)) ?_; wp_walk using wpAny_loadPart' hl)
      | (refine wpAny_ite_true (decide_eq_true (by rw [g1])) ?_; wp_walk using wpAny_loadPart' hl))
    exact ⟨_, rfl, h⟩
theorem tmul_none {l : Addr} {items : Array Value} {n : Nat} {dd : Option Addr} {sl : Array (Option Value)} {x : Int} {u : Tok} (g0 : (decide (x < -(2 ^ 63)) || decide (x ≥ 2 ^ 63)) = false) (g1 : (items.isEmpty || x == 1) = false) (g2 : (decide (x ≤ 0) || items.isEmpty) = true) :
    Meets (Builtin.«tuple.__mul__» ⟨[.ref l, .int x u], []⟩) (fun _ R s => s.heap.get? l = some { cls := .type "tuple", dict := dd, data := .seq items n, slots := sl } ∧
      R (.ok (.ret (Value.ref s.heap.objs.size))) { s with heap := s.heap.push { cls := Value.type "tuple", data := Data.seq #[] }, toks := s.toks }) :=
  .of_wp fun prog w A R s h => by
    obtain ⟨hp, g, d, tk, os⟩ := s
    obtain ⟨hl, h⟩ := h
    have ix := AutoSeq1.idx_int
    wp_walk using wpAny_loadPart' hl
    repeat (first
      | (refine wpAny_ite_false (decide_eq_false (by rw [g0]; exact Bool.false_ne_true)) ?_; wp_walk using wpAny_loadPart' hl)
      | (refine wpAny_ite_false (decide_eq_false (by rw [g1]; exact Bool.false_ne_true)) ?_; wp_walk using wpAny_loadPart' hl)
      | (refine wpAny_ite_true (decide_eq_true (by rw [g2])) ?_; wp_walk using wpAny_loadPart' hl))
    exact ⟨_, rfl, h⟩
theorem op_repOne {X : Cx} : OpR X (binaryOp .Mult) (fun x y H Q => ∃ (l : Addr) (k : Int) (xs : List V), x = .ref l ∧ y = .int k ∧ SqT X.K H l xs ∧ (xs = [] ∨ k = 1) ∧ -(2 ^ 63) ≤ k ∧ k < 2 ^ 63 ∧ Q (.ref l) H) := by
  intro pins s σ H x y v u Q I rx ry ⟨l, k, xs, ex, ey, hT, hk, h1, h2, q⟩
  subst ex ey
  cases rx
  obtain ⟨t, rfl⟩ := ry
  obtain ⟨its, r, ⟨⟨cls, dd, data, sl⟩, ho, hc, n, hd⟩, hs⟩ := I.tuple hT
  simp only at hc hd
  subst hc hd
  have g0 : (decide (k < -(2 ^ 63)) || decide (k ≥ 2 ^ 63)) = false := by rw [decide_eq_false (by omega), decide_eq_false (by omega)]; rfl
  have g1 : (its.toArray.isEmpty || k == 1) = true := by
    rcases hk with e | e
    · subst e
      cases r
      rfl
    · subst e
      rw [show ((1 : Int) == 1) = true from rfl, Bool.or_true]
  exact wpAny_binaryOp_repeat_ref (T := "tuple") (U := "int") (by decide) ⟨_, ho, rfl⟩ (fun s' => typeIs_int s' k t) noFill_tuple_mul F.fills_int_mul F.slot_int_rmul repeat_tuple F.slot_int_index.lookup
    (call_meets F.slot_int_rmul (typeIs_int s k t) F.entry_int_rmul (F.args_int_rmul_2 _ _) (int_rmul_tuple k t l its.toArray n dd sl)
      ⟨ho, rfl, ⟨_, ho, rfl⟩, call_meets F.slot_tuple_mul ⟨_, ho, rfl⟩ F.entry_tuple_mul (F.args_tuple_mul_2 _ _) (tmul_same g0 g1) ⟨ho, .ref l, H, I, rfl, q⟩⟩)
theorem op_repNone {X : Cx} : OpR X (binaryOp .Mult) (fun x y H Q => ∃ (l : Addr) (k : Int) (xs : List V), x = .ref l ∧ y = .int k ∧ SqT X.K H l xs ∧ xs ≠ [] ∧ k ≤ 0 ∧ -(2 ^ 63) ≤ k ∧ ∀ p, H p = none → Q (.ref p) (upd H p (.tup []))) := by
  intro pins s σ H x y v u Q I rx ry ⟨l, k, xs, ex, ey, hT, hne, h1, h2, q⟩
  subst ex ey
  cases rx
  obtain ⟨t, rfl⟩ := ry
  obtain ⟨its, r, ⟨⟨cls, dd, data, sl⟩, ho, hc, n, hd⟩, hs⟩ := I.tuple hT
  simp only at hc hd
  subst hc hd
  have hi : its.toArray.isEmpty = false := by
    cases r with
    | nil => exact absurd rfl hne
    | cons _ _ => rfl
  have g0 : (decide (k < -(2 ^ 63)) || decide (k ≥ 2 ^ 63)) = false := by rw [decide_eq_false (by omega), decide_eq_false (by omega)]; rfl
  have g1 : (its.toArray.isEmpty || k == 1) = false := by rw [hi, Bool.false_or]; exact beq_eq_false_iff_ne.mpr (by omega)
  have g2 : (decide (k ≤ 0) || its.toArray.isEmpty) = true := by rw [decide_eq_true h1]; rfl
  refine wpAny_binaryOp_repeat_ref (T := "tuple") (U := "int") (by decide) ⟨_, ho, rfl⟩ (fun s' => typeIs_int s' k t) noFill_tuple_mul F.fills_int_mul F.slot_int_rmul repeat_tuple F.slot_int_index.lookup
    (call_meets F.slot_int_rmul (typeIs_int s k t) F.entry_int_rmul (F.args_int_rmul_2 _ _) (int_rmul_tuple k t l its.toArray n dd sl)
      ⟨ho, rfl, ⟨_, ho, rfl⟩, call_meets F.slot_tuple_mul ⟨_, ho, rfl⟩ F.entry_tuple_mul (F.args_tuple_mul_2 _ _) (tmul_none g0 g1 g2) ⟨ho, ?_⟩⟩)
  refine ⟨.ref s.heap.objs.size, _, I.laid (t' := s.toks) (o := .tup []) (fun b ob z => Heap.get?_push_of_some _ z) (Nat.le_refl _) ?_, rfl, q _ (I.hok.fresh (Nat.le_refl _))⟩
  exact ⟨Nat.zero_le _, [], .nil, IsTup.new _ _⟩
theorem op_powW {X : Cx} : OpR X (binaryOp .Pow) (rI (fun i j => 0 ≤ j ∧ (Builtin.Int.intBits i : Int) * j ≤ 2 ^ 27) fun i j => .int (i ^ j.toNat)) := opI fun _ _ _ _ _ _ _ hc q => pow_int hc.1 hc.2 q
end MX
end
section
set_option Elab.async false
set_option linter.all false
set_option autoImplicit false
set_option maxRecDepth 100000
set_option maxHeartbeats 4000000
/-! Operators by values. -/
namespace MX
open PySem PySem.Spec PyProof.Rows L2

section
variable {W : Wd} {J : Jx} {σ : L2.St} {st : St} {ρ : Asg} {H : Hp} {Q : VK} {n : Nat} {d e : D} {v u : V} {xs ys : List D}
theorem SRel.at (s : SRel W J.X J.κ σ st ρ H) {a : Addr} {ob : Ob} (h : n < st.nx) (e : (ρ n).1 = some a) (g : st.get n = some ob) : ∃ b, RO W J.X J.κ σ st.nx ρ H n ob (some a, b) := by
  obtain ⟨ob', g', r⟩ := s.get n h
  rw [g] at g'
  cases g'
  cases hz : ρ n with
  | mk x b =>
    rw [hz] at r e
    have e : x = some a := e
    subst e
    exact ⟨b, r⟩
theorem seq_rel (s : SRel W J.X J.κ σ st ρ H) (h : seqOf st d = some xs) (r : W.RD st.nx ρ H d v) : ∃ (a : Addr) (vs : List V), v = .ref a ∧ W.RDs st.nx ρ H xs vs ∧ (SqL W.K H a vs ∨ SqT W.K H a vs) := by
  cases r with
  | tup h1 h2 =>
    cases h
    exact ⟨_, _, rfl, h2, .inr h1⟩
  | @loc m a h1 h2 =>
    have h' : (match st.get m with | some (.lst xs) | some (.frz xs) => some xs | _ => none) = some xs := h
    cases g : st.get m with
    | none => rw [g] at h'; cases h'
    | some ob =>
      rw [g] at h'
      obtain ⟨b, ro⟩ := s.at h1 h2 g
      cases ro with
      | lst e1 e2 => cases h'; exact ⟨_, _, rfl, e2, .inl (.inl (.inl e1))⟩
      | frz e1 e2 => cases h'; exact ⟨_, _, rfl, e2, .inl (.inl (.inr ⟨_, e1⟩))⟩
      | ins _ _ => cases h'
      | dice _ _ => cases h'
      | scr _ _ _ _ => cases h'
      | lam _ _ _ _ _ _ _ _ _ _ => cases h'
  | non => cases h
  | bl _ => cases h
  | int _ => cases h
  | str _ => cases h
  | fn _ => cases h
  | cho _ _ _ => cases h
theorem nrm_rel (s : SRel W J.X J.κ σ st ρ H) (r : W.RD st.nx ρ H d v) : W.RD st.nx ρ H (nrm st d) v := by
  cases r with
  | @cho n ds d v hn hd rd =>
    have e : nrm st (.cho n ds) = (match st.get n with
      | some (.cho _ (some i)) => ds.getD i (.cho n ds)
      | _ => .cho n ds) := rfl
    rw [e]
    obtain ⟨ob, g, ro⟩ := s.get n hn
    split
    · rename_i k i e2
      rw [g] at e2
      cases e2
      cases hz : ρ n with
      | mk z b =>
        rw [hz] at ro
        cases ro with
        | cho h1 h2 =>
          have eb := h2 i rfl
          rw [hz] at hd
          have hd : ds[b]? = some d := hd
          rw [eb] at hd
          rw [List.getD_eq_getElem?_getD, hd]
          exact rd
    · exact .cho hn hd rd
  | non => exact .non
  | bl b => exact .bl b
  | int i => exact .int i
  | str x => exact .str x
  | tup h r => exact .tup h r
  | loc h e => exact .loc h e
  | fn g => exact .fn g
/-- a choice is one of its numbers -/
theorem SRel.known {k : Nat} (s : SRel W J.X J.κ σ st ρ H) (hn : n < st.nx) (g : st.get n = some (.cho k none)) : (ρ n).2 < k ∧ SRel W J.X J.κ σ (st.set n (.cho k (some (ρ n).2))) ρ H := by
  obtain ⟨ob, g', ro⟩ := s.get n hn
  rw [g] at g'
  cases g'
  have few := s.few
  cases hz : ρ n with
  | mk z b =>
    rw [hz] at ro
    cases ro with
    | cho h1 h2 =>
      refine ⟨h1, ⟨fun m hm => ?_, s.inj, s.tab, fun i m e => ?_, few⟩⟩
      · by_cases em : m = n
        · subst em
          refine ⟨_, by rw [St.get_set (by omega), if_pos rfl], ?_⟩
          rw [hz]
          exact .cho h1 fun i e => by cases e; rfl
        · obtain ⟨ob, g2, r2⟩ := s.get m hm
          exact ⟨ob, by rw [St.get_set (by omega), if_neg em]; exact g2, r2⟩
      · exact s.kap i m e
theorem SRel.forget {k i : Nat} (hn : n < st.nx) (few : st.nx ≤ 1000001) (g : st.get n = some (.cho k none)) (s : SRel W J.X J.κ σ (st.set n (.cho k (some i))) ρ H) : SRel W J.X J.κ σ st ρ H := by
  refine ⟨fun m hm => ?_, s.inj, s.tab, fun j m e => ?_, few⟩
  · obtain ⟨ob, g2, r2⟩ := s.get m hm
    rw [St.get_set (by omega)] at g2
    by_cases em : m = n
    · subst em
      rw [if_pos rfl] at g2
      cases g2
      refine ⟨_, g, ?_⟩
      cases hz : ρ m with
      | mk z b =>
        rw [hz] at r2
        cases r2 with
        | cho h1 h2 => exact .cho h1 fun i e => nomatch e
    · rw [if_neg em] at g2
      exact ⟨ob, g2, r2⟩
  · exact s.kap j m e
/-- a new list as an answer -/
theorem post_lst {ds : List D} {vs : List V} (s : SRel W J.X J.κ σ st ρ H) (r : W.RDs st.nx ρ H ds vs) (p : Post W J σ st.nx ρ H (rD W) Q (alloc (.lst ds) st)) : ∀ q, H q = none → Q (.ref q) (upd H q (.lst vs)) := by
  intro q hq
  rcases alloc_cases (.lst ds) st with e | ⟨st', e, h1, h2, h3⟩
  · rw [e] at p; exact p.elim
  · rw [e] at p
    have xr : RDs W.K W.ad (st.nx + 1) (ρ.put st.nx (some q, 0)) (upd H q (.lst vs)) ds vs := RDs.mono (ext_new hq) r
    obtain ⟨x, s'⟩ := s.new (p := q) (o := .lst vs) (ob := .lst ds) hq h1 h2 h3 (.lst upd_same xr)
    exact p _ _ _ x s' (.loc (by rw [h1]; exact Nat.lt_succ_self _) (by rw [put_same]))
theorem post_tup {ds : List D} {vs : List V} (s : SRel W J.X J.κ σ st ρ H) (r : W.RDs st.nx ρ H ds vs) (p : Post W J σ st.nx ρ H (rD W) Q (.ok (.tup ds) st)) : ∀ q, H q = none → Q (.ref q) (upd H q (.tup vs)) := by
  intro q hq
  have x : Ext st.nx ρ H st.nx ρ (upd H q (.tup vs)) := ⟨Nat.le_refl _, fun _ _ => rfl, fun m _ h1 h2 => absurd h2 (Nat.not_lt.mpr h1), fun b o h => ⟨o, by rw [upd_ne (ne_of_none h hq)]; exact h⟩, fun b o h _ => by rw [upd_ne (ne_of_none h hq)]; exact h, fun b o h _ _ => by rw [upd_ne (ne_of_none h hq)]; exact h⟩
  have s' : SRel W J.X J.κ σ st ρ (upd H q (.tup vs)) := ⟨fun m hm => by
    obtain ⟨ob, g, ro⟩ := s.get m hm
    exact ⟨ob, g, ro.mono x fun a o _ h => by rw [upd_ne (ne_of_none h hq)]; exact h⟩, s.inj, noTbl_tabs s.tab hq, s.kap, s.few⟩
  exact p _ _ _ x s' (.tup (.inl (.inl upd_same)) (RDs.mono x r))
theorem rds_rep {vs : List V} (r : W.RDs st.nx ρ H xs vs) : ∀ k : Nat, W.RDs st.nx ρ H (List.replicate k xs).flatten (List.replicate k vs).flatten
  | 0 => .nil
  | k + 1 => by
    rw [List.replicate_succ, List.replicate_succ, List.flatten_cons, List.flatten_cons]
    exact RDs.append r (rds_rep r k)
theorem cond_post {α β : Type} {rl : Rl α β} {Q : β → Hp → Prop} {b : Bool} {x : R α} (p : Post W J σ st.nx ρ H rl Q (cond b x .bad)) : b = true ∧ Post W J σ st.nx ρ H rl Q x := by
  cases b with
  | true => exact ⟨rfl, p⟩
  | false => exact p.elim
/-- the readings of the operators -/
def rBin (W : Wd) (J : Jx) (o : Op2) : R2 := fun v u H Q => ∃ (σ : L2.St) (st : St) (ρ : Asg) (d e : D), SRel W J.X J.κ σ st ρ H ∧ W.RD st.nx ρ H d v ∧ W.RD st.nx ρ H e u ∧ Post W J σ st.nx ρ H (rD W) Q (binop o d e st)
def rCm (W : Wd) (J : Jx) (o : Cm) : R2 := fun v u H Q => ∃ (σ : L2.St) (st : St) (ρ : Asg) (d e : D), SRel W J.X J.κ σ st ρ H ∧ W.RD st.nx ρ H d v ∧ W.RD st.nx ρ H e u ∧ Post W J σ st.nx ρ H (rD W) Q (cmpop o d e st)
theorem line_of {n : Nat} (h : n ≤ 100000) : n ≤ sizeLine := by rw [sizeLine_eq]; omega
theorem str_size (s : List Nat) : (⟨s.toArray⟩ : Str).length = s.length := by show s.toArray.size = _; simp
variable (hK : J.X.K = W.K)
include hK
omit hK in
theorem catAll_get {x : List Nat} : ∀ {ds es : List D} {i : Nat} {d : D}, catAll x ds = some es → ds[i]? = some d → ∃ y, d = .str y ∧ x.length + y.length ≤ 100000 ∧ es[i]? = some (.str (x ++ y))
  | [], _, _, _, _, e => by simp at e
  | .str y :: r, es, i, d, h, e => by
    have h : cond (Nat.ble (x.length + y.length) 100000) ((catAll x r).map (.str (x ++ y) :: ·)) none = some es := h
    cases hb : Nat.ble (x.length + y.length) 100000 with
    | false => rw [hb] at h; cases h
    | true =>
      rw [hb] at h
      have h : (catAll x r).map (.str (x ++ y) :: ·) = some es := h
      cases hr : catAll x r with
      | none => rw [hr] at h; cases h
      | some rs =>
        rw [hr] at h
        cases h
        cases i with
        | zero => simp at e; subst e; exact ⟨y, rfl, Nat.le_of_ble_eq_true hb, by simp⟩
        | succ i =>
          obtain ⟨z, z1, z2, z3⟩ := catAll_get hr (by simpa using e)
          exact ⟨z, z1, z2, by simpa using z3⟩
  | .non :: _, _, _, _, h, _ => by cases h
  | .bl _ :: _, _, _, _, h, _ => by cases h
  | .int _ :: _, _, _, _, h, _ => by cases h
  | .tup _ :: _, _, _, _, h, _ => by cases h
  | .loc _ :: _, _, _, _, h, _ => by cases h
  | .fn _ :: _, _, _, _, h, _ => by cases h
  | .any :: _, _, _, _, h, _ => by cases h
  | .cho _ _ :: _, _, _, _, h, _ => by cases h
theorem o_add : OpR J.X (binaryOp .Add) (rBin W J .add) := by
  refine OpR.imp (OpR.or op_add (OpR.or op_add_str (OpR.or op_catA op_cat))) fun x y H Q ⟨σ, st, ρ, d, e, s, r1, r2, p⟩ => ?_
  rw [hK]
  cases r1 with
  | int i =>
    cases r2 with
    | int j => exact .inl ⟨i, j, rfl, rfl, p.now s (.int _)⟩
    | _ => exact p.elim
  | str a =>
    cases r2 with
    | str b =>
      obtain ⟨hb, p⟩ := cond_post p
      refine .inr (.inl ⟨_, _, rfl, rfl, ?_, ?_⟩)
      · rw [str_size, str_size]; exact line_of (Nat.le_of_ble_eq_true hb)
      · have e : ((⟨a.toArray⟩ : Str) ++ (⟨b.toArray⟩ : Str)) = ⟨(a ++ b).toArray⟩ := by
          show Str.append _ _ = _
          unfold Str.append
          simp
        rw [e]
        exact p.now s (.str _)
    | @cho n ds d v hn hd rd =>
      have p : Post W J σ st.nx ρ H (rD W) Q (match catAll a ds with | some es => .ok (.cho n es) st | none => .bad) := p
      cases hc : catAll a ds with
      | none => rw [hc] at p; exact p.elim
      | some es =>
        rw [hc] at p
        obtain ⟨y, rfl, hl, he⟩ := catAll_get hc hd
        cases rd with
        | str b =>
          refine .inr (.inl ⟨_, _, rfl, rfl, ?_, ?_⟩)
          · rw [str_size, str_size]; exact line_of hl
          · have e : ((⟨a.toArray⟩ : Str) ++ (⟨y.toArray⟩ : Str)) = ⟨(a ++ y).toArray⟩ := by
              show Str.append _ _ = _
              unfold Str.append
              simp
            rw [e]
            exact p.now s (.cho hn he (.str _))
    | _ => exact p.elim
  | @tup ds a vs h1 q1 =>
    cases r2 with
    | @tup es b us h2 q2 =>
      obtain ⟨hb, p⟩ := cond_post p
      refine .inr (.inr (.inl ⟨a, b, vs, us, rfl, rfl, h1, h2, ?_, fun e => ?_, fun e1 e2 => ?_, fun e1 e2 => ?_⟩))
      · rw [← q1.length, ← q2.length]; exact line_of (Nat.le_of_ble_eq_true hb)
      · subst e
        cases q1
        exact p.now s (.tup h2 q2)
      · subst e2
        cases q2
        rw [List.append_nil] at p
        exact p.now s (.tup h1 q1)
      · exact post_tup s (RDs.append q1 q2) p
    | _ => exact p.elim
  | @loc m a h1 e1 =>
    cases r2 with
    | @loc k b h2 e2 =>
      have p : Post W J σ st.nx ρ H (rD W) Q (match st.get m, st.get k with
        | some (.lst x), some (.lst y) => cond (Nat.ble (x.length + y.length) 100000) (alloc (.lst (x ++ y)) st) .bad
        | _, _ => .bad) := p
      cases g1 : st.get m with
      | none => rw [g1] at p; exact p.elim
      | some o1 =>
        cases g2 : st.get k with
        | none => rw [g1, g2] at p; cases o1 <;> exact p.elim
        | some o2 =>
          rw [g1, g2] at p
          obtain ⟨b1, ro1⟩ := s.at h1 e1 g1
          obtain ⟨b2, ro2⟩ := s.at h2 e2 g2
          cases ro1 with
          | lst f1 q1 =>
            cases ro2 with
            | lst f2 q2 =>
              obtain ⟨hb, p⟩ := cond_post p
              refine .inr (.inr (.inr ⟨a, b, _, _, rfl, rfl, f1, f2, ?_, post_lst s (RDs.append q1 q2) p⟩))
              rw [← q1.length, ← q2.length]; exact line_of (Nat.le_of_ble_eq_true hb)
            | _ => exact p.elim
          | _ => exact p.elim
    | _ => exact p.elim
  | non => cases r2 <;> exact p.elim
  | bl _ => cases r2 <;> exact p.elim
  | fn _ => cases r2 <;> exact p.elim
  | cho _ _ _ => cases r2 <;> exact p.elim
theorem o_sub : OpR J.X (binaryOp .Sub) (rBin W J .sub) := by
  refine OpR.imp op_sub fun x y H Q ⟨σ, st, ρ, d, e, s, r1, r2, p⟩ => ?_
  cases r1 with
  | int i =>
    cases r2 with
    | int j => exact ⟨i, j, rfl, rfl, p.now s (.int _)⟩
    | _ => exact p.elim
  | _ => cases r2 <;> exact p.elim
theorem o_fdiv : OpR J.X (binaryOp .FloorDiv) (rBin W J .fdiv) := by
  refine OpR.imp op_fdivW fun x y H Q ⟨σ, st, ρ, d, e, s, r1, r2, p⟩ => ?_
  cases r1 with
  | int i =>
    cases r2 with
    | int j =>
      obtain ⟨hb, p⟩ := cond_post p
      rw [Bool.and_eq_true] at hb
      exact ⟨i, j, rfl, rfl, ⟨of_decide_eq_true hb.1, by have := Nat.le_of_ble_eq_true hb.2; omega⟩, p.now s (.int _)⟩
    | _ => exact p.elim
  | _ => cases r2 <;> exact p.elim
theorem o_mod : OpR J.X (binaryOp .Mod) (rBin W J .mod) := by
  refine OpR.imp op_mod fun x y H Q ⟨σ, st, ρ, d, e, s, r1, r2, p⟩ => ?_
  cases r1 with
  | int i =>
    cases r2 with
    | int j =>
      obtain ⟨hb, p⟩ := cond_post p
      exact ⟨i, j, rfl, rfl, of_decide_eq_true hb, p.now s (.int _)⟩
    | _ => exact p.elim
  | _ => cases r2 <;> exact p.elim
theorem bits_of_log {i : Int} : Builtin.Int.intBits i ≤ i.natAbs.log2 + 1 := by
  unfold Builtin.Int.intBits
  split <;> omega
theorem o_pow : OpR J.X (binaryOp .Pow) (rBin W J .pow) := by
  refine OpR.imp op_powW fun x y H Q ⟨σ, st, ρ, d, e, s, r1, r2, p⟩ => ?_
  cases r1 with
  | int i =>
    cases r2 with
    | int j =>
      obtain ⟨hb, p⟩ := cond_post p
      simp only [Bool.and_eq_true, decide_eq_true_eq] at hb
      obtain ⟨⟨h1, h2⟩, h3⟩ := hb
      have h3 := Nat.le_of_ble_eq_true h3
      refine ⟨i, j, rfl, rfl, ⟨h1, ?_⟩, p.now s (.int _)⟩
      have h4 := bits_of_log hK (i := i)
      have h5 : (Builtin.Int.intBits i : Int) ≤ 1001 := by omega
      have h6 : (Builtin.Int.intBits i : Int) * j ≤ 1001 * 1000 := Int.mul_le_mul h5 h2 h1 (by omega)
      omega
    | _ => exact p.elim
  | _ => cases r2 <;> exact p.elim
theorem o_mul : OpR J.X (binaryOp .Mult) (rBin W J .mul) := by
  refine OpR.imp (OpR.or op_mulW (OpR.or op_repT (OpR.or op_repOne (OpR.or op_repNone op_rep)))) fun x y H Q ⟨σ, st, ρ, d, e, s, r1, r2, p⟩ => ?_
  rw [hK]
  cases r1 with
  | int i =>
    cases r2 with
    | int j =>
      obtain ⟨hb, p⟩ := cond_post p
      refine .inl ⟨i, j, rfl, rfl, ?_, p.now s (.int _)⟩
      have := Nat.le_of_ble_eq_true hb
      unfold CMulW
      omega
    | _ => exact p.elim
  | @tup ds a vs h1 q1 =>
    cases r2 with
    | int k =>
      have p : Post W J σ st.nx ρ H (rD W) Q (cond (decide (k ≤ 1000) && decide (-1000 ≤ k) && Nat.ble ds.length 1000) (.ok (.tup (List.replicate k.toNat ds).flatten) st) .bad) := p
      obtain ⟨hb, p⟩ := cond_post p
      simp only [Bool.and_eq_true, decide_eq_true_eq] at hb
      obtain ⟨⟨k1, k2⟩, k3⟩ := hb
      have k3 := Nat.le_of_ble_eq_true k3
      have ln : vs.length ≤ 1000 := by rw [← q1.length]; exact k3
      by_cases e1 : vs = [] ∨ k = 1
      · refine .inr (.inr (.inl ⟨a, k, vs, rfl, rfl, h1, e1, by omega, by omega, ?_⟩))
        rcases e1 with e1 | e1
        · subst e1
          cases q1
          have z : ∀ m : Nat, (List.replicate m ([] : List D)).flatten = [] := fun m => by
            induction m with
            | zero => rfl
            | succ m ih => rw [List.replicate_succ, List.flatten_cons, ih]; rfl
          rw [z] at p
          exact p.now s (.tup h1 .nil)
        · subst e1
          have z : (List.replicate (1 : Int).toNat ds).flatten = ds := by
            show (ds ++ []) = ds
            rw [List.append_nil]
          rw [z] at p
          exact p.now s (.tup h1 q1)
      · have n1 : vs ≠ [] := fun e => e1 (.inl e)
        have n2 : k ≠ 1 := fun e => e1 (.inr e)
        by_cases e2 : k ≤ 0
        · refine .inr (.inr (.inr (.inl ⟨a, k, vs, rfl, rfl, h1, n1, e2, by omega, ?_⟩)))
          have z : k.toNat = 0 := by omega
          rw [z] at p
          exact post_tup s (ds := []) .nil p
        · exact .inr (.inl ⟨a, k, vs, rfl, rfl, h1, n1, by omega, k1, ln, post_tup s (rds_rep q1 _) p⟩)
    | _ => exact p.elim
  | @loc m a h1 e1 =>
    cases r2 with
    | int k =>
      have p : Post W J σ st.nx ρ H (rD W) Q (match st.get m with
        | some (.lst x) => cond (decide (k ≤ 1000) && decide (-1000 ≤ k) && Nat.ble x.length 1000) (alloc (.lst (List.replicate k.toNat x).flatten) st) .bad
        | _ => .bad) := p
      cases g1 : st.get m with
      | none => rw [g1] at p; exact p.elim
      | some o1 =>
        rw [g1] at p
        obtain ⟨b1, ro1⟩ := s.at h1 e1 g1
        cases ro1 with
        | lst f1 q1 =>
          obtain ⟨hb, p⟩ := cond_post p
          simp only [Bool.and_eq_true, decide_eq_true_eq] at hb
          obtain ⟨⟨k1, k2⟩, k3⟩ := hb
          have k3 := Nat.le_of_ble_eq_true k3
          refine .inr (.inr (.inr (.inr ⟨a, k, _, rfl, rfl, f1, by omega, by omega, ?_, post_lst s (rds_rep q1 _) p⟩)))
          rw [← q1.length, sizeLine_eq]
          have : k.toNat ≤ 1000 := by omega
          exact Nat.le_trans (Nat.mul_le_mul k3 this) (by omega)
        | _ => exact p.elim
    | _ => exact p.elim
  | non => cases r2 <;> exact p.elim
  | bl _ => cases r2 <;> exact p.elim
  | str _ => cases r2 <;> exact p.elim
  | fn _ => cases r2 <;> exact p.elim
  | cho _ _ _ => cases r2 <;> exact p.elim
end
end MX
end
section
set_option Elab.async false
set_option linter.all false
set_option autoImplicit false
set_option maxRecDepth 100000
set_option maxHeartbeats 4000000
/-! Comparisons by values. -/
namespace MX
open PySem PySem.Spec PyProof.Rows L2

mutual
/-- data as the library's -/
inductive TP (st : St) : D → PyData → Prop
  | non : TP st .non .none
  | bl (b : Bool) : TP st (.bl b) (.bool b)
  | int (i : Int) : TP st (.int i) (.int i)
  | str (s : List Nat) : TP st (.str s) (.str ⟨s.toArray⟩)
  | tup {ds : List D} {ps : List PyData} : TPs st ds ps → TP st (.tup ds) (.tuple ps)
  | lst {n : Nat} {ds : List D} {ps : List PyData} : st.get n = some (.lst ds) → TPs st ds ps → TP st (.loc n) (.list ps)
inductive TPs (st : St) : List D → List PyData → Prop
  | nil : TPs st [] []
  | cons {d : D} {ds : List D} {p : PyData} {ps : List PyData} : TP st (nrm st d) p → TPs st ds ps → TPs st (d :: ds) (p :: ps)
end
section
variable {W : Wd} {J : Jx} {σ : L2.St} {st : St} {ρ : Asg} {H : Hp} {Q : VK}
theorem str_ok {s : List Nat} (h : (s.all fun c => Nat.blt c 1114112) = true) : PyData.canLay0 (.str ⟨s.toArray⟩) = true := by
  show (s.toArray.all (fun c => decide (c < 0x110000))) = true
  simp only [List.all_toArray, List.all_eq_true, decide_eq_true_eq] at h ⊢
  intro c hc
  have := h c hc
  simpa [Nat.blt_eq] using this
mutual
theorem dat_TP : ∀ (n : Nat) (d : D), datD st n d = true → ∃ p, TP st (nrm st d) p ∧ PyData.canLay0 p = true ∧ PyData.depth p ≤ n
  | 0, _, h => by cases h
  | n + 1, d, h => by
    unfold datD at h
    generalize nrm st d = d at h ⊢
    cases d with
    | non => exact ⟨_, .non, rfl, Nat.zero_le _⟩
    | bl b => exact ⟨_, .bl b, rfl, Nat.zero_le _⟩
    | int i => exact ⟨_, .int i, rfl, Nat.zero_le _⟩
    | str s => exact ⟨_, .str s, str_ok h, Nat.zero_le _⟩
    | tup xs =>
      obtain ⟨ps, h1, h2, h3⟩ := dat_TPs n xs h
      exact ⟨_, .tup h1, by rw [PyData.canLay0]; exact h2, by rw [PyData.depth]; omega⟩
    | loc p =>
      cases g : st.get p with
      | none => simp only [g] at h; cases h
      | some ob =>
        simp only [g] at h
        cases ob with
        | lst xs =>
          obtain ⟨ps, h1, h2, h3⟩ := dat_TPs n xs h
          exact ⟨_, .lst g h1, by rw [PyData.canLay0]; exact h2, by rw [PyData.depth]; omega⟩
        | _ => cases h
    | fn g => cases h
    | any => cases h
    | cho _ _ => cases h
theorem dat_TPs : ∀ (n : Nat) (ds : List D), datL st n ds = true → ∃ ps, TPs st ds ps ∧ PyData.canLayAll0 ps = true ∧ PyData.depthAll ps ≤ n
  | 0, _, h => by cases h
  | n + 1, ds, h => by
    unfold datL at h
    cases ds with
    | nil => exact ⟨[], .nil, rfl, Nat.zero_le _⟩
    | cons x xs =>
      simp only [Bool.and_eq_true] at h
      obtain ⟨p, h1, h2, h3⟩ := dat_TP n x h.1
      obtain ⟨ps, k1, k2, k3⟩ := dat_TPs n xs h.2
      exact ⟨p :: ps, .cons h1 k1, by rw [PyData.canLayAll0, h2, k2]; rfl, by rw [PyData.depthAll]; omega⟩
end
mutual
theorem TP.dp (s : SRel W J.X J.κ σ st ρ H) : ∀ {p : PyData} {d : D} {v : V}, TP st d p → W.RD st.nx ρ H d v → Dp W.K H v p
  | _, _, _, .non, .non => .non
  | _, _, _, .bl b, .bl _ => .bl b
  | _, _, _, .int i, .int _ => .int i
  | _, _, _, .str x, .str _ => .str _
  | _, _, _, .tup h, .tup h1 h2 => .tup h1 (TPs.dp s h h2)
  | _, _, _, .lst g h, .loc h1 h2 => by
    obtain ⟨b, ro⟩ := s.at h1 h2 g
    cases ro with
    | lst e1 e2 => exact .lst (.inl (.inl e1)) (TPs.dp s h e2)
theorem TPs.dp (s : SRel W J.X J.κ σ st ρ H) : ∀ {ps : List PyData} {ds : List D} {vs : List V}, TPs st ds ps → W.RDs st.nx ρ H ds vs → DpAll W.K H vs ps
  | _, _, _, .nil, .nil => .nil
  | _, _, _, .cons h t, .cons h1 h2 => .cons (TP.dp s h (nrm_rel s h1)) (TPs.dp s t h2)
end
theorem str_beq (x y : List Nat) : ((⟨x.toArray⟩ : Str) == ⟨y.toArray⟩) = decide (x = y) := by
  by_cases h : x = y
  · subst h; simp
  · rw [decide_eq_false h, beq_eq_false_iff_ne]
    intro e
    apply h
    have := congrArg (fun z : Str => z.cps.toList) e
    simpa using this
theorem int_beq (i j : Int) : (i == j) = decide (i = j) := by
  by_cases h : i = j
  · subst h; simp
  · rw [decide_eq_false h, beq_eq_false_iff_ne]; exact h
mutual
theorem eq_TP : ∀ (n : Nat) (a b : D) (p q : PyData) (r : Bool), eqD st n a b = some r → TP st (nrm st a) p → TP st (nrm st b) q → r = PyData.eqv p q
  | 0, _, _, _, _, _, h, _, _ => by cases h
  | n + 1, a, b, p, q, r, h, ha, hb => by
    unfold eqD at h
    generalize nrm st a = a at h ha
    generalize nrm st b = b at h hb
    cases ha with
    | non => cases hb <;> first | (cases h; rfl) | (simp only at h; cases h; rfl)
    | bl x =>
      cases hb with
      | bl y => cases h; rfl
      | int y =>
        cases h
        show _ = ((if x then 1 else 0 : Int) == y)
        rw [int_beq]
      | _ => cases h; rfl
    | int x =>
      cases hb with
      | bl y =>
        cases h
        show _ = (x == (if y then 1 else 0 : Int))
        rw [int_beq]
      | int y =>
        cases h
        show _ = (x == y)
        rw [int_beq]
      | _ => cases h; rfl
    | str x =>
      cases hb with
      | str y =>
        cases h
        show _ = ((⟨x.toArray⟩ : Str) == ⟨y.toArray⟩)
        rw [str_beq]
      | _ => cases h; rfl
    | tup hx =>
      cases hb with
      | tup hy => exact eq_TPs n _ _ _ _ r h hx hy
      | _ => cases h; rfl
    | lst g1 hx =>
      cases hb with
      | lst g2 hy =>
        simp only [g1, g2] at h
        exact eq_TPs n _ _ _ _ r h hx hy
      | _ => cases h; rfl
theorem eq_TPs : ∀ (n : Nat) (a b : List D) (p q : List PyData) (r : Bool), eqL st n a b = some r → TPs st a p → TPs st b q → r = PyData.eqvAll p q
  | 0, _, _, _, _, _, h, _, _ => by cases h
  | n + 1, a, b, p, q, r, h, ha, hb => by
    unfold eqL at h
    cases ha with
    | nil =>
      cases hb with
      | nil => cases h; rfl
      | cons _ _ => cases h; rfl
    | @cons x xs p1 ps1 h1 t1 =>
      cases hb with
      | nil => cases h; rfl
      | @cons y ys p2 ps2 h2 t2 =>
        simp only at h
        show _ = (PyData.eqv p1 p2 && PyData.eqvAll ps1 ps2)
        cases e : eqD st n x y with
        | none => rw [e] at h; cases h
        | some k =>
          rw [e] at h
          have q1 := eq_TP n x y p1 p2 k e h1 h2
          cases k with
          | true =>
            rw [← q1]
            exact eq_TPs n xs ys ps1 ps2 r h t1 t2
          | false =>
            rw [← q1]
            cases h
            rfl
end
theorem eqX0_ok {a b : D} {v u : V} {r : Bool} (s : SRel W J.X J.κ σ st ρ H) (ra : W.RD st.nx ρ H a v) (rb : W.RD st.nx ρ H b u) (h : eqX0 st a b = some r) :
    ∃ p q, Dp W.K H v p ∧ Dp W.K H u q ∧ SeqAt.shaped p = true ∧ SeqAt.shaped q = true ∧ r = PyData.eqv p q := by
  unfold eqX0 at h
  cases e : datD st 60 a && datD st 60 b with
  | false => rw [e] at h; cases h
  | true =>
    rw [e] at h
    rw [Bool.and_eq_true] at e
    obtain ⟨p, p1, p2, p3⟩ := dat_TP 60 a e.1
    obtain ⟨q, q1, q2, q3⟩ := dat_TP 60 b e.2
    refine ⟨p, q, p1.dp s (nrm_rel s ra), q1.dp s (nrm_rel s rb), ?_, ?_, eq_TP 60 a b p q r h p1 q1⟩
    · unfold SeqAt.shaped; rw [p2, decide_eq_true (by omega)]; rfl
    · unfold SeqAt.shaped; rw [q2, decide_eq_true (by omega)]; rfl
theorem allB1_all {f : Nat → Option Bool} {r : Bool} : ∀ {k i : Nat}, allB1 f k = some r → i < k → f i = some r
  | 0, _, h, _ => by cases h
  | 1, i, h, hi => by
    have : i = 0 := by omega
    subst this
    exact h
  | k + 2, i, h, hi => by
    unfold allB1 at h
    split at h
    · rename_i a b e1 e2
      cases hab : a == b with
      | false => rw [hab] at h; cases h
      | true =>
        rw [hab] at h
        cases h
        have := eq_of_beq hab
        subst this
        by_cases e : i = k + 1
        · subst e; exact e1
        · exact allB1_all e2 (by omega)
    · cases h
theorem eqF_ok : ∀ (f : Nat) {st : St} {a b : D} {v u : V} {r : Bool}, SRel W J.X J.κ σ st ρ H → W.RD st.nx ρ H a v → W.RD st.nx ρ H b u → eqF f st a b = some r →
    ∃ p q, Dp W.K H v p ∧ Dp W.K H u q ∧ SeqAt.shaped p = true ∧ SeqAt.shaped q = true ∧ r = PyData.eqv p q
  | 0, _, _, _, _, _, _, s, ra, rb, h => eqX0_ok s ra rb h
  | f + 1, st, a, b, v, u, r, s, ra, rb, h => by
    unfold eqF at h
    split at h
    · exact eqX0_ok s ra rb h
    · rename_i p e
      cases hb : Nat.blt p st.nx with
      | false => rw [hb] at h; cases h
      | true =>
        rw [hb] at h
        have hn : p < st.nx := Nat.le_of_ble_eq_true hb
        have h : (match st.get p with
          | some (.cho k none) => allB1 (fun i => eqF f (st.set p (.cho k (some i))) a b) k
          | _ => none) = some r := h
        split at h
        · rename_i k e2
          obtain ⟨k1, s1⟩ := s.known hn e2
          exact eqF_ok f s1 ra rb (allB1_all h k1)
        · cases h
theorem eqX_ok {a b : D} {v u : V} {r : Bool} (s : SRel W J.X J.κ σ st ρ H) (ra : W.RD st.nx ρ H a v) (rb : W.RD st.nx ρ H b u) (h : eqX st a b = some r) :
    ∃ p q, Dp W.K H v p ∧ Dp W.K H u q ∧ SeqAt.shaped p = true ∧ SeqAt.shaped q = true ∧ r = PyData.eqv p q := eqF_ok 2 s ra rb h
theorem flat_rel {d : D} {v : V} {nx : Nat} (r : W.RD nx ρ H d v) (h : flatD d = true) : flatV v = true := by
  cases r <;> first | rfl | cases h
theorem eqU_rel {a b : D} {v u : V} {nx : Nat} (ra : W.RD nx ρ H a v) (rb : W.RD nx ρ H b u) (ha : flatD a = true) (hb : flatD b = true) : eqU a b = L2.eqV v u := by
  cases ra <;> first | (cases ha; done) | (cases rb <;> first | (cases hb; done) | (exact (str_beq _ _).symm) | (exact (int_beq _ _).symm) | rfl)
theorem any_rel {a : D} {v : V} {nx : Nat} (ra : W.RD nx ρ H a v) (ha : flatD a = true) : ∀ {xs : List D} {vs : List V}, W.RDs nx ρ H xs vs → xs.all flatD = true → vs.all flatV = true ∧ (xs.any fun y => eqU y a) = inV v vs
  | _, _, .nil, _ => ⟨rfl, rfl⟩
  | _, _, .cons h t, e => by
    rw [List.all_cons, Bool.and_eq_true] at e
    obtain ⟨h1, h2⟩ := any_rel ra ha t e.2
    refine ⟨by rw [List.all_cons, flat_rel h e.1, h1]; rfl, ?_⟩
    unfold inV at h2 ⊢
    rw [List.any_cons, List.any_cons, h2, eqU_rel h ra e.1 ha]
variable (hK : J.X.K = W.K)
include hK
theorem c_eq (hu : J.X.A.units + 64 < cLine) : OpR J.X (compareOp .Eq) (rCm W J .eq) := by
  refine OpR.imp (op_eqD hu) fun x y H Q ⟨σ, st, ρ, d, e, s, r1, r2, p⟩ => ?_
  rw [hK]
  have p : Post W J σ st.nx ρ H (rD W) Q (match eqX st d e with | some r => .ok (.bl r) st | none => .bad) := p
  cases g : eqX st d e with
  | none => rw [g] at p; exact p.elim
  | some r =>
    rw [g] at p
    obtain ⟨a, b, h1, h2, h3, h4, h5⟩ := eqX_ok s r1 r2 g
    subst h5
    exact ⟨a, b, h1, h2, h3, h4, p.now s (.bl _)⟩
theorem op_neD' {X : Cx} (hu : X.A.units + 64 < cLine) : OpR X (compareOp .NotEq) (rNeD X.K) := op_neD hu
theorem c_ne (hu : J.X.A.units + 64 < cLine) : OpR J.X (compareOp .NotEq) (rCm W J .ne) := by
  refine OpR.imp (op_neD hu) fun x y H Q ⟨σ, st, ρ, d, e, s, r1, r2, p⟩ => ?_
  rw [hK]
  have p : Post W J σ st.nx ρ H (rD W) Q (match eqX st d e with | some r => .ok (.bl (!r)) st | none => .bad) := p
  cases g : eqX st d e with
  | none => rw [g] at p; exact p.elim
  | some r =>
    rw [g] at p
    obtain ⟨a, b, h1, h2, h3, h4, h5⟩ := eqX_ok s r1 r2 g
    subst h5
    exact ⟨a, b, h1, h2, h3, h4, p.now s (.bl _)⟩
theorem c_lt : OpR J.X (compareOp .Lt) (rCm W J .lt) := by
  refine OpR.imp op_lt fun x y H Q ⟨σ, st, ρ, d, e, s, r1, r2, p⟩ => ?_
  cases r1 with
  | int i =>
    cases r2 with
    | int j => exact ⟨_, _, rfl, rfl, p.now s (.bl _)⟩
    | _ => exact p.elim
  | _ => exact p.elim
theorem c_le : OpR J.X (compareOp .LtE) (rCm W J .le) := by
  refine OpR.imp op_le fun x y H Q ⟨σ, st, ρ, d, e, s, r1, r2, p⟩ => ?_
  cases r1 with
  | int i =>
    cases r2 with
    | int j => exact ⟨_, _, rfl, rfl, p.now s (.bl _)⟩
    | _ => exact p.elim
  | _ => exact p.elim
theorem c_gt : OpR J.X (compareOp .Gt) (rCm W J .gt) := by
  refine OpR.imp op_gt fun x y H Q ⟨σ, st, ρ, d, e, s, r1, r2, p⟩ => ?_
  cases r1 with
  | int i =>
    cases r2 with
    | int j => exact ⟨_, _, rfl, rfl, p.now s (.bl _)⟩
    | _ => exact p.elim
  | _ => exact p.elim
theorem c_ge : OpR J.X (compareOp .GtE) (rCm W J .ge) := by
  refine OpR.imp op_ge fun x y H Q ⟨σ, st, ρ, d, e, s, r1, r2, p⟩ => ?_
  cases r1 with
  | int i =>
    cases r2 with
    | int j => exact ⟨_, _, rfl, rfl, p.now s (.bl _)⟩
    | _ => exact p.elim
  | _ => exact p.elim
theorem c_is : OpR J.X (compareOp .Is) (rCm W J .is) := by
  refine OpR.imp op_isN fun x y H Q ⟨σ, st, ρ, d, e, s, r1, r2, p⟩ => ?_
  cases r2 with
  | non =>
    cases r1 <;> first | exact ⟨rfl, p.now s (.bl _)⟩ | exact p.elim
  | _ => exact p.elim
theorem c_isn : OpR J.X (compareOp .IsNot) (rCm W J .isn) := by
  refine OpR.imp op_notN fun x y H Q ⟨σ, st, ρ, d, e, s, r1, r2, p⟩ => ?_
  cases r2 with
  | non =>
    cases r1 <;> first | exact ⟨rfl, p.now s (.bl _)⟩ | exact p.elim
  | _ => exact p.elim
theorem inD_ok {a b : D} {v u : V} {r : Bool} (s : SRel W J.X J.κ σ st ρ H) (ra : W.RD st.nx ρ H a v) (rb : W.RD st.nx ρ H b u) (h : inD st a b = some r) :
    ∃ (p : Addr) (xs : List V), u = .ref p ∧ (SqL W.K H p xs ∨ SqT W.K H p xs) ∧ flatV v = true ∧ xs.all flatV = true ∧ r = inV v xs := by
  unfold inD at h
  cases g : seqOf st b with
  | none => rw [g] at h; cases h
  | some xs =>
    rw [g] at h
    simp only at h
    obtain ⟨p, vs, rfl, h2, h3⟩ := seq_rel s g rb
    cases e : flatD a && xs.all flatD with
    | false => rw [e] at h; cases h
    | true =>
      rw [e] at h
      rw [Bool.and_eq_true] at e
      obtain ⟨k1, k2⟩ := any_rel ra e.1 h2 e.2
      cases h
      exact ⟨p, vs, rfl, h3, flat_rel ra e.1, k1, k2⟩
theorem c_in : OpR J.X (compareOp .In) (rCm W J .inn) := by
  refine OpR.imp op_in_seq fun x y H Q ⟨σ, st, ρ, d, e, s, r1, r2, p⟩ => ?_
  rw [hK]
  have p : Post W J σ st.nx ρ H (rD W) Q (match inD st d e with | some r => .ok (.bl r) st | none => .bad) := p
  cases g : inD st d e with
  | none => rw [g] at p; exact p.elim
  | some r =>
    rw [g] at p
    obtain ⟨a, xs, h1, h2, h3, h4, h5⟩ := inD_ok hK s r1 r2 g
    subst h5
    exact ⟨a, xs, h1, h2, h3, h4, p.now s (.bl _)⟩
theorem c_nin : OpR J.X (compareOp .NotIn) (rCm W J .nin) := by
  refine OpR.imp op_notIn_seq fun x y H Q ⟨σ, st, ρ, d, e, s, r1, r2, p⟩ => ?_
  rw [hK]
  have p : Post W J σ st.nx ρ H (rD W) Q (match inD st d e with | some r => .ok (.bl (!r)) st | none => .bad) := p
  cases g : inD st d e with
  | none => rw [g] at p; exact p.elim
  | some r =>
    rw [g] at p
    obtain ⟨a, xs, h1, h2, h3, h4, h5⟩ := inD_ok hK s r1 r2 g
    subst h5
    exact ⟨a, xs, h1, h2, h3, h4, p.now s (.bl _)⟩
end
end MX
end
section
set_option Elab.async false
set_option linter.all false
set_option autoImplicit false
set_option maxRecDepth 100000
set_option maxHeartbeats 4000000
/-! Expressions. -/
namespace MX
open PySem PySem.Spec PyProof.Rows L2

/-- the global names -/
structure GF (W : Wd) : Prop where
  fn : ∀ x g f, W.gl.lookup x = some g → W.G.tab[g]? = some (.fn f) → W.mg x = some (.ref (W.ad g)) ∧ PySem.W.keepIn W.K (.ref (W.ad g)) = true
  val : ∀ x g d, W.gl.lookup x = some g → W.G.tab[g]? = some (.val d) → ∃ (u : Value) (v : V), W.mg x = some u ∧ RelV v u ∧ ∀ nx ρ H, W.RD nx ρ H d v
  cls : ∀ x g k, W.gl.lookup x = some g → W.G.tab[g]? = some (.cls k) → W.mg x = some (.ref (W.ad g))
  blt : ∀ x u, bootBuiltins x = some u → under x = false → W.gl.lookup x = none → W.mg x = none

structure XG (W : Wd) (J : Jx) (c : CC) (k : Nat) : Prop where
  P : J.X.prog = W.P
  w : J.X.w = W.w
  K : J.X.K = W.K
  mg : J.X.mg = W.mg
  base : J.X.base = W.base
  N : J.X.N = c.N
  nd : c.N.Nodup
  calm : J.X.calm = true
  room : Room (2 * k) J.X.A
  tk : Takes J.X J.Wx
  vis : ∀ x, (c.sc.names.lookup x = some .local ∨ c.sc.names.lookup x = some .cell ∨ c.sc.names.lookup x = some .free) → Vis J.X.env.scope x
  gb : ∀ x, c.sc.names.lookup x = some .globalImplicit → Gl J.X x
  cap : ∀ x, (c.sc.names.lookup x = some .cell ∨ c.sc.names.lookup x = some .free) → J.X.env.scope.names.lookup x = some .cell ∨ J.X.env.scope.names.lookup x = some .free
  loc : ∀ x, (c.sc.names.lookup x = some .local ∨ c.sc.names.lookup x = some .cell) → Loc J.X.env.scope x ∧ (J.X.fn x = true ∨ J.X.env.scope.names.lookup x = some .local)
  gl : c.gl = W.gl
  cl : c.cl = W.cl
  at_ : c.at_ = W.at_
  gu : J.X.A.guards = some []
  lam : c.lam = true → ∃ cc P, J.X.env.code = .ref cc ∧ LamX.TabB W.base W.mg cc P ∧ (P, J.X.env.qual ++ "<lambda>") ∈ W.T ∧ ∀ p ∈ W.T, p.1 = P → p.2 = J.X.env.qual ++ "<lambda>"

theorem ixOf_get {x : Str} : ∀ {l : List Str} {n i : Nat}, ixOf x l n = some i → n ≤ i ∧ l[i - n]? = some x
  | [], _, _, h => by cases h
  | y :: r, n, i, h => by
    unfold ixOf at h
    by_cases e : x = y
    · rw [if_pos e] at h
      cases h
      subst e
      simp
    · rw [if_neg e] at h
      obtain ⟨h1, h2⟩ := ixOf_get h
      refine ⟨by omega, ?_⟩
      have : i - n = (i - (n + 1)) + 1 := by omega
      rw [this, List.getElem?_cons_succ]
      exact h2
theorem nmOk_ok {x : Str} (h : nmOk x = true) : (x == ("__debug__" : Str)) = false ∧ (x == ("__classdict__" : Str)) = false ∧ x ≠ "__name__" := by
  unfold nmOk at h
  rw [Bool.and_eq_true, Bool.and_eq_true, Bool.not_eq_true', Bool.not_eq_true', Bool.not_eq_true'] at h
  exact ⟨h.1, h.2.1, by simpa using h.2.2⟩
theorem slot_ok {c : CC} {x : Str} {i : Nat} (h : c.slot x = some i) : (c.sc.names.lookup x = some .local ∨ c.sc.names.lookup x = some .cell ∨ c.sc.names.lookup x = some .free) ∧ c.N[i]? = some x ∧ nmOk x = true := by
  unfold CC.slot at h
  split at h
  · rename_i e
    split at h
    · rename_i n
      exact ⟨.inl e, by simpa using (ixOf_get h).2, n⟩
    · cases h
  · rename_i e
    split at h
    · rename_i n
      exact ⟨.inr (.inl e), by simpa using (ixOf_get h).2, n⟩
    · cases h
  · rename_i e
    split at h
    · rename_i n
      exact ⟨.inr (.inr e), by simpa using (ixOf_get h).2, n⟩
    · cases h
  · cases h
theorem glob_ok {c : CC} {x : Str} {g : Nat} (h : c.glob x = some g) : c.sc.names.lookup x = some .globalImplicit ∧ c.gl.lookup x = some g ∧ nmOk x = true := by
  unfold CC.glob at h
  split at h
  · rename_i e
    split at h
    · rename_i n; exact ⟨e, h, n⟩
    · cases h
  · cases h
theorem blt_ok {c : CC} {x : Str} (h : c.blt x = true) : c.sc.names.lookup x = some .globalImplicit ∧ c.gl.lookup x = none ∧ nmOk x = true ∧ under x = false := by
  unfold CC.blt at h
  split at h
  · rename_i e
    rw [Bool.and_eq_true, Bool.and_eq_true, Bool.not_eq_true'] at h
    exact ⟨e, by simpa using h.2, h.1.1, h.1.2⟩
  · cases h
section
variable {W : Wd} {J : Jx} {c : CC} {k : Nat} (g : XG W J c k)
include g
theorem XG.units : J.X.A.units + 65 < cLine := by have := g.room.un; omega
theorem XG.ndX : J.X.N.Nodup := by rw [g.N]; exact g.nd
theorem e_var {x : Str} {i : Nat} {pos : Pos} (h : c.slot x = some i) : PE J.X (.Name x pos) (sem W J (rD W) fun σd st => slot σd i st) := by
  obtain ⟨h1, h2, h3⟩ := slot_ok h
  obtain ⟨n1, n2, _⟩ := nmOk_ok h3
  refine (pe_var (i := i) (by rw [g.N]; exact h2) (g.vis x h1) n1 n2).imp fun σ H Q ⟨σd, st, ρ, l, s, p⟩ => ?_
  have p : Post W J σ st.nx ρ H (rD W) Q (slot σd i st) := p
  unfold slot at p
  split at p
  · rename_i d e
    obtain ⟨v, hv, r⟩ := l.get i d e
    exact ⟨v, hv, p.now s (nrm_rel s r)⟩
  · exact p.elim
theorem e_con {v : V} {d : D} {e : Expr} (h : PE J.X e (tC v)) (r : ∀ nx ρ H, W.RD nx ρ H d v) : PE J.X e (sem W J (rD W) fun _ st => .ok d st) :=
  h.imp fun σ H Q ⟨σd, st, ρ, l, s, p⟩ => p.now s (r _ _ _)
theorem e_glo (F : GF W) {x : Str} {i : Nat} {pos : Pos} (h : c.glob x = some i) : PE J.X (.Name x pos) (sem W J (rD W) fun _ st => gloD W.G i st) := by
  obtain ⟨h1, h2, h3⟩ := glob_ok h
  obtain ⟨n1, _, _⟩ := nmOk_ok h3
  rw [g.gl] at h2
  have hg := g.gb x h1
  cases e : W.G.tab[i]? with
  | none => exact ⟨fun _ _ _ _ _ _ ⟨_, _, _, _, _, p⟩ => by unfold gloD at p; rw [e] at p; exact p.elim⟩
  | some it =>
    cases it with
    | fn f =>
      obtain ⟨m, kp⟩ := F.fn x i f h2 e
      refine (pe_glob (v := .ref (W.ad i)) hg (by rw [g.mg]; exact m) rfl n1).imp fun σ H Q ⟨σd, st, ρ, l, s, p⟩ => ?_
      unfold gloD at p
      rw [e] at p
      exact p.now s (.fn i)
    | val d =>
      obtain ⟨u, v, m, r, rd⟩ := F.val x i d h2 e
      refine (pe_glob (v := v) hg (by rw [g.mg]; exact m) r n1).imp fun σ H Q ⟨σd, st, ρ, l, s, p⟩ => ?_
      unfold gloD at p
      rw [e] at p
      exact p.now s (rd _ _ _)
    | cls kk => exact ⟨fun _ _ _ _ _ _ ⟨_, _, _, _, _, p⟩ => by unfold gloD at p; rw [e] at p; exact p.elim⟩
theorem e_op {o : Operator} {o' : Op2} {a b : Expr} {fa fb : Sg → St → R D} {pos : Pos} (h : opOf o = some o') (ha : PE J.X a (sem W J (rD W) fa)) (hb : PE J.X b (sem W J (rD W) fb)) :
    PE J.X (.BinOp a o b pos) (sem W J (rD W) fun σd st => (fa σd st).bind fun x st => (fb σd st).bind fun y st => binop o' x y st) := by
  have key : ∀ o', OpR J.X (binaryOp o) (rBin W J o') → PE J.X (.BinOp a o b pos) (sem W J (rD W) fun σd st => (fa σd st).bind fun x st => (fb σd st).bind fun y st => binop o' x y st) := fun o' ho =>
    (pe_op ho ha hb).imp fun σ H Q h => sem2 h fun d e v u st ρ H s r1 r2 p => ⟨σ, st, ρ, d, e, s, r1, r2, p⟩
  cases o <;> first | (cases h; done) | (cases h; exact key _ (o_add g.K)) | (cases h; exact key _ (o_sub g.K)) | (cases h; exact key _ (o_mul g.K)) | (cases h; exact key _ (o_fdiv g.K)) | (cases h; exact key _ (o_mod g.K)) | (cases h; exact key _ (o_pow g.K))
theorem e_neg {a : Expr} {fa : Sg → St → R D} {pos : Pos} (ha : PE J.X a (sem W J (rD W) fa)) : PE J.X (.UnaryOp .USub a pos) (sem W J (rD W) fun σd st => (fa σd st).bind fun x st => match x with | .int i => .ok (.int (-i)) st | _ => .bad) := by
  refine (pe_un un_neg ha).imp fun σ H Q h => ?_
  refine sem1 (r := fun x H Q => rU (fun i => .int (-i)) x H Q) h fun d v st ρ H s r p => ?_
  cases r with
  | int i => exact ⟨i, rfl, p.now s (.int _)⟩
  | _ => exact p.elim
theorem noSet {b : Expr} {o : CmpOp} (h : isSet b = false) : behindInMarks o b = false := by
  cases b <;> first | rfl | cases h
theorem cmOk_set {o : CmpOp} {b : Expr} (h : cmOk o b = true) : isSet b = false := by
  cases o <;> first | (simpa [cmOk] using h) | (cases b <;> first | rfl | cases h)
theorem e_cmR {o : CmpOp} (h : (o = .Is ∨ o = .IsNot) → True) : OpR J.X (compareOp o) (rCm W J (cmOf o)) := by
  have hu : J.X.A.units + 64 < cLine := by have := g.units; omega
  cases o
  · exact c_eq g.K hu
  · exact c_ne g.K hu
  · exact c_lt g.K
  · exact c_le g.K
  · exact c_gt g.K
  · exact c_ge g.K
  · exact c_is g.K
  · exact c_isn g.K
  · exact c_in g.K
  · exact c_nin g.K
theorem e_cmp {o : CmpOp} {a b : Expr} {fa fb : Sg → St → R D} {pos : Pos} (h : cmOk o b = true) (ha : PE J.X a (sem W J (rD W) fa)) (hb : PE J.X b (sem W J (rD W) fb)) :
    PE J.X (.Compare a [o] [b] pos) (sem W J (rD W) fun σd st => (fa σd st).bind fun x st => (fb σd st).bind fun y st => cmpop (cmOf o) x y st) :=
  (pe_cmpR (e_cmR g fun _ => trivial) ha hb (noSet g (cmOk_set g h))).imp fun σ H Q h => sem2 h fun d e v u st ρ H s r1 r2 p => ⟨σ, st, ρ, d, e, s, r1, r2, p⟩
theorem chain_leaf {o p : CmpOp} {fa fb fc : Sg → St → R D} {σ : L2.St} {H : Hp} {Q : VK}
    (h : sem W J (rD W) (fun σd st => (fa σd st).bind fun x st => (fb σd st).bind fun y st => (cmpop (cmOf o) x y st).bind fun z st => match z with
      | .bl true => (fc σd st).bind fun w st => cmpop (cmOf p) y w st
      | .bl false => .ok (.bl false) st
      | _ => .bad) σ H Q) : tChain (rCm W J (cmOf o)) (rCm W J (cmOf p)) (sem W J (rD W) fa) (sem W J (rD W) fb) (sem W J (rD W) fc) σ H Q := by
  obtain ⟨σd, st, ρ, l, s, q⟩ := h
  refine ⟨σd, st, ρ, l, s, (Post.bind (rl := rD W) q).mono fun v H1 ⟨d, st1, ρ1, x1, s1, r1, p1⟩ => ?_⟩
  refine ⟨σd, st1, ρ1, l.mono x1, s1, (Post.bind (rl := rD W) p1).mono fun u H2 ⟨e, st2, ρ2, x2, s2, r2, p2⟩ => ?_⟩
  refine ⟨σ, st2, ρ2, d, e, s2, RD.mono x2 r1, r2, (Post.bind (rl := rD W) p2).mono fun z H3 ⟨zd, st3, ρ3, x3, s3, r3, p3⟩ => ?_⟩
  cases r3 with
  | bl b =>
    cases b with
    | true =>
      refine ⟨true, rfl, ?_⟩
      rw [if_pos rfl]
      refine ⟨σd, st3, ρ3, ((l.mono x1).mono x2).mono x3, s3, (Post.bind (rl := rD W) p3).mono fun w H4 ⟨f, st4, ρ4, x4, s4, r4, p4⟩ => ?_⟩
      exact ⟨σ, st4, ρ4, e, f, s4, RD.mono x4 (RD.mono x3 r2), r4, p4⟩
    | false =>
      refine ⟨false, rfl, ?_⟩
      rw [if_neg Bool.false_ne_true]
      exact Post.now p3 s3 (.bl false)
  | _ => exact p3.elim
theorem e_chain {o p : CmpOp} {a b d : Expr} {fa fb fc : Sg → St → R D} {pos : Pos} (h1 : cmOk o b = true) (h2 : cmOk p d = true) (ha : PE J.X a (sem W J (rD W) fa)) (hb : PE J.X b (sem W J (rD W) fb)) (hc : PE J.X d (sem W J (rD W) fc)) :
    PE J.X (.Compare a [o, p] [b, d] pos) (sem W J (rD W) fun σd st => (fa σd st).bind fun x st => (fb σd st).bind fun y st => (cmpop (cmOf o) x y st).bind fun z st => match z with
      | .bl true => (fc σd st).bind fun w st => cmpop (cmOf p) y w st
      | .bl false => .ok (.bl false) st
      | _ => .bad) :=
  (pe_chain (e_cmR g fun _ => trivial) (e_cmR g fun _ => trivial) ha hb hc (by show behindInMarks p d = false; exact noSet g (cmOk_set g h2))).imp fun σ H Q h => chain_leaf g h
end
end MX
end
section
set_option Elab.async false
set_option linter.all false
set_option autoImplicit false
set_option maxRecDepth 100000
set_option maxHeartbeats 4000000
/-! Truth, tests, displays, subscripts. -/
namespace MX
open PySem PySem.Spec PyProof.Rows L2
section
variable {W : Wd} {J : Jx} {c : CC} {k : Nat}
theorem tru_rel {σ : L2.St} {st : St} {ρ : Asg} {H : Hp} {d : D} {v : V} {b : Bool} (s : SRel W J.X J.κ σ st ρ H) (r : W.RD st.nx ρ H d v) (h : tru st d = some b) : TruV W.K v H b := by
  cases r with
  | non => cases h; rfl
  | bl x => cases h; rfl
  | int i =>
    cases h
    show (!decide (i = 0)) = (i != 0)
    rw [bne, int_beq]
  | str x =>
    have h : (cond (Nat.ble x.length 100000) (some (!x.isEmpty)) none) = some b := h
    cases e : Nat.ble x.length 100000 with
    | false => rw [e] at h; cases h
    | true =>
      rw [e] at h
      cases h
      refine ⟨by rw [str_size]; exact line_of (Nat.le_of_ble_eq_true e), ?_⟩
      rw [str_size]
      cases x with
      | nil => rfl
      | cons a t =>
        show true = _
        rw [bne, int_beq, decide_eq_false (by simp only [List.length_cons]; omega)]
        rfl
  | tup h1 h2 =>
    cases h
    refine .inr (.inl ⟨_, h1, ?_⟩)
    cases h2 <;> rfl
  | @loc m a h1 h2 =>
    have h' : (match st.get m with | some (.lst xs) => some (!xs.isEmpty) | _ => none) = some b := h
    cases g : st.get m with
    | none => rw [g] at h'; cases h'
    | some ob =>
      rw [g] at h'
      obtain ⟨z, ro⟩ := s.at h1 h2 g
      cases ro with
      | lst e1 e2 =>
        cases h'
        refine .inl ⟨_, .inl (.inl e1), ?_⟩
        cases e2 <;> rfl
      | _ => cases h'
  | fn _ => cases h
  | cho _ _ _ => cases h
variable (g : XG W J c k)
include g
theorem e_and {a b : Expr} {rest : List Expr} {fa fb : Sg → St → R D} {pos : Pos} (ha : PE J.X a (sem W J (rD W) fa)) (hb : PE J.X (.BoolOp .And (b :: rest) pos) (sem W J (rD W) fb)) :
    PE J.X (.BoolOp .And (a :: b :: rest) pos) (sem W J (rD W) fun σd st => (fa σd st).bind fun x st => match tru st x with | some true => fb σd st | some false => .ok x st | none => .bad) := by
  refine (pe_andT ha hb).imp fun σ H Q ⟨σd, st, ρ, l, s, p⟩ => ?_
  refine ⟨σd, st, ρ, l, s, (Post.bind (rl := rD W) p).mono fun v H1 ⟨d, st1, ρ1, x1, s1, r1, p1⟩ => ?_⟩
  rw [g.K]
  cases e : tru st1 d with
  | none => rw [e] at p1; exact p1.elim
  | some kk =>
    rw [e] at p1
    refine ⟨kk, tru_rel s1 r1 e, ?_⟩
    cases kk with
    | true => rw [if_pos rfl]; exact ⟨σd, st1, ρ1, l.mono x1, s1, p1⟩
    | false => rw [if_neg Bool.false_ne_true]; exact p1.now s1 r1
theorem e_or {a b : Expr} {rest : List Expr} {fa fb : Sg → St → R D} {pos : Pos} (ha : PE J.X a (sem W J (rD W) fa)) (hb : PE J.X (.BoolOp .Or (b :: rest) pos) (sem W J (rD W) fb)) :
    PE J.X (.BoolOp .Or (a :: b :: rest) pos) (sem W J (rD W) fun σd st => (fa σd st).bind fun x st => match tru st x with | some false => fb σd st | some true => .ok x st | none => .bad) := by
  refine (pe_orT ha hb).imp fun σ H Q ⟨σd, st, ρ, l, s, p⟩ => ?_
  refine ⟨σd, st, ρ, l, s, (Post.bind (rl := rD W) p).mono fun v H1 ⟨d, st1, ρ1, x1, s1, r1, p1⟩ => ?_⟩
  rw [g.K]
  cases e : tru st1 d with
  | none => rw [e] at p1; exact p1.elim
  | some kk =>
    rw [e] at p1
    refine ⟨kk, tru_rel s1 r1 e, ?_⟩
    cases kk with
    | true => rw [if_pos rfl]; exact p1.now s1 r1
    | false => rw [if_neg Bool.false_ne_true]; exact ⟨σd, st1, ρ1, l.mono x1, s1, p1⟩
theorem e_not {a : Expr} {fa : Sg → St → R D} {pos : Pos} (ha : PE J.X a (sem W J (rD W) fa)) : PE J.X (.UnaryOp .Not a pos) (sem W J (rD W) fun σd st => (fa σd st).bind fun x st => match tru st x with | some k => .ok (.bl (!k)) st | none => .bad) := by
  refine (pe_notT ha).imp fun σ H Q h => ?_
  refine sem1 (r := fun x H Q => ∃ k, TruV J.X.K x H k ∧ Q (.bl (!k)) H) h fun d v st ρ H s r p => ?_
  rw [g.K]
  cases e : tru st d with
  | none => rw [e] at p; exact p.elim
  | some kk =>
    rw [e] at p
    exact ⟨kk, tru_rel s r e, p.now s (.bl _)⟩
/-! ### tests -/
theorem t_plain {a : Expr} {fa : Sg → St → R D} (ha : PE J.X a (sem W J (rD W) fa)) (he : ∀ whole, isTrue a J.X.env whole = (do let v ← whole; standAt a.pos; holding [v] (truthy v))) :
    PT J.X a (sem W J rB fun σd st => (fa σd st).bind fun x st => match tru st x with | some k => .ok k st | none => .bad) := by
  refine (pt_truth ha he).imp fun σ H Q h => ?_
  refine sem1 (rl := rB) (r := fun x H Q => ∃ k, TruV J.X.K x H k ∧ Q k H) h fun d v st ρ H s r p => ?_
  rw [g.K]
  cases e : tru st d with
  | none => rw [e] at p; exact p.elim
  | some kk =>
    rw [e] at p
    exact ⟨kk, tru_rel s r e, p.now s rfl⟩
theorem t_not {a : Expr} {fa : Sg → St → R Bool} {pos : Pos} (ha : PT J.X a (sem W J rB fa)) : PT J.X (.UnaryOp .Not a pos) (sem W J rB fun σd st => (fa σd st).bind fun k st => .ok (!k) st) := by
  refine (pt_not ha).imp fun σ H Q ⟨σd, st, ρ, l, s, p⟩ => ?_
  refine ⟨σd, st, ρ, l, s, (Post.bind (rl := rB) p).mono fun v H1 ⟨d, st1, ρ1, x1, s1, r1, p1⟩ => ?_⟩
  cases r1
  exact p1.now s1 rfl
theorem t_and {a b : Expr} {rest : List Expr} {fa fb : Sg → St → R Bool} {pos : Pos} (ha : PT J.X a (sem W J rB fa)) (hb : PW J.X (.BoolOp .And (b :: rest) pos) (sem W J rB fb)) :
    PW J.X (.BoolOp .And (a :: b :: rest) pos) (sem W J rB fun σd st => (fa σd st).bind fun k st => cond k (fb σd st) (.ok false st)) := by
  refine (pw_and ha hb).imp fun σ H Q ⟨σd, st, ρ, l, s, p⟩ => ?_
  refine ⟨σd, st, ρ, l, s, (Post.bind (rl := rB) p).mono fun v H1 ⟨d, st1, ρ1, x1, s1, r1, p1⟩ => ?_⟩
  cases r1
  cases v with
  | true => rw [if_pos rfl]; exact ⟨σd, st1, ρ1, l.mono x1, s1, p1⟩
  | false => rw [if_neg Bool.false_ne_true]; exact Post.now p1 s1 rfl
theorem t_or {a b : Expr} {rest : List Expr} {fa fb : Sg → St → R Bool} {pos : Pos} (ha : PT J.X a (sem W J rB fa)) (hb : PW J.X (.BoolOp .Or (b :: rest) pos) (sem W J rB fb)) :
    PW J.X (.BoolOp .Or (a :: b :: rest) pos) (sem W J rB fun σd st => (fa σd st).bind fun k st => cond k (.ok true st) (fb σd st)) := by
  refine (pw_or ha hb).imp fun σ H Q ⟨σd, st, ρ, l, s, p⟩ => ?_
  refine ⟨σd, st, ρ, l, s, (Post.bind (rl := rB) p).mono fun v H1 ⟨d, st1, ρ1, x1, s1, r1, p1⟩ => ?_⟩
  cases r1
  cases v with
  | true => rw [if_pos rfl]; exact Post.now p1 s1 rfl
  | false => rw [if_neg Bool.false_ne_true]; exact ⟨σd, st1, ρ1, l.mono x1, s1, p1⟩
omit g in
theorem cmpop_bl (o : Cm) (d e : D) (st : St) : cmpop o d e st = .bad ∨ ∃ b, cmpop o d e st = .ok (.bl b) st := by
  cases o <;> unfold cmpop <;> simp only
  · cases eqX st d e with
    | none => exact .inl rfl
    | some r => exact .inr ⟨r, rfl⟩
  · cases eqX st d e with
    | none => exact .inl rfl
    | some r => exact .inr ⟨!r, rfl⟩
  all_goals first
    | (cases d <;> cases e <;> first | exact .inl rfl | exact .inr ⟨_, rfl⟩)
    | (cases e <;> first | exact .inl rfl | (cases d <;> first | exact .inl rfl | exact .inr ⟨_, rfl⟩))
    | (cases inD st d e with
      | none => exact .inl rfl
      | some r => exact .inr ⟨_, rfl⟩)
theorem t_cmp {a b : Expr} {o : CmpOp} {fa fb : Sg → St → R D} {pos : Pos} (h : cmOk o b = true) (ha : PE J.X a (sem W J (rD W) fa)) (hb : PE J.X b (sem W J (rD W) fb)) :
    PT J.X (.Compare a [o] [b] pos) (sem W J rB fun σd st => ((fa σd st).bind fun x st => (fb σd st).bind fun y st => cmpop (cmOf o) x y st).bind fun x st => match tru st x with | some k => .ok k st | none => .bad) := by
  refine (pt_cmpR (e_cmR g fun _ => trivial) ha hb (noSet g (cmOk_set g h))).imp fun σ H Q ⟨σd, st, ρ, l, s, p⟩ => ?_
  have p : Post W J σ st.nx ρ H rB Q (((fa σd st).bind fun x st => (fb σd st).bind fun y st => cmpop (cmOf o) x y st).bind fun x st => match tru st x with | some k => .ok k st | none => .bad) := p
  rw [R.bind_assoc] at p
  refine ⟨σd, st, ρ, l, s, (Post.bind (rl := rD W) p).mono fun v H1 ⟨d, st1, ρ1, x1, s1, r1, p1⟩ => ?_⟩
  rw [R.bind_assoc] at p1
  refine ⟨σd, st1, ρ1, l.mono x1, s1, (Post.bind (rl := rD W) p1).mono fun u H2 ⟨e, st2, ρ2, x2, s2, r2, p2⟩ => ?_⟩
  refine ⟨σ, st2, ρ2, d, e, s2, RD.mono x2 r1, r2, ?_⟩
  rcases cmpop_bl (cmOf o) d e st2 with z | ⟨b, z⟩
  · rw [z] at p2; exact p2.elim
  · rw [z] at p2 ⊢
    intro ρ' H' y x3 s3 r3
    cases r3
    exact ⟨b, rfl, p2 ρ' H' b x3 s3 rfl⟩
theorem t_chain {a b d : Expr} {o p : CmpOp} {fa fb fc : Sg → St → R D} {pos : Pos} (h1 : cmOk o b = true) (h2 : cmOk p d = true) (ha : PE J.X a (sem W J (rD W) fa)) (hb : PE J.X b (sem W J (rD W) fb)) (hc : PE J.X d (sem W J (rD W) fc)) :
    PT J.X (.Compare a [o, p] [b, d] pos) (sem W J rB fun σd st => ((fa σd st).bind fun x st => (fb σd st).bind fun y st => (cmpop (cmOf o) x y st).bind fun z st => match z with
      | .bl true => (fc σd st).bind fun w st => cmpop (cmOf p) y w st
      | .bl false => .ok (.bl false) st
      | _ => .bad).bind fun x st => match tru st x with | some k => .ok k st | none => .bad) := by
  refine (pt_chain (e_cmR g fun _ => trivial) (e_cmR g fun _ => trivial) ha hb hc (by show behindInMarks p d = false; exact noSet g (cmOk_set g h2))).imp fun σ H Q ⟨σd, st, ρ, l, s, q⟩ => ?_
  have q : Post W J σ st.nx ρ H rB Q (((fa σd st).bind fun x st => (fb σd st).bind fun y st => (cmpop (cmOf o) x y st).bind fun z st => match z with
      | .bl true => (fc σd st).bind fun w st => cmpop (cmOf p) y w st
      | .bl false => .ok (.bl false) st
      | _ => .bad).bind fun x st => match tru st x with | some k => .ok k st | none => .bad) := q
  rw [R.bind_assoc] at q
  refine ⟨σd, st, ρ, l, s, (Post.bind (rl := rD W) q).mono fun v H1 ⟨x, st1, ρ1, x1, s1, r1, p1⟩ => ?_⟩
  rw [R.bind_assoc] at p1
  refine ⟨σd, st1, ρ1, l.mono x1, s1, (Post.bind (rl := rD W) p1).mono fun u H2 ⟨y, st2, ρ2, x2, s2, r2, p2⟩ => ?_⟩
  refine ⟨σ, st2, ρ2, x, y, s2, RD.mono x2 r1, r2, ?_⟩
  rcases cmpop_bl (cmOf o) x y st2 with z | ⟨b, z⟩
  · rw [z] at p2; exact p2.elim
  · rw [z] at p2 ⊢
    intro ρ' H' yy x3 s3 r3
    cases r3
    refine ⟨b, rfl, ?_⟩
    cases b with
    | false =>
      rw [if_neg Bool.false_ne_true]
      exact ⟨false, rfl, p2 ρ' H' false x3 s3 rfl⟩
    | true =>
      rw [if_pos rfl]
      have p2 : Post W J σ st2.nx ρ2 H2 rB Q (((fc σd st2).bind fun w st => cmpop (cmOf p) y w st).bind fun x st => match tru st x with | some k => .ok k st | none => .bad) := p2
      rw [R.bind_assoc] at p2
      refine ⟨σd, st2, ρ', ((l.mono x1).mono x2).mono x3, s3, (Post.bind (rl := rD W) (p2.shift x3)).mono fun w H4 ⟨f, st4, ρ4, x4, s4, r4, p4⟩ => ?_⟩
      refine ⟨σ, st4, ρ4, y, f, s4, RD.mono x4 (RD.mono x3 r2), r4, ?_⟩
      rcases cmpop_bl (cmOf p) y f st4 with z | ⟨b, z⟩
      · rw [z] at p4; exact p4.elim
      · rw [z] at p4 ⊢
        intro ρ' H' y x3 s3 r3
        cases r3
        exact ⟨b, rfl, p4 ρ' H' b x3 s3 rfl⟩
theorem e_ite {t a b : Expr} {ft : Sg → St → R Bool} {fa fb : Sg → St → R D} {pos : Pos} (ht : PT J.X t (sem W J rB ft)) (ha : PE J.X a (sem W J (rD W) fa)) (hb : PE J.X b (sem W J (rD W) fb)) :
    PE J.X (.IfExp t a b pos) (sem W J (rD W) fun σd st => (ft σd st).bind fun k st => cond k (fa σd st) (fb σd st)) := by
  refine (pe_ifExp ht ha hb).imp fun σ H Q ⟨σd, st, ρ, l, s, p⟩ => ?_
  refine ⟨σd, st, ρ, l, s, (Post.bind (rl := rB) p).mono fun v H1 ⟨d, st1, ρ1, x1, s1, r1, p1⟩ => ?_⟩
  cases r1
  cases v with
  | true => rw [if_pos rfl]; exact ⟨σd, st1, ρ1, l.mono x1, s1, p1⟩
  | false => rw [if_neg Bool.false_ne_true]; exact ⟨σd, st1, ρ1, l.mono x1, s1, p1⟩
theorem t_ite {t a b : Expr} {ft fa fb : Sg → St → R Bool} {pos : Pos} (ht : PT J.X t (sem W J rB ft)) (ha : PT J.X a (sem W J rB fa)) (hb : PT J.X b (sem W J rB fb)) :
    PT J.X (.IfExp t a b pos) (sem W J rB fun σd st => (ft σd st).bind fun k st => cond k (fa σd st) (fb σd st)) := by
  refine ⟨fun pins s σ H Q I ⟨σd, st, ρ, l, sr, p⟩ => ?_⟩
  show wpAny _ _ (do if ← isTrue t J.X.env (eval t J.X.env) then isTrue a J.X.env (eval a J.X.env) else isTrue b J.X.env (eval b J.X.env)) _ _ s
  refine wpAny_bind (thn (ht.run pins s σ H _ I ⟨σd, st, ρ, l, sr, (Post.bind (rl := rB) p)⟩) fun v s1 ⟨H1, I1, d, st1, ρ1, x1, sr1, r1, p1⟩ => ?_)
  cases r1
  cases v with
  | true => exact ha.run pins s1 σ H1 Q I1 ⟨σd, st1, ρ1, l.mono x1, sr1, p1⟩
  | false => exact hb.run pins s1 σ H1 Q I1 ⟨σd, st1, ρ1, l.mono x1, sr1, p1⟩
end
/-! ### lists of expressions, displays -/
section
variable {W : Wd} {J : Jx} {c : CC} {k : Nat} (g : XG W J c k)
include g
theorem a_nil : PA J.X [] (sem W J (rDs W) fun _ st => .ok [] st) := pa_nil.imp fun σ H Q ⟨σd, st, ρ, l, s, p⟩ => p.now s .nil
theorem a_cons {a : Expr} {es : List Expr} {fa : Sg → St → R D} {fs : Sg → St → R (List D)} (hs : isStar a = false) (ha : PE J.X a (sem W J (rD W) fa)) (hr : PA J.X es (sem W J (rDs W) fs)) :
    PA J.X (a :: es) (sem W J (rDs W) fun σd st => (fa σd st).bind fun d st => (fs σd st).bind fun ds st => .ok (d :: ds) st) := by
  refine (pa_cons ha hr (by cases a <;> first | rfl | cases hs)).imp fun σ H Q ⟨σd, st, ρ, l, s, p⟩ => ?_
  refine ⟨σd, st, ρ, l, s, (Post.bind (rl := rD W) p).mono fun v H1 ⟨d, st1, ρ1, x1, s1, r1, p1⟩ => ?_⟩
  refine ⟨σd, st1, ρ1, l.mono x1, s1, (Post.bind (rl := rDs W) p1).mono fun vs H2 ⟨ds, st2, ρ2, x2, s2, r2, p2⟩ => ?_⟩
  exact Post.now p2 s2 (.cons (RD.mono x2 r1) r2)
theorem a_star {a : Expr} {es : List Expr} {fa : Sg → St → R D} {fs : Sg → St → R (List D)} {pos : Pos} (ha : PE J.X a (sem W J (rD W) fa)) (hr : PA J.X es (sem W J (rDs W) fs)) :
    PA J.X (.Starred a pos :: es) (sem W J (rDs W) fun σd st => (fa σd st).bind fun d st => match seqOf st d with
      | some xs => (fs σd st).bind fun ds st => .ok (xs ++ ds) st
      | none => .bad) := by
  refine (StX.pa_star ha hr).imp fun σ H Q ⟨σd, st, ρ, l, s, p⟩ => ?_
  refine ⟨σd, st, ρ, l, s, (Post.bind (rl := rD W) p).mono fun v H1 ⟨d, st1, ρ1, x1, s1, r1, p1⟩ => ?_⟩
  cases e : seqOf st1 d with
  | none => rw [e] at p1; exact p1.elim
  | some xs =>
    rw [e] at p1
    obtain ⟨a, vs, rfl, q1, q2⟩ := seq_rel s1 e r1
    rw [g.K]
    refine ⟨a, vs, rfl, q2.symm, σd, st1, ρ1, l.mono x1, s1, (Post.bind (rl := rDs W) p1).mono fun us H2 ⟨ds, st2, ρ2, x2, s2, r2, p2⟩ => ?_⟩
    exact Post.now p2 s2 (RDs.append (RDs.mono x2 q1) r2)
theorem e_tup {es : List Expr} {fs : Sg → St → R (List D)} {x1 : Nat} {pos : Pos} (h : PA J.X es (sem W J (rDs W) fs)) :
    PE J.X (.Tuple es x1 pos) (sem W J (rD W) fun σd st => (fs σd st).bind fun ds st => cond (Nat.ble ds.length 100000) (.ok (.tup ds) st) .bad) := by
  refine (pe_tup h).imp fun σ H Q ⟨σd, st, ρ, l, s, p⟩ => ?_
  refine ⟨σd, st, ρ, l, s, (Post.bind (rl := rDs W) p).mono fun vs H1 ⟨ds, st1, ρ1, x1, s1, r1, p1⟩ => ?_⟩
  obtain ⟨hb, p1⟩ := cond_post p1
  exact ⟨by rw [← r1.length]; exact line_of (Nat.le_of_ble_eq_true hb), post_tup s1 r1 p1⟩
theorem e_lst {es : List Expr} {fs : Sg → St → R (List D)} {pos : Pos} (h : PA J.X es (sem W J (rDs W) fs)) :
    PE J.X (.List es pos) (sem W J (rD W) fun σd st => (fs σd st).bind fun ds st => cond (Nat.ble ds.length 100000) (alloc (.lst ds) st) .bad) := by
  refine (pe_lst h).imp fun σ H Q ⟨σd, st, ρ, l, s, p⟩ => ?_
  refine ⟨σd, st, ρ, l, s, (Post.bind (rl := rDs W) p).mono fun vs H1 ⟨ds, st1, ρ1, x1, s1, r1, p1⟩ => ?_⟩
  obtain ⟨hb, p1⟩ := cond_post p1
  exact ⟨by rw [← r1.length]; exact line_of (Nat.le_of_ble_eq_true hb), post_lst s1 r1 p1⟩
end
end MX
end
section
set_option Elab.async false
set_option linter.all false
set_option autoImplicit false
set_option maxRecDepth 100000
set_option maxHeartbeats 4000000
/-! repr of data. -/
namespace MX
open PySem PySem.Spec PyProof.Rows L2
theorem print_ok : ∀ c, c < 127 → 32 ≤ c → Unicode.isPrintable c = true := by decide +kernel
theorem okCh_char {c : Nat} (h : okCh c = true) : Builtin.Str.reprChar 39 c = [c] := by
  unfold okCh at h
  simp only [Bool.and_eq_true, decide_eq_true_eq] at h
  obtain ⟨⟨⟨h1, h2⟩, h3⟩, h4⟩ := h
  unfold Builtin.Str.reprChar
  have e1 : (c == 39 || c == 92) = false := by rw [beq_eq_false_iff_ne.mpr h3, beq_eq_false_iff_ne.mpr h4]; rfl
  rw [if_neg (by rw [e1]; exact Bool.false_ne_true), if_neg (by simp; omega), if_neg (by simp; omega), if_neg (by simp; omega), if_pos (print_ok c h2 h1)]
theorem okCh_text {s : List Nat} (h : s.all okCh = true) : reprText ⟨s.toArray⟩ = ⟨(39 :: s ++ [39]).toArray⟩ := by
  rw [List.all_eq_true] at h
  have q : reprQuote ⟨s.toArray⟩ = 39 := by
    unfold reprQuote
    rw [if_neg]
    intro e
    rw [Bool.and_eq_true] at e
    have e1 : s.toArray.contains 39 = true := e.1
    have e2 : (39 : Nat) ∈ s := by simpa using e1
    have := h 39 e2
    exact absurd this (by decide)
  unfold reprText
  rw [q]
  have f : ∀ (l : List Nat) (acc : Array Nat), (∀ c ∈ l, okCh c = true) → l.foldl (fun out c => out ++ (Builtin.Str.reprChar 39 c).toArray) acc = acc ++ l.toArray := by
    intro l
    induction l with
    | nil => intro acc _; simp
    | cons c l ih =>
      intro acc hl
      rw [List.foldl_cons, okCh_char (hl c List.mem_cons_self), ih _ fun d hd => hl d (List.mem_cons_of_mem _ hd)]
      simp [Array.append_assoc]
  show (⟨(s.toArray.foldl (fun out c => out ++ (Builtin.Str.reprChar 39 c).toArray) #[39]).push 39⟩ : Str) = _
  rw [← Array.foldl_toList]
  show (⟨(s.foldl (fun out c => out ++ (Builtin.Str.reprChar 39 c).toArray) #[39]).push 39⟩ : Str) = _
  rw [f s _ h]
  congr 1
  simp
theorem dig_char (n : Nat) : (Nat.digitChar (n % 10)).toNat = 48 + n % 10 := by
  have h : n % 10 < 10 := Nat.mod_lt _ (by omega)
  revert h
  generalize n % 10 = m
  revert m
  decide
theorem digits_core : ∀ (k fuel n : Nat) (ds : List Char), n < 10 ^ k → n < fuel → 0 < k → digits k n (ds.map Char.toNat) = (Nat.toDigitsCore 10 fuel n ds).map Char.toNat
  | 0, _, _, _, _, _, h => absurd h (Nat.lt_irrefl 0)
  | k + 1, 0, n, _, _, h, _ => absurd h (Nat.not_lt_zero _)
  | k + 1, fuel + 1, n, ds, h1, h2, _ => by
    unfold digits Nat.toDigitsCore
    by_cases e : n / 10 = 0
    · rw [e]
      simp only [Nat.beq_refl, cond_true, if_true]
      rw [List.map_cons, dig_char]
    · rw [beq_ff e, if_neg e]
      simp only [cond_false]
      have hk : 0 < k := by
        rcases Nat.eq_zero_or_pos k with z | z
        · subst z; omega
        · exact z
      have ih := digits_core k fuel (n / 10) (Nat.digitChar (n % 10) :: ds) (by rw [Nat.pow_succ] at h1; omega) (by omega) hk
      rw [List.map_cons, dig_char] at ih
      exact ih
theorem digits_repr {n : Nat} (h : n < 10 ^ 700) : digits 700 n [] = (Nat.repr n).toList.map Char.toNat := by
  have e := digits_core 700 (n + 1) n [] h (Nat.lt_succ_self n) (by omega)
  rw [List.map_nil] at e
  rw [e]
  unfold Nat.repr Nat.toDigits
  rw [String.toList_ofList]
theorem ofString_list (l : List Char) : Str.ofString (String.ofList l) = ⟨(l.map Char.toNat).toArray⟩ := by rw [Str.ofString_eq_toList, String.toList_ofList]
theorem intStr_ok {i : Int} (h : i.natAbs.log2 ≤ 1900) : ((toString i : String) : Str) = ⟨(intStr i).toArray⟩ := by
  have small : i.natAbs < 10 ^ 700 := by
    have h1 : i.natAbs < 2 ^ (i.natAbs.log2 + 1) := Nat.lt_log2_self
    have h2 : (2 : Nat) ^ (i.natAbs.log2 + 1) ≤ 2 ^ 1901 := Nat.pow_le_pow_right (by omega) (by omega)
    have h3 : Nat.ble (2 ^ 1901) (10 ^ 700) = true := by decide +kernel
    have h3 := Nat.le_of_ble_eq_true h3
    omega
  rw [Str.ofString_eq_toList]
  cases i with
  | ofNat n =>
    have small : n < 10 ^ 700 := small
    show (⟨((Nat.repr n).toList.map Char.toNat).toArray⟩ : Str) = ⟨(digits 700 n []).toArray⟩
    rw [digits_repr small]
  | negSucc n =>
    have small : n + 1 < 10 ^ 700 := small
    have e : (toString (Int.negSucc n)).toList = '-' :: (Nat.repr (n + 1)).toList := by
      show (Int.repr (Int.negSucc n)).toList = _
      simp [Int.repr]
    rw [e]
    show (⟨(Char.toNat '-' :: ((Nat.repr (n + 1)).toList.map Char.toNat)).toArray⟩ : Str) = ⟨(45 :: digits 700 (n + 1) []).toArray⟩
    rw [digits_repr small]
    rfl
/-- a text by its signs -/
abbrev mkS (s : List Nat) : Str := ⟨s.toArray⟩
theorem app_S (x y : List Nat) : mkS x ++ mkS y = mkS (x ++ y) := by
  show Str.append _ _ = _
  unfold Str.append
  simp
theorem s_open : ("(" : Str) = mkS [40] := by decide +kernel
theorem s_close : (")" : Str) = mkS [41] := by decide +kernel
theorem s_comma : (", " : Str) = mkS [44, 32] := by decide +kernel
theorem s_commaClose : (",)" : Str) = mkS [44, 41] := by decide +kernel
theorem s_None : ("None" : Str) = mkS [78, 111, 110, 101] := by decide +kernel
theorem s_True : ("True" : Str) = mkS [84, 114, 117, 101] := by decide +kernel
theorem s_False : ("False" : Str) = mkS [70, 97, 108, 115, 101] := by decide +kernel
theorem join_S : ∀ ss : List (List Nat), Str.join (mkS [44, 32]) (ss.map mkS) = mkS (commaJ ss)
  | [] => rfl
  | [x] => rfl
  | x :: y :: r => by
    have ih := join_S (y :: r)
    show mkS x ++ mkS [44, 32] ++ Str.join (mkS [44, 32]) (mkS y :: r.map mkS) = _
    rw [show Str.join (mkS [44, 32]) (mkS y :: r.map mkS) = mkS (commaJ (y :: r)) from ih, app_S, app_S]
    show mkS (x ++ [44, 32] ++ commaJ (y :: r)) = mkS (x ++ 44 :: 32 :: commaJ (y :: r))
    congr 1
    simp
section
variable {st : St}
theorem all_ok_lay {s : List Nat} (h : s.all okCh = true) : (s.all fun c => Nat.blt c 1114112) = true := by
  rw [List.all_eq_true] at h ⊢
  intro c hc
  have := h c hc
  unfold okCh at this
  simp only [Bool.and_eq_true, decide_eq_true_eq] at this
  simp only [Nat.blt_eq]
  omega
theorem nrm_repr : ∀ {n : Nat} {d : D} {s : List Nat}, reprD n d = some s → nrm st d = d
  | 0, _, _, h => by cases h
  | n + 1, d, s, h => by cases d <;> first | rfl | (cases h; done)
mutual
theorem rep_TP : ∀ (n : Nat) (d : D) (s : List Nat), reprD n d = some s → ∃ p, TP st d p ∧ PyData.canLay0 p = true ∧ PyData.showable p = true ∧ PyData.depth p ≤ n ∧ PyData.shown p = mkS s
  | 0, _, _, h => by cases h
  | n + 1, d, s, h => by
    unfold reprD at h
    cases d with
    | non => cases h; exact ⟨_, .non, rfl, rfl, Nat.zero_le _, by rw [PyData.shown, s_None]⟩
    | bl b => cases b with
      | true => cases h; exact ⟨_, .bl true, rfl, rfl, Nat.zero_le _, by rw [PyData.shown]; exact s_True⟩
      | false => cases h; exact ⟨_, .bl false, rfl, rfl, Nat.zero_le _, by rw [PyData.shown]; exact s_False⟩
    | int i =>
      simp only at h
      cases e : Nat.ble i.natAbs.log2 1900 with
      | false => rw [e] at h; cases h
      | true =>
        rw [e] at h
        cases h
        have e := Nat.le_of_ble_eq_true e
        exact ⟨_, .int i, rfl, by rw [PyData.showable]; exact decide_eq_true (by omega), Nat.zero_le _, by rw [PyData.shown]; exact intStr_ok e⟩
    | str x =>
      simp only at h
      cases e : x.all okCh && Nat.ble x.length 1000 with
      | false => rw [e] at h; cases h
      | true =>
        rw [e] at h
        cases h
        rw [Bool.and_eq_true] at e
        exact ⟨_, .str x, str_ok (all_ok_lay e.1), rfl, Nat.zero_le _, by rw [PyData.shown]; exact okCh_text e.1⟩
    | tup xs =>
      simp only at h
      have tx : ∀ ts : List Str, tupleText ts = ("(" : Str) ++ Str.join ", " ts ++ (if ts.length == 1 then ",)" else ")" : String) := fun _ => rfl
      match xs, h with
      | [], h =>
        cases h
        refine ⟨_, .tup .nil, rfl, rfl, by rw [PyData.depth, PyData.depthAll]; omega, ?_⟩
        rw [PyData.shown, PyData.shownAll, tx]
        show ("(" : Str) ++ Str.empty ++ (")" : Str) = _
        rw [s_open, s_close]
        rfl
      | [x], h =>
        simp only at h
        cases e : reprD n x with
        | none => rw [e] at h; cases h
        | some sx =>
          rw [e] at h
          cases h
          obtain ⟨p, h1, h2, h3, h4, h5⟩ := rep_TP n x sx e
          refine ⟨_, .tup (.cons (by rw [nrm_repr e]; exact h1) .nil), by rw [PyData.canLay0, PyData.canLayAll0, h2]; rfl, by rw [PyData.showable, PyData.showableAll, h3]; rfl, by rw [PyData.depth, PyData.depthAll, PyData.depthAll]; omega, ?_⟩
          rw [PyData.shown, PyData.shownAll, PyData.shownAll, tx, h5]
          show ("(" : Str) ++ mkS sx ++ (",)" : Str) = _
          rw [s_open, s_commaClose, app_S, app_S]
          congr 1
      | x :: y :: r, h =>
        simp only at h
        cases e : reprL n (x :: y :: r) with
        | none => rw [e] at h; cases h
        | some ss =>
          rw [e] at h
          cases h
          obtain ⟨ps, h1, h2, h3, h4, h5⟩ := rep_TPs n _ ss e
          refine ⟨_, .tup h1, by rw [PyData.canLay0]; exact h2, by rw [PyData.showable]; exact h3, by rw [PyData.depth]; omega, ?_⟩
          rw [PyData.shown, tx, h5]
          have ln : ps.length = (x :: y :: r).length := by
            have key : ∀ {ds : List D} {ps : List PyData}, TPs st ds ps → ps.length = ds.length := by
              intro ds
              induction ds with
              | nil => intro ps h; cases h; rfl
              | cons d ds ih => intro ps h; cases h with
                | cons _ t => rw [List.length_cons, List.length_cons, ih t]
            exact key h1
          have l2 : (ss.map mkS).length = r.length + 2 := by rw [← h5, PyData.shownAll_length, ln]; rfl
          rw [if_neg (by rw [l2]; simp), s_open, s_comma, join_S]
          show mkS [40] ++ mkS (commaJ ss) ++ (")" : Str) = _
          rw [s_close, app_S, app_S]
          congr 1
    | loc _ => cases h
    | fn _ => cases h
    | any => cases h
    | cho _ _ => cases h
theorem rep_TPs : ∀ (n : Nat) (ds : List D) (ss : List (List Nat)), reprL n ds = some ss → ∃ ps, TPs st ds ps ∧ PyData.canLayAll0 ps = true ∧ PyData.showableAll ps = true ∧ PyData.depthAll ps ≤ n ∧ PyData.shownAll ps = ss.map mkS
  | 0, _, _, h => by cases h
  | n + 1, [], ss, h => by
    unfold reprL at h
    cases h
    exact ⟨[], .nil, rfl, rfl, Nat.zero_le _, rfl⟩
  | n + 1, x :: xs, ss, h => by
    unfold reprL at h
    cases e : reprD n x with
    | none => simp only [e] at h; cases h
    | some sx =>
      cases e2 : reprL n xs with
      | none => simp only [e, e2] at h; cases h
      | some sxs =>
        simp only [e, e2] at h
        cases h
        obtain ⟨p, h1, h2, h3, h4, h5⟩ := rep_TP n x sx e
        obtain ⟨ps, k1, k2, k3, k4, k5⟩ := rep_TPs n xs sxs e2
        exact ⟨p :: ps, .cons (by rw [nrm_repr e]; exact h1) k1, by rw [PyData.canLayAll0, h2, k2]; rfl, by rw [PyData.showableAll, h3, k3]; rfl, by rw [PyData.depthAll]; omega, by rw [PyData.shownAll, h5, k5]; rfl⟩
end
end
/-- repr(x), by values -/
theorem call_reprD {X : Cx} (hg : X.A.guards = some []) (hu : X.A.units + 65 < cLine) : CallR X (.builtin "repr") (fun xs H Q => ∃ x p, xs = [x] ∧ Dp X.K H x p ∧ PyData.showable p = true ∧ PyData.canLay0 p = true ∧ PyData.depth p ≤ 60 ∧ (PyData.shown p).length ≤ sizeLine ∧ Q (.str (PyData.shown p)) H) := by
  intro pins s σ H vs us Q I r h
  obtain ⟨x, p, rfl, hd, h1, h2, h3, h4, q⟩ := h
  obtain ⟨u, rfl, ru⟩ := vals1 r
  have small : s.heap.objs.size = s.heap.objs.size := rfl
  cases hd with
  | non => cases ru; exact PySem.P.repr_of_none ⟨.str _, H, I.tok _, ⟨_, rfl⟩, by rw [PyData.shown] at q; exact q⟩
  | bl b =>
    cases ru
    refine PySem.P.repr_of_bool ⟨.str _, H, I.tok _, ⟨_, rfl⟩, ?_⟩
    rw [PyData.shown] at q
    cases b <;> exact q
  | int i =>
    obtain ⟨t, rfl⟩ := ru
    rw [PyData.showable] at h1
    exact PySem.P.repr_of_int (of_decide_eq_true h1) ⟨.str _, H, I.tok _, ⟨_, rfl⟩, by rw [PyData.shown] at q; exact q⟩
  | str y =>
    obtain ⟨t, rfl⟩ := ru
    rw [PyData.shown] at q h4
    exact PySem.P.repr_of_str ⟨.str _, H, I.tok _, ⟨_, rfl⟩, q⟩ h4
  | @lst a ys ds e1 e2 =>
    cases ru
    obtain ⟨as, rd⟩ := Dp.reads I (.list ds) (.ref a) (.ref a) (.lst e1 e2) rfl
    exact PySem.repr_of_reads' rd h1 (PyData.noDict_hsm (PyData.hasDict_of_canLay _ h2)) hg (by omega) (fun _ _ h => h) (fun h' u tk k => ⟨.str _, H, I.kept (t' := tk) k, ⟨_, rfl⟩, q⟩) h4
  | @tup a ys ds e1 e2 =>
    cases ru
    obtain ⟨as, rd⟩ := Dp.reads I (.tuple ds) (.ref a) (.ref a) (.tup e1 e2) rfl
    exact PySem.repr_of_reads' rd h1 (PyData.noDict_hsm (PyData.hasDict_of_canLay _ h2)) hg (by omega) (fun _ _ h => h) (fun h' u tk k => ⟨.str _, H, I.kept (t' := tk) k, ⟨_, rfl⟩, q⟩) h4
end MX
end
section
set_option Elab.async false
set_option linter.all false
set_option autoImplicit false
set_option maxRecDepth 100000
set_option maxHeartbeats 400000
/-! Built-in functions, subscripts, slices, methods of lists. -/
namespace MX
open PySem PySem.Spec PyProof.Rows L2
theorem noStars {es : List Expr} {env : Env} (h : es.any isStar = false) : ∀ {pos : Pos}, (backTo pos (starEach es env)).any (·.1) = false := by
  intro pos
  induction es with
  | nil => rfl
  | cons a es ih =>
    rw [List.any_cons, Bool.or_eq_false_iff] at h
    have e : starEach (a :: es) env = (false, eval a env) :: starEach es env := by cases a <;> first | rfl | (cases h.1)
    rw [e]
    show (false || (backTo pos (starEach es env)).any (·.1)) = false
    rw [ih h.2]; rfl
theorem noStar1 {a : Expr} {es : List Expr} {env : Env} (h : (a :: es).any isStar = false) : starEach (a :: es) env = (false, eval a env) :: starEach es env := by
  rw [List.any_cons, Bool.or_eq_false_iff] at h
  cases a <;> first | rfl | (cases h.1)
theorem few_ok {es : List Expr} (h : fewArgs es = true) : es.length < 25 ∧ es.any isStar = false := by
  unfold fewArgs at h
  rw [Bool.and_eq_true, Bool.not_eq_true'] at h
  exact ⟨of_decide_eq_true h.1, h.2⟩
theorem base_ok {o : Expr} {f : Str} {env : Env} (h : recvOk o = true) : attributeBase o f env (eval o env) = eval o env := by
  have key : ∀ whole, attributeBase o f env whole = whole := by
    intro whole
    cases o with
    | Call fn as ks pos =>
      cases fn <;> first
        | rfl
        | (cases as with
          | nil =>
            cases ks with
            | nil => cases h
            | cons _ _ => rfl
          | cons _ _ => rfl)
    | _ => rfl
  exact key _
theorem _root_.L2.CallR.imp' {X : Cx} {f : Value} {r r' : List V → Hp → VK → Prop} (h : CallR X f r) (k : ∀ xs H Q, r' xs H Q → r xs H Q) : CallR X f r' := fun pins s σ H vs us Q I r1 q => h pins s σ H vs us Q I r1 (k _ _ _ q)
section
variable {W : Wd} {J : Jx} {c : CC} {k : Nat}
def rBi (W : Wd) (J : Jx) (b : BF) : List V → Hp → VK → Prop := fun vs H Q => ∃ (σ : L2.St) (st : St) (ρ : Asg) (ds : List D), SRel W J.X J.κ σ st ρ H ∧ W.RDs st.nx ρ H ds vs ∧ Post W J σ st.nx ρ H (rD W) Q (bltn W.G b ds st)
theorem allB_rel {nx : Nat} {ρ : Asg} {H : Hp} : ∀ {xs : List D} {vs : List V} {bs : List Bool}, W.RDs nx ρ H xs vs → allB xs = some bs → vs = bs.map V.bl
  | _, _, _, .nil, h => by cases h; rfl
  | d :: xs, v :: vs, bs, .cons h t, e => by
    cases h with
    | bl b =>
      have e : (allB xs).map (b :: ·) = some bs := e
      cases q : allB xs with
      | none => rw [q] at e; cases e
      | some cs =>
        rw [q] at e
        cases e
        rw [allB_rel t q]; rfl
    | _ => cases e
theorem allI_rel {nx : Nat} {ρ : Asg} {H : Hp} : ∀ {xs : List D} {vs : List V} {bs : List Int}, W.RDs nx ρ H xs vs → allI xs = some bs → vs = bs.map V.int
  | _, _, _, .nil, h => by cases h; rfl
  | d :: xs, v :: vs, bs, .cons h t, e => by
    cases h with
    | int b =>
      have e : (allI xs).map (b :: ·) = some bs := e
      cases q : allI xs with
      | none => rw [q] at e; cases e
      | some cs =>
        rw [q] at e
        cases e
        rw [allI_rel t q]; rfl
    | _ => cases e
/-- the list at a loc -/
theorem lst_at {σ : L2.St} {st : St} {ρ : Asg} {H : Hp} {n : Nat} {v : V} {xs : List D} (s : SRel W J.X J.κ σ st ρ H) (r : W.RD st.nx ρ H (.loc n) v) (g : st.get n = some (.lst xs)) :
    ∃ (a : Addr) (vs : List V), v = .ref a ∧ (ρ n).1 = some a ∧ n < st.nx ∧ H a = some (.lst vs) ∧ W.RDs st.nx ρ H xs vs := by
  cases r with
  | @loc m a h1 h2 =>
    obtain ⟨b, ro⟩ := s.at h1 h2 g
    cases ro with
    | lst e1 e2 => exact ⟨a, _, rfl, h2, h1, e1, e2⟩
variable (g : XG W J c k)
include g
theorem b_len : CallR J.X (.builtin "len") (rBi W J .len) := by
  refine (CallR.or call_len_seq call_len_str).imp' fun vs H Q ⟨σ, st, ρ, ds, s, r, p⟩ => ?_
  rw [g.K]
  match ds, r with
  | [d], .cons r .nil =>
    cases r with
    | str x =>
      have p : Post W J σ st.nx ρ H (rD W) Q (cond (Nat.ble x.length 100000) (R.ok (D.int x.length) st) R.bad) := p
      obtain ⟨hb, p⟩ := cond_post p
      refine .inr ⟨_, rfl, by rw [str_size]; exact line_of (Nat.le_of_ble_eq_true hb), ?_⟩
      rw [str_size]
      exact p.now s (.int _)
    | tup h1 h2 =>
      refine .inl ⟨_, _, rfl, .inr h1, ?_⟩
      rw [← h2.length]
      exact Post.now (a := D.int _) p s (.int _)
    | @loc n a h1 h2 =>
      have p : Post W J σ st.nx ρ H (rD W) Q (match seqOf st (.loc n) with | some xs => R.ok (D.int xs.length) st | none => (match st.get n with
        | some (.scr n) => .ok (.int n) st
        | _ => R.bad)) := p
      cases e : seqOf st (.loc n) with
      | none =>
        rw [e] at p
        have p : Post W J σ st.nx ρ H (rD W) Q (match st.get n with
          | some (.scr n) => .ok (.int n) st
          | _ => R.bad) := p
        split at p
        · rename_i q e2
          obtain ⟨b, ro⟩ := s.at h1 h2 e2
          cases ro with
          | @scr _ _ _ ns f1 f2 f3 f4 =>
            refine .inl ⟨_, ns.map V.int, rfl, .inl (.inl f1), ?_⟩
            rw [List.length_map, f2]
            exact p.now s (.int _)
        · exact p.elim
      | some xs =>
        rw [e] at p
        obtain ⟨b, us, e1, q1, q2⟩ := seq_rel s e (.loc h1 h2)
        cases e1
        refine .inl ⟨_, us, rfl, q2, ?_⟩
        rw [← q1.length]
        exact p.now s (.int _)
    | _ => exact p.elim
  | [], .nil => exact p.elim
  | _ :: _ :: _, .cons _ (.cons _ _) => exact p.elim
theorem b_abs : CallR J.X (.builtin "abs") (rBi W J .abs) := by
  refine call_abs.imp' fun vs H Q ⟨σ, st, ρ, ds, s, r, p⟩ => ?_
  match ds, r with
  | [d], .cons r .nil =>
    cases r with
    | int i => exact ⟨i, rfl, Post.now (a := D.int _) p s (.int _)⟩
    | _ => exact p.elim
  | [], .nil => exact p.elim
  | _ :: _ :: _, .cons r (.cons _ _) => cases r <;> exact p.elim
theorem b_int : CallR J.X (.type "int") (rBi W J .int) := by
  refine call_int1.imp' fun vs H Q ⟨σ, st, ρ, ds, s, r, p⟩ => ?_
  match ds, r with
  | [d], .cons r .nil =>
    cases r with
    | int i => exact .inl ⟨i, rfl, Post.now (a := D.int _) p s (.int _)⟩
    | bl b => exact .inr ⟨b, rfl, Post.now (a := D.int _) p s (.int _)⟩
    | _ => exact p.elim
  | [], .nil => exact p.elim
  | _ :: _ :: _, .cons r (.cons _ _) => cases r <;> exact p.elim
theorem b_max : CallR J.X (.builtin "max") (rBi W J .max) := by
  refine (call_max2 g.calm).imp' fun vs H Q ⟨σ, st, ρ, ds, s, r, p⟩ => ?_
  match ds, r with
  | [d, e], .cons r (.cons q .nil) =>
    cases r with
    | int i =>
      cases q with
      | int j => exact ⟨i, j, rfl, Post.now (a := D.int _) p s (.int _)⟩
      | _ => exact p.elim
    | _ => exact p.elim
  | [], .nil => exact p.elim
  | [_], .cons r .nil => cases r <;> exact p.elim
  | _ :: _ :: _ :: _, .cons r (.cons q (.cons _ _)) => cases r <;> cases q <;> exact p.elim
theorem b_min : CallR J.X (.builtin "min") (rBi W J .min) := by
  refine (call_min2 g.calm).imp' fun vs H Q ⟨σ, st, ρ, ds, s, r, p⟩ => ?_
  match ds, r with
  | [d, e], .cons r (.cons q .nil) =>
    cases r with
    | int i =>
      cases q with
      | int j => exact ⟨i, j, rfl, Post.now (a := D.int _) p s (.int _)⟩
      | _ => exact p.elim
    | _ => exact p.elim
  | [], .nil => exact p.elim
  | [_], .cons r .nil => cases r <;> exact p.elim
  | _ :: _ :: _ :: _, .cons r (.cons q (.cons _ _)) => cases r <;> cases q <;> exact p.elim
theorem b_all : CallR J.X (.builtin "all") (rBi W J .all) := by
  refine (cr_all g.calm).imp' fun vs H Q ⟨σ, st, ρ, ds, s, r, p⟩ => ?_
  rw [g.K]
  match ds, r with
  | [.loc n], .cons r .nil =>
    have p : Post W J σ st.nx ρ H (rD W) Q (match st.get n with | some (.lst xs) => (match allB xs with | some bs => R.ok (D.bl (bs.all id)) st | none => R.bad) | _ => R.bad) := p
    cases e : st.get n with
    | none => rw [e] at p; exact p.elim
    | some ob =>
      rw [e] at p
      cases ob with
      | lst xs =>
        obtain ⟨a, us, rfl, _, _, h1, h2⟩ := lst_at s r e
        simp only at p
        cases q : allB xs with
        | none => rw [q] at p; exact p.elim
        | some bs =>
          rw [q] at p
          have e2 := allB_rel h2 q
          subst e2
          exact ⟨a, bs, rfl, .inl (.inl h1), p.now s (.bl _)⟩
      | _ => exact p.elim
  | [.non], .cons .non .nil => exact p.elim
  | [.bl _], .cons (.bl _) .nil => exact p.elim
  | [.int _], .cons (.int _) .nil => exact p.elim
  | [.str _], .cons (.str _) .nil => exact p.elim
  | [.tup _], .cons (.tup _ _) .nil => exact p.elim
  | [.fn _], .cons (.fn _) .nil => exact p.elim
  | [], .nil => exact p.elim
  | _ :: _ :: _, .cons r (.cons _ _) => cases r <;> exact p.elim
theorem b_any : CallR J.X (.builtin "any") (rBi W J .any) := by
  refine (cr_any g.calm).imp' fun vs H Q ⟨σ, st, ρ, ds, s, r, p⟩ => ?_
  rw [g.K]
  match ds, r with
  | [.loc n], .cons r .nil =>
    have p : Post W J σ st.nx ρ H (rD W) Q (match st.get n with | some (.lst xs) => (match allB xs with | some bs => R.ok (D.bl (bs.any id)) st | none => R.bad) | _ => R.bad) := p
    cases e : st.get n with
    | none => rw [e] at p; exact p.elim
    | some ob =>
      rw [e] at p
      cases ob with
      | lst xs =>
        obtain ⟨a, us, rfl, _, _, h1, h2⟩ := lst_at s r e
        simp only at p
        cases q : allB xs with
        | none => rw [q] at p; exact p.elim
        | some bs =>
          rw [q] at p
          have e2 := allB_rel h2 q
          subst e2
          exact ⟨a, bs, rfl, .inl (.inl h1), p.now s (.bl _)⟩
      | _ => exact p.elim
  | [.non], .cons .non .nil => exact p.elim
  | [.bl _], .cons (.bl _) .nil => exact p.elim
  | [.int _], .cons (.int _) .nil => exact p.elim
  | [.str _], .cons (.str _) .nil => exact p.elim
  | [.tup _], .cons (.tup _ _) .nil => exact p.elim
  | [.fn _], .cons (.fn _) .nil => exact p.elim
  | [], .nil => exact p.elim
  | _ :: _ :: _, .cons r (.cons _ _) => cases r <;> exact p.elim
theorem b_sum : CallR J.X (.builtin "sum") (rBi W J .sum) := by
  refine (cr_sum g.calm).imp' fun vs H Q ⟨σ, st, ρ, ds, s, r, p⟩ => ?_
  rw [g.K]
  match ds, r with
  | [.loc n], .cons r .nil =>
    have p : Post W J σ st.nx ρ H (rD W) Q (match st.get n with | some (.lst xs) => (match allI xs with | some bs => R.ok (D.int bs.sum) st | none => R.bad) | _ => R.bad) := p
    cases e : st.get n with
    | none => rw [e] at p; exact p.elim
    | some ob =>
      rw [e] at p
      cases ob with
      | lst xs =>
        obtain ⟨a, us, rfl, _, _, h1, h2⟩ := lst_at s r e
        simp only at p
        cases q : allI xs with
        | none => rw [q] at p; exact p.elim
        | some bs =>
          rw [q] at p
          have e2 := allI_rel h2 q
          subst e2
          exact ⟨a, bs, rfl, .inl (.inl h1), p.now s (.int _)⟩
      | _ => exact p.elim
  | [.non], .cons .non .nil => exact p.elim
  | [.bl _], .cons (.bl _) .nil => exact p.elim
  | [.int _], .cons (.int _) .nil => exact p.elim
  | [.str _], .cons (.str _) .nil => exact p.elim
  | [.tup _], .cons (.tup _ _) .nil => exact p.elim
  | [.fn _], .cons (.fn _) .nil => exact p.elim
  | [], .nil => exact p.elim
  | _ :: _ :: _, .cons r (.cons _ _) => cases r <;> exact p.elim
theorem b_tuple : CallR J.X (.type "tuple") (rBi W J .tuple) := by
  refine call_tuple_of.imp' fun vs H Q ⟨σ, st, ρ, ds, s, r, p⟩ => ?_
  rw [g.K]
  match ds, r with
  | [.loc n], .cons r .nil =>
    have p : Post W J σ st.nx ρ H (rD W) Q (match st.get n with | some (.lst xs) => R.ok (D.tup xs) st | _ => R.bad) := p
    cases e : st.get n with
    | none => rw [e] at p; exact p.elim
    | some ob =>
      rw [e] at p
      cases ob with
      | lst xs =>
        obtain ⟨a, us, rfl, _, _, h1, h2⟩ := lst_at s r e
        exact ⟨a, us, rfl, .inl ⟨.inl (.inl h1), post_tup s h2 p⟩⟩
      | _ => exact p.elim
  | [.tup xs], .cons (.tup h1 h2) .nil => exact ⟨_, _, rfl, .inr ⟨h1, Post.now (a := D.tup _) p s (.tup h1 h2)⟩⟩
  | [.non], .cons .non .nil => exact p.elim
  | [.bl _], .cons (.bl _) .nil => exact p.elim
  | [.int _], .cons (.int _) .nil => exact p.elim
  | [.str _], .cons (.str _) .nil => exact p.elim
  | [.fn _], .cons (.fn _) .nil => exact p.elim
  | [], .nil => exact p.elim
  | _ :: _ :: _, .cons r (.cons _ _) => cases r <;> exact p.elim
theorem b_list : CallR J.X (.type "list") (rBi W J .list) := by
  refine call_list_of.imp' fun vs H Q ⟨σ, st, ρ, ds, s, r, p⟩ => ?_
  rw [g.K]
  match ds, r with
  | [d], .cons r .nil =>
    have p : Post W J σ st.nx ρ H (rD W) Q (match seqOf st d with | some xs => alloc (.lst xs) st | none => .bad) := p
    cases e : seqOf st d with
    | none => rw [e] at p; exact p.elim
    | some xs =>
      rw [e] at p
      obtain ⟨a, us, rfl, q1, q2⟩ := seq_rel s e r
      exact ⟨a, us, rfl, q2, post_lst s q1 p⟩
  | [], .nil => exact p.elim
  | _ :: _ :: _, .cons r (.cons _ _) => exact p.elim
omit g in
theorem reprAll_get : ∀ {ds es : List D} {i : Nat} {d : D}, reprAll ds = some es → ds[i]? = some d → ∃ z, reprD 20 d = some z ∧ z.length ≤ 100000 ∧ es[i]? = some (.str z)
  | [], _, _, _, _, e => by simp at e
  | x :: r, es, i, d, h, e => by
    unfold reprAll at h
    cases e1 : reprD 20 x with
    | none => rw [e1] at h; cases h
    | some z =>
      rw [e1] at h
      simp only at h
      cases hb : Nat.ble z.length 100000 with
      | false => rw [hb] at h; cases h
      | true =>
        rw [hb] at h
        have h : (reprAll r).map (.str z :: ·) = some es := h
        cases hr : reprAll r with
        | none => rw [hr] at h; cases h
        | some rs =>
          rw [hr] at h
          cases h
          cases i with
          | zero => simp at e; subst e; exact ⟨z, e1, Nat.le_of_ble_eq_true hb, by simp⟩
          | succ i =>
            obtain ⟨y, y1, y2, y3⟩ := reprAll_get hr (by simpa using e)
            exact ⟨y, y1, y2, by simpa using y3⟩
theorem b_repr (hg : J.X.A.guards = some []) : CallR J.X (.builtin "repr") (rBi W J .repr) := by
  refine (call_reprD hg g.units).imp' fun vs H Q ⟨σ, st, ρ, ds, s, r, p⟩ => ?_
  rw [g.K]
  match ds, r with
  | [d], .cons r .nil =>
    by_cases hc : ∃ n xs, d = .cho n xs
    · obtain ⟨n, xs, rfl⟩ := hc
      have p : Post W J σ st.nx ρ H (rD W) Q (match reprAll xs with | some es => .ok (.cho n es) st | none => .bad) := p
      cases ea : reprAll xs with
      | none => rw [ea] at p; exact p.elim
      | some es =>
        rw [ea] at p
        cases r with
        | @cho _ _ d v hn hd rd =>
          obtain ⟨z, z1, z2, z3⟩ := reprAll_get ea hd
          obtain ⟨q, h1, h2, h3, h4, h5⟩ := rep_TP (st := st) 20 d z z1
          refine ⟨_, q, rfl, h1.dp s rd, h3, h2, by omega, ?_, ?_⟩
          · rw [h5, str_size]; exact line_of z2
          · rw [h5]; exact p.now s (.cho hn z3 (.str _))
    have p : Post W J σ st.nx ρ H (rD W) Q (match reprD 20 d with | some s => cond (Nat.ble s.length 100000) (.ok (.str s) st) .bad | none => .bad) := by
      cases d <;> first | exact p | exact absurd ⟨_, _, rfl⟩ hc
    cases e : reprD 20 d with
    | none => rw [e] at p; exact p.elim
    | some z =>
      rw [e] at p
      obtain ⟨hb, p⟩ := cond_post p
      obtain ⟨q, h1, h2, h3, h4, h5⟩ := rep_TP (st := st) 20 d z e
      refine ⟨_, q, rfl, h1.dp s r, h3, h2, by omega, ?_, ?_⟩
      · rw [h5, str_size]; exact line_of (Nat.le_of_ble_eq_true hb)
      · rw [h5]; exact p.now s (.str _)
  | [], .nil => exact p.elim
  | _ :: _ :: _, .cons r (.cons _ _) => cases r <;> exact p.elim
end
end MX
end
section
set_option Elab.async false
set_option linter.all false
set_option autoImplicit false
set_option maxRecDepth 100000
set_option maxHeartbeats 400000
/-! Calls of built-ins by name, isinstance, attributes, subscripts, slices, methods of lists. -/
namespace MX
open PySem PySem.Spec PyProof.Rows L2
/-- what a plain class of the text must have -/
structure OwnC (W : Wd) (c : Nat) (k : MX.Cls) : Prop where
  cls : L2.Cls W.K (W.ad c)
  mkf : ∀ f, k.init = some f → L2.Mk W.K (W.ad c) (W.ad f)
  noa : ∀ f, f < W.at_.length → lookM f k.meths = none → NoAttr W.K (W.ad c) (nmAt W.at_ f)
  me : ∀ m f, lookM m k.meths = some f → Meth W.K (W.ad c) (nmAt W.at_ m) (W.ad f)
  ha : PySem.W.findIn W.K (.ref (W.ad c)) "__class__" = some (some (.builtin "object.__class__"))
  hn : PySem.W.specialIn W.K (.builtin "object.__class__") "__get__" = some (some (.builtin "getset_descriptor.__get__"))
  htk : PySem.W.takesIn W.K (.builtin "object.__class__") = some true
  hm : PySem.W.mroIn W.K (W.ad c) (.type "object") = some true
  isB : ∀ t ∈ (["int", "bool", "tuple", "str", "list"] : List String), PySem.W.kitOne W.K (.ref (W.ad c)) (.type t) = some false
  tyC : ∀ t ∈ (["NoneType", "int", "bool", "tuple", "str", "list"] : List String), PySem.W.kitOne W.K (.type t) (.ref (W.ad c)) = some false
structure GC (W : Wd) : Prop where
  own : ∀ c k, W.G.tab[c]? = some (GI.cls k) → k.init.isSome = true → OwnC W c k
  two : ∀ c d, ownC W.G c = true → ownC W.G d = true → PySem.W.kitOne W.K (.ref (W.ad c)) (.ref (W.ad d)) = some (Nat.beq c d)
  nd : W.at_.Nodup
  isC : ∀ g, W.cl.contains g = true → ∃ k, W.G.tab[g]? = some (.cls k)
theorem GC.of {W : Wd} (C : GC W) {c : Nat} (h : ownC W.G c = true) : ∃ k, W.G.tab[c]? = some (.cls k) ∧ k.init.isSome = true ∧ OwnC W c k := by
  unfold ownC at h
  split at h
  · rename_i k e
    exact ⟨k, e, h, C.own c k e h⟩
  · cases h
section
variable {W : Wd} {J : Jx} {c : CC} {k : Nat} (g : XG W J c k)
include g
theorem tcb_of {b : BF} {fs : Sg → St → R (List D)} {σ : L2.St} {H : Hp} {Q : VK} (h : sem W J (rD W) (fun σd st => (fs σd st).bind fun ds st => bltn W.G b ds st) σ H Q) : tCB (rBi W J b) (sem W J (rDs W) fs) σ H Q := by
  obtain ⟨σd, st, ρ, l, s, p⟩ := h
  exact ⟨σd, st, ρ, l, s, (Post.bind (rl := rDs W) p).mono fun vs H1 ⟨ds, st1, ρ1, x1, s1, r1, p1⟩ => ⟨σ, st1, ρ1, ds, s1, r1, p1⟩⟩
theorem e_bi (F : GF W) (hgu : J.X.A.guards = some []) {x : Str} {b : BF} {a : Expr} {es : List Expr} {fs : Sg → St → R (List D)} {p pos : Pos} (h : c.blt x = true) (hb : bfOf x = some b) (hf : fewArgs (a :: es) = true)
    (ha : PA J.X (a :: es) (sem W J (rDs W) fs)) : PE J.X (.Call (.Name x p) (a :: es) [] pos) (sem W J (rD W) fun σd st => (fs σd st).bind fun ds st => bltn W.G b ds st) := by
  obtain ⟨h1, h2, h3, hu⟩ := blt_ok h
  obtain ⟨n1, _, n2⟩ := nmOk_ok h3
  obtain ⟨_, f2⟩ := few_ok hf
  have hg := g.gb x h1
  rw [g.gl] at h2
  have hm : ∀ u, bootBuiltins x = some u → J.X.mg x = none := fun u q => by rw [g.mg]; exact F.blt x u q hu h2
  have hs := noStar1 (env := J.X.env) f2
  have hp : (backTo pos (starEach es J.X.env)).any (·.1) = false := noStars (by rw [List.any_cons, Bool.or_eq_false_iff] at f2; exact f2.2)
  have kB : ∀ {id : String}, CallR J.X (.builtin id) (rBi W J b) → bootBuiltins x = some (.builtin id) → PE J.X (.Call (.Name x p) (a :: es) [] pos) (sem W J (rD W) fun σd st => (fs σd st).bind fun ds st => bltn W.G b ds st) :=
    fun q v => (pe_callB q hg (hm _ v) v ha n2 n1 hs hp).imp fun σ H Q z => tcb_of g z
  have kT : ∀ {id : String}, CallR J.X (.type id) (rBi W J b) → bootBuiltins x = some (.type id) → PE J.X (.Call (.Name x p) (a :: es) [] pos) (sem W J (rD W) fun σd st => (fs σd st).bind fun ds st => bltn W.G b ds st) :=
    fun q v => (pe_callTy q hg (hm _ v) v ha n2 n1 hs hp).imp fun σ H Q z => tcb_of g z
  unfold bfOf at hb
  split at hb
  · rename_i e; cases hb; exact kB (b_len g) (by rw [e]; exact boot_len)
  split at hb
  · rename_i e; cases hb; exact kB (b_abs g) (by rw [e]; exact boot_abs)
  split at hb
  · rename_i e; cases hb; exact kT (b_int g) (by rw [e]; exact PyProof.Rows.boot_int)
  split at hb
  · rename_i e; cases hb; exact kB (b_max g) (by rw [e]; exact boot_max)
  split at hb
  · rename_i e; cases hb; exact kB (b_min g) (by rw [e]; exact boot_min)
  split at hb
  · rename_i e; cases hb; exact kB (b_all g) (by rw [e]; exact boot_all)
  split at hb
  · rename_i e; cases hb; exact kB (b_any g) (by rw [e]; exact boot_any)
  split at hb
  · rename_i e; cases hb; exact kB (b_sum g) (by rw [e]; exact boot_sum)
  split at hb
  · rename_i e; cases hb; exact kT (b_tuple g) (by rw [e]; exact PyProof.Rows.boot_tuple)
  split at hb
  · rename_i e; cases hb; exact kT (b_list g) (by rw [e]; exact PyProof.Rows.boot_list)
  split at hb
  · rename_i e; cases hb; exact kB (b_repr g hgu) (by rw [e]; exact PyProof.Rows.boot_repr)
  · cases hb
/-! ### isinstance -/
omit g in
theorem tyx_tup {K : PySem.W.Frag} {H : Hp} {a : Addr} {vs : List V} (h : SqT K H a vs) : TyX K H (.ref a) (.type "tuple") := by
  rcases h with (h | ⟨o, h⟩) | ⟨o, its, n, h1, h2, _⟩
  · exact .base (.tup h)
  · exact .fTuple h
  · exact .kTuple h1 h2
omit g in
theorem isTy_ins (C : GC W) {a dx : Addr} {H : Hp} {n : Nat} {vs : List (Str × V)} (h : ownC W.G n = true) (e : H a = some (.ins (W.ad n) dx vs)) : TyX W.K H (.ref a) (.ref (W.ad n)) := by
  obtain ⟨k, _, _, O⟩ := C.of h
  exact .base (.ins e O.cls O.ha O.hn O.htk O.hm)
omit g in
theorem cond_none {α : Type} {b : Bool} {o : Option α} {r : α} (h : cond b o none = some r) : b = true ∧ o = some r := by
  cases b with
  | true => exact ⟨rfl, h⟩
  | false => cases h
omit g in
theorem notTy_rel (C : GC W) {σ : L2.St} {st : St} {ρ : Asg} {H : Hp} {n : Nat} {v : V} {r : Bool} {t : String} (ht : t ∈ (["int", "bool", "tuple", "str"] : List String)) (s : SRel W J.X J.κ σ st ρ H) (rd : W.RD st.nx ρ H (.loc n) v) (h : notTy W.G st n = some r) :
    ∃ u, TyX W.K H v u ∧ PySem.W.kitOne W.K u (.type t) = some r := by
  cases rd with
  | @loc m a h1 h2 =>
    unfold notTy at h
    split at h
    · rename_i xs e
      cases h
      obtain ⟨b, ro⟩ := s.at h1 h2 e
      cases ro with
      | lst e1 e2 =>
        refine ⟨_, .base (.lst e1), ?_⟩
        simp only [List.mem_cons, List.not_mem_nil, or_false] at ht
        rcases ht with rfl | rfl | rfl | rfl <;> exact kit_ty (by decide +kernel)
    · rename_i c fs e
      obtain ⟨q1, q2⟩ := cond_none h
      cases q2
      obtain ⟨b, ro⟩ := s.at h1 h2 e
      cases ro with
      | ins e1 e2 =>
        obtain ⟨k, _, _, O⟩ := C.of q1
        refine ⟨_, isTy_ins C q1 e1, O.isB t ?_⟩
        simp only [List.mem_cons, List.not_mem_nil, or_false] at ht ⊢
        rcases ht with rfl | rfl | rfl | rfl <;> simp
    · cases h
/-- isinstance's second place -/
def btV (W : Wd) : BT → V
  | .int => .ty "int" | .bool => .ty "bool" | .tuple => .ty "tuple" | .str => .ty "str" | .list => .ty "list" | .dict => .ty "dict" | .cls c => .ref (W.ad c)
omit g in
theorem isTy_rel (C : GC W) {σ : L2.St} {st : St} {ρ : Asg} {H : Hp} {d : D} {v : V} {b : Bool} {t : BT} (s : SRel W J.X J.κ σ st ρ H) (r : W.RD st.nx ρ H d v) (h : isTy W.G st d t = some b) :
    ∃ (u w : Value), ClsV (btV W t) w ∧ TyX W.K H v u ∧ PySem.W.kitOne W.K u w = some b := by
  cases t with
  | int =>
    refine (fun ⟨u, h1, h2⟩ => ⟨u, _, .ty "int", h1, h2⟩ : (∃ u, TyX W.K H v u ∧ PySem.W.kitOne W.K u (.type "int") = some b) → _) ?_
    cases r with
    | non => cases h; exact ⟨_, .base .non, kit_ty (by decide +kernel)⟩
    | bl x => cases h; exact ⟨_, .base (.bl x), kit_ty (by decide +kernel)⟩
    | int x => cases h; exact ⟨_, .base (.int x), kit_ty (by decide +kernel)⟩
    | str x => cases h; exact ⟨_, .base (.str _), kit_ty (by decide +kernel)⟩
    | tup h1 h2 => cases h; exact ⟨_, tyx_tup h1, kit_ty (by decide +kernel)⟩
    | loc h1 h2 => exact notTy_rel C (by decide) s (.loc h1 h2) h
    | fn _ => cases h
    | cho _ _ _ => cases h
  | bool =>
    refine (fun ⟨u, h1, h2⟩ => ⟨u, _, .ty "bool", h1, h2⟩ : (∃ u, TyX W.K H v u ∧ PySem.W.kitOne W.K u (.type "bool") = some b) → _) ?_
    cases r with
    | non => cases h; exact ⟨_, .base .non, kit_ty (by decide +kernel)⟩
    | bl x => cases h; exact ⟨_, .base (.bl x), kit_ty (by decide +kernel)⟩
    | int x => cases h; exact ⟨_, .base (.int x), kit_ty (by decide +kernel)⟩
    | str x => cases h; exact ⟨_, .base (.str _), kit_ty (by decide +kernel)⟩
    | tup h1 h2 => cases h; exact ⟨_, tyx_tup h1, kit_ty (by decide +kernel)⟩
    | loc h1 h2 => exact notTy_rel C (by decide) s (.loc h1 h2) h
    | fn _ => cases h
    | cho _ _ _ => cases h
  | tuple =>
    refine (fun ⟨u, h1, h2⟩ => ⟨u, _, .ty "tuple", h1, h2⟩ : (∃ u, TyX W.K H v u ∧ PySem.W.kitOne W.K u (.type "tuple") = some b) → _) ?_
    cases r with
    | non => cases h; exact ⟨_, .base .non, kit_ty (by decide +kernel)⟩
    | bl x => cases h; exact ⟨_, .base (.bl x), kit_ty (by decide +kernel)⟩
    | int x => cases h; exact ⟨_, .base (.int x), kit_ty (by decide +kernel)⟩
    | str x => cases h; exact ⟨_, .base (.str _), kit_ty (by decide +kernel)⟩
    | tup h1 h2 => cases h; exact ⟨_, tyx_tup h1, kit_ty (by decide +kernel)⟩
    | loc h1 h2 => exact notTy_rel C (by decide) s (.loc h1 h2) h
    | fn _ => cases h
    | cho _ _ _ => cases h
  | str =>
    refine (fun ⟨u, h1, h2⟩ => ⟨u, _, .ty "str", h1, h2⟩ : (∃ u, TyX W.K H v u ∧ PySem.W.kitOne W.K u (.type "str") = some b) → _) ?_
    cases r with
    | non => cases h; exact ⟨_, .base .non, kit_ty (by decide +kernel)⟩
    | bl x => cases h; exact ⟨_, .base (.bl x), kit_ty (by decide +kernel)⟩
    | int x => cases h; exact ⟨_, .base (.int x), kit_ty (by decide +kernel)⟩
    | str x => cases h; exact ⟨_, .base (.str _), kit_ty (by decide +kernel)⟩
    | tup h1 h2 => cases h; exact ⟨_, tyx_tup h1, kit_ty (by decide +kernel)⟩
    | loc h1 h2 => exact notTy_rel C (by decide) s (.loc h1 h2) h
    | fn _ => cases h
    | cho _ _ _ => cases h
  | list =>
    refine (fun ⟨u, h1, h2⟩ => ⟨u, _, .ty "list", h1, h2⟩ : (∃ u, TyX W.K H v u ∧ PySem.W.kitOne W.K u (.type "list") = some b) → _) ?_
    cases r with
    | non => cases h; exact ⟨_, .base .non, kit_ty (by decide +kernel)⟩
    | bl x => cases h; exact ⟨_, .base (.bl x), kit_ty (by decide +kernel)⟩
    | int x => cases h; exact ⟨_, .base (.int x), kit_ty (by decide +kernel)⟩
    | str x => cases h; exact ⟨_, .base (.str _), kit_ty (by decide +kernel)⟩
    | tup h1 h2 => cases h; exact ⟨_, tyx_tup h1, kit_ty (by decide +kernel)⟩
    | @loc n a h1 h2 =>
      have h : (match st.get n with | some (.lst _) => some true | some (.ins k _) => cond (ownC W.G k) (some false) none | _ => none) = some b := h
      split at h
      · rename_i xs e
        cases h
        obtain ⟨z, ro⟩ := s.at h1 h2 e
        cases ro with
        | lst e1 e2 => exact ⟨_, .base (.lst e1), kit_ty (by decide +kernel)⟩
      · rename_i q fs e
        obtain ⟨q1, q2⟩ := cond_none h
        cases q2
        obtain ⟨z, ro⟩ := s.at h1 h2 e
        cases ro with
        | ins e1 e2 =>
          obtain ⟨kk, _, _, O⟩ := C.of q1
          exact ⟨_, isTy_ins C q1 e1, O.isB "list" (by decide)⟩
      · cases h
    | fn _ => cases h
    | cho _ _ _ => cases h
  | dict => cases h
  | cls q =>
    obtain ⟨q1, h⟩ := cond_none h
    obtain ⟨kk, _, _, O⟩ := C.of q1
    refine (fun ⟨u, h1, h2⟩ => ⟨u, _, .own _, h1, h2⟩ : (∃ u, TyX W.K H v u ∧ PySem.W.kitOne W.K u (.ref (W.ad q)) = some b) → _) ?_
    cases r with
    | non => cases h; exact ⟨_, .base .non, O.tyC _ (by decide)⟩
    | bl x => cases h; exact ⟨_, .base (.bl x), O.tyC _ (by decide)⟩
    | int x => cases h; exact ⟨_, .base (.int x), O.tyC _ (by decide)⟩
    | str x => cases h; exact ⟨_, .base (.str _), O.tyC _ (by decide)⟩
    | tup h1 h2 => cases h; exact ⟨_, tyx_tup h1, O.tyC _ (by decide)⟩
    | @loc n a h1 h2 =>
      have h : (match st.get n with | some (.ins k _) => cond (ownC W.G k) (some (Nat.beq k q)) none | some (.lst _) => some false | _ => none) = some b := h
      split at h
      · rename_i q' fs e
        obtain ⟨q2, q3⟩ := cond_none h
        cases q3
        obtain ⟨z, ro⟩ := s.at h1 h2 e
        cases ro with
        | ins e1 e2 => exact ⟨_, isTy_ins C q2 e1, C.two _ _ q2 q1⟩
      · rename_i xs e
        cases h
        obtain ⟨z, ro⟩ := s.at h1 h2 e
        cases ro with
        | lst e1 e2 => exact ⟨_, .base (.lst e1), O.tyC _ (by decide)⟩
      · cases h
    | fn _ => cases h
    | cho _ _ _ => cases h
theorem e_bt (F : GF W) (C : GC W) {t : BT} {x : Str} {pos : Pos} (h : btOf c x = some t) : PE J.X (.Name x pos) (tC (btV W t)) := by
  unfold btOf at h
  split at h
  · rename_i gg e
    split at h
    · rename_i hc
      cases h
      rw [g.cl] at hc
      obtain ⟨h1, h2, h3⟩ := glob_ok e
      obtain ⟨n1, _, _⟩ := nmOk_ok h3
      rw [g.gl] at h2
      obtain ⟨kk, e1⟩ := C.isC gg hc
      exact pe_glob (g.gb x h1) (by rw [g.mg]; exact F.cls x gg kk h2 e1) rfl n1
    · cases h
  · split at h
    · rename_i hb
      obtain ⟨h1, h2, h3, hu⟩ := blt_ok hb
      obtain ⟨n1, _, n2⟩ := nmOk_ok h3
      rw [g.gl] at h2
      have key : ∀ {id : String}, bootBuiltins x = some (.type id) → PE J.X (.Name x pos) (tC (.ty id)) := fun v => pe_bltn (g.gb x h1) (by rw [g.mg]; exact F.blt x _ v hu h2) v rfl n2 n1
      split at h
      · rename_i e; cases h; exact key (by rw [e]; exact PyProof.Rows.boot_int)
      split at h
      · rename_i e; cases h; exact key (by rw [e]; exact PyProof.Rows.boot_bool)
      split at h
      · rename_i e; cases h; exact key (by rw [e]; exact PyProof.Rows.boot_tuple)
      split at h
      · rename_i e; cases h; exact key (by rw [e]; exact PyProof.Rows.boot_str)
      split at h
      · rename_i e; cases h; exact key (by rw [e]; exact PyProof.Rows.boot_list)
      · cases h
    · cases h
theorem e_isi (F : GF W) (C : GC W) {x : Str} {t : BT} {a : Expr} {fa : Sg → St → R D} {p q pos : Pos} (hx : c.blt "isinstance" = true) (ht : btOf c x = some t) (hf : isStar a = false) (ha : PE J.X a (sem W J (rD W) fa)) :
    PE J.X (.Call (.Name "isinstance" p) [a, .Name x q] [] pos) (sem W J (rD W) fun σd st => (fa σd st).bind fun d st => match isTy W.G st d t with | some b => .ok (.bl b) st | none => .bad) := by
  obtain ⟨h1, h2, h3, hu⟩ := blt_ok hx
  have hg := g.gb _ h1
  rw [g.gl] at h2
  have hm : J.X.mg "isinstance" = none := by rw [g.mg]; exact F.blt _ _ boot_isinstance hu h2
  have hs : ∀ es : List Expr, starEach (a :: es) J.X.env = (false, eval a J.X.env) :: starEach es J.X.env := fun es => by cases a <;> first | rfl | cases hf
  have hn := e_bt g F C (pos := q) ht
  · refine (pe_callB (call_isi (X := J.X)) hg hm boot_isinstance (pa_cons ha (pa_cons hn pa_nil) (hs _)) (by decide) (by decide) (hs _)).imp fun σ H Q ⟨σd, st, ρ, l, s, p⟩ => ?_
    refine ⟨σd, st, ρ, l, s, (Post.bind (rl := rD W) p).mono fun v H1 ⟨d, st1, ρ1, x1, s1, r1, p1⟩ => ?_⟩
    rw [g.K]
    cases e : isTy W.G st1 d t with
    | none => rw [e] at p1; exact p1.elim
    | some b =>
      rw [e] at p1
      obtain ⟨u, w, k1, k2, k3⟩ := isTy_rel C s1 r1 e
      exact ⟨v, _, u, w, b, rfl, k1, k2, k3, p1.now s1 (.bl _)⟩
end
end MX
end
section
/-! The IR's big-step interpreter: the steps. Own work. -/
set_option linter.all false
namespace MX
/-- the item at a turn: none is bad, some none is the end -/
def nextI : Nat → D → Nat → St → Option (Option D)
  | 0, _, _, _ => none
  | k + 1, it, i, st => match it with
    | .tup (.int 0 :: r) => match r with                      -- a range
      | [.int lo, .int n] => some (if (i : Int) < n then some (.int (lo + i)) else none)
      | _ => none
    | .tup [.int 1, d] => match seqOf st d with               -- a sequence
      | some xs => some xs[i]?
      | none => none
    | .tup [.int 2, it] => match nextI k it i st with         -- enumerate
      | some (some d) => some (some (.tup [.int i, d]))
      | some none => some none
      | none => none
    | .tup [.int 3, a, b] => match nextI k a i st with        -- zip
      | some (some d) => match nextI k b i st with
        | some (some e) => some (some (.tup [d, e]))
        | some none => some none
        | none => none
      | some none => match nextI k b i st with
        | some _ => some none
        | none => none
      | none => none
    | _ => none
def store1 (t : T) (d : D) (σ : Sg) (κ : List (Nat × Nat)) (st : St) : Option (Sg × St) :=
  match t with
  | .nm i => some (σ.set i (some d), putCell κ i d st)
  | .tp is => match d with
    | .tup ds => cond (Nat.beq is.length ds.length) (some ((is.zip ds).foldl (fun p q => (p.1.set q.1 (some q.2), putCell κ q.1 q.2 p.2)) (σ, st))) none
    | _ => none
/-! ### one step -/
section
variable (G : Gb) (r : Evs)
def stL (es : List E) (σ : Sg) (κ : List (Nat × Nat)) (st : St) : R (List D) :=
  match es with
  | [] => .ok [] st
  | .star a :: es => (r.e a σ κ st).bind fun d st => match seqOf st d with
    | some xs => (r.l es σ κ st).bind fun ds st => .ok (xs ++ ds) st
    | none => .bad
  | e :: es => (r.e e σ κ st).bind fun d st => (r.l es σ κ st).bind fun ds st => .ok (d :: ds) st
def stOp (o : Op2) (a b : E) (σ : Sg) (κ : List (Nat × Nat)) (st : St) : R D := (r.e a σ κ st).bind fun x st => (r.e b σ κ st).bind fun y st => binop o x y st
def stCmp (o : Cm) (a b : E) (σ : Sg) (κ : List (Nat × Nat)) (st : St) : R D := (r.e a σ κ st).bind fun x st => (r.e b σ κ st).bind fun y st => cmpop o x y st
def stChain (o p : Cm) (a b c : E) (σ : Sg) (κ : List (Nat × Nat)) (st : St) : R D :=
  (r.e a σ κ st).bind fun x st => (r.e b σ κ st).bind fun y st => (cmpop o x y st).bind fun z st => match z with
    | .bl true => (r.e c σ κ st).bind fun w st => cmpop p y w st
    | .bl false => .ok (.bl false) st
    | _ => .bad
def stNeg (a : E) (σ : Sg) (κ : List (Nat × Nat)) (st : St) : R D := (r.e a σ κ st).bind fun x st => match x with
  | .int i => .ok (.int (-i)) st
  | _ => .bad
def stAnd (a b : E) (σ : Sg) (κ : List (Nat × Nat)) (st : St) : R D := (r.e a σ κ st).bind fun x st => match tru st x with
  | some true => r.e b σ κ st
  | some false => .ok x st
  | none => .bad
def stOr (a b : E) (σ : Sg) (κ : List (Nat × Nat)) (st : St) : R D := (r.e a σ κ st).bind fun x st => match tru st x with
  | some false => r.e b σ κ st
  | some true => .ok x st
  | none => .bad
def stNot (a : E) (σ : Sg) (κ : List (Nat × Nat)) (st : St) : R D := (r.e a σ κ st).bind fun x st => match tru st x with
  | some k => .ok (.bl (!k)) st
  | none => .bad
def stIte (c a b : E) (σ : Sg) (κ : List (Nat × Nat)) (st : St) : R D := (r.t c σ κ st).bind fun k st => cond k (r.e a σ κ st) (r.e b σ κ st)
def stTup (es : List E) (σ : Sg) (κ : List (Nat × Nat)) (st : St) : R D := (r.l es σ κ st).bind fun ds st => cond (Nat.ble ds.length 100000) (.ok (.tup ds) st) .bad
def stLst (es : List E) (σ : Sg) (κ : List (Nat × Nat)) (st : St) : R D := (r.l es σ κ st).bind fun ds st => cond (Nat.ble ds.length 100000) (alloc (.lst ds) st) .bad
def stCall (f : Nat) (es : List E) (σ : Sg) (κ : List (Nat × Nat)) (st : St) : R D := match G.tab[f]? with
  | some (.fn _) => (r.l es σ κ st).bind fun ds st => r.call f ds st
  | _ => .bad
def canCall (G : Gb) (st : St) (f : D) : Bool := match f with
  | .fn g => match G.tab[g]? with
    | some (.fn _) => true
    | _ => false
  | .loc n => match st.get n with
    | some (.lam _ _ _) => true
    | _ => false
  | _ => false
def stCallv (i : Nat) (es : List E) (σ : Sg) (κ : List (Nat × Nat)) (st : St) : R D := (slot σ i st).bind fun f st => cond (canCall G st f) ((r.l es σ κ st).bind fun ds st => r.callv f ds st) .bad
def stBi (b : BF) (es : List E) (σ : Sg) (κ : List (Nat × Nat)) (st : St) : R D := (r.l es σ κ st).bind fun ds st => bltn G b ds st
def stIsi (a : E) (t : BT) (σ : Sg) (κ : List (Nat × Nat)) (st : St) : R D := (r.e a σ κ st).bind fun d st => match isTy G st d t with
  | some b => .ok (.bl b) st
  | none => .bad
def nonTo (x v : D) (st : St) : R D := match v with
  | .non => .ok x st
  | _ => .bad
def stMk (c : Nat) (es : List E) (σ : Sg) (κ : List (Nat × Nat)) (st : St) : R D := match G.tab[c]? with
  | some (.cls k) => match k.init with
    | some f => (r.l es σ κ st).bind fun ds st => (alloc (.ins c []) st).bind fun x st => (r.call f (x :: ds) st).bind fun v st => nonTo x v st
    | none => .bad
  | _ => .bad
def stMeth (o : E) (m : Nat) (es : List E) (σ : Sg) (κ : List (Nat × Nat)) (st : St) : R D := (r.e o σ κ st).bind fun x st => match x with
  | .loc p => match st.get p with
    | some (.ins c fs) => match G.tab[c]?, lookF m fs with
      | some (.cls k), none => match cond k.init.isSome (lookM m k.meths) none with
        | some f => (r.l es σ κ st).bind fun ds st => r.call f (x :: ds) st
        | none => .bad
      | _, _ => .bad
    | _ => .bad
  | _ => .bad
def stAttr (o : E) (f : Nat) (σ : Sg) (κ : List (Nat × Nat)) (st : St) : R D := (r.e o σ κ st).bind fun x st => match x with
  | .loc p => match st.get p with
    | some (.ins c fs) => cond (notM G c f) (R.of ((lookF f fs).map (nrm st)) st) .bad
    | _ => .bad
  | _ => .bad
def stSub (a i : E) (σ : Sg) (κ : List (Nat × Nat)) (st : St) : R D := (r.e a σ κ st).bind fun x st => (r.e i σ κ st).bind fun y st => getIx x y st
def stPart (e : Option E) (σ : Sg) (κ : List (Nat × Nat)) (st : St) : R (Option Int) :=
  match e with
  | none => .ok none st
  | some e => (r.e e σ κ st).bind fun d st => match d with
    | .int i => .ok (some i) st
    | _ => .bad
def stSlc (a : E) (lo hi : Option E) (σ : Sg) (κ : List (Nat × Nat)) (st : St) : R D := (r.e a σ κ st).bind fun x st => (stPart r lo σ κ st).bind fun l st => (stPart r hi σ κ st).bind fun h st => doSlice x l h st
def stBm (o : E) (m : BM) (es : List E) (σ : Sg) (κ : List (Nat × Nat)) (st : St) : R D := (r.e o σ κ st).bind fun x st => match x with
  | .loc q => match st.get q with
    | some (.lst _) => (r.l es σ κ st).bind fun ds st => method m (.loc q) ds st
    | _ => .bad
  | _ => .bad
def capsOf (κ : List (Nat × Nat)) : List Nat → Option (List Nat)
  | [] => some []
  | i :: is => match cellOf i κ, capsOf κ is with
    | some c, some cs => some (c :: cs)
    | _, _ => none
def stLam (np : Nat) (body : E) (caps : List Nat) (σ : Sg) (κ : List (Nat × Nat)) (st : St) : R D := match capsOf κ caps with
  | some cs => alloc (.lam np body cs) st
  | none => .bad
def stRng1 (a : E) (σ : Sg) (κ : List (Nat × Nat)) (st : St) : R D := (r.e a σ κ st).bind fun x st => match x with
  | .int n => cond (decide (n ≤ 1000000) && decide (-1000000 ≤ n)) (.ok (.tup [.int 0, .int 0, .int n]) st) .bad
  | _ => .bad
def stRng2 (a b : E) (σ : Sg) (κ : List (Nat × Nat)) (st : St) : R D := (r.e a σ κ st).bind fun x st => (r.e b σ κ st).bind fun y st => match x, y with
  | .int m, .int n => cond (decide (n ≤ 1000000) && decide (-1000000 ≤ n) && decide (m ≤ 1000000) && decide (-1000000 ≤ m)) (.ok (.tup [.int 0, .int m, .int (n - m)]) st) .bad
  | _, _ => .bad
def stIter (a : E) (σ : Sg) (κ : List (Nat × Nat)) (st : St) : R D := (r.e a σ κ st).bind fun x st => match seqOf st x with
  | some _ => .ok (.tup [.int 1, x]) st
  | none => .bad
def sameK : D → D → Bool
  | .tup _, .tup _ => true
  | .loc _, .loc _ => true
  | _, _ => false
def isItE : E → Bool
  | .rng1 _ | .rng2 _ _ | .enu _ | .zip _ _ => true
  | _ => false
def stIt (a : E) (σ : Sg) (κ : List (Nat × Nat)) (st : St) : R D :=
  match a with
  | .rng1 a => stRng1 r a σ κ st
  | .rng2 a b => stRng2 r a b σ κ st
  | .enu a => (stIter r a σ κ st).bind fun x st => .ok (.tup [.int 2, x]) st
  | .zip a b => (r.e a σ κ st).bind fun x st => (r.e b σ κ st).bind fun y st => match seqOf st x, seqOf st y with
    | some _, some _ => cond (sameK x y) (.ok (.tup [.int 3, .tup [.int 1, x], .tup [.int 1, y]]) st) .bad
    | _, _ => .bad
  | a => stIter r a σ κ st
/-- nothing is raised in a block -/
def lcFin (l : D) (r : R D) : R D := match r with
  | .ok _ st => .ok l st
  | _ => .bad
def stLcIt (elt : E) (tg : T) (it : E) (ifs : List E) (own : List Nat) (σ : Sg) (κ : List (Nat × Nat)) (st : St) : R D :=
  (stIt r it σ κ st).bind fun it st => (alloc (.lst []) st).bind fun l st => lcFin l (r.lcg elt tg it ifs 0 (wipe σ own) l st)
def stE (e : E) (σ : Sg) (κ : List (Nat × Nat)) (st : St) : R D :=
  match e with
  | .var i => slot σ i st
  | .int i => .ok (.int i) st
  | .bl b => .ok (.bl b) st
  | .non => .ok .non st
  | .str s => .ok (.str s) st
  | .glo g => gloD G g st
  | .op o a b => stOp r o a b σ κ st
  | .neg a => stNeg r a σ κ st
  | .not a => stNot r a σ κ st
  | .cmp c a b => stCmp r c a b σ κ st
  | .chain c d x y z => stChain r c d x y z σ κ st
  | .and a b => stAnd r a b σ κ st
  | .or a b => stOr r a b σ κ st
  | .ite c a b => stIte r c a b σ κ st
  | .tup es => stTup r es σ κ st
  | .lst es => stLst r es σ κ st
  | .star _ => .bad
  | .call f es => stCall G r f es σ κ st
  | .callv i es => stCallv G r i es σ κ st
  | .bi b es => stBi G r b es σ κ st
  | .isi a t => stIsi G r a t σ κ st
  | .mk c es => stMk G r c es σ κ st
  | .meth o m es => stMeth G r o m es σ κ st
  | .attr o f => stAttr G r o f σ κ st
  | .sub a i => stSub r a i σ κ st
  | .slc a lo hi => stSlc r a lo hi σ κ st
  | .bm o m es => stBm r o m es σ κ st
  | .lc elt tg it ifs own => stLcIt r elt tg it ifs own σ κ st
  | .lam np body caps => stLam np body caps σ κ st
  | .rng1 _ | .rng2 _ _ | .enu _ | .zip _ _ => .bad
/-- a test -/
def stT (e : E) (σ : Sg) (κ : List (Nat × Nat)) (st : St) : R Bool :=
  match e with
  | .not a => (r.t a σ κ st).bind fun k st => .ok (!k) st
  | .and a b => (r.t a σ κ st).bind fun k st => cond k (r.t b σ κ st) (.ok false st)
  | .or a b => (r.t a σ κ st).bind fun k st => cond k (.ok true st) (r.t b σ κ st)
  | .ite c a b => (r.t c σ κ st).bind fun k st => cond k (r.t a σ κ st) (r.t b σ κ st)
  | e => (r.e e σ κ st).bind fun x st => match tru st x with
    | some k => .ok k st
    | none => .bad
def testAll (cs : List E) (σ : Sg) (κ : List (Nat × Nat)) (st : St) : R Bool :=
  match cs with
  | [] => .ok true st
  | [c] => r.t c σ κ st
  | _ => .bad
/-- an item more -/
def lcPut (l x : D) (st : St) : Option St := match l with
  | .loc p => match st.get p with
    | some (.lst xs) => cond (Nat.ble xs.length 100000) (some (st.set p (.lst (xs ++ [x])))) none
    | _ => none
  | _ => none
def stLcg (elt : E) (tg : T) (it : D) (ifs : List E) (i : Nat) (σ : Sg) (l : D) (st : St) : R D :=
  match nextI 3 it i st with
  | none => .bad
  | some none => .ok .non st
  | some (some d) => match store1 tg d σ [] st with
    | none => .bad
    | some (σ', st) => (testAll r ifs σ' [] st).bind fun k st => cond k ((r.e elt σ' [] st).bind fun x st => match lcPut l x st with
      | some st => r.lcg elt tg it ifs (i + 1) σ l st
      | none => .bad) (r.lcg elt tg it ifs (i + 1) σ l st)
def F.to {α : Type} (x : R α) (f : α → St → F) : F :=
  match x with
  | .ok a st => f a st
  | .exc c fs st => .exc c fs st
  | .bad => .bad
def F.seq (x : F) (f : Sg → St → F) : F :=
  match x with
  | .nx σ st => f σ st
  | y => y
def stStore (t : Tg) (d : D) (σ : Sg) (κ : List (Nat × Nat)) (st : St) : F :=
  match t with
  | .nm i => .nx (σ.set i (some d)) (putCell κ i d st)
  | .at o f => .to (r.e o σ κ st) fun x st => match x with
    | .loc p => match st.get p with
      | some (.ins c fs) => cond (Nat.ble fs.length 900 && notM G c f) (.nx σ (st.set p (.ins c (putF f d fs)))) .bad
      | _ => .bad
    | _ => .bad
  | .ix o i => .to (r.e o σ κ st) fun x st => .to (r.e i σ κ st) fun y st => match setIx x y d st with
    | some st => .nx σ st
    | none => .bad
def stStores (ts : List Tg) (ds : List D) (σ : Sg) (κ : List (Nat × Nat)) (st : St) : F :=
  match ts, ds with
  | [], [] => .nx σ st
  | t :: ts, d :: ds => (stStore G r t d σ κ st).seq fun σ st => stStores ts ds σ κ st
  | _, _ => .bad
def excIs (G : Gb) (c k : Nat) : Bool := match G.tab[c]? with
  | some (.cls x) => x.ups.any (Nat.beq k)
  | _ => false
/-- an exception class -/
def isExcC (G : Gb) (c : Nat) : Bool := match G.tab[c]? with
  | some (.cls x) => x.init.isNone
  | _ => false
def hasFld (G : Gb) (c f : Nat) : Bool := match G.tab[c]? with
  | some (.cls x) => match x.fld with
    | some g => Nat.beq g f
    | none => false
  | _ => false
/-- a handler: the class, perhaps (the slot, the attribute that is told behind the text), the text -/
def handle (G : Gb) (c : Nat) (fs : List (Nat × D)) (st : St) : List (Nat × Option (Nat × Nat) × List Nat) → F
  | [] => .exc c fs st
  | (k, o, txt) :: hs => cond (excIs G c k) (match o with
    | none => .ret (.str txt) st
    | some (_, f) => cond (hasFld G c f && Nat.ble txt.length 1000) (match lookF f fs with
      | some d => match reprD 20 d with
        | some s => cond (Nat.ble s.length 50000) (.ret (.str (txt ++ s)) st) .bad
        | none => .bad
      | none => .bad) .bad) (handle G c fs st hs)
def stS (s : S) (σ : Sg) (κ : List (Nat × Nat)) (st : St) : F :=
  match s with
  | .exp e => .to (r.e e σ κ st) fun _ st => .nx σ st
  | .set t e => .to (r.e e σ κ st) fun d st => stStore G r t d σ κ st
  | .tup ts e => .to (r.e e σ κ st) fun d st => match d with
    | .tup ds => cond (Nat.beq ds.length ts.length) (stStores G r ts ds σ κ st) .bad
    | _ => .bad
  | .ifs c a b => .to (r.t c σ κ st) fun k st => cond k (r.ss a σ κ st) (r.ss b σ κ st)
  | .whl c b => r.whl c b σ κ st
  | .for t it b => .to (stIt r it σ κ st) fun it st => r.forg t it b 0 σ κ st
  | .ret e => .to (r.e e σ κ st) fun d st => .ret d st
  | .retN => .ret .non st
  | .brk => .brk σ st
  | .cnt => .cnt σ st
  | .pas => .nx σ st
  | .rai c => match G.tab[c]? with
    | some (.cls k) => cond (k.fld.isNone && k.init.isNone) (.exc c [] st) .bad
    | _ => .bad
  | .raiA c e => match G.tab[c]? with
    | some (.cls k) => match k.fld with
      | some f => .to (r.e e σ κ st) fun d st => match reprD 20 d with
        | some s => cond (Nat.ble s.length 50000) (.exc c [(f, d)] st) .bad
        | none => .bad
      | none => .bad
    | _ => .bad
  | .try b hs => cond (!hs.isEmpty && hs.all fun h => isExcC G h.1) (match r.ss b σ κ st with
    | .exc c fs st => cond (isExcC G c) (handle G c fs st hs) .bad
    | x => x) .bad
def stSs (b : List S) (σ : Sg) (κ : List (Nat × Nat)) (st : St) : F :=
  match b with
  | [] => .nx σ st
  | s :: b => (stS G r s σ κ st).seq fun σ st => r.ss b σ κ st
def stWhl (c : E) (b : List S) (σ : Sg) (κ : List (Nat × Nat)) (st : St) : F :=
  .to (r.t c σ κ st) fun k st => cond k (match r.ss b σ κ st with
    | .nx σ st | .cnt σ st => r.whl c b σ κ st
    | .brk σ st => .nx σ st
    | x => x) (.nx σ st)
def stForg (t : T) (it : D) (b : List S) (i : Nat) (σ : Sg) (κ : List (Nat × Nat)) (st : St) : F :=
  match nextI 3 it i st with
  | none => .bad
  | some none => .nx σ st
  | some (some d) => match store1 t d σ κ st with
    | none => .bad
    | some (σ, st) => match r.ss b σ κ st with
      | .nx σ st | .cnt σ st => r.forg t it b (i + 1) σ κ st
      | .brk σ st => .nx σ st
      | x => x
def newCells (σ : Sg) : List Nat → St → Option (List (Nat × Nat) × St)
  | [], st => some ([], st)
  | i :: is, st => match alloc (.cel ((σ[i]?).getD none)) st with
    | .ok (.loc c) st => match newCells σ is st with
      | some (κ, st) => some ((i, c) :: κ, st)
      | none => none
    | _ => none
/-- a frame's cells die with it -/
def kill : List (Nat × Nat) → St → St
  | [], st => st
  | (_, c) :: κ, st => kill κ (st.set c (.cel none))
def endF (κ : List (Nat × Nat)) (x : F) : R D :=
  match x with
  | .nx _ st => .ok .non (kill κ st)
  | .ret d st => .ok d (kill κ st)
  | .exc c fs st => .exc c fs (kill κ st)
  | _ => .bad
def stCallP (f : Nat) (ds : List D) (st : St) : R D :=
  match G.tab[f]? with
  | some (.fn k) => cond (Nat.ble ds.length k.np && Nat.ble k.np (ds.length + k.dfl.length))
    (let σ := (ds ++ k.dfl.drop (k.dfl.length - (k.np - ds.length))).map some ++ List.replicate (k.ns - k.np) none
     match newCells σ k.cells st with
     | some (κ, st) => endF κ (r.ss k.body σ κ st)
     | none => .bad) .bad
  | _ => .bad
/-- each choice by itself, where the call asks for one -/
def stFork : Nat → Nat → List D → St → R D
  | 0, f, ds, st => stCallP G r f ds st
  | q + 1, f, ds, st => match stCallP G r f ds st with
    | .bad => match unkA st ds with
      | some p => cond (Nat.blt p st.nx) (match st.get p with
        | some (.cho n none) =>
          let w := mutL st st.nx []
          match allO (fun i => keepD st w (stFork q f ds (st.set p (.cho n (some i))))) n [] with
          | some vs => .ok (mergeD p vs) st
          | none => .bad
        | _ => .bad) .bad
      | none => .bad
    | .ok v st' => match keepD st (mutL st st.nx []) (.ok v st') with
      | some v => .ok v st
      | none => .ok v st'
    | x => x
def stCallF (k : Nat) (f : Nat) (ds : List D) (st : St) : R D :=
  match G.tab[f]? with
  | some (.fn u) => match u.kd with
    | .pl => stCallP G r f ds st
    | .fork => stFork G r 1 f ds st
    | .ov n => G.ov k n ds st
  | _ => .bad
def capVals (st : St) : List Nat → Option (List D)
  | [] => some []
  | c :: cs => match st.get c, capVals st cs with
    | some (.cel (some d)), some ds => some (d :: ds)
    | _, _ => none
def stCallV (k : Nat) (f : D) (ds : List D) (st : St) : R D :=
  match f with
  | .fn g => stCallF G r k g ds st
  | .loc n => match st.get n with
    | some (.lam np body caps) => cond (Nat.beq ds.length np) (match capVals st caps with
      | some vs => r.e body ((ds ++ vs).map some) [] st
      | none => .bad) .bad
    | _ => .bad
  | _ => .bad
end
/-- rc: what runs the frames of callees -/
def stAll (G : Gb) (k : Nat) (rc r : Evs) : Evs where
  e := stE G r
  t := stT r
  l := stL r
  ss := stSs G r
  call := stCallF G rc k
  callv := stCallV G rc k
  lcg := stLcg r
  forg := stForg r
  whl := stWhl r
def evBad : Evs where
  e := fun _ _ _ _ => .bad
  t := fun _ _ _ _ => .bad
  l := fun _ _ _ _ => .bad
  ss := fun _ _ _ _ => .bad
  call := fun _ _ _ => .bad
  callv := fun _ _ _ => .bad
  lcg := fun _ _ _ _ _ _ _ _ => .bad
  forg := fun _ _ _ _ _ _ _ => .bad
  whl := fun _ _ _ _ _ => .bad
/-- one frame, n turns deep -/
def evF (G : Gb) (k : Nat) (rc : Evs) : Nat → Evs
  | 0 => evBad
  | n + 1 => stAll G k rc (evF G k rc n)
/-- k frames one in another, each at most m turns deep -/
def evs (G : Gb) (m : Nat) : Nat → Evs
  | 0 => evBad
  | k + 1 => evF G k (evs G m k) m
end MX
end
section
set_option Elab.async false
set_option linter.all false
set_option autoImplicit false
set_option maxRecDepth 100000
set_option maxHeartbeats 400000
/-! Attributes, subscripts, slices, methods of lists. -/
namespace MX
open PySem PySem.Spec PyProof.Rows L2
theorem nmAt_inj {l : List Str} {i j : Nat} (h : l.Nodup) (hi : i < l.length) (hj : j < l.length) (e : nmAt l i = nmAt l j) : i = j := by
  unfold nmAt at e
  rw [List.getD_eq_getElem?_getD, List.getD_eq_getElem?_getD, List.getElem?_eq_getElem hi, List.getElem?_eq_getElem hj] at e
  exact (List.getElem_inj h).mp e
theorem at_of {f : Str} {l : List Str} {i : Nat} (h : ixOf f l 0 = some i) : i < l.length ∧ nmAt l i = f := by
  have q := (ixOf_get h).2
  simp only [Nat.sub_zero] at q
  obtain ⟨h1, h2⟩ := List.getElem?_eq_some_iff.mp q
  refine ⟨h1, ?_⟩
  unfold nmAt
  rw [List.getD_eq_getElem?_getD, q]; rfl
section
variable {W : Wd} {nx : Nat} {ρ : Asg} {H : Hp}
theorem RF.look (nd : W.at_.Nodup) {f : Nat} (hf : f < W.at_.length) : ∀ {fs : List (Nat × D)} {vs : List (Str × V)}, RF W.K W.ad W.at_ nx ρ H fs vs →
    (match lookF f fs with | some d => ∃ v, vs.lookup (nmAt W.at_ f) = some v ∧ W.RD nx ρ H d v | none => vs.lookup (nmAt W.at_ f) = none)
  | _, _, .nil => rfl
  | _, _, .cons (f := g) (d := d) (v := v) (fs := fs) (vs := vs) hg r t => by
    have ih := RF.look nd hf t
    show (match cond (Nat.beq f g) (some d) (lookF f fs) with | some d => ∃ v', List.lookup (nmAt W.at_ f) ((nmAt W.at_ g, v) :: vs) = some v' ∧ W.RD nx ρ H d v' | none => List.lookup (nmAt W.at_ f) ((nmAt W.at_ g, v) :: vs) = none)
    cases e : Nat.beq f g with
    | true =>
      have e2 := Nat.eq_of_beq_eq_true e
      subst e2
      refine ⟨v, ?_, r⟩
      simp [List.lookup]
    | false =>
      have ne : ¬ nmAt W.at_ f = nmAt W.at_ g := fun z => by
        have := nmAt_inj nd hf hg z
        subst this
        rw [Nat.beq_refl] at e; cases e
      have hb : (nmAt W.at_ f == nmAt W.at_ g) = false := beq_eq_false_iff_ne.mpr ne
      simp only [cond_false, List.lookup, hb]
      exact ih
theorem RF.put (nd : W.at_.Nodup) {f : Nat} {d : D} {v : V} (hf : f < W.at_.length) (r : W.RD nx ρ H d v) : ∀ {fs : List (Nat × D)} {vs : List (Str × V)}, RF W.K W.ad W.at_ nx ρ H fs vs → RF W.K W.ad W.at_ nx ρ H (MX.putF f d fs) (L2.putF (nmAt W.at_ f) v vs)
  | _, _, .nil => .cons hf r .nil
  | _, _, .cons (f := g) (d := d') (v := v') (fs := fs) (vs := vs) hg r' t => by
    show RF W.K W.ad W.at_ nx ρ H (cond (Nat.beq f g) ((g, d) :: fs) ((g, d') :: MX.putF f d fs)) (if nmAt W.at_ g = nmAt W.at_ f then (nmAt W.at_ g, v) :: vs else (nmAt W.at_ g, v') :: L2.putF (nmAt W.at_ f) v vs)
    cases e : Nat.beq f g with
    | true =>
      have e2 := Nat.eq_of_beq_eq_true e
      subst e2
      rw [if_pos rfl]
      exact .cons hg r t
    | false =>
      have ne : ¬ nmAt W.at_ g = nmAt W.at_ f := fun z => by
        have := nmAt_inj nd hf hg z.symm
        subst this
        rw [Nat.beq_refl] at e; cases e
      rw [if_neg ne]
      exact .cons hg r' (RF.put nd hf r t)
theorem RF.length : ∀ {fs : List (Nat × D)} {vs : List (Str × V)}, RF W.K W.ad W.at_ nx ρ H fs vs → fs.length = vs.length
  | _, _, .nil => rfl
  | _, _, .cons _ _ t => by rw [List.length_cons, List.length_cons, RF.length t]
end
theorem notM_of {W : Wd} (C : GC W) {c f : Nat} (h : notM W.G c f = true) (hf : f < W.at_.length) : L2.Cls W.K (W.ad c) ∧ NoAttr W.K (W.ad c) (nmAt W.at_ f) := by
  unfold notM at h
  split at h
  · rename_i k e
    rw [Bool.and_eq_true] at h
    have O := C.own c k e h.1
    exact ⟨O.cls, O.noa f hf (by simpa using h.2)⟩
  · cases h
section
variable {W : Wd} {J : Jx} {c : CC} {k : Nat} (g : XG W J c k)
include g
theorem e_attr (C : GC W) {a : Expr} {fa : Sg → St → R D} {f : Str} {i : Nat} {pos : Pos} (hr : recvOk a = true) (hf : ixOf f c.at_ 0 = some i) (ha : PE J.X a (sem W J (rD W) fa)) :
    PE J.X (.Attribute a f pos) (sem W J (rD W) fun σd st => (fa σd st).bind fun x st => match x with
      | .loc p => match st.get p with
        | some (.ins c fs) => cond (notM W.G c i) (R.of ((lookF i fs).map (nrm st)) st) .bad
        | _ => .bad
      | _ => .bad) := by
  rw [g.at_] at hf
  obtain ⟨hi, rfl⟩ := at_of hf
  refine (pe_fld ha (base_ok hr)).imp fun σ H Q h => ?_
  refine sem1 (r := fun x H Q => ∃ a C dx fs v, x = .ref a ∧ H a = some (.ins C dx fs) ∧ L2.Cls J.X.K C ∧ NoAttr J.X.K C (nmAt W.at_ i) ∧ fs.lookup (nmAt W.at_ i) = some v ∧ Q v H) h fun d v st ρ H s r p => ?_
  rw [g.K]
  cases r with
  | @loc n a h1 h2 =>
    have p : Post W J σ st.nx ρ H (rD W) Q (match st.get n with | some (.ins c fs) => cond (notM W.G c i) (R.of ((lookF i fs).map (nrm st)) st) R.bad | _ => R.bad) := p
    split at p
    · rename_i q fs e
      obtain ⟨z, p⟩ := cond_post p
      obtain ⟨b, ro⟩ := s.at h1 h2 e
      cases ro with
      | ins e1 e2 =>
        obtain ⟨k1, k2⟩ := notM_of C z hi
        have lk := RF.look C.nd hi e2
        cases el : lookF i fs with
        | none => rw [el] at p; exact p.elim
        | some d =>
          rw [el] at lk p
          obtain ⟨v, h3, h4⟩ := lk
          have p : Post W J σ st.nx ρ H (rD W) Q (R.ok (nrm st d) st) := p
          exact ⟨a, _, _, _, v, rfl, e1, k1, k2, h3, p.now s (nrm_rel s h4)⟩
    · exact p.elim
  | _ => exact p.elim
/-! ### subscripts -/
omit g in
theorem ixAll_get {xs : List D} : ∀ {is es : List D} {c : Nat} {d : D}, ixAll xs is = some es → is[c]? = some d → ∃ (i : Int) (j : Nat) (e : D), d = .int i ∧ normIx xs.length i = some j ∧ xs[j]? = some e ∧ es[c]? = some e
  | [], _, c, d, _, h => by simp at h
  | x :: is, es, c, d, h1, h2 => by
    cases x with
    | int k =>
      have h1 : (match normIx xs.length k with
        | some j => match xs[j]? with
          | some d => (ixAll xs is).map (d :: ·)
          | none => none
        | none => none) = some es := h1
      split at h1
      · rename_i j e1
        split at h1
        · rename_i e e2
          cases q : ixAll xs is with
          | none => rw [q] at h1; cases h1
          | some es' =>
            rw [q] at h1
            cases h1
            cases c with
            | zero => simp at h2; subst h2; exact ⟨k, j, e, rfl, e1, e2, by simp⟩
            | succ c =>
              obtain ⟨i, j', e', f1, f2, f3, f4⟩ := ixAll_get q (by simpa using h2)
              exact ⟨i, j', e', f1, f2, f3, by simpa using f4⟩
        · cases h1
      · cases h1
    | _ => cases h1
omit g in
theorem normIx_ixN (n : Nat) (i : Int) : normIx n i = ixN n i := by
  unfold normIx ixN
  by_cases h : 0 ≤ i
  · rw [if_pos h, if_pos h]
  · rw [if_neg h, if_neg h]
    by_cases h2 : 0 ≤ i + n
    · rw [if_pos h2, if_pos (by omega)]
    · rw [if_neg h2, if_neg (by omega)]
theorem e_sub {a b : Expr} {fa fb : Sg → St → R D} {pos : Pos} (hb : isSlice b = false) (ha : PE J.X a (sem W J (rD W) fa)) (hi : PE J.X b (sem W J (rD W) fb)) :
    PE J.X (.Subscript a b pos) (sem W J (rD W) fun σd st => (fa σd st).bind fun x st => (fb σd st).bind fun y st => getIx x y st) := by
  have hp : PlainIx b := fun o i => by cases b <;> first | rfl | cases hb
  refine (pe_ix (IxR.or ix_list ix_tup) ha hi hp).imp fun σ H Q h => ?_
  rw [g.K]
  refine sem2 h fun d e v u st ρ H s r1 r2 p => ?_
  cases r2 with
  | int i =>
    have p : Post W J σ st.nx ρ H (rD W) Q (match seqOf st d with | some xs => (match normIx xs.length i with | some j => R.of (xs[j]?.map (nrm st)) st | none => R.bad) | none => R.bad) := p
    cases e1 : seqOf st d with
    | none => rw [e1] at p; exact p.elim
    | some xs =>
      rw [e1] at p
      obtain ⟨a, vs, rfl, q1, q2⟩ := seq_rel s e1 r1
      simp only at p
      cases e2 : normIx xs.length i with
      | none => rw [e2] at p; exact p.elim
      | some j =>
        rw [e2] at p
        simp only at p
        cases e3 : xs[j]? with
        | none => rw [e3] at p; exact p.elim
        | some d' =>
          rw [e3] at p
          obtain ⟨v, h1, h2⟩ := q1.get e3
          have ea : atI vs i = some v := by
            unfold atI
            rw [← q1.length, ← normIx_ixN, e2]
            exact h1
          have p : Post W J σ st.nx ρ H (rD W) Q (R.ok (nrm st d') st) := p
          rcases q2 with q2 | q2
          · exact .inl ⟨a, vs, i, v, rfl, rfl, q2, ea, p.now s (nrm_rel s h2)⟩
          · exact .inr ⟨a, vs, i, v, rfl, rfl, q2, ea, p.now s (nrm_rel s h2)⟩
  | @cho n is d0 v0 hn hi hr =>
    have p : Post W J σ st.nx ρ H (rD W) Q (match seqOf st d with | some xs => (match ixAll xs is with | some es => R.ok (D.cho n es) st | none => R.bad) | none => R.bad) := p
    cases e1 : seqOf st d with
    | none => rw [e1] at p; exact p.elim
    | some xs =>
      rw [e1] at p
      obtain ⟨a, vs, rfl, q1, q2⟩ := seq_rel s e1 r1
      simp only at p
      cases e2 : ixAll xs is with
      | none => rw [e2] at p; exact p.elim
      | some es =>
        rw [e2] at p
        obtain ⟨i, j, e, rfl, f1, f2, f3⟩ := ixAll_get e2 hi
        cases hr with
        | int _ =>
          obtain ⟨v, h1, h2⟩ := q1.get f2
          have ea : atI vs i = some v := by
            unfold atI
            rw [← q1.length, ← normIx_ixN, f1]
            exact h1
          have z := p.now s (RD.cho hn f3 h2)
          rcases q2 with q2 | q2
          · exact .inl ⟨a, vs, i, v, rfl, rfl, q2, ea, z⟩
          · exact .inr ⟨a, vs, i, v, rfl, rfl, q2, ea, z⟩
  | _ => exact p.elim
/-! ### slices -/
omit g in
theorem cutIx_sIx (n d : Nat) (hd : d ≤ n) (o : Option Int) : cutIx n d o = HT.sIx n d o := by
  cases o with
  | none => rfl
  | some i =>
    show (if 0 ≤ i then min i.toNat n else (i + n).toNat) = (if i < 0 then (i + n).toNat else min i.toNat n)
    by_cases h : 0 ≤ i
    · rw [if_pos h, if_neg (by omega)]
    · rw [if_neg h, if_pos (by omega)]
omit g in
theorem cut_rel {nx : Nat} {ρ : Asg} {H : Hp} {xs : List D} {vs : List V} (r : W.RDs nx ρ H xs vs) (lo hi : Option Int) : W.RDs nx ρ H (cut xs lo hi) (cutV vs lo hi) := by
  unfold cut cutV
  simp only
  rw [cutIx_sIx _ _ (Nat.zero_le _), cutIx_sIx _ _ (Nat.le_refl _), r.length]
  exact (r.drop _).take _
def rO : Rl (Option Int) (Option Int) := fun _ _ _ a b => a = b
theorem o_none : PO J.X none (sem W J rO fun _ st => .ok none st) := ⟨fun pins s σ H Q I ⟨σd, st, ρ, l, sr, p⟩ => po_none.run pins s σ H Q I (p.now sr rfl)⟩
theorem o_some {e : Expr} {fe : Sg → St → R D} (h : PE J.X e (sem W J (rD W) fe)) : PO J.X (some e) (sem W J rO fun σd st => (fe σd st).bind fun d st => match d with | .int i => .ok (some i) st | _ => .bad) := by
  refine ⟨fun pins s σ H Q I hq => (po_some h).run pins s σ H Q I ?_⟩
  refine sem1 (rl := rO) (r := fun x H1 Q => ∃ i, x = .int i ∧ Q (some i) H1) hq fun d v st ρ H s r p => ?_
  cases r with
  | int i => exact ⟨i, rfl, p.now s rfl⟩
  | _ => exact p.elim
theorem e_slc {a : Expr} {lo hi : Option Expr} {fa : Sg → St → R D} {fl fh : Sg → St → R (Option Int)} {p2 pos : Pos} (ha : PE J.X a (sem W J (rD W) fa)) (hl : PO J.X lo (sem W J rO fl)) (hh : PO J.X hi (sem W J rO fh)) :
    PE J.X (.Subscript a (.Slice lo hi none p2) pos) (sem W J (rD W) fun σd st => (fa σd st).bind fun x st => (fl σd st).bind fun l st => (fh σd st).bind fun h st => doSlice x l h st) := by
  refine (pe_slice (SlR.or sl_list sl_tupA) ha hl hh).imp fun σ H Q ⟨σd, st, ρ, l, s, p⟩ => ?_
  rw [g.K]
  refine ⟨σd, st, ρ, l, s, (Post.bind (rl := rD W) p).mono fun v H1 ⟨d, st1, ρ1, x1, s1, r1, p1⟩ => ?_⟩
  refine ⟨σd, st1, ρ1, l.mono x1, s1, (Post.bind (rl := rO) p1).mono fun o H2 ⟨o', st2, ρ2, x2, s2, r2, p2⟩ => ?_⟩
  cases r2
  refine ⟨σd, st2, ρ2, (l.mono x1).mono x2, s2, (Post.bind (rl := rO) p2).mono fun u H3 ⟨u', st3, ρ3, x3, s3, r3, p3⟩ => ?_⟩
  cases r3
  have r := RD.mono x3 (RD.mono x2 r1)
  cases r with
  | @tup ds a vs h1 h2 =>
    have hr := cut_rel (W := W) h2 o u
    refine .inr ⟨_, _, rfl, h1, fun hw => ?_, fun _ => post_tup s3 hr p3⟩
    refine Post.now (a := D.tup _) p3 s3 (.tup h1 ?_)
    have e : cutV vs o u = vs := by
      unfold cutV
      rw [hw.1, hw.2, List.drop_zero, Nat.sub_zero, List.take_length]
    rw [e] at hr
    exact hr
  | @loc n a h1 h2 =>
    have p3 : Post W J σ st3.nx ρ3 H3 (rD W) Q (match st3.get n with | some (.lst xs) => alloc (.lst (cut xs o u)) st3 | _ => R.bad) := p3
    split at p3
    · rename_i xs e
      obtain ⟨b, ro⟩ := s3.at h1 h2 e
      cases ro with
      | lst e1 e2 => exact .inl ⟨a, _, rfl, .inl (.inl e1), post_lst s3 (cut_rel e2 o u) p3⟩
    · exact p3.elim
  | _ => exact p3.elim
/-! ### append, extend -/
omit g in
theorem few_kw {es : List Expr} {cpos : Pos} {env : Env} (h : fewArgs es = true) :
    ((backTo cpos (starEach es env)).all (fun x => !x.1) && (backToKw cpos (keywordEach [] env)).all (fun x => x.1.isSome)
      && decide (es.length + ([] : List Keyword).length + (if ([] : List Keyword).isEmpty then 0 else 1) < 30)) = true := by
  obtain ⟨h1, h2⟩ := few_ok h
  have e1 : (backTo cpos (starEach es env)).all (fun x => !x.1) = true := by
    have := noStars (env := env) h2 (pos := cpos)
    rw [List.any_eq_false] at this
    rw [List.all_eq_true]
    intro x hx
    have := this x hx
    simpa using this
  rw [e1]
  show (true && true && decide (es.length + 0 + 0 < 30)) = true
  rw [decide_eq_true (by omega)]; rfl
omit g in
/-- the store behind a change of a list -/
theorem chg_lst {σ : L2.St} {st : St} {ρ : Asg} {H : Hp} {n : Nat} {a : Addr} {vs us : List V} {ds : List D} (s : SRel W J.X J.κ σ st ρ H) (h1 : n < st.nx) (h2 : (ρ n).1 = some a) (e : H a = some (.lst vs)) (r : W.RDs st.nx ρ H ds us) :
    Ext st.nx ρ H (st.set n (.lst ds)).nx ρ (upd H a (.lst us)) ∧ SRel W J.X J.κ σ (st.set n (.lst ds)) ρ (upd H a (.lst us)) := by
  have hx : Ext st.nx ρ H st.nx ρ (upd H a (.lst us)) := {
    le := Nat.le_refl _
    old := fun _ _ => rfl
    new := fun n' _ h1 h2 => absurd h2 (Nat.not_lt.mpr h1)
    thr := fun b u q => by
      by_cases hb : b = a
      · subst hb; exact ⟨_, upd_same⟩
      · exact ⟨u, by rw [upd_ne hb]; exact q⟩
    fix := fun b u q f => by
      have hb : b ≠ a := fun z => by subst z; rw [e] at q; cases q; exact f
      rw [upd_ne hb]; exact q
    frm := fun b u q k _ => by
      have hb : b ≠ a := fun z => by subst z; exact k n h1 h2
      rw [upd_ne hb]; exact q }
  refine s.chg h1 h2 (fun u q => by rw [e] at q; cases q; exact ⟨fun z => z, True.intro⟩) ?_ (fun v => by simp)
  have e3 : ρ n = (some a, (ρ n).2) := by rw [← h2]
  rw [e3]
  exact .lst upd_same (RDs.mono hx r)
theorem bm_app {σ : L2.St} {st : St} {ρ : Asg} {H : Hp} {Q : VK} {d : D} {v : V} {ds : List D} {vs : List V} (s : SRel W J.X J.κ σ st ρ H) (r : W.RD st.nx ρ H d v) (rs : W.RDs st.nx ρ H ds vs) (p : Post W J σ st.nx ρ H (rD W) Q (method .append d ds st)) : rAppend v vs H Q := by
  match d, ds, r, rs with
  | .loc n, [d], r, .cons r1 .nil =>
    have p : Post W J σ st.nx ρ H (rD W) Q (match st.get n with | some (.lst xs) => cond (Nat.ble xs.length 100000) (R.ok D.non (st.set n (.lst (xs ++ [d])))) R.bad | _ => R.bad) := p
    split at p
    · rename_i xs e
      obtain ⟨hb, p⟩ := cond_post p
      obtain ⟨a, us, rfl, h2, h1, e1, e2⟩ := lst_at s r e
      obtain ⟨x, s'⟩ := chg_lst s h1 h2 e1 (RDs.append e2 (.cons r1 .nil))
      refine ⟨a, us, _, rfl, rfl, e1, ?_, p ρ _ .non x s' .non⟩
      have := Nat.le_of_ble_eq_true hb
      rw [← e2.length, sizeLine_eq]; omega
    · exact p.elim
  | .loc _, [], _, .nil => exact p.elim
  | .loc _, _ :: _ :: _, _, .cons _ (.cons _ _) => exact p.elim
  | .non, _, _, _ => exact p.elim
  | .bl _, _, _, _ => exact p.elim
  | .int _, _, _, _ => exact p.elim
  | .str _, _, _, _ => exact p.elim
  | .tup _, _, _, _ => exact p.elim
  | .fn _, _, _, _ => exact p.elim
theorem bm_ext {σ : L2.St} {st : St} {ρ : Asg} {H : Hp} {Q : VK} {d : D} {v : V} {ds : List D} {vs : List V} (s : SRel W J.X J.κ σ st ρ H) (r : W.RD st.nx ρ H d v) (rs : W.RDs st.nx ρ H ds vs) (p : Post W J σ st.nx ρ H (rD W) Q (method .extend d ds st)) : rExtend v vs H Q := by
  match d, ds, r, rs with
  | .loc n, [.loc m], r, .cons r1 .nil =>
    have p : Post W J σ st.nx ρ H (rD W) Q (match st.get n, st.get m with | some (.lst xs), some (.lst ys) => cond (Nat.beq n m || !Nat.ble (xs.length + ys.length) 100000) R.bad (R.ok D.non (st.set n (.lst (xs ++ ys)))) | _, _ => R.bad) := p
    split at p
    · rename_i xs ys e f
      cases hb : (Nat.beq n m || !Nat.ble (xs.length + ys.length) 100000) with
      | true => rw [hb] at p; exact p.elim
      | false =>
        rw [hb] at p
        rw [Bool.or_eq_false_iff] at hb
        obtain ⟨a, us, rfl, h2, h1, e1, e2⟩ := lst_at s r e
        obtain ⟨b, ws, rfl, h4, h3, e3, e4⟩ := lst_at s r1 f
        obtain ⟨x, s'⟩ := chg_lst s h1 h2 e1 (RDs.append e2 e4)
        refine ⟨a, b, us, ws, rfl, rfl, e1, e3, ?_, p ρ _ .non x s' .non⟩
        have := Nat.le_of_ble_eq_true (by simpa using hb.2)
        rw [← e2.length, ← e4.length, sizeLine_eq]; omega
    · exact p.elim
  | .loc _, [], _, .nil => exact p.elim
  | .loc _, [.non], _, _ => exact p.elim
  | .loc _, [.bl _], _, _ => exact p.elim
  | .loc _, [.int _], _, _ => exact p.elim
  | .loc _, [.str _], _, _ => exact p.elim
  | .loc _, [.tup _], _, _ => exact p.elim
  | .loc _, [.fn _], _, _ => exact p.elim
  | .loc _, d :: _ :: _, _, .cons _ (.cons _ _) => cases d <;> exact p.elim
  | .non, _, _, _ => exact p.elim
  | .bl _, _, _, _ => exact p.elim
  | .int _, _, _, _ => exact p.elim
  | .str _, _, _, _ => exact p.elim
  | .tup _, _, _, _ => exact p.elim
  | .fn _, _, _, _ => exact p.elim
/-- a method of a list: the receiver is asked for its kind ahead of the arguments -/
theorem e_bm {o a : Expr} {es : List Expr} {m : Str} {b : BM} {fo : Sg → St → R D} {fs : Sg → St → R (List D)} {p pos : Pos} (hm : bmOf m = some b) (hf : fewArgs (a :: es) = true) (hr : recvOk o = true) (hl : oneLine p pos = true)
    (ho : PE J.X o (sem W J (rD W) fo)) (ha : PA J.X (a :: es) (sem W J (rDs W) fs)) :
    PE J.X (.Call (.Attribute o m p) (a :: es) [] pos) (sem W J (rD W) fun σd st => (fo σd st).bind fun x st => match x with
      | .loc q => match st.get q with
        | some (.lst _) => (fs σd st).bind fun ds st => method b (.loc q) ds st
        | _ => .bad
      | _ => .bad) := by
  obtain ⟨f1, f2⟩ := few_ok hf
  have hp : (backTo pos (starEach es J.X.env)).any (·.1) = false := noStars (by rw [List.any_cons, Bool.or_eq_false_iff] at f2; exact f2.2)
  have leaf : ∀ {r : V → List V → Hp → VK → Prop}, (∀ {σ : L2.St} {st : St} {ρ : Asg} {H : Hp} {Q : VK} {d : D} {v : V} {ds : List D} {vs : List V}, SRel W J.X J.κ σ st ρ H → W.RD st.nx ρ H d v → W.RDs st.nx ρ H ds vs → Post W J σ st.nx ρ H (rD W) Q (method b d ds st) → r v vs H Q) →
      ∀ {σ : L2.St} {H : Hp} {Q : VK}, sem W J (rD W) (fun σd st => (fo σd st).bind fun x st => match x with
      | .loc q => match st.get q with
        | some (.lst _) => (fs σd st).bind fun ds st => method b (.loc q) ds st
        | _ => .bad
      | _ => .bad) σ H Q → tBM J.X.K "list" r (sem W J (rD W) fo) (sem W J (rDs W) fs) σ H Q := by
    intro r hr σ H Q ⟨σd, st, ρ, l, s, p⟩
    refine ⟨σd, st, ρ, l, s, (Post.bind (rl := rD W) p).mono fun v H1 ⟨d, st1, ρ1, x1, s1, r1, p1⟩ => ?_⟩
    cases r1 with
    | @loc n a h1 h2 =>
      have p1 : Post W J σ st1.nx ρ1 H1 (rD W) Q (match st1.get n with | some (.lst _) => (fs σd st1).bind fun ds st => method b (.loc n) ds st | _ => R.bad) := p1
      split at p1
      · rename_i xs e
        obtain ⟨z, ro⟩ := s1.at h1 h2 e
        cases ro with
        | lst e1 e2 =>
          refine ⟨.inl ⟨rfl, _, .inl (.inl e1)⟩, σd, st1, ρ1, l.mono x1, s1, (Post.bind (rl := rDs W) p1).mono fun vs H2 ⟨ds, st2, ρ2, x2, s2, r2, p2⟩ => ?_⟩
          exact hr s2 (RD.mono x2 (.loc h1 h2)) r2 p2
      · exact p1.elim
    | _ => exact p1.elim
  unfold bmOf at hm
  split at hm
  · rename_i e; cases hm
    subst e
    exact (pe_bm PySem.F.plainAttrs_list PySem.F.slot_list_append PySem.F.type_list_append mt_append ho ha (base_ok hr) (few_kw hf) hl (noStar1 f2) hp).imp fun σ H Q z => leaf (fun s r rs p => bm_app g s r rs p) z
  split at hm
  · rename_i e; cases hm
    subst e
    exact (pe_bm PySem.F.plainAttrs_list PySem.F.slot_list_extend PySem.F.type_list_extend mt_extend ho ha (base_ok hr) (few_kw hf) hl (noStar1 f2) hp).imp fun σ H Q z => leaf (fun s r rs p => bm_ext g s r rs p) z
  · cases hm
end
end MX
end
section
set_option Elab.async false
set_option linter.all false
set_option autoImplicit false
set_option maxRecDepth 100000
set_option maxHeartbeats 400000
/-! Into a frame and back: the cells. -/
namespace MX
open PySem PySem.Spec PyProof.Rows L2
def ofVal : Value → Option V
  | .none => some .non
  | .bool b => some (.bl b)
  | .int i _ => some (.int i)
  | .str x _ => some (.str x)
  | .bytes b _ => some (.byt b)
  | .float b _ => some (.flt b)
  | .ref a => some (.ref a)
  | .type n => some (.ty n)
  | _ => none
theorem ofVal_rel {v : V} {u : Value} (h : RelV v u) : ofVal u = some v := by
  cases v with
  | non => cases (show u = Value.none from h); rfl
  | bl b => cases (show u = Value.bool b from h); rfl
  | int i => obtain ⟨t, e⟩ := (show ∃ t, u = Value.int i t from h); cases e; rfl
  | str x => obtain ⟨t, e⟩ := (show ∃ t, u = Value.str x t from h); cases e; rfl
  | byt b => obtain ⟨t, e⟩ := (show ∃ t, u = Value.bytes b t from h); cases e; rfl
  | flt b => obtain ⟨t, e⟩ := (show ∃ t, u = Value.float b t from h); cases e; rfl
  | ref a => cases (show u = Value.ref a from h); rfl
  | ty n => cases (show u = Value.type n from h); rfl
theorem RelV_inj {v v' : V} {u : Value} (h : RelV v u) (h' : RelV v' u) : v = v' := Option.some.inj ((ofVal_rel h).symm.trans (ofVal_rel h'))
theorem IsCell_fun {h : Heap} {a : Addr} {v w : Option Value} (p : h.IsCell a v) (q : h.IsCell a w) : v = w := by
  obtain ⟨o, e, d⟩ := p
  obtain ⟨o', e', d'⟩ := q
  rw [e] at e'; cases e'
  rw [d] at d'; cases d'; rfl
section
variable {W : Wd} {J : Jx} {X' : Cx} {pins : List (Addr × Obj)} {σ σ' : L2.St} {H H' : Hp} {s : Shared} {st st' : St} {ρ ρ' : Asg} {κ' : List (Nat × Nat)}
/-- what is known, at a frame's entry, of the cells of the frames around it -/
def outOf (J : Jx) (σ : L2.St) (nx : Nat) (n : Nat) (a : Addr) : Prop :=
  n < nx ∧ ((∃ (i : Nat) (x : Str) (v : V), cellOf i J.κ.κ = some n ∧ J.X.N[i]? = some x ∧ J.X.env.kindOf x = some .cell ∧ J.X.fn x = true ∧ J.X.env.cells.lookup x = some a ∧ σ[i]? = some (some v)) ∨
    (J.κ.out n a ∧ ∃ u : Value, J.X.s_0.heap.IsCell a (some u) ∧ J.X.H_0 a = none ∧ a ∉ J.X.fs ∧ a ∉ J.X.ex))
/-- a frame that is entered at s -/
structure Into (J : Jx) (pins : List (Addr × Obj)) (H : Hp) (s : Shared) (X' : Cx) : Prop where
  s0 : X'.s_0 = s
  h0 : X'.H_0 = H
  out : X'.outer = J.X.stack
  ex : ∀ b ∈ X'.ex, FpOk J.X pins H b
theorem own_now (I : Inv J.X pins σ H s) {i : Nat} {x : Str} {v : V} {a : Addr} (h1 : J.X.N[i]? = some x) (h2 : J.X.env.kindOf x = some .cell) (h4 : J.X.env.cells.lookup x = some a) (h5 : σ[i]? = some (some v)) : ∃ u, s.heap.IsCell a (some u) ∧ RelV v u := by
  obtain ⟨m, _, hl⟩ := I.loc
  obtain ⟨u, r, q⟩ := hl i x v h1 h5 (.inr (.inl h2))
  rcases q with ⟨k, _⟩ | ⟨_, c, e, z⟩
  · rw [h2] at k; cases k
  · rw [h4] at e; cases e
    exact ⟨u, z, r⟩
theorem out_now (I : Inv J.X pins σ H s) {a : Addr} {u : Value} (h1 : J.X.s_0.heap.IsCell a (some u)) (h2 : J.X.H_0 a = none) (h3 : a ∉ J.X.fs) (h4 : a ∉ J.X.ex) : s.heap.IsCell a (some u) ∧ H a = none ∧ a < J.X.s_0.heap.objs.size := by
  obtain ⟨o, e, d⟩ := h1
  exact ⟨⟨o, I.base.keep a o e h2 h3 h4, d⟩, I.base.free a o e h2 h4, Heap.lt_size e⟩
/-- such a cell stands as the entered frame wants -/
theorem out_free (I : Inv J.X pins σ H s) (E : Into J pins H s X') {nx n : Nat} {a : Addr} (h : outOf J σ nx n a) : (∃ u, s.heap.IsCell a (some u)) ∧ H a = none ∧ a ∉ X'.fs ∧ a ∉ X'.ex := by
  obtain ⟨_, h⟩ := h
  have nfs : ∀ b, b ∉ frs J.X.stack → b ∉ X'.fs := fun b hb => by
    show b ∉ frs X'.outer
    rw [E.out]; exact hb
  rcases h with ⟨i, x, v, h0, h1, h2, h3, h4, h5⟩ | ⟨_, u, h1, h2, h3, h4⟩
  · obtain ⟨u, hc, r⟩ := own_now I h1 h2 h4 h5
    have hz := I.ok.cab x a h3 h4
    refine ⟨⟨u, hc⟩, I.freeC x a h4, nfs a fun hm => ?_, fun hm => (E.ex a hm).2.2.2.2.1 x a h4 rfl⟩
    rcases List.mem_cons.mp (I.stkSub a hm) with e | e
    · exact I.cne x a h4 e
    · obtain ⟨_, o, ho, _⟩ := I.ok.funs.mem e
      exact absurd (Heap.lt_size ho) (Nat.not_lt.mpr hz)
  · obtain ⟨z1, z2, z3⟩ := out_now I h1 h2 h3 h4
    refine ⟨⟨u, z1⟩, z2, nfs a fun hm => ?_, fun hm => ?_⟩
    · rcases List.mem_cons.mp (I.stkSub a hm) with e | e
      · have := I.ok.above
        rw [← e] at this
        exact absurd z3 (Nat.not_lt.mpr this)
      · exact h3 e
    · rcases (E.ex a hm).2.2.2.1 with e | e
      · exact h4 e
      · exact absurd z3 (Nat.not_lt.mpr e)
theorem enter (S : SRel W J.X J.κ σ st ρ H) (I : Inv J.X pins σ H s) (E : Into J pins H s X') : SRel W X' ⟨[], outOf J σ st.nx⟩ σ' st ρ H := by
  refine ⟨fun n hn => ?_, S.inj, S.tab, (fun i m h => nomatch h), S.few⟩
  obtain ⟨ob, g, r⟩ := S.get n hn
  refine ⟨ob, g, ?_⟩
  cases hz : ρ n with
  | mk z b =>
    rw [hz] at r
    cases r with
    | lst e1 e2 => exact .lst e1 e2
    | frz e1 e2 => exact .frz e1 e2
    | ins e1 e2 => exact .ins e1 e2
    | cho h1 h2 => exact .cho h1 h2
    | dice h1 h2 => exact .dice h1 h2
    | scr h1 h2 h3 h4 => exact .scr h1 h2 h3 h4
    | lam e1 e2 e3 e4 e5 e6 e7 k1 k2 e8 => exact .lam e1 e2 e3 e4 e5 e6 e7 k1 k2 e8
    | @cel v _ hc =>
      refine .cel ?_
      cases v with
      | none => exact trivial
      | some d =>
        rcases hc with ⟨i, x, v, h0, h1, h2, h3, h4, h5, h6⟩ | ⟨h0, u, v, h1, h2, h3, h4, h5, h6⟩
        · have o : outOf J σ st.nx n b := ⟨hn, .inl ⟨i, x, v, h0, h1, h2, h3, h4, h5⟩⟩
          obtain ⟨_, q2, q3, q4⟩ := out_free I E o
          obtain ⟨u, hc, r⟩ := own_now I h1 h2 h4 h5
          exact .inr ⟨o, u, v, by rw [E.s0]; exact hc, r, h6, by rw [E.h0]; exact q2, q3, q4⟩
        · have o : outOf J σ st.nx n b := ⟨hn, .inr ⟨h0, u, h1, h4, h5, h6⟩⟩
          obtain ⟨_, q2, q3, q4⟩ := out_free I E o
          exact .inr ⟨o, u, v, by rw [E.s0]; exact (out_now I h1 h4 h5 h6).1, h2, h3, by rw [E.h0]; exact q2, q3, q4⟩
theorem kill_nx : ∀ (κ : List (Nat × Nat)) (st : St), (kill κ st).nx = st.nx
  | [], _ => rfl
  | (_, c) :: κ, st => kill_nx κ _
theorem kill_get : ∀ (κ : List (Nat × Nat)) (st : St) (n : Nat), (∀ e ∈ κ, e.2 < 1000002) → (kill κ st).get n = if n ∈ κ.map (·.2) then some (.cel none) else st.get n
  | [], st, n, _ => by simp [kill]
  | (i, c) :: κ, st, n, h => by
    show (kill κ (st.set c (.cel none))).get n = _
    rw [kill_get κ _ n fun e he => h e (List.mem_cons_of_mem _ he)]
    have hc : c < 1000002 := h (i, c) List.mem_cons_self
    by_cases h1 : n ∈ κ.map (·.2)
    · rw [if_pos h1, if_pos (by rw [List.map_cons]; exact List.mem_cons_of_mem _ h1)]
    · rw [if_neg h1, St.get_set (by omega)]
      by_cases h2 : n = c
      · subst h2
        rw [if_pos rfl, if_pos (by rw [List.map_cons]; exact List.mem_cons_self)]
      · rw [if_neg h2, if_neg (by rw [List.map_cons, List.mem_cons, not_or]; exact ⟨h2, h1⟩)]
/-- back in the frame around -/
theorem leave0 {σ₂ : L2.St} (S : SRel W J.X J.κ σ st ρ H) (I : Inv J.X pins σ H s) (E : Into J pins H s X') (hle : st.nx ≤ st'.nx) (hold : ∀ n, n < st.nx → ρ' n = ρ n) (S' : SRel W X' ⟨κ', outOf J σ st.nx⟩ σ₂ st' ρ' H')
    (hκ : ∀ e ∈ κ', st.nx ≤ e.2 ∧ e.2 < st'.nx ∧ (ρ' e.2).1 = none) : SRel W J.X J.κ σ (kill κ' st') ρ' H' := by
  have few := S'.few
  have kg := kill_get κ' st'
  have kg : ∀ n, (kill κ' st').get n = if n ∈ κ'.map (·.2) then some (.cel none) else st'.get n := fun n => kg n fun e he => by
    have := (hκ e he).2.1
    omega
  refine ⟨fun n hn => ?_, fun m n a h1 h2 => S'.inj m n a (by rw [kill_nx] at h1; exact h1) (by rw [kill_nx] at h2; exact h2), S'.tab, fun i m h => ?_, by rw [kill_nx]; exact few⟩
  · rw [kill_nx] at hn ⊢
    obtain ⟨ob, g, r⟩ := S'.get n hn
    by_cases hm : n ∈ κ'.map (·.2)
    · refine ⟨.cel none, by rw [kg, if_pos hm], ?_⟩
      obtain ⟨e, he, e2⟩ := List.mem_map.mp hm
      obtain ⟨_, _, hv⟩ := hκ e he
      have e2 : e.2 = n := e2
      rw [e2] at hv
      cases hz : ρ' n with
      | mk z b =>
        rw [hz] at hv
        have hv : z = none := hv
        subst hv
        exact .cel trivial
    · refine ⟨ob, by rw [kg, if_neg hm]; exact g, ?_⟩
      cases hz : ρ' n with
      | mk z b =>
        rw [hz] at r
        cases r with
        | lst e1 e2 => exact .lst e1 e2
        | frz e1 e2 => exact .frz e1 e2
        | ins e1 e2 => exact .ins e1 e2
        | cho h1 h2 => exact .cho h1 h2
        | dice h1 h2 => exact .dice h1 h2
        | scr h1 h2 h3 h4 => exact .scr h1 h2 h3 h4
        | lam e1 e2 e3 e4 e5 e6 e7 k1 k2 e8 => exact .lam e1 e2 e3 e4 e5 e6 e7 k1 k2 e8
        | @cel v _ hc =>
          refine .cel ?_
          cases v with
          | none => exact trivial
          | some d =>
            rcases hc with ⟨i, x, v, h0, _⟩ | ⟨⟨hl, o⟩, u', v', h1, h2, h3, h4, h5, h6⟩
            · refine absurd ?_ hm
              have q : ∀ (l : List (Nat × Nat)), cellOf i l = some n → n ∈ l.map (·.2) := by
                intro l
                induction l with
                | nil => intro z; cases z
                | cons p l ih =>
                  obtain ⟨j, c⟩ := p
                  intro z
                  have z : cond (Nat.beq i j) (some c) (cellOf i l) = some n := z
                  cases hb : Nat.beq i j with
                  | true => rw [hb] at z; cases z; exact List.mem_cons_self
                  | false => rw [hb] at z; exact List.mem_cons_of_mem _ (ih z)
              exact q κ' h0
            · rw [E.s0] at h1
              rcases o with ⟨i, x, v, k0, k1, k2, k3, k4, k5⟩ | ⟨k0, u, k1, k2, k3, k4⟩
              · obtain ⟨u, hc, r⟩ := own_now I k1 k2 k4 k5
                have e := IsCell_fun h1 hc
                cases e
                have e := RelV_inj h2 r
                subst e
                exact .inl ⟨i, x, v', k0, k1, k2, k3, k4, k5, h3⟩
              · have e := IsCell_fun h1 (out_now I k1 k2 k3 k4).1
                cases e
                exact .inr ⟨k0, u', v', k1, h2, h3, k2, k3, k4⟩
  · rw [kill_nx]
    obtain ⟨h1, h2, y, k1, k2, k3, k4⟩ := S.kap i m h
    have hm : m ∉ κ'.map (·.2) := fun z => by
      obtain ⟨e, he, e2⟩ := List.mem_map.mp z
      have := (hκ e he).1
      have e2 : e.2 = m := e2
      omega
    have hl : m < st'.nx := Nat.lt_of_lt_of_le h1 hle
    have eo := hold m h1
    exact ⟨hl, by rw [eo]; exact h2, y, k1, k2, by rw [eo]; exact k3, k4⟩
theorem leave {σ₂ : L2.St} (S : SRel W J.X J.κ σ st ρ H) (I : Inv J.X pins σ H s) (E : Into J pins H s X') (x : Ext st.nx ρ H st'.nx ρ' H') (S' : SRel W X' ⟨κ', outOf J σ st.nx⟩ σ₂ st' ρ' H')
    (hκ : ∀ e ∈ κ', st.nx ≤ e.2 ∧ e.2 < st'.nx ∧ (ρ' e.2).1 = none) : Ext st.nx ρ H (kill κ' st').nx ρ' H' ∧ SRel W J.X J.κ σ (kill κ' st') ρ' H' :=
  ⟨by rw [kill_nx]; exact x, leave0 S I E x.le x.old S' hκ⟩
end
end MX
end
section
set_option Elab.async false
set_option linter.all false
set_option autoImplicit false
set_option maxRecDepth 100000
set_option maxHeartbeats 400000
/-! A frame's own cells. -/
namespace MX
open PySem PySem.Spec PyProof.Rows L2
theorem cellOf_app {i : Nat} : ∀ {a b : List (Nat × Nat)}, cellOf i (a ++ b) = match cellOf i a with | some n => some n | none => cellOf i b
  | [], _ => rfl
  | (j, c) :: a, b => by
    show cond (Nat.beq i j) (some c) (cellOf i (a ++ b)) = match cond (Nat.beq i j) (some c) (cellOf i a) with | some n => some n | none => cellOf i b
    cases Nat.beq i j with
    | true => rfl
    | false => exact cellOf_app (a := a) (b := b)
section
variable {W : Wd} {X : Cx} {κ₀ : List (Nat × Nat)} {out : Nat → Addr → Prop} {σ : L2.St} {H : Hp} {σd : Sg}
theorem CellOk.wide {nx : Nat} {ρ : Asg} {n : Nat} {a : Addr} {v : Option D} {l : List (Nat × Nat)} (h : CellOk W X ⟨κ₀, out⟩ σ nx ρ H n a v) : CellOk W X ⟨κ₀ ++ l, out⟩ σ nx ρ H n a v := by
  cases v with
  | none => exact trivial
  | some d =>
    rcases h with ⟨i, x, v, h0, h⟩ | h
    · have h0 : cellOf i κ₀ = some n := h0
      exact .inl ⟨i, x, v, by show cellOf i (κ₀ ++ l) = _; rw [cellOf_app, h0], h⟩
    · exact .inr h
theorem SRel.newc {st st' : St} {ρ : Asg} {i : Nat} {x : Str} {c : Addr} {v : Option D} (s : SRel W X ⟨κ₀, out⟩ σ st ρ H) (hn : st'.nx = st.nx + 1) (hl : st.nx ≤ 1000000) (hg : ∀ m, st'.get m = if m = st.nx then some (.cel v) else st.get m)
    (hi : cellOf i κ₀ = none) (h1 : X.N[i]? = some x) (h2 : X.env.kindOf x = some .cell) (h3 : X.fn x = true) (h4 : X.env.cells.lookup x = some c) (hv : ∀ d, v = some d → ∃ u, σ[i]? = some (some u) ∧ W.RD st.nx ρ H d u) :
    Ext st.nx ρ H st'.nx (ρ.put st.nx (none, c)) H ∧ SRel W X ⟨κ₀ ++ [(i, st.nx)], out⟩ σ st' (ρ.put st.nx (none, c)) H := by
  have few := s.few
  have x : Ext st.nx ρ H st'.nx (ρ.put st.nx (none, c)) H := {
    le := by omega
    old := fun n h => put_ne (Nat.ne_of_lt h)
    new := fun n a k1 k2 k3 => by
      have e : n = st.nx := by omega
      subst e
      rw [put_same] at k3
      cases k3
    thr := fun b u q => ⟨u, q⟩
    fix := fun b u q _ => q
    frm := fun b u q _ _ => q }
  have ci : cellOf i [(i, st.nx)] = some st.nx := by
    show cond (Nat.beq i i) (some st.nx) none = _
    rw [Nat.beq_refl]; rfl
  refine ⟨x, ⟨fun n h => ?_, fun m n a k1 k2 e1 e2 => ?_, s.tab, fun j m e => ?_, by omega⟩⟩
  · by_cases e : n = st.nx
    · subst e
      refine ⟨.cel v, by rw [hg, if_pos rfl], ?_⟩
      rw [put_same]
      refine .cel ?_
      cases v with
      | none => exact trivial
      | some d =>
        obtain ⟨u, k1, k2⟩ := hv d rfl
        refine .inl ⟨i, _, u, ?_, h1, h2, h3, h4, k1, k2.mono x⟩
        show cellOf i (κ₀ ++ [(i, st.nx)]) = _
        rw [cellOf_app, hi, ci]
    · obtain ⟨ob', g, r⟩ := s.get n (by omega)
      refine ⟨ob', by rw [hg, if_neg e]; exact g, ?_⟩
      rw [put_ne e]
      have r' := r.mono x fun a o' _ q => q
      cases hz : ρ n with
      | mk z b =>
        rw [hz] at r'
        cases r' with
        | lst e1 e2 => exact .lst e1 e2
        | frz e1 e2 => exact .frz e1 e2
        | ins e1 e2 => exact .ins e1 e2
        | cho h1 h2 => exact .cho h1 h2
        | dice h1 h2 => exact .dice h1 h2
        | scr h1 h2 h3 h4 => exact .scr h1 h2 h3 h4
        | lam e1 e2 e3 e4 e5 e6 e7 k1 k2 e8 => exact .lam e1 e2 e3 e4 e5 e6 e7 k1 k2 e8
        | cel hc => exact .cel hc.wide
  · by_cases em : m = st.nx
    · rw [em, put_same] at e1; cases e1
    · by_cases en : n = st.nx
      · rw [en, put_same] at e2; cases e2
      · rw [put_ne em] at e1
        rw [put_ne en] at e2
        exact s.inj m n a (by omega) (by omega) e1 e2
  · have e : cellOf j (κ₀ ++ [(i, st.nx)]) = some m := e
    rw [cellOf_app] at e
    cases q : cellOf j κ₀ with
    | some m' =>
      rw [q] at e
      cases e
      obtain ⟨k1, k2, y, k3⟩ := s.kap j m q
      have ne : m ≠ st.nx := by omega
      exact ⟨by omega, by rw [put_ne ne]; exact k2, y, by rw [put_ne ne]; exact k3⟩
    | none =>
      rw [q] at e
      have e : cond (Nat.beq j i) (some st.nx) none = some m := e
      cases hb : Nat.beq j i with
      | false => rw [hb] at e; cases e
      | true =>
        rw [hb] at e
        cases e
        have := Nat.eq_of_beq_eq_true hb
        subst this
        exact ⟨by omega, by rw [put_same], _, h1, h2, by rw [put_same]; exact h4, h3⟩
theorem newCells_rel : ∀ (is : List Nat) (κ₀ κ' : List (Nat × Nat)) (st st' : St) (ρ : Asg), SRel W X ⟨κ₀, out⟩ σ st ρ H → LRel W σd σ st.nx ρ H → newCells σd is st = some (κ', st') → (∀ i ∈ is, cellOf i κ₀ = none) → is.Nodup →
    (∀ i ∈ is, ∃ x c, X.N[i]? = some x ∧ X.env.kindOf x = some .cell ∧ X.fn x = true ∧ X.env.cells.lookup x = some c) →
    ∃ ρ', Ext st.nx ρ H st'.nx ρ' H ∧ SRel W X ⟨κ₀ ++ κ', out⟩ σ st' ρ' H ∧ ∀ e ∈ κ', st.nx ≤ e.2 ∧ e.2 < st'.nx
  | [], κ₀, κ', st, st', ρ, s, l, h, _, _, _ => by
    cases h
    exact ⟨ρ, .refl, by rw [List.append_nil]; exact s, fun e he => nomatch he⟩
  | i :: is, κ₀, κ', st, st', ρ, s, l, h, hi, nd, hx => by
    have h : (match alloc (.cel ((σd[i]?).getD none)) st with
      | .ok (.loc c) st => (match newCells σd is st with | some (κ, st) => some ((i, c) :: κ, st) | none => none)
      | _ => none) = some (κ', st') := h
    unfold alloc at h
    cases hb : Nat.ble st.nx 1000000 with
    | false => rw [hb] at h; cases h
    | true =>
      rw [hb] at h
      simp only [cond_true] at h
      cases q : newCells σd is ⟨Tr.set (.cel ((σd[i]?).getD none)) 30 st.t st.nx, st.nx + 1⟩ with
      | none => rw [q] at h; cases h
      | some r =>
        obtain ⟨κ₁, st₁⟩ := r
        rw [q] at h
        simp only [Option.some.injEq, Prod.mk.injEq] at h
        obtain ⟨rfl, rfl⟩ := h
        obtain ⟨x, c, k1, k2, k3, k4⟩ := hx i List.mem_cons_self
        have hl := Nat.le_of_ble_eq_true hb
        have e1 : cellOf i [(i, st.nx)] = some st.nx := by
          show cond (Nat.beq i i) (some st.nx) none = _
          rw [Nat.beq_refl]; rfl
        obtain ⟨x1, s1⟩ := s.newc (st' := ⟨Tr.set (.cel ((σd[i]?).getD none)) 30 st.t st.nx, st.nx + 1⟩) (v := (σd[i]?).getD none) rfl hl (fun m => by
            show (⟨Tr.set _ 30 st.t st.nx, st.nx + 1⟩ : St).t.get m = _
            exact St.get_set (st := st) (n := st.nx) (by omega) m) (hi i List.mem_cons_self) k1 k2 k3 k4 (fun d hd => by
          cases e : σd[i]? with
          | none => rw [e] at hd; cases hd
          | some o =>
            rw [e] at hd
            have hd : o = some d := hd
            subst hd
            exact l.get i d e)
        rw [List.nodup_cons] at nd
        obtain ⟨ρ', x2, s2, h2⟩ := newCells_rel is _ κ₁ _ st₁ _ s1 (l.mono x1) q (fun j hj => by
          rw [cellOf_app, hi j (List.mem_cons_of_mem _ hj)]
          show cond (Nat.beq j i) (some st.nx) none = none
          cases hbe : Nat.beq j i with
          | false => rfl
          | true =>
            have := Nat.eq_of_beq_eq_true hbe
            subst this
            exact absurd hj nd.1) nd.2 (fun j hj => hx j (List.mem_cons_of_mem _ hj))
        refine ⟨ρ', x1.trans x2, by rw [List.append_assoc] at s2; exact s2, fun e he => ?_⟩
        rcases List.mem_cons.mp he with rfl | he
        · exact ⟨Nat.le_refl _, Nat.lt_of_lt_of_le (Nat.lt_succ_self _) x2.le⟩
        · obtain ⟨h3, h4⟩ := h2 e he
          exact ⟨Nat.le_of_succ_le h3, h4⟩
end
end MX
end
section
/-! Statements to the IR. Own work. -/
set_option linter.all false
namespace MX
open PySem
def isComp : Expr → Bool
  | .ListComp .. | .SetComp .. | .DictComp .. => true
  | _ => false
def cTg (n : Nat) (c : CC) : Expr → Option Tg
  | .Name x _ => (c.slotL x).map .nm
  | .Attribute o f _ => if !recvOk o then none else do return .at (← cE n c o) (← ixOf f c.at_ 0)
  | .Subscript o i _ => if isSlice i then none else do return .ix (← cE n c o) (← cE n c i)
  | _ => none
def cH (c : CC) : ExceptHandler → Option (Nat × Option (Nat × Nat) × List Nat)
  | .ExceptHandler (some (.Name x _)) none [.Return (some (.Constant (.str s) _ _)) _] _ => do return (← c.glob x, none, s.cps.toList)
  | .ExceptHandler (some (.Name x _)) (some e) [.Return (some (.BinOp (.Constant (.str s) _ _) .Add (.Call (.Name f _) [.Attribute (.Name e' _) a _] [] _) _)) _] _ =>
    if f = "repr" ∧ c.blt f = true ∧ e = e' ∧ c.sc.names.lookup e = some .local then do return (← c.glob x, some (← c.slotL e, ← ixOf a c.at_ 0), s.cps.toList) else none
  | _ => none
/-- the names that are stored from the right; none: not covered -/
def swS (c : CC) (ts vs : List Expr) : Option (Option (List Str)) :=
  if !(ts.length == 2 || ts.length == 3) || vs.length != ts.length then some none
  else if vs.any isStar then some none
  else
    let line := (ts.head?.map (·.pos.line)).getD 0
    let names := ts.filterMap fun
      | .Name id pos => if c.sc.names.lookup id == some .local && pos.line == line then some id else none
      | _ => none
    if names.length != ts.length || names.eraseDups.length != names.length then some none
    else if vs.all (foldedForSure 8) then some none
    else if vs.all (constantsAlone 8) then none
    else some (some names)
/-- a comprehension that is stored in its block's end -/
def swLc (c : CC) (sc : Scope) (x : Str) (p q : Pos) : Bool := c.sc.names.lookup x == some .local && p.line == q.line && !(sc.names.any fun (n, k) => n == x && (k == .local || k == .cell))
/-- a tuple of targets: what is covered -/
def tupOk (c : CC) (ts : List Expr) : Expr → Bool
  | .Tuple vs _ _ => match swS c ts vs with
    | some none => true
    | some (some _) => match ts, vs with
      | [.Name x _, .Name y _], [_, _] => c.sc.names.lookup x == some .local && c.sc.names.lookup y == some .local && !(c.slotL x == c.slotL y)
      | _, _ => false
    | none => false
  | _ => true
mutual
def cS : Nat → CC → Stmt → Option S
  | 0, _, _ => none
  | n + 1, c, s =>
    match s with
    | .Expr e _ => if isComp e then none else do return .exp (← cE n c e)
    | .Assign [.Tuple ts _ _] e _ => if !tupOk c ts e then none else do return .tup (← ts.mapM (cTg n c)) (← cE n c e)
    | .Assign [t] e _ => do return .set (← cTg n c t) (← cE n c e)
    | .If t a b _ => do return .ifs (← cE n c t) (← cSs n c a) (← cSs n c b)
    | .While t b [] _ => do return .whl (← cE n c t) (← cSs n c b)
    | .For t it b [] _ => do
      let x ← cI n c it
      if itOk t x then return .for (← tgOf c t) x (← cSs n c b) else none
    | .Return (some e) _ => do return .ret (← cE n c e)
    | .Return none _ => some .retN
    | .Break _ => some .brk
    | .Continue _ => some .cnt
    | .Pass _ => some .pas
    | .Raise (some (.Call (.Name x _) [.Constant (.str _) _ _] [] _)) none _ => do return .rai (← c.glob x)
    | .Raise (some (.Call (.Name x _) [e] [] _)) none _ => if isStar e then none else do return .raiA (← c.glob x) (← cE n c e)
    | .Try b hs [] [] _ => do return .try (← cSs n c b) (← hs.mapM (cH c))
    | _ => none
def cSs : Nat → CC → List Stmt → Option (List S)
  | 0, _, _ => none
  | n + 1, c, ss => match ss with
    | [] => some []
    | s :: r => do return (← cS n c s) :: (← cSs n c r)
end
end MX
end
section
set_option Elab.async false
set_option linter.all false
set_option autoImplicit false
set_option maxRecDepth 100000
set_option maxHeartbeats 400000
/-! Statements' readings; a def's data; the call of a def. -/
namespace MX
open PySem PySem.Spec PyProof.Rows L2
section
variable (W : Wd) (J : Jx)
def PostS (nx : Nat) (ρ : Asg) (H : Hp) (D : Ends) : F → Prop
  | .nx σd st' => ∀ (ρ' : Asg) (H' : Hp) (σ' : L2.St), Ext nx ρ H st'.nx ρ' H' → LRel W σd σ' st'.nx ρ' H' → SRel W J.X J.κ σ' st' ρ' H' → D.nx σ' H'
  | .brk σd st' => ∀ (ρ' : Asg) (H' : Hp) (σ' : L2.St), Ext nx ρ H st'.nx ρ' H' → LRel W σd σ' st'.nx ρ' H' → SRel W J.X J.κ σ' st' ρ' H' → D.bk σ' H'
  | .cnt σd st' => ∀ (ρ' : Asg) (H' : Hp) (σ' : L2.St), Ext nx ρ H st'.nx ρ' H' → LRel W σd σ' st'.nx ρ' H' → SRel W J.X J.κ σ' st' ρ' H' → D.ct σ' H'
  | .ret d st' => ∀ (ρ' : Asg) (H' : Hp) (σ' : L2.St) (v : V), Ext nx ρ H st'.nx ρ' H' → SRel W J.X J.κ σ' st' ρ' H' → W.RD st'.nx ρ' H' d v → D.rt v H'
  | .exc c fs st' => ∀ (ρ' : Asg) (H' : Hp) (σ' : L2.St) (dd : Option Addr), Ext nx ρ H st'.nx ρ' H' → SRel W J.X J.κ σ' st' ρ' H' → ExcR W st'.nx ρ' H' fs dd → J.Wx (.ref (W.ad c)) dd σ' H'
  | .bad => False
/-- the reading of what the interpreter makes of a statement -/
def semS (f : Sg → St → F) : TS := fun D σ H => ∃ σd st ρ, LRel W σd σ st.nx ρ H ∧ SRel W J.X J.κ σ st ρ H ∧ PostS W J st.nx ρ H D (f σd st)
end
/-- a def as it stands -/
structure FnD where
  name : Str
  qual : Str
  params : Arguments
  body : List Stmt
  scope : Scope
  dV : Value
  kV : Value
  doc : Value
  pm : Value
  cdv : Value
  ct : Value
  oc : Value
  an : Option Addr
  od : Option Addr
  osl : Array (Option Value)
  N : List Str
  ps : List Str
  dus : List Value
  dvs : List V
def FnD.fd (d : FnD) : FuncData := PySem.W.fnOf d.name d.qual d.params d.body d.scope d.dV d.kV d.doc d.pm d.an d.cdv d.ct
def FnD.cc (W : Wd) (u : Fun) (d : FnD) : CC := ⟨d.N, d.scope, W.gl, W.cl, W.at_, !u.cells.isEmpty⟩
structure FnD.Ok (W : Wd) (f : Nat) (u : Fun) (d : FnD) : Prop where
  lk : W.K.lookup (W.ad f) = some ⟨d.oc, d.od, .func d.fd, d.osl⟩
  hcd : PySem.W.codeIn W.K d.cdv d.qual = true
  S : FnScope d.N d.ps d.scope
  np : d.ps.length = u.np
  ns : d.N.length = u.ns
  body : cSs 60 (d.cc W u) d.body = some u.body
  cnd : u.cells.Nodup
  cel : ∀ i ∈ u.cells, ∃ x, d.N[i]? = some x ∧ d.scope.names.lookup x = some .cell
  bind : ∀ (s : Shared) (us : List Value), W.K.In s.heap → us.length ≤ d.ps.length → d.ps.length ≤ us.length + d.dus.length → BindsTo s d.fd ⟨us, []⟩ (d.ps.zip (us ++ d.dus.drop (d.dus.length - (d.ps.length - us.length))))
  dval : Vals d.dvs d.dus
  drd : ∀ nx ρ H, W.RDs nx ρ H u.dfl d.dvs
  lam : u.cells.isEmpty = false → ∃ cc P, d.cdv = .ref cc ∧ LamX.TabB W.base W.mg cc P ∧ (P, (envOfC d.qual d.scope 0 0 d.cdv).qual ++ "<lambda>") ∈ W.T ∧ ∀ p ∈ W.T, p.1 = P → p.2 = (envOfC d.qual d.scope 0 0 d.cdv).qual ++ "<lambda>"
/-- a context in which statements run -/
structure XS (J : Jx) (c : CC) : Prop where
  hsc : J.X.env.scope = c.sc
  fnT : ∀ x, J.X.fn x = true
  po : PassesOwn (model J.X.prog J.X.w) J.X.A J.X.env J.X.xe
  ex : J.X.ex = []
  fr : J.X.env.frame = some J.X.env.locals
  stk : J.X.stack = J.X.env :: J.X.outer
/-- a frame of depth k runs its body so -/
def BodyOk (W : Wd) (m k : Nat) : Prop := ∀ (f : Nat) (u : Fun) (d : FnD) (X : Cx) (κ : Fm) (E : XK), W.G.tab[f]? = some (.fn u) → d.Ok W f u → XG W ⟨X, κ, fun cls dd _ H => E cls dd H⟩ (d.cc W u) k → XS ⟨X, κ, fun cls dd _ H => E cls dd H⟩ (d.cc W u) →
  PSs X d.body (semS W ⟨X, κ, fun cls dd _ H => E cls dd H⟩ fun σd st => (evs W.G m k).ss u.body σd κ.κ st)
theorem newCells_keys {σd : Sg} : ∀ {is : List Nat} {κ' : List (Nat × Nat)} {st st' : St}, newCells σd is st = some (κ', st') → κ'.map (·.1) = is
  | [], κ', st, st', h => by cases h; rfl
  | i :: is, κ', st, st', h => by
    have h : (match alloc (.cel ((σd[i]?).getD none)) st with
      | .ok (.loc c) st => (match newCells σd is st with | some (κ, st) => some ((i, c) :: κ, st) | none => none)
      | _ => none) = some (κ', st') := h
    split at h
    · split at h
      · rename_i e
        cases h
        rw [List.map_cons, newCells_keys e]
      · cases h
    · cases h
theorem cellOf_mem : ∀ {κ : List (Nat × Nat)} {e : Nat × Nat}, (κ.map (·.1)).Nodup → e ∈ κ → cellOf e.1 κ = some e.2
  | (j, c) :: κ, e, nd, h => by
    rw [List.map_cons, List.nodup_cons] at nd
    show cond (Nat.beq e.1 j) (some c) (cellOf e.1 κ) = _
    rcases List.mem_cons.mp h with rfl | h
    · rw [Nat.beq_refl]; rfl
    · have ne : Nat.beq e.1 j = false := by
        cases q : Nat.beq e.1 j with
        | false => rfl
        | true =>
          have := Nat.eq_of_beq_eq_true q
          exact absurd (List.mem_map.mpr ⟨e, h, this⟩) nd.1
      rw [ne]
      exact cellOf_mem nd.2 h
section
variable {W : Wd} {J : Jx} {m k k1 : Nat} {f : Nat} {u : Fun} {d : FnD} {pins : List (Addr × Obj)} {σ : L2.St} {H : Hp} {s : Shared} {st : St} {ρ : Asg} {ds : List D} {vs : List V} {us : List Value} {Q : VK}
theorem start_rel (r : W.RDs st.nx ρ H ds vs) {N : List Str} {ns np : Nat} (h1 : ds.length = np) (h2 : N.length = ns) : LRel W (ds.map some ++ List.replicate (ns - np) none) (L2.start N vs) st.nx ρ H := by
  have hl := r.length
  unfold L2.start
  rw [← hl, h1, h2]
  refine ⟨by simp [hl], fun i d e => ?_⟩
  by_cases hi : i < ds.length
  · rw [List.getElem?_append_left (by simpa using hi), List.getElem?_map] at e
    cases q : ds[i]? with
    | none => rw [q] at e; cases e
    | some d' =>
      rw [q] at e
      cases e
      obtain ⟨v, h3, h4⟩ := r.get q
      refine ⟨v, ?_, h4⟩
      rw [List.getElem?_append_left (by rw [List.length_map, ← hl]; exact hi), List.getElem?_map, h3]; rfl
  · rw [List.getElem?_append_right (by simpa using hi), List.getElem?_replicate] at e
    split at e <;> cases e
theorem callP (B : BodyOk W m k) (hf : W.G.tab[f]? = some (.fn u)) (ok : d.Ok W f u) (I : Inv J.X pins σ H s) (kin : W.K.In s.heap) {A' : Around} (hr : Room (2 * k + 1) A') (hgu : A'.guards = some []) (e0 : Env0 W.P W.w W.K W.mg W.base A' J.X.stack s H)
    (S : SRel W J.X J.κ σ st ρ H) (rs : W.RDs st.nx ρ H ds vs) (r : Vals vs us) (p : Post W J σ st.nx ρ H (rD W) Q (stCallP W.G (evs W.G m k) f ds st)) :
    codeAny (model W.P W.w) A' (.call (.ref (W.ad f)) ⟨us, []⟩) (CR (L2.CX W.P W.w) J.X.stack W.P W.w H s Q fun cls dd H' => J.Wx cls dd σ H') s := by
  unfold stCallP at p
  rw [hf] at p
  simp only at p
  obtain ⟨hb, p⟩ := cond_post p
  rw [Bool.and_eq_true] at hb
  have hle := Nat.le_of_ble_eq_true hb.1
  have hge := Nat.le_of_ble_eq_true hb.2
  have dl : u.dfl.length = d.dvs.length := (ok.drd st.nx ρ H).length
  have dl2 : d.dvs.length = d.dus.length := ok.dval.length
  have vl := rs.length
  have ul := r.length
  have npl := ok.np
  have zb := ok.bind s us kin (by omega) (by omega)
  have el : d.ps.length - us.length = u.np - ds.length := by omega
  rw [el, ← dl2, ← dl] at zb
  have rs0 := rs
  have rs := RDs.append rs (RDs.drop (u.dfl.length - (u.np - ds.length)) (ok.drd st.nx ρ H))
  have r := r.append (ok.dval.drop (u.dfl.length - (u.np - ds.length)))
  generalize hds : ds ++ u.dfl.drop (u.dfl.length - (u.np - ds.length)) = ds' at *
  generalize hvs : vs ++ d.dvs.drop (u.dfl.length - (u.np - ds.length)) = vs' at *
  generalize hus : us ++ d.dus.drop (u.dfl.length - (u.np - ds.length)) = us' at *
  have hlen : ds'.length = u.np := by rw [← hds, List.length_append, List.length_drop]; omega
  have hvl : vs'.length = d.ps.length := by rw [← rs.length, hlen, ok.np]
  have hul : us'.length = d.ps.length := by rw [← r.length, hvl]
  cases hc : newCells (ds'.map some ++ List.replicate (u.ns - u.np) none) u.cells st with
  | none => rw [hc] at p; exact p.elim
  | some q =>
    obtain ⟨κ', st1⟩ := q
    rw [hc] at p
    simp only at p
    refine LamX.run_ofS (N := d.N) (ps := d.ps) (us := us') (k := 2 * k) ok.lk ok.hcd ok.S hr e0 zb r hvl fun hr' => ?_
    · have E : Into J pins H s (cxOf (L2.CX W.P W.w) W.P W.w W.K W.mg W.base d.N d.qual d.scope (W.ad f) d.cdv A' J.X.stack s H fun cls dd H' => J.Wx cls dd σ H') := ⟨rfl, rfl, rfl, fun b hb => nomatch hb⟩
      have S0 := enter (σ' := L2.start d.N vs') S I E
      have L0 := start_rel rs hlen ok.ns
      obtain ⟨ρ1, x1, S1, hk⟩ := newCells_rel u.cells [] κ' st st1 ρ S0 L0 hc (fun i _ => rfl) ok.cnd (fun i hi => by
        obtain ⟨x, h1, h2⟩ := ok.cel i hi
        obtain ⟨c, h3⟩ := cell_has (n := s.heap.objs.size + 1) h2
        exact ⟨x, c, h1, h2, rfl, h3⟩)
      have keys : (κ'.map (·.1)).Nodup := by rw [newCells_keys hc]; exact ok.cnd
      have G' : XG W ⟨cxOf (L2.CX W.P W.w) W.P W.w W.K W.mg W.base d.N d.qual d.scope (W.ad f) d.cdv A' J.X.stack s H (fun cls dd H' => J.Wx cls dd σ H'), ⟨κ', outOf J σ st.nx⟩, fun cls dd _ H' => J.Wx cls dd σ H'⟩ (d.cc W u) k := {
        P := rfl
        w := rfl
        K := rfl
        mg := rfl
        base := rfl
        N := rfl
        nd := ok.S.nd
        calm := rfl
        room := hr'
        tk := takes_of rfl rfl rfl rfl
        vis := fun x h => h
        gb := fun x h => h
        cap := fun x h => h
        loc := fun x h => ⟨h, .inl rfl⟩
        gl := rfl
        cl := rfl
        at_ := rfl
        gu := hgu
        lam := fun h => ok.lam (by
          have h : (!u.cells.isEmpty) = true := h
          simpa using h) }
      refine ⟨_, B f u d _ ⟨κ', outOf J σ st.nx⟩ _ hf ok G' ⟨rfl, fun _ => rfl, passes_of rfl, rfl, rfl, rfl⟩, _, st1, ρ1, L0.mono x1, S1, ?_⟩
      have back : ∀ (st2 : St) (ρ2 : Asg) (H2 : Hp) (σ2 : L2.St), Ext st1.nx ρ1 H st2.nx ρ2 H2 → SRel W (cxOf (L2.CX W.P W.w) W.P W.w W.K W.mg W.base d.N d.qual d.scope (W.ad f) d.cdv A' J.X.stack s H fun cls dd H' => J.Wx cls dd σ H') ⟨κ', outOf J σ st.nx⟩ σ2 st2 ρ2 H2 →
          Ext st.nx ρ H (kill κ' st2).nx ρ2 H2 ∧ SRel W J.X J.κ σ (kill κ' st2) ρ2 H2 := fun st2 ρ2 H2 σ2 x2 S2 =>
        leave S I E (x1.trans x2) S2 fun e he => by
          obtain ⟨h1, h2⟩ := hk e he
          obtain ⟨_, h3, _⟩ := S2.kap e.1 e.2 (cellOf_mem keys he)
          exact ⟨h1, Nat.lt_of_lt_of_le h2 x2.le, h3⟩
      have p : Post W J σ st.nx ρ H (rD W) Q (endF κ' ((evs W.G m k).ss u.body (ds'.map some ++ List.replicate (u.ns - u.np) none) κ' st1)) := p
      show PostS W _ st1.nx ρ1 H _ ((evs W.G m k).ss u.body (ds'.map some ++ List.replicate (u.ns - u.np) none) κ' st1)
      cases e : (evs W.G m k).ss u.body (ds'.map some ++ List.replicate (u.ns - u.np) none) κ' st1 with
      | nx σd' st2 =>
        rw [e] at p
        intro ρ2 H2 σ2 x2 _ S2
        obtain ⟨x3, S3⟩ := back st2 ρ2 H2 σ2 x2 S2
        exact p ρ2 H2 .non x3 S3 .non
      | ret dd st2 =>
        rw [e] at p
        intro ρ2 H2 σ2 v x2 S2 rd
        obtain ⟨x3, S3⟩ := back st2 ρ2 H2 σ2 x2 S2
        exact p ρ2 H2 v x3 S3 (by rw [kill_nx]; exact rd)
      | exc c fs st2 =>
        rw [e] at p
        intro ρ2 H2 σ2 dd x2 S2 rd
        obtain ⟨x3, S3⟩ := back st2 ρ2 H2 σ2 x2 S2
        exact p ρ2 H2 dd x3 S3 (by rw [kill_nx]; exact rd)
      | brk σd' st2 => rw [e] at p; exact p.elim
      | cnt σd' st2 => rw [e] at p; exact p.elim
      | bad => rw [e] at p; exact p.elim
end
end MX
end
section
set_option Elab.async false
set_option linter.all false
set_option autoImplicit false
set_option maxRecDepth 100000
set_option maxHeartbeats 400000
/-! Calls: by the body, each choice by itself, by a given reading. -/
namespace MX
open PySem PySem.Spec PyProof.Rows L2
mutual
theorem samD_ok : ∀ (n : Nat) (a b : D), samD n a b = true → a = b
  | 0, _, _, h => by cases h
  | n + 1, a, b, h => by
    unfold samD at h
    cases a with
    | non => cases b <;> first | (cases h; done) | rfl
    | bl x => cases b <;> first | (cases h; done) | exact congrArg D.bl (eq_of_beq h)
    | int x => cases b <;> first | (cases h; done) | exact congrArg D.int (of_decide_eq_true h)
    | str x => cases b <;> first | (cases h; done) | exact congrArg D.str (of_decide_eq_true h)
    | tup xs =>
      cases b with
      | tup ys => exact congrArg D.tup (samL_ok n xs ys h)
      | _ => cases h
    | loc x => cases b <;> first | (cases h; done) | exact congrArg D.loc (Nat.eq_of_beq_eq_true h)
    | fn x => cases b <;> first | (cases h; done) | exact congrArg D.fn (Nat.eq_of_beq_eq_true h)
    | cho x xs =>
      cases b with
      | cho y ys =>
        simp only [Bool.and_eq_true] at h
        rw [Nat.eq_of_beq_eq_true h.1, samL_ok n xs ys h.2]
      | _ => cases h
    | any => cases h
theorem samL_ok : ∀ (n : Nat) (xs ys : List D), samL n xs ys = true → xs = ys
  | 0, _, _, h => by cases h
  | n + 1, [], [], _ => rfl
  | n + 1, [], _ :: _, h => by cases h
  | n + 1, _ :: _, [], h => by cases h
  | n + 1, x :: xs, y :: ys, h => by
    have h : (samD n x y && samL n xs ys) = true := h
    rw [Bool.and_eq_true] at h
    rw [samD_ok n x y h.1, samL_ok n xs ys h.2]
end
theorem samF_ok : ∀ (xs ys : List (Nat × D)), samF xs ys = true → xs = ys
  | [], [], _ => rfl
  | [], _ :: _, h => by cases h
  | _ :: _, [], h => by cases h
  | (f, x) :: xs, (g, y) :: ys, h => by
    have h : (Nat.beq f g && (samD 60 x y && samF xs ys)) = true := h
    rw [Bool.and_eq_true, Bool.and_eq_true] at h
    rw [Nat.eq_of_beq_eq_true h.1, samD_ok 60 x y h.2.1, samF_ok xs ys h.2.2]
theorem samOb_ok {a b : Option Ob} (h : samOb a b = true) : b = a := by
  unfold samOb at h
  split at h
  · rw [samL_ok _ _ _ h]
  · rw [Bool.and_eq_true] at h
    rw [Nat.eq_of_beq_eq_true h.1, samF_ok _ _ h.2]
  · rw [Nat.eq_of_beq_eq_true h]
  · rw [Nat.eq_of_beq_eq_true h]
  · cases h
theorem mutL_mem {st : St} {n : Nat} (h : isMut (st.get n) = true) : ∀ (k : Nat) (acc : List Nat), (n < k ∨ n ∈ acc) → n ∈ mutL st k acc
  | 0, acc, q => q.elim (fun z => absurd z (Nat.not_lt_zero _)) id
  | k + 1, acc, q => by
    show n ∈ mutL st k (cond (isMut (st.get k)) (k :: acc) acc)
    refine mutL_mem h k _ ?_
    rcases q with q | q
    · by_cases e : n = k
      · subst e; rw [h]; exact .inr List.mem_cons_self
      · exact .inl (by omega)
    · refine .inr ?_
      cases isMut (st.get k) with
      | true => exact List.mem_cons_of_mem _ q
      | false => exact q
theorem allO_get {f : Nat → Option D} : ∀ (n : Nat) (acc vs : List D), allO f n acc = some vs → ∃ us, vs = us ++ acc ∧ us.length = n ∧ ∀ i, i < n → ∃ d, f i = some d ∧ us[i]? = some d
  | 0, acc, vs, h => by cases h; exact ⟨[], rfl, rfl, fun i hi => absurd hi (Nat.not_lt_zero _)⟩
  | n + 1, acc, vs, h => by
    have h : (match f n with | some d => allO f n (d :: acc) | none => none) = some vs := h
    split at h
    · rename_i d e
      obtain ⟨us, h1, h2, h3⟩ := allO_get n _ _ h
      refine ⟨us ++ [d], by rw [h1, List.append_assoc]; rfl, by rw [List.length_append, h2]; rfl, fun i hi => ?_⟩
      by_cases q : i = n
      · subst q
        exact ⟨d, e, by rw [List.getElem?_append_right (by omega), h2, Nat.sub_self]; rfl⟩
      · obtain ⟨d', e1, e2⟩ := h3 i (by omega)
        exact ⟨d', e1, by rw [List.getElem?_append_left (by omega)]; exact e2⟩
    · cases h
/-! ### back behind a call that changed nothing -/
section
variable {K : PySem.W.Frag} {ad : Nat → Addr} {at_ : List Str} {nx nx' : Nat} {ρ ρ' : Asg} {H H' : Hp}
mutual
theorem RD.back (o : ∀ n, n < nx → ρ' n = ρ n) : ∀ {d : D} {v w : V}, RD K ad nx ρ H d v → RD K ad nx' ρ' H' d w → RD K ad nx ρ H' d w
  | _, _, _, .non, .non => .non
  | _, _, _, .bl b, .bl _ => .bl b
  | _, _, _, .int i, .int _ => .int i
  | _, _, _, .str s, .str _ => .str s
  | _, _, _, .tup _ r, .tup h q => .tup h (RDs.back o r q)
  | _, _, _, .loc (n := n) h _, .loc _ e => .loc h (by rw [← o n h]; exact e)
  | _, _, _, .fn g, .fn _ => .fn g
  | _, _, _, .cho (n := n) h e r, .cho _ e' r' => by
    rw [o n h, e] at e'
    cases e'
    exact .cho h e (RD.back o r r')
theorem RDs.back (o : ∀ n, n < nx → ρ' n = ρ n) : ∀ {ds : List D} {vs ws : List V}, RDs K ad nx ρ H ds vs → RDs K ad nx' ρ' H' ds ws → RDs K ad nx ρ H' ds ws
  | _, _, _, .nil, .nil => .nil
  | _, _, _, .cons h r, .cons h' r' => .cons (RD.back o h h') (RDs.back o r r')
end
theorem RF.back (o : ∀ n, n < nx → ρ' n = ρ n) : ∀ {fs : List (Nat × D)} {vs ws : List (Str × V)}, RF K ad at_ nx ρ H fs vs → RF K ad at_ nx' ρ' H' fs ws → RF K ad at_ nx ρ H' fs ws
  | _, _, _, .nil, .nil => .nil
  | _, _, _, .cons l h r, .cons _ h' r' => .cons l (RD.back o h h') (RF.back o r r')
end
section
variable {W : Wd} {X : Cx} {κ : Fm} {σ : L2.St} {st st' : St} {ρ ρ' : Asg} {H H' : Hp}
theorem SRel.undo (S : SRel W X κ σ st ρ H) (x : Ext st.nx ρ H st'.nx ρ' H') (S' : SRel W X κ σ st' ρ' H') (hm : ∀ n, n < st.nx → isMut (st.get n) = true → st'.get n = st.get n) : Ext st.nx ρ H st.nx ρ H' ∧ SRel W X κ σ st ρ H' := by
  have y : Ext st.nx ρ H st.nx ρ H' := ⟨Nat.le_refl _, fun _ _ => rfl, fun n _ h1 h2 => absurd h2 (Nat.not_lt.mpr h1), x.thr, x.fix, x.frm⟩
  refine ⟨y, ⟨fun n hn => ?_, S.inj, S'.tab, S.kap, S.few⟩⟩
  obtain ⟨ob, g, r⟩ := S.get n hn
  refine ⟨ob, g, ?_⟩
  have back : isMut (some ob) = true → RO W X κ σ st'.nx ρ' H' n ob (ρ n) := fun hb => by
    have e := hm n hn (by rw [g]; exact hb)
    obtain ⟨ob', g', r'⟩ := S'.get n (Nat.lt_of_lt_of_le hn x.le)
    rw [e, g] at g'
    cases g'
    rw [x.old n hn] at r'
    exact r'
  cases hz : ρ n with
  | mk z b =>
    rw [hz] at r back
    cases r with
    | lst e1 e2 =>
      have q := back rfl
      cases q with
      | lst f1 f2 => exact .lst f1 (RDs.back x.old e2 f2)
    | frz e1 e2 => exact .frz (x.fix _ _ e1 trivial) (RDs.mono y e2)
    | ins e1 e2 =>
      have q := back rfl
      cases q with
      | ins f1 f2 => exact .ins f1 (RF.back x.old e2 f2)
    | cel h => exact .cel (h.mono y)
    | cho h1 h2 => exact .cho h1 h2
    | dice h1 h2 =>
      have q := back rfl
      cases q with
      | dice f1 f2 => exact .dice f1 f2
    | scr h1 h2 h3 h4 =>
      have q := back rfl
      cases q with
      | scr f1 f2 f3 f4 => exact .scr f1 f2 f3 f4
    | lam h1 h2 h3 h4 h5 h6 h7 k1 k2 h8 => exact .lam (x.fix _ _ h1 trivial) (x.fix _ _ h2 trivial) h3 h4 h5 h6 h7 k1 k2 h8
theorem flat_any {nx nx' : Nat} {d : D} {v : V} (hf : flatD d = true) (r : W.RD nx ρ H d v) : W.RD nx' ρ' H' d v := by
  cases r with
  | non => exact .non
  | bl b => exact .bl b
  | int i => exact .int i
  | str s => exact .str s
  | _ => cases hf
theorem merge_rel {nx p i : Nat} {vs : List D} {d : D} {v : V} (h1 : p < nx) (h2 : (ρ p).2 = i) (h3 : vs[i]? = some d) (r : W.RD nx ρ H d v) : W.RD nx ρ H (mergeD p vs) v := by
  unfold mergeD
  cases vs with
  | nil => simp at h3
  | cons u us =>
    simp only
    cases hb : us.all (samD 2 u) with
    | false => exact .cho h1 (by rw [h2]; exact h3) r
    | true =>
      have e : u = d := by
        rw [List.all_eq_true] at hb
        cases i with
        | zero => simp at h3; exact h3
        | succ i => exact samD_ok 2 _ _ (hb d (List.mem_of_getElem? (by simpa using h3)))
      rw [e]
      exact r
end
/-! ### the calls -/
/-- what is asked of a given reading -/
def OvC (W : Wd) (f n : Nat) : Prop := ∀ (J : Jx) (pins : List (Addr × Obj)) (σ : L2.St) (H : Hp) (s : Shared) (st : St) (ρ : Asg) (ds : List D) (vs : List V) (us : List Value) (Q : VK) (A' : Around) (k : Nat),
  Inv J.X pins σ H s → W.K.In s.heap → Room (2 * k + 1) A' → A'.guards = some [] → Env0 W.P W.w W.K W.mg W.base A' J.X.stack s H → SRel W J.X J.κ σ st ρ H → W.RDs st.nx ρ H ds vs → Vals vs us →
  Post W J σ st.nx ρ H (rD W) Q (W.G.ov k n ds st) → codeAny (model W.P W.w) A' (.call (.ref (W.ad f)) ⟨us, []⟩) (CR (L2.CX W.P W.w) J.X.stack W.P W.w H s Q fun cls dd H' => J.Wx cls dd σ H') s
/-- every def of the table stands -/
structure FnsOk (W : Wd) : Prop where
  ok : ∀ f u, W.G.tab[f]? = some (.fn u) → ∃ d : FnD, d.Ok W f u
  kp : ∀ f u, W.G.tab[f]? = some (.fn u) → PySem.W.keepIn W.K (.ref (W.ad f)) = true
  ov : ∀ f u n, W.G.tab[f]? = some (.fn u) → u.kd = .ov n → OvC W f n
section
variable {W : Wd} {J : Jx} {m k : Nat} {f : Nat} {u : Fun} {d : FnD} {pins : List (Addr × Obj)} {σ : L2.St} {H : Hp} {s : Shared} {st : St} {ρ : Asg} {ds : List D} {vs : List V} {us : List Value} {Q : VK}
theorem fork_ok (B : BodyOk W m k) (hf : W.G.tab[f]? = some (.fn u)) (ok : d.Ok W f u) (I : Inv J.X pins σ H s) (kin : W.K.In s.heap) {A' : Around} (hr : Room (2 * k + 1) A') (hgu : A'.guards = some []) (e0 : Env0 W.P W.w W.K W.mg W.base A' J.X.stack s H) :
    ∀ (q : Nat) (st : St) (Q : VK), SRel W J.X J.κ σ st ρ H → W.RDs st.nx ρ H ds vs → Vals vs us → Post W J σ st.nx ρ H (rD W) Q (stFork W.G (evs W.G m k) q f ds st) →
    codeAny (model W.P W.w) A' (.call (.ref (W.ad f)) ⟨us, []⟩) (CR (L2.CX W.P W.w) J.X.stack W.P W.w H s Q fun cls dd H' => J.Wx cls dd σ H') s
  | 0, st, Q, S, rs, r, p => callP B hf ok I kin hr hgu e0 S rs r p
  | q + 1, st, Q, S, rs, r, p => by
    unfold stFork at p
    split at p
    · split at p
      · rename_i pp _
        obtain ⟨hb, p⟩ := cond_post p
        have hn : pp < st.nx := Nat.le_of_ble_eq_true hb
        split at p
        · rename_i n g
          simp only at p
          split at p
          · rename_i ws e
            obtain ⟨vl, e1, e2, e3⟩ := allO_get _ _ _ e
            rw [List.append_nil] at e1
            subst e1
            obtain ⟨hi, S1⟩ := S.known hn g
            obtain ⟨dv, f1, f2⟩ := e3 _ hi
            have few := S.few
            refine fork_ok B hf ok I kin hr hgu e0 q (st.set pp (.cho n (some (ρ pp).2))) Q S1 rs r ?_
            unfold keepD at f1
            split at f1
            · rename_i dd st2 er
              rw [er]
              cases hc : (flatD dd && (mutL st st.nx []).all fun n => samOb (st.get n) (st2.get n)) with
              | false => rw [hc] at f1; cases f1
              | true =>
                rw [hc] at f1
                cases f1
                rw [Bool.and_eq_true] at hc
                intro ρ' H' v x S' rd
                obtain ⟨y, S2⟩ := S.undo x S' fun n hn hm => samOb_ok (List.all_eq_true.mp hc.2 n (mutL_mem hm _ _ (.inl hn)))
                exact p ρ H' v y S2 (merge_rel hn rfl f2 (flat_any hc.1 rd))
            · cases f1
          · exact p.elim
        · exact p.elim
      · exact p.elim
    · rename_i v0 st2 er
      refine callP B hf ok I kin hr hgu e0 S rs r ?_
      rw [er]
      split at p
      · rename_i v1 ek
        unfold keepD at ek
        simp only at ek
        cases hc : (flatD v0 && (mutL st st.nx []).all fun n => samOb (st.get n) (st2.get n)) with
        | false => rw [hc] at ek; cases ek
        | true =>
          rw [hc] at ek
          cases ek
          rw [Bool.and_eq_true] at hc
          intro ρ' H' v x S' rd
          obtain ⟨y, S2⟩ := S.undo x S' fun n hn hm => samOb_ok (List.all_eq_true.mp hc.2 n (mutL_mem hm _ _ (.inl hn)))
          exact p ρ H' v y S2 (flat_any (W := W) hc.1 rd)
      · exact p
    · exact callP B hf ok I kin hr hgu e0 S rs r p
theorem callC (B : BodyOk W m k) (Fo : FnsOk W) (hf : W.G.tab[f]? = some (.fn u)) (I : Inv J.X pins σ H s) (kin : W.K.In s.heap) {A' : Around} (hr : Room (2 * k + 1) A') (hgu : A'.guards = some []) (e0 : Env0 W.P W.w W.K W.mg W.base A' J.X.stack s H)
    (S : SRel W J.X J.κ σ st ρ H) (rs : W.RDs st.nx ρ H ds vs) (r : Vals vs us) (p : Post W J σ st.nx ρ H (rD W) Q (stCallF W.G (evs W.G m k) k f ds st)) :
    codeAny (model W.P W.w) A' (.call (.ref (W.ad f)) ⟨us, []⟩) (CR (L2.CX W.P W.w) J.X.stack W.P W.w H s Q fun cls dd H' => J.Wx cls dd σ H') s := by
  obtain ⟨d, ok⟩ := Fo.ok f u hf
  unfold stCallF at p
  rw [hf] at p
  simp only at p
  split at p
  · exact callP B hf ok I kin hr hgu e0 S rs r p
  · exact fork_ok B hf ok I kin hr hgu e0 1 st Q S rs r p
  · rename_i n e
    exact Fo.ov f u n hf e J pins σ H s st ρ ds vs us Q A' k I kin hr hgu e0 S rs r p
end
end MX
end
section
set_option Elab.async false
set_option linter.all false
set_option autoImplicit false
set_option maxRecDepth 100000
set_option maxHeartbeats 400000
/-! Calls of defs, of classes, of methods, as expressions. -/
namespace MX
open PySem PySem.Spec PyProof.Rows L2
section
variable {W : Wd} {J : Jx} {c : CC} {k m : Nat} {f : Nat} {u : Fun} {pins : List (Addr × Obj)} {σ : L2.St} {H : Hp} {s s' : Shared} {st : St} {ρ : Asg} {ds : List D} {vs : List V} {us : List Value} {Q : VK}
theorem env0_of (g : XG W J c k) (I : Inv J.X pins σ H s) : Env0 W.P W.w W.K W.mg W.base J.X.A J.X.stack s H := by
  have z := I.env0
  rw [g.P, g.w, g.K, g.mg, g.base] at z
  exact z
/-- behind a call -/
theorem call_end (g : XG W J c k) (I : Inv J.X pins σ H s) {r : Result} (h : CR (L2.CX W.P W.w) J.X.stack W.P W.w H s Q (fun cls dd H' => J.Wx cls dd σ H') r s') :
    match r with
    | .ok (.ret v) => EP J.X pins σ Q v s'
    | .ok _ => False
    | .error e => J.X.xe e s' := by
  cases r with
  | error e =>
    refine g.tk e s' (XE.of_call I (E := fun cls dd H' => J.Wx cls dd σ H') (fun _ _ _ h => h) ?_)
    rw [g.P, g.w]
    exact h
  | ok fl =>
    cases fl with
    | ret v =>
      refine I.after ?_
      rw [g.P, g.w]
      exact h
    | next => exact h
    | brk => exact h
    | cont => exact h
theorem run_call (B : BodyOk W m k) (Fo : FnsOk W) (g : XG W J c (k + 1)) (hf : W.G.tab[f]? = some (.fn u)) (I : Inv J.X pins σ H s) (S : SRel W J.X J.κ σ st ρ H) (rs : W.RDs st.nx ρ H ds vs) (r : Vals vs us)
    (p : Post W J σ st.nx ρ H (rD W) Q (stCallF W.G (evs W.G m k) k f ds st)) : wpAny (model J.X.prog J.X.w) J.X.A (call (.ref (W.ad f)) us) (EP J.X pins σ Q) J.X.xe s := by
  have kin := I.kIn
  rw [g.K] at kin
  have z := callC B Fo hf I kin (g.room.mono (by omega)) g.gu (env0_of g I) S rs r p
  rw [← g.P, ← g.w] at z
  refine wpAny_call (codeAny_mono z fun r s' hq => ?_)
  rw [g.P, g.w] at hq
  have e := call_end g I hq
  cases r with
  | error e' => exact e
  | ok fl => cases fl <;> first | exact e | exact e.elim
theorem pres_one {es : List Expr} {env : Env} {pos : Pos} (hf : fewArgs es = true) : es = [] ∨ ∃ a r, es = a :: r ∧ starEach es env = (false, eval a env) :: starEach r env ∧ (backTo pos (starEach r env)).any (·.1) = false := by
  obtain ⟨_, f2⟩ := few_ok hf
  cases es with
  | nil => exact .inl rfl
  | cons a r => exact .inr ⟨a, r, rfl, noStar1 f2, noStars (by rw [List.any_cons, Bool.or_eq_false_iff] at f2; exact f2.2)⟩
theorem evalArgs_none {M : Model} {A : Around} {E : Value → Shared → Prop} {f : Value} {Q : Args → Shared → Prop} (h : wpAny M A (spliced []) (fun vs s' => Q ⟨vs, []⟩ s') E s) : wpAny M A (evalArgs f true [] []) Q E s := by
  unfold evalArgs
  show wpAny M A (spliced [] >>= _) Q E s
  refine wpAny_bind (thn h fun vs s' h' => wpAny_bind (wpAny_pure ?_))
  refine wpAny_holding ?_
  show wpAny M A _ Q E s'
  have e : (⟨vs ++ (none : Option Value).toList, []⟩ : Args) = ⟨vs, []⟩ := by simp
  exact wpAny_bind (wpAny_pure (wpAny_bind (wpAny_pure (wpAny_pure h'))))
/-- the arguments, then the callee -/
theorem args_thenP {es : List Expr} {fs : Sg → St → R (List D)} {F : Value} {pos : Pos} {first : List Value} {κ : List D → St → R D} {P : Heap → Prop}
    (hk : ∀ h, P h → ∃ k, (k = Keeper.frame ∨ k = Keeper.machine ∨ k = Keeper.boundFrame) ∧ PySem.W.Looks (model J.X.prog J.X.w) h (keeperOf F) k) (hf : fewArgs es = true) (ha : PA J.X es (sem W J (rDs W) fs)) (I : Inv J.X pins σ H s)
    {σd : Sg} (L : LRel W σd σ st.nx ρ H) (S : SRel W J.X J.κ σ st ρ H) (p : Post W J σ st.nx ρ H (rD W) Q ((fs σd st).bind κ))
    (h : ∀ (us : List Value) (vs : List V) (ds : List D) (s1 : Shared) (H1 : Hp) (st1 : St) (ρ1 : Asg), Inv J.X pins σ H1 s1 → Ext st.nx ρ H st1.nx ρ1 H1 → SRel W J.X J.κ σ st1 ρ1 H1 → W.RDs st1.nx ρ1 H1 ds vs → Vals vs us → Post W J σ st1.nx ρ1 H1 (rD W) Q (κ ds st1) →
      P s1.heap ∧ wpAny (model J.X.prog J.X.w) J.X.A (call F (first ++ us)) (EP J.X pins σ Q) J.X.xe s1) :
    wpAny (model J.X.prog J.X.w) J.X.A (callWith pos F first (backTo pos (starEach es J.X.env)) []) (EP J.X pins σ Q) J.X.xe s := by
  have args := ha.run pos pins s σ H _ I ⟨σd, st, ρ, L, S, Post.bind (rl := rDs W) p⟩
  rcases pres_one (pos := pos) (env := J.X.env) hf with rfl | ⟨a, r, rfl, e1, e2⟩
  · refine PySem.W.callWith_of rfl hk (evalArgs_none (thn args fun us s1 ⟨vs, H1, I1, r1, ds, st1, ρ1, x1, s1', r2, p1⟩ => ?_))
    exact h us vs ds s1 H1 st1 ρ1 I1 x1 s1' r2 r1 p1
  · rw [e1] at args ⊢
    refine PySem.W.callWith_of (by show ((false || (backTo pos (starEach r J.X.env)).any (·.1)) || false) = false; rw [e2]; rfl) hk (Calls.evalArgs_plain (thn args fun us s1 ⟨vs, H1, I1, r1, ds, st1, ρ1, x1, s1', r2, p1⟩ => ?_))
    exact h us vs ds s1 H1 st1 ρ1 I1 x1 s1' r2 r1 p1
theorem args_then {es : List Expr} {fs : Sg → St → R (List D)} {F : Value} {pos : Pos} {first : List Value} {κ : List D → St → R D} (g : XG W J c k) (hk : PySem.W.keepIn W.K F = true) (hf : fewArgs es = true) (ha : PA J.X es (sem W J (rDs W) fs)) (I : Inv J.X pins σ H s)
    {σd : Sg} (L : LRel W σd σ st.nx ρ H) (S : SRel W J.X J.κ σ st ρ H) (p : Post W J σ st.nx ρ H (rD W) Q ((fs σd st).bind κ))
    (h : ∀ (us : List Value) (vs : List V) (ds : List D) (s1 : Shared) (H1 : Hp) (st1 : St) (ρ1 : Asg), Inv J.X pins σ H1 s1 → Ext st.nx ρ H st1.nx ρ1 H1 → SRel W J.X J.κ σ st1 ρ1 H1 → W.RDs st1.nx ρ1 H1 ds vs → Vals vs us → Post W J σ st1.nx ρ1 H1 (rD W) Q (κ ds st1) →
      wpAny (model J.X.prog J.X.w) J.X.A (call F (first ++ us)) (EP J.X pins σ Q) J.X.xe s1) :
    wpAny (model J.X.prog J.X.w) J.X.A (callWith pos F first (backTo pos (starEach es J.X.env)) []) (EP J.X pins σ Q) J.X.xe s :=
  args_thenP (P := J.X.K.In) (PySem.W.keeps_K (by rw [g.K]; exact hk)) hf ha I L S p fun us vs ds s1 H1 st1 ρ1 I1 x1 S1 r2 r1 p1 => ⟨I1.kIn, h us vs ds s1 H1 st1 ρ1 I1 x1 S1 r2 r1 p1⟩
theorem e_call (B : BodyOk W m k) (Fo : FnsOk W) (F : GF W) (g : XG W J c (k + 1)) {x : Str} {es : List Expr} {fs : Sg → St → R (List D)} {p pos : Pos} (hx : c.glob x = some f) (hf : fewArgs es = true) (ha : PA J.X es (sem W J (rDs W) fs)) :
    PE J.X (.Call (.Name x p) es [] pos) (sem W J (rD W) fun σd st => match W.G.tab[f]? with
      | some (.fn _) => (fs σd st).bind fun ds st => stCallF W.G (evs W.G m k) k f ds st
      | _ => .bad) := by
  obtain ⟨h1, h2, h3⟩ := glob_ok hx
  obtain ⟨n1, _, _⟩ := nmOk_ok h3
  rw [g.gl] at h2
  refine ⟨fun pins s σ H Q I ⟨σd, st, ρ, l, sr, q⟩ => ?_⟩
  split at q
  · rename_i u hu
    obtain ⟨hm, hk⟩ := F.fn x f u h2 hu
    refine wpAny_Call_Name_kw (ld_glob I (g.gb x h1) (by rw [g.mg]; exact hm) ?_ n1)
    exact args_then (first := []) g hk hf ha I l sr q fun us vs ds s1 H1 st1 ρ1 I1 x1 S1 r2 r1 p1 => run_call B Fo g hu I1 S1 r2 r1 p1
  · exact q.elim
/-- an object of another kind is laid -/
theorem SRel.lay {X : Cx} {κ : Fm} {q : Addr} {o : HO} (s : SRel W X κ σ st ρ H) (hq : H q = none) : Ext st.nx ρ H st.nx ρ (upd H q o) ∧ SRel W X κ σ st ρ (upd H q o) := by
  have x : Ext st.nx ρ H st.nx ρ (upd H q o) := ⟨Nat.le_refl _, fun _ _ => rfl, fun m _ h1 h2 => absurd h2 (Nat.not_lt.mpr h1), fun b o h => ⟨o, by rw [upd_ne (ne_of_none h hq)]; exact h⟩, fun b o h _ => by rw [upd_ne (ne_of_none h hq)]; exact h, fun b o h _ _ => by rw [upd_ne (ne_of_none h hq)]; exact h⟩
  exact ⟨x, ⟨fun m hm => by
    obtain ⟨ob, g, ro⟩ := s.get m hm
    exact ⟨ob, g, ro.mono x fun a o _ h => by rw [upd_ne (ne_of_none h hq)]; exact h⟩, s.inj, noTbl_tabs s.tab hq, s.kap, s.few⟩⟩
theorem e_mk (B : BodyOk W m k) (Fo : FnsOk W) (F : GF W) (C : GC W) (g : XG W J c (k + 1)) {x : Str} {es : List Expr} {fs : Sg → St → R (List D)} {q : Nat} {p pos : Pos} (hx : c.glob x = some q) (hf : fewArgs es = true) (ha : PA J.X es (sem W J (rDs W) fs)) :
    PE J.X (.Call (.Name x p) es [] pos) (sem W J (rD W) fun σd st => match W.G.tab[q]? with
      | some (.cls k') => match k'.init with
        | some f => (fs σd st).bind fun ds st => (alloc (.ins q []) st).bind fun x st => (stCallF W.G (evs W.G m k) k f (x :: ds) st).bind fun v st => nonTo x v st
        | none => .bad
      | _ => .bad) := by
  obtain ⟨h1, h2, h3⟩ := glob_ok hx
  obtain ⟨n1, _, _⟩ := nmOk_ok h3
  rw [g.gl] at h2
  refine ⟨fun pins s σ H Q I ⟨σd, st, ρ, l, sr, z⟩ => ?_⟩
  have z : Post W J σ st.nx ρ H (rD W) Q (match W.G.tab[q]? with
      | some (.cls k') => (match k'.init with
        | some f => (fs σd st).bind fun ds st => (alloc (.ins q []) st).bind fun x st => (stCallF W.G (evs W.G m k) k f (x :: ds) st).bind fun v st => nonTo x v st
        | none => R.bad)
      | _ => R.bad) := z
  split at z
  · rename_i kk hk
    split at z
    · rename_i f hi
      have hm := F.cls x q kk h2 hk
      have O := C.own q kk hk (by rw [hi]; rfl)
      have M := O.mkf f hi
      refine wpAny_Call_Name_kw (ld_glob I (g.gb x h1) (by rw [g.mg]; exact hm) ?_ n1)
      refine args_then (first := []) g M.kp hf ha I l sr z fun us vs ds s1 H1 st1 ρ1 I1 x1 S1 r2 r1 p1 => ?_
      have p1 : Post W J σ st1.nx ρ1 H1 (rD W) Q ((alloc (.ins q []) st1).bind fun x st => (stCallF W.G (evs W.G m k) k f (x :: ds) st).bind fun v st => nonTo x v st) := p1
      rcases alloc_cases (.ins q []) st1 with e | ⟨st2, e, k1, k2, k3⟩
      · rw [e] at p1; exact p1.elim
      · rw [e] at p1
        have p1 : Post W J σ st1.nx ρ1 H1 (rD W) Q ((stCallF W.G (evs W.G m k) k f (.loc st1.nx :: ds) st2).bind fun v st => nonTo (.loc st1.nx) v st) := p1
        have I2 := Inv.made (C := W.ad q) I1
        have f1 : H1 s1.heap.objs.size = none := I1.hok.fresh (Nat.le_refl _)
        have f2 : upd H1 s1.heap.objs.size (.own (s1.heap.objs.size + 1)) (s1.heap.objs.size + 1) = none := by
          rw [upd_ne (Nat.ne_of_gt (Nat.lt_succ_self _))]
          exact I1.hok.fresh (Nat.le_succ _)
        obtain ⟨x2, S2⟩ := S1.lay (o := .own (s1.heap.objs.size + 1)) f1
        obtain ⟨x3, S3⟩ := S2.new (p := s1.heap.objs.size + 1) (o := .ins (W.ad q) s1.heap.objs.size []) (ob := .ins q []) f2 k1 k2 k3 (.ins upd_same .nil)
        have x4 := x2.trans x3
        have p2 := Post.bind (rl := rD W) (Post.shift x4 p1)
        cases e2 : W.G.tab[f]? with
        | none =>
          have : stCallF W.G (evs W.G m k) k f (.loc st1.nx :: ds) st2 = .bad := by unfold stCallF; rw [e2]
          rw [this] at p2; exact p2.elim
        | some it =>
          cases it with
          | cls _ =>
            have : stCallF W.G (evs W.G m k) k f (.loc st1.nx :: ds) st2 = .bad := by unfold stCallF; rw [e2]
            rw [this] at p2; exact p2.elim
          | val _ =>
            have : stCallF W.G (evs W.G m k) k f (.loc st1.nx :: ds) st2 = .bad := by unfold stCallF; rw [e2]
            rw [this] at p2; exact p2.elim
          | fn u =>
            obtain ⟨d, ok⟩ := Fo.ok f u e2
            have kin := I2.kIn
            rw [g.K] at kin
            have hr : Room (2 * k + 1) (J.X.A.under (.builtin "type.__call__" ⟨.ref (W.ad q) :: us, []⟩)) := Room.make (g.room.mono (by omega)) _ _ _
            have hgu : (J.X.A.under (.builtin "type.__call__" ⟨.ref (W.ad q) :: us, []⟩)).guards = some [] := by
              have := g.gu
              first | exact this | simpa [Around.under, Code.guards, Code.isGuard, guardIds, pushGuards] using this
            have zz := callC (us := .ref (s1.heap.objs.size + 1) :: us) (vs := .ref (s1.heap.objs.size + 1) :: vs) B Fo e2 I2 kin hr hgu ((env0_of g I2).make _ us []) S3
              (.cons (.loc (by rw [k1]; exact Nat.lt_succ_self _) (by rw [put_same])) (RDs.mono x4 r2)) (.cons rfl r1) p2
            rw [← g.P, ← g.w] at zz
            have kinX := I1.kIn
            have mk' : L2.Mk J.X.K (W.ad q) (W.ad f) := by rw [g.K]; exact M
            refine wpAny_call (make_map (f := W.ad f) kinX mk'.makes mk'.init (beq_iff_eq.mp mk'.fn) (codeAny_mono zz fun r s' hq => ?_))
            rw [g.P, g.w] at hq
            have e := call_end g I2 hq
            cases r with
            | error e' => exact e
            | ok fl =>
              cases fl with
              | ret u' =>
                obtain ⟨v, H', I3, rv, a, st3, ρ3, x5, S4, r4, p4⟩ := e
                have p4 : Post W J σ st3.nx ρ3 H' (rD W) Q (nonTo (.loc st1.nx) a st3) := p4
                cases r4 with
                | non =>
                  refine ⟨rv, V.ref (s1.heap.objs.size + 1), H', I3, rfl, p4.now S4 ?_⟩
                  exact RD.mono x5 (.loc (by show st1.nx < st2.nx; omega) (by rw [put_same]))
                | _ => exact p4.elim
              | next => exact e.elim
              | brk => exact e.elim
              | cont => exact e.elim
    · exact z.elim
  · exact z.elim
end
end MX
end
section
set_option Elab.async false
set_option linter.all false
set_option autoImplicit false
set_option maxRecDepth 100000
set_option maxHeartbeats 400000
/-! Every parameter is given by place. -/
namespace MX
open PySem PySem.Spec
theorem zip_look {ps : List Str} : ∀ {us : List Value} {x : Str}, us.length = ps.length → x ∈ ps → ((ps.zip us).lookup x).isNone = false := by
  induction ps with
  | nil => intro us x _ h; cases h
  | cons p ps ih =>
    intro us x hl h
    cases us with
    | nil => cases hl
    | cons u us =>
      rw [List.zip_cons_cons, List.lookup_cons]
      cases e : x == p with
      | true => rfl
      | false =>
        rcases List.mem_cons.mp h with rfl | h
        · simp at e
        · exact ih (by simpa using hl) h
theorem fm_congr {α β : Type} {f g : α → Option β} : ∀ {l : List α}, (∀ x ∈ l, f x = g x) → l.filterMap f = l.filterMap g
  | [], _ => rfl
  | a :: l, h => by
    rw [List.filterMap_cons, List.filterMap_cons, h a List.mem_cons_self, fm_congr fun x hx => h x (List.mem_cons_of_mem _ hx)]
theorem zip_fm {ps : List Str} : ∀ {us : List Value}, ps.Nodup → us.length = ps.length → (ps.filterMap fun n => ((ps.zip us).lookup n).map fun v => (n, v)) = ps.zip us := by
  induction ps with
  | nil => intro us _ _; simp
  | cons p ps ih =>
    intro us nd hl
    cases us with
    | nil => cases hl
    | cons u us =>
      rw [List.nodup_cons] at nd
      rw [List.zip_cons_cons, List.filterMap_cons]
      have e1 : List.lookup p ((p, u) :: ps.zip us) = some u := by rw [List.lookup_cons]; simp
      rw [e1]
      show (p, u) :: _ = _
      congr 1
      refine (fm_congr fun x hx => ?_).trans (ih (us := us) nd.2 (by simpa using hl))
      have ne : (x == p) = false := by
        cases e : x == p with
        | false => rfl
        | true => have := eq_of_beq e; subst this; exact absurd hx nd.1
      rw [List.lookup_cons, ne]
theorem bind_pos {fd : FuncData} {as : List Arg} (hp : fd.params = ⟨[], as, none, [], [], none, []⟩) (hd : fd.defaults = .none) {us : List Value} (nd : (as.map (·.arg)).Nodup) (hl : us.length = (as.map (·.arg)).length) :
    bindArgs fd ⟨us, []⟩ = pure ((as.map (·.arg)).zip us) := by
  have e1 : (List.filter (fun n => (List.lookup n ((as.map (·.arg)).zip us)).isNone) (as.map (·.arg))) = [] := by
    rw [List.filter_eq_nil_iff]
    intro x hx
    rw [zip_look hl hx]
    exact Bool.false_ne_true
  have e2 := zip_fm nd hl
  have hs : seqItems? (Value.none) = pure none := rfl
  unfold bindArgs
  rw [hp, hd, hs]
  simp only [List.map_nil, List.nil_append, List.append_nil, List.forIn_nil, pure_bind, Option.getD_none, List.drop_nil, List.length_nil, Nat.sub_zero, List.zip_nil_right, List.take_length]
  rw [if_neg (by simp [hl]), e1]
  simp only [List.isEmpty_nil, Bool.not_true, Bool.false_eq_true, if_false]
  rw [e2]
end MX
end
section
set_option Elab.async false
set_option linter.all false
set_option autoImplicit false
set_option maxRecDepth 100000
set_option maxHeartbeats 400000
/-! Methods; lambdas: made, called. -/
namespace MX
open PySem PySem.Spec PyProof.Rows L2
section
variable {W : Wd} {J : Jx} {c : CC} {k m : Nat} {f : Nat} {u : Fun} {pins : List (Addr × Obj)} {σ : L2.St} {H : Hp} {s s' : Shared} {st : St} {ρ : Asg} {ds : List D} {vs : List V} {us : List Value} {Q : VK}
theorem e_meth (B : BodyOk W m k) (Fo : FnsOk W) (C : GC W) (g : XG W J c (k + 1)) {o : Expr} {nm : Str} {i : Nat} {es : List Expr} {fo : Sg → St → R D} {fs : Sg → St → R (List D)} {p pos : Pos} (hr : recvOk o = true) (hl : oneLine p pos = true) (hi : ixOf nm c.at_ 0 = some i) (hf : fewArgs es = true)
    (ho : PE J.X o (sem W J (rD W) fo)) (ha : PA J.X es (sem W J (rDs W) fs)) :
    PE J.X (.Call (.Attribute o nm p) es [] pos) (sem W J (rD W) fun σd st => (fo σd st).bind fun x st => match x with
      | .loc p => match st.get p with
        | some (.ins c fds) => match W.G.tab[c]?, lookF i fds with
          | some (.cls k'), none => match cond k'.init.isSome (lookM i k'.meths) none with
            | some f => (fs σd st).bind fun ds st => stCallF W.G (evs W.G m k) k f (x :: ds) st
            | none => .bad
          | _, _ => .bad
        | _ => .bad
      | _ => .bad) := by
  rw [g.at_] at hi
  obtain ⟨hil, rfl⟩ := at_of hi
  refine ⟨fun pins s σ H Q I ⟨σd, st, ρ, l, sr, z⟩ => ?_⟩
  rw [arm_eval_Call, base_ok hr]
  refine wpAny_bind (thn (ho.run pins s σ H _ I ⟨σd, st, ρ, l, sr, Post.bind (rl := rD W) z⟩) fun v s1 ⟨x, H1, I1, rx, d, st1, ρ1, x1, sr1, r1, p1⟩ => ?_)
  refine wpAny_bind (wpAny_standAt ?_)
  have hform : methodCallForm (es.length + ([] : List Keyword).length) (backTo pos (starEach es J.X.env)) (backToKw pos (keywordEach [] J.X.env)) = true := few_kw hf
  have hpos : methodCallPos true o J.X.env p pos = pure pos := by
    have hl' : (p.endLine == pos.line) = true := hl
    unfold methodCallPos
    simp [hl']
  unfold methodCall
  rw [hform]
  cases r1 with
  | @loc n a h1 h2 =>
    have p1 : Post W J σ st1.nx ρ1 H1 (rD W) Q (match st1.get n with
        | some (.ins c fds) => (match W.G.tab[c]?, lookF i fds with
          | some (.cls k'), none => (match cond k'.init.isSome (lookM i k'.meths) none with
            | some f => (fs σd st1).bind fun ds st => stCallF W.G (evs W.G m k) k f (.loc n :: ds) st
            | none => R.bad)
          | _, _ => R.bad)
        | _ => R.bad) := p1
    split at p1
    · rename_i q fds e
      split at p1
      · rename_i k' e1 e2
        split at p1
        · rename_i f e3
          have hin : k'.init.isSome = true := by
            cases hb : k'.init.isSome with
            | true => rfl
            | false => rw [hb] at e3; cases e3
          rw [hin] at e3
          have e3 : lookM i k'.meths = some f := e3
          have O := C.own q k' e1 hin
          obtain ⟨b, ro⟩ := sr1.at h1 h2 e
          cases ro with
          | ins q1 q2 =>
            cases (show v = Value.ref a from rx)
            have lk := RF.look C.nd hil q2
            rw [e2] at lk
            have M := O.me i f e3
            have cl' := O.cls
            rw [← g.K] at M cl'
            refine wpAny_bind (wpAny_holding (getmeth_ok I1 q1 cl' M lk ?_))
            refine wpAny_bind (wpAny_of_eq hpos ?_)
            have kp := O.me i f e3
            refine args_then (first := [.ref a]) g kp.kp hf ha I1 (l.mono x1) sr1 p1 fun us vs ds s2 H2 st2 ρ2 I2 x2 S2 r2 rv p2 => ?_
            cases e4 : W.G.tab[f]? with
            | none =>
              have : stCallF W.G (evs W.G m k) k f (.loc n :: ds) st2 = .bad := by unfold stCallF; rw [e4]
              rw [this] at p2; exact p2.elim
            | some it =>
              cases it with
              | cls _ =>
                have : stCallF W.G (evs W.G m k) k f (.loc n :: ds) st2 = .bad := by unfold stCallF; rw [e4]
                rw [this] at p2; exact p2.elim
              | val _ =>
                have : stCallF W.G (evs W.G m k) k f (.loc n :: ds) st2 = .bad := by unfold stCallF; rw [e4]
                rw [this] at p2; exact p2.elim
              | fn u => exact run_call (us := .ref a :: us) (vs := .ref a :: vs) B Fo g e4 I2 S2 (.cons (RD.mono x2 (.loc h1 h2)) r2) (.cons rfl rv) p2
        · exact p1.elim
      · exact p1.elim
    · exact p1.elim
  | _ => exact p1.elim
/-! ### a lambda is made -/
theorem SRel.keepN {X : Cx} {κ : Fm} {H' : Hp} (S : SRel W X κ σ st ρ H) (e : LamX.ExtN H H') (th : ∀ a o, H a = some o → ∃ o', H' a = some o') (T : LamX.Tabs W.T H') : Ext st.nx ρ H st.nx ρ H' ∧ SRel W X κ σ st ρ H' := by
  have nt : ∀ o : HO, NoTbl o → ∀ ps, o ≠ .tbl ps := fun o h ps z => by subst z; exact h
  have nf : ∀ o : HO, Fix o → ∀ ps, o ≠ .tbl ps := fun o h ps z => by subst z; exact h
  have x : Ext st.nx ρ H st.nx ρ H' := ⟨Nat.le_refl _, fun _ _ => rfl, fun n _ h1 h2 => absurd h2 (Nat.not_lt.mpr h1), th, fun a o h f => e a o h (nf o f), fun a o h _ t => e a o h (nt o t)⟩
  refine ⟨x, ⟨fun n hn => ?_, S.inj, T, S.kap, S.few⟩⟩
  obtain ⟨ob, g, r⟩ := S.get n hn
  refine ⟨ob, g, ?_⟩
  cases hz : ρ n with
  | mk z b =>
    rw [hz] at r
    cases r with
    | lst e1 e2 => exact .lst (e _ _ e1 (fun ps z => by cases z)) (RDs.mono x e2)
    | frz e1 e2 => exact .frz (e _ _ e1 (fun ps z => by cases z)) (RDs.mono x e2)
    | ins e1 e2 => exact .ins (e _ _ e1 (fun ps z => by cases z)) (e2.mono x)
    | cho h1 h2 => exact .cho h1 h2
    | dice h1 h2 => exact .dice (e _ _ h1 (fun ps z => by cases z)) h2
    | scr h1 h2 h3 h4 => exact .scr (h1.elim (fun z => .inl (e _ _ z (fun ps z => by cases z))) fun ⟨b, z⟩ => .inr ⟨b, e _ _ z (fun ps z => by cases z)⟩) h2 h3 h4
    | cel hc => exact .cel (hc.mono x)
    | lam e1 e2 e3 e4 e5 e6 e7 k1 k2 e8 => exact .lam (e _ _ e1 (fun ps z => by cases z)) (e _ _ e2 (LamX.codeO_ne)) e3 e4 e5 e6 e7 k1 k2 e8
theorem capsOf_get {κ : List (Nat × Nat)} : ∀ {is cs : List Nat}, capsOf κ is = some cs → cs.length = is.length ∧ ∀ (j i : Nat), is[j]? = some i → ∃ n : Nat, cs[j]? = some n ∧ cellOf i κ = some n
  | [], cs, h => by cases h; exact ⟨rfl, fun j i e => by simp at e⟩
  | i :: is, cs, h => by
    have h : (match cellOf i κ, capsOf κ is with | some c, some cs => some (c :: cs) | _, _ => none) = some cs := h
    split at h
    · rename_i n cs' e1 e2
      cases h
      obtain ⟨h1, h2⟩ := capsOf_get e2
      refine ⟨by rw [List.length_cons, List.length_cons, h1], fun j i' e => ?_⟩
      cases j with
      | zero => simp at e; subst e; exact ⟨n, rfl, e1⟩
      | succ j =>
        obtain ⟨n', h3, h4⟩ := h2 j i' (by simpa using e)
        exact ⟨n', by simpa using h3, h4⟩
    · cases h
theorem mapM_get {α β : Type} {f : α → Option β} : ∀ {l : List α} {r : List β}, l.mapM f = some r → r.length = l.length ∧ ∀ (j : Nat) (a : α), l[j]? = some a → ∃ b : β, r[j]? = some b ∧ f a = some b
  | [], r, h => by
    rw [List.mapM_nil] at h
    cases h
    exact ⟨rfl, fun j a e => by simp at e⟩
  | a :: l, r, h => by
    rw [List.mapM_cons] at h
    cases e1 : f a with
    | none => rw [e1] at h; cases h
    | some b =>
      rw [e1] at h
      cases e2 : l.mapM f with
      | none => rw [e2] at h; cases h
      | some r' =>
        rw [e2] at h
        cases h
        obtain ⟨h1, h2⟩ := mapM_get e2
        refine ⟨by rw [List.length_cons, List.length_cons, h1], fun j a' e => ?_⟩
        cases j with
        | zero => simp at e; subst e; exact ⟨b, rfl, e1⟩
        | succ j =>
          obtain ⟨b', h3, h4⟩ := h2 j a' (by simpa using e)
          exact ⟨b', by simpa using h3, h4⟩
theorem mem_frees {sc : Scope} {y : Str} : y ∈ frees sc ↔ (y, NameKind.free) ∈ sc.names := by
  unfold frees
  rw [List.mem_map]
  constructor
  · rintro ⟨⟨a, b⟩, h, rfl⟩
    rw [List.mem_filter] at h
    have e : b = .free := by simpa using h.2
    subst e
    exact h.1
  · intro h
    exact ⟨(y, .free), List.mem_filter.mpr ⟨h, by simp⟩, rfl⟩
theorem e_lam (g : XG W J c k) (hc : c.lam = true) {params : Arguments} {body : Expr} {scope : Scope} {pos : Pos} {ps : List Str} {is : List Nat} {ir : E} {n : Nat} (hp : argNames params = some ps) (hB : lamB ps scope = true) (hi : (frees scope).mapM (fun x => ixOf x c.N 0) = some is)
    (hb : cE n (cLam W ps scope) body = some ir) : PE J.X (.Lambda params body scope pos) (sem W J (rD W) fun σd st => stLam ps.length ir is σd J.κ.κ st) := by
  obtain ⟨cc, P, hcode, TB, hm, hu⟩ := g.lam hc
  have TB' : LamX.TabB J.X.base J.X.mg cc P := by rw [g.base, g.mg]; exact TB
  refine ⟨fun pins s σ H Q I ⟨σd, st, ρ, l, S, z⟩ => ?_⟩
  have z : Post W J σ st.nx ρ H (rD W) Q (match capsOf J.κ.κ is with | some cs => alloc (.lam ps.length ir cs) st | none => R.bad) := z
  cases ec : capsOf J.κ.κ is with
  | none => rw [ec] at z; exact z.elim
  | some cs =>
    rw [ec] at z
    have z : Post W J σ st.nx ρ H (rD W) Q (alloc (.lam ps.length ir cs) st) := z
    rcases alloc_cases (.lam ps.length ir cs) st with e | ⟨st', e, k1, k2, k3⟩
    · rw [e] at z; exact z.elim
    · rw [e] at z
      obtain ⟨m1, m2⟩ := mapM_get hi
      obtain ⟨q1, q2⟩ := capsOf_get ec
      -- each captured name's cell
      have look : ∀ (j : Nat) (y : Str), (frees scope)[j]? = some y → ∃ n, cs[j]? = some n ∧ n < st.nx ∧ J.X.env.cells.lookup y = some (ρ n).2 := fun j y hy => by
        obtain ⟨i, h1, h2⟩ := m2 j y hy
        obtain ⟨n, h3, h4⟩ := q2 j i h1
        obtain ⟨h5, _, x, h6, _, h7, _⟩ := S.kap i n h4
        have e2 := (ixOf_get h2).2
        rw [Nat.sub_zero, ← g.N, h6] at e2
        cases e2
        exact ⟨n, h3, h5, h7⟩
      have hfree : ∀ y ∈ scope.names, y.2 = .free → ∃ c, J.X.env.cells.lookup y.1 = some c := fun y hy he => by
        obtain ⟨a, b⟩ := y
        have he : b = .free := he
        subst he
        obtain ⟨j, hj⟩ := List.getElem?_of_mem (mem_frees.mpr hy)
        obtain ⟨n, _, _, h⟩ := look j a hj
        exact ⟨_, h⟩
      have cloL : ∀ (y : Str) (c : Addr), (cloFrom J.X.env.cells scope.names []).lookup y = some c → y ∈ frees scope ∧ J.X.env.cells.lookup y = some c := fun y c h => by
        rcases cloFrom_mem (PySem.mem_of_lookup h) with hm | ⟨h1, h2⟩
        · cases hm
        · obtain ⟨c1, hc1⟩ := hfree _ h1 rfl
          have hc1 : J.X.env.cells.lookup y = some c1 := hc1
          rw [hc1] at h2
          have h2 : c = c1 := h2
          subst h2
          exact ⟨mem_frees.mpr h1, hc1⟩
      have cloH : ∀ (y : Str), y ∈ frees scope → ∃ c, (cloFrom J.X.env.cells scope.names []).lookup y = some c := fun y h =>
        mem_lookup (cloFrom_has (cells := J.X.env.cells) (acc := []) (mem_frees.mp h))
      obtain ⟨tb, hP, ht, ha⟩ := S.tab _ hm
      have bP : s.heap.BuiltinsAt J.X.mg P := TB'.bm.keeps I.bk
      have hP' : s.heap.get? P = some { cls := .none, data := .fields tb } := I.hok P _ hP
      have hdef : defaultsOf params J.X.env = ([], []) := by
        unfold argNames at hp
        split at hp
        · rfl
        · cases hp
      refine PySem.W.kla_eval hdef ?_
      -- what is left when the function object is laid
      have fin : ∀ (f c' : Addr) (pm ctv : Value) (H1 : Hp) (h1 : Heap) (tk tk2 : Nat), Inv J.X pins σ H1 { s with heap := h1, toks := tk } → f = h1.objs.size → LamX.ExtN H H1 → (∀ a o, H a = some o → ∃ o', H1 a = some o') → LamX.Tabs W.T H1 → H1 c' = some (LamX.CodeO c' (J.X.env.qual ++ "<lambda>")) →
          EP J.X pins σ Q (.ref f) { s with heap := h1.push (PySem.W.kla_obj "<lambda>" (J.X.env.qual ++ "<lambda>") params body scope (cloFrom J.X.env.cells scope.names []) pm c' ctv), toks := tk2 } := by
        intro f c' pm ctv H1 h1 tk tk2 I1 hf eN th T1 hco
        subst hf
        obtain ⟨x1, S1⟩ := S.keepN eN th T1
        have nf : H1 h1.objs.size = none := I1.hok.fresh (Nat.le_refl _)
        have gf : (h1.push (PySem.W.kla_obj "<lambda>" (J.X.env.qual ++ "<lambda>") params body scope (cloFrom J.X.env.cells scope.names []) pm c' ctv)).get? h1.objs.size = some (PySem.W.kla_obj "<lambda>" (J.X.env.qual ++ "<lambda>") params body scope (cloFrom J.X.env.cells scope.names []) pm c' ctv) := Heap.get?_push_size h1 rfl
        have I2 := I1.laid (a := h1.objs.size) (o := LamO h1.objs.size (J.X.env.qual ++ "<lambda>") params body scope (cloFrom J.X.env.cells scope.names []) c') (t' := tk2) (h' := h1.push (PySem.W.kla_obj "<lambda>" (J.X.env.qual ++ "<lambda>") params body scope (cloFrom J.X.env.cells scope.names []) pm c' ctv))
          (fun b u e => Heap.get?_push_of_some _ e) (Nat.le_refl _) ⟨⟨pm, ctv, gf⟩, ⟨_, gf⟩, fun ha hb ⟨p1, p2, p3⟩ kp => ⟨p1, p2, kp _ p3⟩⟩
        obtain ⟨x2, S2⟩ := S1.new (p := h1.objs.size) (o := LamO h1.objs.size (J.X.env.qual ++ "<lambda>") params body scope (cloFrom J.X.env.cells scope.names []) c') (ob := .lam ps.length ir cs) nf k1 k2 k3
          (.lam (ps := ps) upd_same (by rw [upd_ne (ne_of_none hco nf)]; exact hco) hp rfl hB hb (q1.trans m1) (fun y c h => (cloL y c h).1) (fun y z c h1 h2 => I.ok.inj y z c (cloL y c h1).2 (cloL z c h2).2) fun j y hy => by
            obtain ⟨n, h3, h4, h5⟩ := look j y hy
            obtain ⟨c0, h6⟩ := cloH y (List.mem_of_getElem? hy)
            have h7 := (cloL y c0 h6).2
            rw [h5] at h7
            cases h7
            exact ⟨n, h3, Nat.lt_succ_of_lt h4, by rw [put_ne (Nat.ne_of_lt h4)]; exact h6⟩)
        refine ⟨.ref h1.objs.size, _, I2, rfl, z _ _ _ (x1.trans x2) S2 (.loc (by rw [k1]; exact Nat.lt_succ_self _) (by rw [put_same]))⟩
      cases hca : codeAmong pos tb.toList with
      | none =>
        refine PySem.W.kla_makeFunction (mg := J.X.mg) (c := cc) (P := P) (ps := tb) (closure_ok hfree) I.ok.glob (I.mod.glob.keeps I.bk) hcode (TB'.code.keeps I.bk) hP' ht hca TB'.gP bP fun c' ctv h' tk hx hge hlt hrec htb => ?_
        obtain ⟨c2, oc, fv, tq, e2, hoc, hd, hv⟩ := hrec
        cases e2
        have nC : H c' = none := I.hok.fresh hge
        have I1 := LamX.inv_table (t' := tk) (more := #[rawInt pos.line, rawInt pos.col, .ref c']) (h' := h') I hP (fun b o hb e => hx b o hb e) htb hge ⟨oc, fv, tq, hoc, hd, hv⟩
        have nPc : P ≠ c' := ne_of_none hP nC
        have hE : LamX.ExtN H (upd (upd H P (.tbl (tb ++ #[rawInt pos.line, rawInt pos.col, .ref c']))) c' (LamX.CodeO c' (J.X.env.qual ++ "<lambda>"))) := fun b o eb nt => by
          have n1 : b ≠ P := fun hbP => nt tb (Option.some.inj (eb.symm.trans (by rw [hbP]; exact hP)))
          rw [upd_ne (ne_of_none eb nC), upd_ne n1]
          exact eb
        have eL : (tb ++ #[rawInt pos.line, rawInt pos.col, .ref c']).toList = tb.toList ++ [rawInt pos.line, rawInt pos.col, .ref c'] := by simp
        refine fin h'.objs.size c' _ ctv _ h' tk tk I1 rfl hE (fun b o eb => ?_) (fun q hq => ?_) upd_same
        · by_cases hbP : b = P
          · rw [hbP, upd_ne nPc, upd_same]
            exact ⟨_, rfl⟩
          · exact ⟨o, by rw [upd_ne (ne_of_none eb nC), upd_ne hbP]; exact eb⟩
        · by_cases hqP : q.1 = P
          · rw [hu q hq hqP, hqP]
            refine ⟨_, by rw [upd_ne nPc, upd_same], by rw [eL]; exact PySem.TriplesOk_snoc _ _ _ _ ht, fun pos' cv hcv => ?_⟩
            rw [eL] at hcv
            rcases LamX.among_app _ ht hcv with hold | hnew
            · obtain ⟨c0, e1, e2⟩ := ha pos' cv hold
              exact ⟨c0, e1, hE _ _ e2 LamX.codeO_ne⟩
            · exact ⟨c', hnew, upd_same⟩
          · obtain ⟨tb', a1, a2, a3⟩ := S.tab q hq
            refine ⟨tb', by rw [upd_ne (ne_of_none a1 nC), upd_ne hqP]; exact a1, a2, fun pos' cv hcv => ?_⟩
            obtain ⟨c0, e1, e2⟩ := a3 pos' cv hcv
            exact ⟨c0, e1, hE _ _ e2 LamX.codeO_ne⟩
      | some cv =>
        obtain ⟨c', e', hco⟩ := ha pos cv hca
        subst e'
        refine PySem.W.kla_makeFunctionHit (mg := J.X.mg) (c := cc) (P := P) (ps := tb) (closure_ok hfree) I.ok.glob (I.mod.glob.keeps I.bk) hcode (TB'.code.keeps I.bk) hP' ht hca bP fun ctv h' tk hx hsz => ?_
        exact fin h'.objs.size c' _ ctv H h' tk tk (I.kept (t' := tk) fun b o e => hx b o e) rfl (LamX.ExtN.refl H) (fun a o h => ⟨o, h⟩) S.tab hco
end
end MX
end
section
set_option Elab.async false
set_option linter.all false
set_option autoImplicit false
set_option maxRecDepth 100000
set_option maxHeartbeats 400000
/-! A value is called: a def, a lambda. -/
namespace MX
open PySem PySem.Spec PyProof.Rows L2
/-- an expression at depth k -/
def ExprOk (W : Wd) (m k : Nat) : Prop := ∀ (J : Jx) (c : CC), XG W J c k → ∀ (n : Nat) (e : Expr) (ir : E), cE n c e = some ir → PE J.X e (sem W J (rD W) fun σd st => (evs W.G m k).e ir σd J.κ.κ st)
theorem list_choose {α β : Type} : ∀ (l : List α) (P : Nat → α → β → Prop), (∀ (j : Nat) (a : α), l[j]? = some a → ∃ b, P j a b) → ∃ r : List β, r.length = l.length ∧ ∀ (j : Nat) (a : α), l[j]? = some a → ∃ b, r[j]? = some b ∧ P j a b
  | [], P, _ => ⟨[], rfl, fun j a e => by simp at e⟩
  | a :: l, P, h => by
    obtain ⟨b, hb⟩ := h 0 a rfl
    obtain ⟨r, h1, h2⟩ := list_choose l (fun j => P (j + 1)) fun j a' e => h (j + 1) a' (by simpa using e)
    refine ⟨b :: r, by rw [List.length_cons, List.length_cons, h1], fun j a' e => ?_⟩
    cases j with
    | zero => simp at e; subst e; exact ⟨b, rfl, hb⟩
    | succ j =>
      obtain ⟨b', h3, h4⟩ := h2 j a' (by simpa using e)
      exact ⟨b', by simpa using h3, h4⟩
theorem lookup_zip {v : Value} : ∀ {ps : List Str} {us : List Value} {i : Nat} {x : Str}, ps.Nodup → ps[i]? = some x → us[i]? = some v → (ps.zip us).lookup x = some v
  | [], _, _, _, _, h, _ => by simp at h
  | _ :: _, [], _, _, _, _, h => by simp at h
  | p :: ps, w :: us, 0, x, nd, h1, h2 => by
    simp at h1 h2; subst h1; subst h2
    rw [List.zip_cons_cons, List.lookup_cons]; simp
  | p :: ps, w :: us, i + 1, x, nd, h1, h2 => by
    rw [List.nodup_cons] at nd
    have h1' : ps[i]? = some x := by simpa using h1
    have ne : (x == p) = false := by
      cases e : x == p with
      | false => rfl
      | true => have := eq_of_beq e; subst this; exact absurd (List.mem_of_getElem? h1') nd.1
    rw [List.zip_cons_cons, List.lookup_cons, ne]
    exact lookup_zip nd.2 h1' (by simpa using h2)
theorem lookup_rev {v : Value} : ∀ {l : List (Str × Value)} {x : Str}, (l.map (·.1)).Nodup → l.lookup x = some v → l.reverse.lookup x = some v
  | [], _, _, h => by simp at h
  | (p, w) :: l, x, nd, h => by
    rw [List.map_cons, List.nodup_cons] at nd
    have app : ∀ (a b : List (Str × Value)), (∀ q ∈ a, q.1 ≠ x) → (a ++ b).lookup x = b.lookup x := by
      intro a b ha
      induction a with
      | nil => rfl
      | cons q a ih =>
        have : (x == q.1) = false := beq_eq_false_iff_ne.mpr fun z => ha q List.mem_cons_self z.symm
        rw [List.cons_append, List.lookup_cons, this]
        exact ih fun q hq => ha q (List.mem_cons_of_mem _ hq)
    have app2 : ∀ (a b : List (Str × Value)) (v : Value), a.lookup x = some v → (a ++ b).lookup x = some v := by
      intro a b v ha
      induction a with
      | nil => cases ha
      | cons q a ih =>
        obtain ⟨q1, q2⟩ := q
        rw [List.lookup_cons] at ha
        rw [List.cons_append, List.lookup_cons]
        cases e : x == q1 with
        | true => rw [e] at ha; exact ha
        | false => rw [e] at ha; exact ih ha
    rw [List.reverse_cons]
    rw [List.lookup_cons] at h
    cases e : x == p with
    | true =>
      rw [e] at h
      cases h
      have := eq_of_beq e
      subst this
      rw [app _ _ fun q hq z => nd.1 (by rw [← z]; exact List.mem_map.mpr ⟨q, List.mem_reverse.mp hq, rfl⟩)]
      rw [List.lookup_cons, e]
    | false =>
      rw [e] at h
      exact app2 _ _ _ (lookup_rev nd.2 h)
theorem capVals_get {st : St} : ∀ {cs : List Nat} {ds : List D}, capVals st cs = some ds → ds.length = cs.length ∧ ∀ (j n : Nat), cs[j]? = some n → ∃ d, ds[j]? = some d ∧ st.get n = some (.cel (some d))
  | [], ds, h => by cases h; exact ⟨rfl, fun j n e => by simp at e⟩
  | c :: cs, ds, h => by
    have h : (match st.get c, capVals st cs with | some (.cel (some d)), some ds => some (d :: ds) | _, _ => none) = some ds := h
    split at h
    · rename_i d ds' e1 e2
      cases h
      obtain ⟨h1, h2⟩ := capVals_get e2
      refine ⟨by rw [List.length_cons, List.length_cons, h1], fun j n e => ?_⟩
      cases j with
      | zero => simp at e; subst e; exact ⟨d, rfl, e1⟩
      | succ j =>
        obtain ⟨d', h3, h4⟩ := h2 j n (by simpa using e)
        exact ⟨d', by simpa using h3, h4⟩
    · cases h
theorem lamB_ok {ps : List Str} {sc : Scope} (h : lamB ps sc = true) : sc.kind = .function ∧ sc.isCoroutine = false ∧ sc.isGenerator = false ∧ (ps ++ frees sc).Nodup ∧ (∀ y ∈ sc.names, y.2 ≠ .cell ∧ (y.2 = .local → y.1 ∈ ps)) ∧ (∀ x ∈ ps, sc.names.lookup x = some .local) ∧ ∀ x ∈ frees sc, sc.names.lookup x = some .free := by
  unfold lamB at h
  simp only [Bool.and_eq_true, Bool.or_eq_true, Bool.not_eq_true', decide_eq_true_eq, decide_eq_false_iff_not, List.all_eq_true, List.contains_iff_mem] at h
  obtain ⟨⟨⟨⟨⟨⟨h1, h2⟩, h3⟩, h4⟩, h5⟩, h6⟩, h7⟩ := h
  refine ⟨h1, h2, h3, h4, fun y hy => ⟨(h5 y hy).1, fun e => ?_⟩, h6, h7⟩
  rcases (h5 y hy).2 with z | z
  · exact absurd e z
  · exact z
theorem argNames_ok {a : Arguments} {ps : List Str} (h : argNames a = some ps) : ∃ as : List Arg, a = ⟨[], as, none, [], [], none, []⟩ ∧ ps = as.map (·.arg) := by
  unfold argNames at h
  split at h
  · cases h; exact ⟨_, rfl, rfl⟩
  · cases h
section
variable {W : Wd} {J : Jx} {c : CC} {k m : Nat} {pins : List (Addr × Obj)} {σ : L2.St} {H : Hp} {s s' : Shared} {st : St} {ρ : Asg} {ds : List D} {vs : List V} {us : List Value} {Q : VK} {n : Nat} {a : Addr}
theorem cell_here (I : Inv J.X pins σ H s) (S : SRel W J.X J.κ σ st ρ H) {d : D} (hn : n < st.nx) (e : st.get n = some (.cel (some d))) : ∃ (u : Value) (w : V), s.heap.IsCell (ρ n).2 (some u) ∧ H (ρ n).2 = none ∧ RelV w u ∧ W.RD st.nx ρ H d w := by
  obtain ⟨ob, g, r⟩ := S.get n hn
  rw [e] at g
  cases g
  cases hz : ρ n with
  | mk z b =>
    rw [hz] at r
    cases r with
    | cel hc =>
      rcases hc with ⟨i, x, v, h0, h1, h2, h3, h4, h5, h6⟩ | ⟨h0, u, v, h1, h2, h3, h4, h5, h6⟩
      · obtain ⟨u, hu, r⟩ := own_now I h1 h2 h4 h5
        exact ⟨u, v, hu, I.freeC x _ h4, r, h6⟩
      · obtain ⟨z1, z2, _⟩ := out_now I h1 h4 h5 h6
        exact ⟨u, v, z1, z2, h2, h3⟩
theorem callL (X : ExprOk W m k) (g : XG W J c (k + 1)) {np : Nat} {ir : E} {caps : List Nat} (I : Inv J.X pins σ H s) (S : SRel W J.X J.κ σ st ρ H) (h1 : n < st.nx) (h2 : (ρ n).1 = some a) (e : st.get n = some (.lam np ir caps)) (rs : W.RDs st.nx ρ H ds vs) (r : Vals vs us)
    (p : Post W J σ st.nx ρ H (rD W) Q (stCallV W.G (evs W.G m k) k (.loc n) ds st)) : wpAny (model J.X.prog J.X.w) J.X.A (call (.ref a) us) (EP J.X pins σ Q) J.X.xe s := by
  obtain ⟨b, ro⟩ := S.at h1 h2 e
  cases ro with
  | @lam _ mm _ _ _ _ c' q params body scope cl ps q1 q2 q3 q4 q5 q6 q7 q8 q9 q10 =>
    have p : Post W J σ st.nx ρ H (rD W) Q (match st.get n with
      | some (.lam np body caps) => cond (Nat.beq ds.length np) (match capVals st caps with
        | some vs => (evs W.G m k).e body ((ds ++ vs).map some) [] st
        | none => .bad) .bad
      | _ => R.bad) := p
    rw [e] at p
    obtain ⟨hb, p⟩ := cond_post p
    have hlen := Nat.eq_of_beq_eq_true hb
    cases hcv : capVals st caps with
    | none => rw [hcv] at p; exact p.elim
    | some cds =>
      rw [hcv] at p
      obtain ⟨v1, v2⟩ := capVals_get hcv
      obtain ⟨b1, b2, b3, b4, b5, b6, b7⟩ := lamB_ok q5
      obtain ⟨as, rfl, rfl⟩ := argNames_ok q3
      obtain ⟨⟨pm, ctv, hof⟩, _, _⟩ := I.hok a _ q1
      obtain ⟨⟨oc, fv, tq, hoc, hdc, hvc⟩, _, _⟩ := I.hok c' _ q2
      have hvl : vs.length = (as.map (·.arg)).length := by rw [← rs.length, hlen, q4]
      have hul : us.length = (as.map (·.arg)).length := by rw [← r.length, hvl]
      have ndp : (as.map (·.arg)).Nodup := (List.nodup_append.mp b4).1
      -- the captured values
      obtain ⟨ws, w1, w2⟩ := list_choose cds (fun j d (w : V) => ∃ (y : Str) (ca : Addr) (u : Value), (frees scope)[j]? = some y ∧ cl.lookup y = some ca ∧ s.heap.IsCell ca (some u) ∧ H ca = none ∧ RelV w u ∧ W.RD st.nx ρ H d w) fun j d hj => by
        have hj2 : j < (frees scope).length := by
          rw [← q7, ← v1]
          exact (List.getElem?_eq_some_iff.mp hj).1
        obtain ⟨kk, c1, c2, c3⟩ := q10 j _ (List.getElem?_eq_getElem hj2)
        obtain ⟨d', d1, d2⟩ := v2 j kk c1
        rw [hj] at d1
        cases d1
        obtain ⟨u, w, e1, e2, e3, e4⟩ := cell_here I S c2 d2
        exact ⟨w, _, _, u, List.getElem?_eq_getElem hj2, c3, e1, e2, e3, e4⟩
      have rcap : W.RDs st.nx ρ H cds ws := by
        have key : ∀ (cds : List D) (ws : List V), ws.length = cds.length → (∀ (j : Nat) (d : D), cds[j]? = some d → ∃ w, ws[j]? = some w ∧ W.RD st.nx ρ H d w) → W.RDs st.nx ρ H cds ws := by
          intro cds
          induction cds with
          | nil => intro ws hl _; cases ws with
            | nil => exact .nil
            | cons _ _ => cases hl
          | cons d cds ih => intro ws hl hj; cases ws with
            | nil => cases hl
            | cons w ws =>
              obtain ⟨w', f1, f2⟩ := hj 0 d rfl
              simp at f1
              subst f1
              exact .cons f2 (ih ws (by simpa using hl) fun j d' ej => by
                obtain ⟨w2, f3, f4⟩ := hj (j + 1) d' (by simpa using ej)
                exact ⟨w2, by simpa using f3, f4⟩)
        exact key cds ws w1 fun j d hj => by
          obtain ⟨w, f1, _, _, _, _, _, _, _, _, f2⟩ := w2 j d hj
          exact ⟨w, f1, f2⟩
      have hN : (vs ++ ws).length = (as.map (·.arg) ++ frees scope).length := by rw [List.length_append, List.length_append, hvl, w1, v1, q7]
      -- the frame
      let lenv : Env := PySem.W.envX q scope s.heap.objs.size a (.ref c') cl
      let XL : Cx := {
        prog := J.X.prog
        w := J.X.w
        K := J.X.K
        mg := J.X.mg
        base := J.X.base
        A := J.X.A.deeper lenv
        N := as.map (·.arg) ++ frees scope
        s_0 := s
        H_0 := H
        env := lenv
        outer := J.X.stack
        stack := lenv :: J.X.stack
        ex := []
        fn := fun _ => false
        calm := true
        pn := []
        xe := fun e s' => wpAny (model J.X.prog J.X.w) (J.X.A.deeper lenv) (leaving lenv e) (fun _ s'' => L2.CX J.X.prog J.X.w J.X.stack H s (fun cls dd H' => J.Wx cls dd σ H') e s'') (fun e' s'' => L2.CX J.X.prog J.X.w J.X.stack H s (fun cls dd H' => J.Wx cls dd σ H') e' s'') s' }
      have E : Into J pins H s XL := ⟨rfl, rfl, rfl, fun b hb => nomatch hb⟩
      have e0 := I.env0
      have GX : XG W ⟨XL, ⟨[], outOf J σ st.nx⟩, fun cls dd _ H' => J.Wx cls dd σ H'⟩ (cLam W (as.map (·.arg)) scope) k := {
        P := g.P
        w := g.w
        K := g.K
        mg := g.mg
        base := g.base
        N := rfl
        nd := b4
        calm := rfl
        room := (g.room.mono (j := 2 * k + 1) (by omega)).deeper lenv
        tk := takes_of rfl rfl rfl rfl
        vis := fun x h => h
        gb := fun x h => h
        cap := fun x h => h
        loc := fun x h => h.elim (fun z => ⟨.inl z, .inr z⟩) (fun z => absurd rfl (b5 _ (PySem.mem_of_lookup z)).1)
        gl := rfl
        cl := rfl
        at_ := rfl
        gu := g.gu
        lam := fun h => nomatch h }
      have rc : codeAny (model J.X.prog J.X.w) J.X.A (.call (.ref a) ⟨us, []⟩) (CR (L2.CX J.X.prog J.X.w) J.X.stack J.X.prog J.X.w H s Q (fun cls dd H' => J.Wx cls dd σ H')) s := by
        refine PySem.W.kla_callFunE g.room.depth hof rfl b2 b3 rfl ⟨c', oc, fv, tq, rfl, hoc, hdc, hvc⟩ ?_
        rw [bind_pos (as := as) rfl rfl ndp hul]
        refine wpAny_pure (wpAny_newFunctionEnv (fun y hy => (b5 y hy).1) (fun y hy => ?_) (fun h₁ hns hsb => ⟨I.nolimit.fresh _ hsb, ?_⟩) b1)
        · obtain ⟨y1, y2⟩ := y
          exact b6 y1 (List.of_mem_zip hy).1
        · show codeAny _ _ (.expr body lenv) _ _
          have kp : ∀ b o, s.heap.get? b = some o → h₁.get? b = some o := fun b o e => hsb.extBut b o (Nat.ne_of_lt (Heap.lt_size e)) (Heap.get?_push_of_some _ e)
          have clC : ∀ (y : Str) (ca : Addr), cl.lookup y = some ca → ∃ u, s.heap.IsCell ca (some u) ∧ H ca = none := fun y ca hy => by
            have hm := q8 y ca hy
            obtain ⟨j, hj⟩ := List.getElem?_of_mem hm
            have hj2 : j < cds.length := by
              rw [v1, q7]
              exact (List.getElem?_eq_some_iff.mp hj).1
            obtain ⟨w, _, y', ca', u, f1, f2, f3, f4, _, _⟩ := w2 j _ (List.getElem?_eq_getElem hj2)
            rw [hj] at f1
            cases f1
            rw [hy] at f2
            cases f2
            exact ⟨u, f3, f4⟩
          have IL : Inv XL [] ((vs ++ ws).map some) H { s with heap := h₁, toks := s.toks + ((as.map (·.arg)).zip us).length } := by
            have noA : ∀ b : Addr, b ∉ XL.ex := fun b z => absurd (show b ∈ ([] : List Addr) from z) (by simp)
            refine ⟨⟨e0.mod, b1, rfl, rfl, Nat.le_refl _, q9, fun y hy => ?_, fun y ca z _ => (nomatch z), fun _ => g.room.hd, Around.frames_deeper e0.frames, .inr ⟨rfl, rfl⟩, fun b z => absurd z (noA b), e0.bs, e0.bsz, fun b _ _ => noA b, fun b z => absurd z (noA b), e0.funs, e0.frf⟩,
              rfl, e0.bare, Un.kept kp, ⟨_, hns, fun i y v e1 e2 e3 => ?_⟩, fun y ca hy => ?_, e0.hok.fresh (Nat.le_refl _), fun y ca hy => ?_, fun q hq => absurd (show q ∈ ([] : List (Addr × Obj)) ++ [] from hq) (by simp), e0.hok.kept kp, by show ((vs ++ ws).map some).length = (as.map (·.arg) ++ frees scope).length; rw [List.length_map]; exact hN⟩
            · have hy : scope.names.lookup y = some .cell ∨ scope.names.lookup y = some .free := hy
              rcases hy with hy | hy
              · exact absurd rfl (b5 _ (PySem.mem_of_lookup hy)).1
              · obtain ⟨j, hj⟩ := List.getElem?_of_mem (mem_frees.mpr (PySem.mem_of_lookup hy))
                obtain ⟨kk, _, _, c3⟩ := q10 j y hj
                exact ⟨_, c3⟩
            · have e1 : (as.map (·.arg) ++ frees scope)[i]? = some y := e1
              rw [List.getElem?_map] at e2
              cases e4 : (vs ++ ws)[i]? with
              | none => rw [e4] at e2; cases e2
              | some v' =>
                rw [e4] at e2
                cases e2
                by_cases hi : i < (as.map (·.arg)).length
                · rw [List.getElem?_append_left hi] at e1
                  rw [List.getElem?_append_left (by rw [hvl]; exact hi)] at e4
                  obtain ⟨u, hu, rv⟩ := r.get e4
                  refine ⟨u, rv, .inl ⟨b6 y (List.mem_of_getElem? e1), ?_⟩⟩
                  refine lookup_rev ?_ (lookup_zip ndp e1 hu)
                  rw [List.map_fst_zip (by rw [hul]; exact Nat.le_refl _)]
                  exact ndp
                · rw [List.getElem?_append_right (by omega)] at e1
                  rw [List.getElem?_append_right (by rw [hvl]; omega), hvl] at e4
                  have hj2 : i - (as.map (·.arg)).length < cds.length := by
                    rw [← w1]
                    exact (List.getElem?_eq_some_iff.mp e4).1
                  obtain ⟨w, f0, y', ca', u, f1, f2, f3, f4, f5, _⟩ := w2 _ _ (List.getElem?_eq_getElem hj2)
                  rw [e1] at f1
                  cases f1
                  rw [e4] at f0
                  cases f0
                  exact ⟨u, f5, .inr ⟨.inr (b7 y (List.mem_of_getElem? e1)), ca', f2, f3.keeps kp⟩⟩
            · obtain ⟨u, z1, _⟩ := clC y ca hy
              exact ⟨_, z1.keeps kp⟩
            · obtain ⟨u, _, z2⟩ := clC y ca hy
              exact z2
          have LL : LRel W ((ds ++ cds).map some) ((vs ++ ws).map some) st.nx ρ H := by
            have ra := RDs.append rs rcap
            refine ⟨by rw [List.length_map, List.length_map]; exact ra.length, fun i d e => ?_⟩
            rw [List.getElem?_map] at e
            cases e4 : (ds ++ cds)[i]? with
            | none => rw [e4] at e; cases e
            | some d' =>
              rw [e4] at e
              cases e
              obtain ⟨v, z1, z2⟩ := ra.get e4
              exact ⟨v, by rw [List.getElem?_map, z1]; rfl, z2⟩
          have SL : SRel W XL ⟨[], outOf J σ st.nx⟩ ((vs ++ ws).map some) st ρ H := enter S I E
          have back : ∀ (st2 : St) (ρ2 : Asg) (H2 : Hp) (σ2 : L2.St), Ext st.nx ρ H st2.nx ρ2 H2 → SRel W XL ⟨[], outOf J σ st.nx⟩ σ2 st2 ρ2 H2 → SRel W J.X J.κ σ st2 ρ2 H2 := fun st2 ρ2 H2 σ2 x2 S2 => (leave S I E x2 S2 fun e he => nomatch he).2
          have PL : Post W ⟨XL, ⟨[], outOf J σ st.nx⟩, fun cls dd _ H' => J.Wx cls dd σ H'⟩ ((vs ++ ws).map some) st.nx ρ H (rD W) Q ((evs W.G m k).e ir ((ds ++ cds).map some) [] st) := by
            have p : Post W J σ st.nx ρ H (rD W) Q ((evs W.G m k).e ir ((ds ++ cds).map some) [] st) := p
            cases er : (evs W.G m k).e ir ((ds ++ cds).map some) [] st with
            | ok d st2 =>
              rw [er] at p
              exact fun ρ2 H2 v x2 S2 rd => p ρ2 H2 v x2 (back st2 ρ2 H2 _ x2 S2) rd
            | exc cc fs st2 =>
              rw [er] at p
              exact fun ρ2 H2 dd x2 S2 rd => p ρ2 H2 dd x2 (back st2 ρ2 H2 _ x2 S2) rd
            | bad => rw [er] at p; exact p.elim
          have PB := X ⟨XL, ⟨[], outOf J σ st.nx⟩, fun cls dd _ H' => J.Wx cls dd σ H'⟩ (cLam W (as.map (·.arg)) scope) GX mm body ir q6
          refine PySem.W.kla_codeExpr (wpAny_mono (PB.run [] _ _ H Q IL ⟨(ds ++ cds).map some, st, ρ, LL, SL, PL⟩) (fun v s' hq => ?_) fun e s' hq => hq)
          obtain ⟨w', H', J', rv, q⟩ := hq
          exact ⟨w', H', J'.os, J'.bare, J'.base, J'.hok, rv, q⟩
      refine wpAny_call (codeAny_mono rc fun r s' hq => ?_)
      rw [g.P, g.w] at hq
      have e := call_end g I hq
      cases r with
      | error e' => exact e
      | ok fl => cases fl <;> first | exact e | exact e.elim
end
end MX
end
section
set_option Elab.async false
set_option linter.all false
set_option autoImplicit false
set_option maxRecDepth 100000
set_option maxHeartbeats 400000
/-! f(..), f a name of the frame. -/
namespace MX
open PySem PySem.Spec PyProof.Rows L2
section
variable {W : Wd} {J : Jx} {c : CC} {k m : Nat}
theorem callV_ok (B : BodyOk W m k) (X : ExprOk W m k) (Fo : FnsOk W) (g : XG W J c (k + 1)) {pins : List (Addr × Obj)} {σ : L2.St} {H : Hp} {s : Shared} {st : St} {ρ : Asg} {Q : VK} {d : D} {v : V} {u : Value} {es : List Expr} {fs : Sg → St → R (List D)} {pos : Pos} {σd : Sg}
    (hf : fewArgs es = true) (ha : PA J.X es (sem W J (rDs W) fs)) (I : Inv J.X pins σ H s) (l : LRel W σd σ st.nx ρ H) (S : SRel W J.X J.κ σ st ρ H) (rd : W.RD st.nx ρ H d v) (ru : RelV v u)
    (p : Post W J σ st.nx ρ H (rD W) Q (cond (canCall W.G st d) ((fs σd st).bind fun ds st => stCallV W.G (evs W.G m k) k d ds st) .bad)) :
    wpAny (model J.X.prog J.X.w) J.X.A (callWith pos u [] (backTo pos (starEach es J.X.env)) []) (EP J.X pins σ Q) J.X.xe s := by
  obtain ⟨hc, p⟩ := cond_post p
  cases rd with
  | fn q =>
    cases (show u = Value.ref (W.ad q) from ru)
    have hc : (match W.G.tab[q]? with | some (.fn _) => true | _ => false) = true := hc
    split at hc
    · rename_i uf hu
      exact args_then (first := []) g (Fo.kp q uf hu) hf ha I l S p fun us vs ds s1 H1 st1 ρ1 I1 x1 S1 r2 r1 p1 => run_call B Fo g hu I1 S1 r2 r1 p1
    · cases hc
  | @loc n a h1 h2 =>
    cases (show u = Value.ref a from ru)
    have hc : (match st.get n with | some (.lam _ _ _) => true | _ => false) = true := hc
    split at hc
    · rename_i np ir caps e
      obtain ⟨b, ro⟩ := S.at h1 h2 e
      cases ro with
      | lam q1 q2 q3 q4 q5 q6 q7 q8 q9 q10 =>
        refine args_thenP (first := []) (P := PySem.W.FnAt a) PySem.W.keeps_F hf ha I l S p fun us vs ds s1 H1 st1 ρ1 I1 x1 S1 r2 r1 p1 => ⟨?_, ?_⟩
        · obtain ⟨⟨pm, ctv, hof⟩, _, _⟩ := I1.hok a _ (x1.fix a _ q1 trivial)
          exact ⟨_, _, _, _, hof⟩
        · have p1 : Post W J σ st1.nx ρ1 H1 (rD W) Q (match st1.get n with
            | some (.lam np body caps) => cond (Nat.beq ds.length np) (match capVals st1 caps with
              | some vs => (evs W.G m k).e body ((ds ++ vs).map some) [] st1
              | none => .bad) .bad
            | _ => R.bad) := p1
          have n1 := Nat.lt_of_lt_of_le h1 x1.le
          have p0 := p1
          split at p1
          · rename_i np' ir' caps' e'
            exact callL X g I1 S1 n1 (by rw [x1.old n h1]; exact h2) e' r2 r1 p0
          · exact p1.elim
    · cases hc
  | _ => cases hc
theorem e_callv (B : BodyOk W m k) (X : ExprOk W m k) (Fo : FnsOk W) (g : XG W J c (k + 1)) {x : Str} {i : Nat} {es : List Expr} {fs : Sg → St → R (List D)} {p pos : Pos} (hx : c.slot x = some i) (hf : fewArgs es = true) (ha : PA J.X es (sem W J (rDs W) fs)) :
    PE J.X (.Call (.Name x p) es [] pos) (sem W J (rD W) fun σd st => (slot σd i st).bind fun f st => cond (canCall W.G st f) ((fs σd st).bind fun ds st => stCallV W.G (evs W.G m k) k f ds st) .bad) := by
  obtain ⟨h1, h2, h3⟩ := slot_ok hx
  obtain ⟨n1, n2, _⟩ := nmOk_ok h3
  refine ⟨fun pins s σ H Q I ⟨σd, st, ρ, l, S, z⟩ => ?_⟩
  have z : Post W J σ st.nx ρ H (rD W) Q ((slot σd i st).bind fun f st => cond (canCall W.G st f) ((fs σd st).bind fun ds st => stCallV W.G (evs W.G m k) k f ds st) .bad) := z
  unfold slot at z
  split at z
  · rename_i d e
    obtain ⟨v, hv, r⟩ := l.get i d e
    have r := nrm_rel S r
    refine wpAny_Call_Name_kw (thn ((pe_var (pos := p) (i := i) (by rw [g.N]; exact h2) (g.vis x h1) n1 n2).run pins s σ H (fun v' H1 => v' = v ∧ H1 = H) I ⟨v, hv, rfl, rfl⟩) fun u s1 ⟨v', H1, I1, r1, q1⟩ => ?_)
    obtain ⟨ev, eH⟩ := q1
    subst ev
    rw [eH] at I1
    exact callV_ok B X Fo g hf ha I1 l S r r1 z
  · exact z.elim
end
end MX
end
section
set_option Elab.async false
set_option linter.all false
set_option autoImplicit false
set_option maxRecDepth 100000
set_option maxHeartbeats 1000000
/-! enumerate over a tuple; a list or a tuple walked, by value. Own work. -/
namespace MX
open PySem PySem.Spec PyProof.Rows L2
theorem meets_enum1 {v : Value} {o : Obj} {G : Heap → Prop} (B : Begins v o G) :
    Meets (Builtin.«enumerate.__new__» ⟨[.type "enumerate", v], []⟩) (fun _ R s => G s.heap ∧
      R (.ok (.ret (.ref (s.heap.push o).objs.size))) { s with heap := (s.heap.push o).push { cls := .type "enumerate", data := .fields #[.none, .bool false, .ref s.heap.objs.size, rawInt 0, .none, .none] } }) :=
  .of_wp fun prog w A R s h => by
    obtain ⟨h0, ge, dr, tk, os⟩ := s
    obtain ⟨g1, h⟩ := h
    have isE := sub_enumerate
    have go1 : ∀ {A' : Around} {E : Value → Shared → Prop} {Q : Value → Shared → Prop}, Q (.ref h0.objs.size) ⟨h0.push o, ge, dr, tk, os⟩ → wpAny (model prog w) A' (pyIter v) Q E ⟨h0, ge, dr, tk, os⟩ :=
      fun q => B.iter prog w _ _ ⟨h0, ge, dr, tk, os⟩ _ g1 q
    wp_walk using go1
    refine wpAny_stack_any fun fr => wpAny_pure ?_
    split
    · rename_i cc _ _ _ _ _
      cases (cc == Value.type "enumerate") <;> (wp_walk using go1; exact ⟨_, rfl, h⟩)
    · wp_walk using go1
      exact ⟨_, rfl, h⟩
section
variable {prog : Program} {w : World} {A : Around} {E : Value → Shared → Prop} {s : Shared}
theorem call_enum1 {v : Value} {o : Obj} {G : Heap → Prop} {Q : Value → Shared → Prop} (B : Begins v o G) (g1 : G s.heap)
    (h : ∀ h', IsEnum h' (s.heap.objs.size + 1) s.heap.objs.size 0 .none → h'.get? s.heap.objs.size = some o → (∀ b u, s.heap.get? b = some u → h'.get? b = some u) → Q (.ref (s.heap.objs.size + 1)) { s with heap := h' }) :
    wpAny (model prog w) A (call (.type "enumerate") [v]) Q E s := by
  refine callType_new F.called_enumerate (by decide) (F.typeCall_enumerate_1 _) (F.newCall_enumerate_1 _) (fun x => F.args_object_init_2 x _) F.entry_enumerate_new (meets_enum1 B) ⟨g1, ?_⟩
  have sz : (s.heap.push o).objs.size = s.heap.objs.size + 1 := Heap.size_push ..
  show _ ∧ _
  rw [sz]
  have isE : IsEnum ((s.heap.push o).push { cls := .type "enumerate", data := .fields #[.none, .bool false, .ref s.heap.objs.size, rawInt 0, .none, .none] }) (s.heap.objs.size + 1) s.heap.objs.size 0 .none := by
    have z := Heap.get?_push_size (s.heap.push o) (o := { cls := .type "enumerate", data := .fields #[.none, .bool false, .ref s.heap.objs.size, rawInt 0, .none, .none] }) rfl
    rw [sz] at z
    exact z
  exact ⟨⟨_, isE, rfl⟩, h _ isE (Heap.get?_push_of_some _ (Heap.get?_push_size _ B.free)) fun b u x => Heap.get?_push_of_some _ (Heap.get?_push_of_some _ x)⟩
end
/-- a tuple's items, each in a new pair with its place -/
def IteT (K : PySem.W.Frag) (a : Addr) : It where
  go := fun i H => ∃ (xs : List V) (x : V), SqT K H a xs ∧ xs[i]? = some x
  yld := fun i H v H' => ∃ (p : Addr) (x : V), v = .ref p ∧ H p = none ∧ H' = upd H p (.tup [.int (i : Nat), x]) ∧ ∀ xs, SqT K H a xs → xs[i]? = some x
  stop := fun i H => ∃ xs : List V, SqT K H a xs ∧ xs.length ≤ i
theorem tup_ne {s : Shared} {a b : Addr} {items : Array Value} {n : String} {o : Obj} (p : s.heap.IsTuple a items) (e : s.heap.get? b = some o) (c : o.cls = .type n) (hn : n ≠ "tuple") : a ≠ b := fun z => by
  subst z
  obtain ⟨u, hu, hc⟩ := p.typeIs
  rw [e] at hu
  cases hu
  rw [c] at hc
  exact hn (by injection hc)
theorem turn_enumT {P : Program} {w : World} {K : PySem.W.Frag} {elts : List Expr} {kk : Nat} {tpos : Pos} (a e it : Addr) :
    Turn P w K (.Tuple elts kk tpos) (IteT K a) [e, it] e (fun i h => (∃ old, IsEnum h e it ((i : Nat) : Int) old) ∧ h.IsTupleIter it a i ∧ e ≠ it) where
  mem := List.mem_cons_self
  obj := fun i h st b hb => by
    obtain ⟨⟨old, he⟩, ⟨o, ho, _, hd⟩, _⟩ := st
    rcases List.mem_cons.mp hb with rfl | hb
    · exact ⟨_, he, fun v q => nomatch q⟩
    · cases List.mem_singleton.mp hb
      exact ⟨o, ho, fun v q => by rw [hd] at q; cases q⟩
  keep := fun i h h' st k => by
    obtain ⟨⟨old, he⟩, hi, hne⟩ := st
    exact ⟨⟨old, k e List.mem_cons_self _ he⟩, hi.at fun o q => k it (List.mem_cons_of_mem _ List.mem_cons_self) o q, hne⟩
  item := by
    intro X hP hw hK hc i pins s σ H E I hf st hg
    subst hP hw hK
    obtain ⟨⟨old, he⟩, hit, hne⟩ := st
    obtain ⟨xs, x, hq, hx⟩ := hg
    obtain ⟨its, rv, p, hz⟩ := I.tuple hq
    obtain ⟨u, hu, ru⟩ := rv.get hx
    have p : s.heap.IsTuple a its.toArray := p
    have lte : e < s.heap.objs.size := Heap.lt_size he
    obtain ⟨oi, hoi, hci, _⟩ := id hit
    have lti : it < s.heap.objs.size := Heap.lt_size hoi
    have n1 : a ≠ it := tup_ne p hoi hci (by decide)
    have n2 : a ≠ e := tup_ne p he rfl (by decide)
    have hlt : i < its.toArray.size := by
      have := (List.getElem?_eq_some_iff.mp hu).1
      simpa using this
    refine wpAny_pyNext_enum_itemD (Draws.tuple (A := X.A.in1) (show X.A.in1.handled = none from I.ok.hd hc) it a n1 its.toArray) he ⟨hit, p⟩ hlt hne (by simp [hne, Ne.symm n2]) fun y h' tk hy ho hst hT _ hk => ?_
    have ey : y = u := by
      have hy : its.toArray[i]? = some y := hy
      rw [show its.toArray[i]? = its[i]? by simp, hu] at hy
      exact (Option.some.inj hy).symm
    subst ey
    refine ⟨_, rfl, wpAny_letOwnedTupleGo_enum (s := { s with heap := h', toks := tk + 1 }) ho fun h2 he2 sb => ?_⟩
    have hT2 : h2.get? s.heap.objs.size = some { cls := .type "tuple", data := .seq #[.int i tk, y] } := (sb.2 _ (Nat.ne_of_gt lte)).trans hT
    have new : ObjOk X.prog X.w (upd H s.heap.objs.size (.tup [.int (i : Nat), x])) h2 s.heap.objs.size (.tup [.int (i : Nat), x]) :=
      ⟨by show 2 ≤ sizeLine; decide, [.int i tk, y], .cons ⟨_, rfl⟩ (.cons ru .nil), ⟨_, hT2, rfl, _, rfl⟩⟩
    have far : ∀ b o, b ∉ [e, it] → s.heap.get? b = some o → h2.get? b = some o := fun b o hb q => by
      have b1 : b ≠ e := fun z => hb (by simp [z])
      have b2 : b ≠ it := fun z => hb (by simp [z])
      exact (sb.2 b b1).trans (hk b o b1 b2 q)
    have I1 : Inv X pins σ (upd H s.heap.objs.size (.tup [.int (i : Nat), x])) { s with heap := h2, toks := tk + 1 } := I.turnedNew (ch := [e, it]) far hf (Nat.le_refl _) new
    refine ⟨.ref s.heap.objs.size, _, I1, rfl, ⟨_, x, rfl, I.hok.fresh (Nat.le_refl _), rfl, fun ys hys => by rw [I.tuple_inj hys hq]; exact hx⟩, ⟨⟨y, ?_⟩, hst.1.at fun o q => (sb.2 it (Ne.symm hne)).trans q, hne⟩, fun b hb => ?_⟩
    · have e1 : ((i + 1 : Nat) : Int) = (i : Int) + 1 := by omega
      rw [e1]
      exact he2
    · have hb' : b < s.heap.objs.size := by
        rcases List.mem_cons.mp hb with rfl | hb
        · exact lte
        · cases List.mem_singleton.mp hb
          exact lti
      rw [upd_ne (Nat.ne_of_lt hb')]
      exact (hf b hb).1
  done := by
    intro X hP hw hK hc i pins s σ H E I hf st hg
    subst hP hw hK
    obtain ⟨⟨old, he⟩, hit, hne⟩ := st
    obtain ⟨xs, hq, hx⟩ := hg
    obtain ⟨its, rv, p, hz⟩ := I.tuple hq
    have p : s.heap.IsTuple a its.toArray := p
    have hl := rv.length
    obtain ⟨f0, f1, f2, f3, f4, f5⟩ := hf it (List.mem_cons_of_mem _ List.mem_cons_self)
    have D' : Draws X.prog X.w X.A.in1 it [it, a] i (fun _ _ => False) (fun j h => j = i ∧ h.IsTupleIter it a i ∧ h.IsTuple a its.toArray) := {
      live := fun _ _ st => let ⟨o, ho, _⟩ := st.2.1; ⟨o, ho⟩
      frame := fun _ _ _ st hk => ⟨st.1, st.2.1.at fun o e => hk it (by simp) o e, st.2.2.at fun o e => hk a (by simp) o e⟩
      item := fun j s Q E hj st _ => absurd hj (by rw [st.1]; exact Nat.lt_irrefl _)
      done := fun s Q E st hE => wpAny_nextOf_tuple_end (A := X.A.in1) (show X.A.in1.handled = none from I.ok.hd hc) st.2.1 st.2.2 (by simp; omega) hE }
    exact wpAny_pyNext_enum_endD D' he ⟨rfl, hit, p⟩ fun h' eb => ⟨rfl, I.turned (t' := s.toks) (fun b o hb q => eb b o hb q) f0 f1 f3 f4 f5⟩
  self := fun A i s Q E st h => by
    obtain ⟨⟨_, he⟩, _⟩ := st
    exact wpAny_pyIter_enum he h
end MX
end
section
set_option Elab.async false
set_option linter.all false
set_option autoImplicit false
set_option maxRecDepth 100000
set_option maxHeartbeats 400000
/-! What a loop walks. -/
namespace MX
open PySem PySem.Spec PyProof.Rows L2
/-- an iterator of the interpreter and one of the model -/
def ItR (W : Wd) (it : D) (nx : Nat) (ρ : Asg) (H : Hp) (T : It) : Prop :=
  ∀ (X : Cx) (κ : Fm) (σ : L2.St) (st : St) (ρ' : Asg) (H' : Hp) (i : Nat), Ext nx ρ H st.nx ρ' H' → SRel W X κ σ st ρ' H' →
    (nextI 3 it i st = some none → T.stop i H') ∧
    ∀ d, nextI 3 it i st = some (some d) → T.go i H' ∧ ∀ (x : V) (H2 : Hp), T.yld i H' x H2 → Ext st.nx ρ' H' st.nx ρ' H2 ∧ SRel W X κ σ st ρ' H2 ∧ W.RD st.nx ρ' H2 d x
def rIt (W : Wd) : Rl D It := fun nx ρ H it T => ItR W it nx ρ H T
section
variable {W : Wd} {X : Cx} {κ : Fm} {σ : L2.St} {st : St} {ρ : Asg} {H : Hp} {nx : Nat} {n : Nat} {d : D} {v : V} {a b : Addr} {xs : List D}
theorem loc_seq (S : SRel W X κ σ st ρ H) (h1 : n < st.nx) (h2 : (ρ n).1 = some a) (e : seqOf st (.loc n) = some xs) : ∃ vs, W.RDs st.nx ρ H xs vs ∧ SqL W.K H a vs := by
  obtain ⟨ob, g, r⟩ := S.get n h1
  have e : (match st.get n with | some (.lst xs) | some (.frz xs) => some xs | _ => none) = some xs := e
  rw [g] at e
  cases hz : ρ n with
  | mk z b =>
    rw [hz] at r h2
    have h2 : z = some a := h2
    subst h2
    cases r with
    | lst e1 e2 => cases e; exact ⟨_, e2, .inl (.inl e1)⟩
    | frz e1 e2 => cases e; exact ⟨_, e2, .inl (.inr ⟨_, e1⟩)⟩
    | _ => cases e
theorem it_list (h1 : n < nx) (h2 : (ρ n).1 = some a) : ItR W (.tup [.int 1, .loc n]) nx ρ H (Itl W.K a) := by
  intro X κ σ st ρ' H' i x S
  have e0 : nextI 3 (.tup [.int 1, .loc n]) i st = (match seqOf st (.loc n) with | some xs => some xs[i]? | none => none) := rfl
  rw [e0]
  cases e : seqOf st (.loc n) with
  | none => exact ⟨(fun z => nomatch z), fun d z => nomatch z⟩
  | some xs =>
    obtain ⟨vs, r, q⟩ := loc_seq S (Nat.lt_of_lt_of_le h1 x.le) (by rw [x.old n h1]; exact h2) e
    refine ⟨fun z => ⟨vs, q, ?_⟩, fun d z => ?_⟩
    · have z : xs[i]? = none := Option.some.inj z
      rw [← r.length]
      simpa using z
    · have z : xs[i]? = some d := Option.some.inj z
      obtain ⟨v, hv, rv⟩ := r.get z
      refine ⟨⟨vs, v, q, hv⟩, fun y H2 hy => ?_⟩
      obtain ⟨e1, e2⟩ := hy
      subst e1
      have e3 := e2 vs q
      rw [hv] at e3
      cases e3
      exact ⟨.refl, S, rv⟩
theorem it_tup {vs : List V} (h1 : SqT W.K H a vs) (r : W.RDs nx ρ H xs vs) : ItR W (.tup [.int 1, .tup xs]) nx ρ H (Itt W.K a) := by
  intro X κ σ st ρ' H' i x S
  have e0 : nextI 3 (.tup [.int 1, .tup xs]) i st = some xs[i]? := rfl
  rw [e0]
  have q := x.sqT h1
  have r := RDs.mono x r
  refine ⟨fun z => ⟨vs, q, ?_⟩, fun d z => ?_⟩
  · have z : xs[i]? = none := Option.some.inj z
    rw [← r.length]
    simpa using z
  · have z : xs[i]? = some d := Option.some.inj z
    obtain ⟨v, hv, rv⟩ := r.get z
    refine ⟨⟨vs, v, q, hv⟩, fun y H2 hy => ?_⟩
    obtain ⟨e1, e2⟩ := hy
    subst e1
    have e3 := e2 vs q
    rw [hv] at e3
    cases e3
    exact ⟨.refl, S, rv⟩
theorem it_rng (lo k : Int) : ItR W (.tup [.int 0, .int lo, .int k]) nx ρ H (Itr lo k.toNat) := by
  intro X κ σ st ρ' H' i x S
  have e0 : nextI 3 (.tup [.int 0, .int lo, .int k]) i st = some (if (i : Int) < k then some (.int (lo + i)) else none) := rfl
  rw [e0]
  by_cases h : (i : Int) < k
  · rw [if_pos h]
    refine ⟨(fun z => nomatch z), fun d z => ?_⟩
    cases z
    refine ⟨by show i < k.toNat; omega, fun y H2 hy => ?_⟩
    obtain ⟨e1, e2⟩ := hy
    subst e1 e2
    exact ⟨.refl, S, .int _⟩
  · rw [if_neg h]
    exact ⟨fun _ => by show k.toNat ≤ i; omega, fun d z => nomatch z⟩
theorem pair_lay {st : St} {ρ : Asg} {H : Hp} (S : SRel W X κ σ st ρ H) {p : Addr} {c e : D} {x y : V} (hp : H p = none) (r1 : W.RD st.nx ρ H c x) (r2 : W.RD st.nx ρ H e y) :
    Ext st.nx ρ H st.nx ρ (upd H p (.tup [x, y])) ∧ SRel W X κ σ st ρ (upd H p (.tup [x, y])) ∧ W.RD st.nx ρ (upd H p (.tup [x, y])) (.tup [c, e]) (.ref p) := by
  obtain ⟨x1, S1⟩ := S.lay (o := .tup [x, y]) hp
  exact ⟨x1, S1, .tup (.inl (.inl upd_same)) (.cons (RD.mono x1 r1) (.cons (RD.mono x1 r2) .nil))⟩
theorem it_enuL (h1 : n < nx) (h2 : (ρ n).1 = some a) : ItR W (.tup [.int 2, .tup [.int 1, .loc n]]) nx ρ H (Ite W.K a) := by
  intro X κ σ st ρ' H' i x S
  have e0 : nextI 3 (.tup [.int 2, .tup [.int 1, .loc n]]) i st = (match (match seqOf st (.loc n) with | some xs => some xs[i]? | none => none) with
    | some (some d) => some (some (.tup [.int i, d]))
    | some none => some none
    | none => none) := rfl
  rw [e0]
  cases e : seqOf st (.loc n) with
  | none => exact ⟨(fun z => nomatch z), fun d z => nomatch z⟩
  | some xs =>
    obtain ⟨vs, r, q⟩ := loc_seq S (Nat.lt_of_lt_of_le h1 x.le) (by rw [x.old n h1]; exact h2) e
    have e1 : (match (match (some xs : Option (List D)) with | some xs => some xs[i]? | none => none) with
      | some (some d) => some (some (D.tup [.int i, d]))
      | some none => some none
      | none => none) = (match xs[i]? with | some d => some (some (D.tup [.int i, d])) | none => some none) := by
      show (match (some xs[i]? : Option (Option D)) with
        | some (some d) => some (some (D.tup [.int i, d]))
        | some none => some none
        | none => none) = _
      cases xs[i]? <;> rfl
    rw [e1]
    cases e2 : xs[i]? with
    | none =>
      refine ⟨fun z => ⟨vs, q, ?_⟩, fun d z => nomatch z⟩
      rw [← r.length]
      simpa using e2
    | some d' =>
      refine ⟨(fun z => nomatch z), fun d z => ?_⟩
      cases z
      obtain ⟨v, hv, rv⟩ := r.get e2
      refine ⟨⟨vs, v, q, hv⟩, fun y H2 hy => ?_⟩
      obtain ⟨p, x', rfl, hp, rfl, f⟩ := hy
      have e3 := f vs q
      rw [hv] at e3
      cases e3
      exact pair_lay S hp (.int _) rv
theorem it_enuT {vs : List V} (h1 : SqT W.K H a vs) (r : W.RDs nx ρ H xs vs) : ItR W (.tup [.int 2, .tup [.int 1, .tup xs]]) nx ρ H (IteT W.K a) := by
  intro X κ σ st ρ' H' i x S
  have q := x.sqT h1
  have r := RDs.mono x r
  have e1 : nextI 3 (.tup [.int 2, .tup [.int 1, .tup xs]]) i st = (match xs[i]? with | some d => some (some (D.tup [.int i, d])) | none => some none) := by
    show (match (some xs[i]? : Option (Option D)) with
      | some (some d) => some (some (D.tup [.int i, d]))
      | some none => some none
      | none => none) = _
    cases xs[i]? <;> rfl
  rw [e1]
  cases e2 : xs[i]? with
  | none =>
    refine ⟨fun z => ⟨vs, q, ?_⟩, fun d z => nomatch z⟩
    rw [← r.length]
    simpa using e2
  | some d' =>
    refine ⟨(fun z => nomatch z), fun d z => ?_⟩
    cases z
    obtain ⟨v, hv, rv⟩ := r.get e2
    refine ⟨⟨vs, v, q, hv⟩, fun y H2 hy => ?_⟩
    obtain ⟨p, x', rfl, hp, rfl, f⟩ := hy
    have e3 := f vs q
    rw [hv] at e3
    cases e3
    exact pair_lay S hp (.int _) rv
theorem it_zipL {m : Nat} (h1 : n < nx) (h2 : (ρ n).1 = some a) (h3 : m < nx) (h4 : (ρ m).1 = some b) : ItR W (.tup [.int 3, .tup [.int 1, .loc n], .tup [.int 1, .loc m]]) nx ρ H (Itz W.K a b) := by
  intro X κ σ st ρ' H' i x S
  have e0 : nextI 3 (.tup [.int 3, .tup [.int 1, .loc n], .tup [.int 1, .loc m]]) i st = (match (match seqOf st (.loc n) with | some xs => some xs[i]? | none => none) with
    | some (some d) => (match (match seqOf st (.loc m) with | some xs => some xs[i]? | none => none) with
      | some (some e) => some (some (.tup [d, e]))
      | some none => some none
      | none => none)
    | some none => (match (match seqOf st (.loc m) with | some xs => some xs[i]? | none => none) with
      | some _ => some none
      | none => none)
    | none => none) := rfl
  rw [e0]
  cases e : seqOf st (.loc n) with
  | none => exact ⟨(fun z => nomatch z), fun d z => nomatch z⟩
  | some xs =>
    obtain ⟨vs, r, q⟩ := loc_seq S (Nat.lt_of_lt_of_le h1 x.le) (by rw [x.old n h1]; exact h2) e
    simp only
    cases e2 : xs[i]? with
    | none =>
      simp only
      cases f : seqOf st (.loc m) with
      | none => exact ⟨(fun z => nomatch z), fun d z => nomatch z⟩
      | some ys =>
        obtain ⟨ws, r', q'⟩ := loc_seq S (Nat.lt_of_lt_of_le h3 x.le) (by rw [x.old m h3]; exact h4) f
        simp only
        refine ⟨fun z => ⟨vs, ws, q, q', .inl ?_⟩, fun d z => nomatch z⟩
        rw [← r.length]
        simpa using e2
    | some d' =>
      simp only
      cases f : seqOf st (.loc m) with
      | none => exact ⟨(fun z => nomatch z), fun d z => nomatch z⟩
      | some ys =>
        obtain ⟨ws, r', q'⟩ := loc_seq S (Nat.lt_of_lt_of_le h3 x.le) (by rw [x.old m h3]; exact h4) f
        simp only
        obtain ⟨v, hv, rv⟩ := r.get e2
        cases f2 : ys[i]? with
        | none =>
          simp only
          refine ⟨fun z => ⟨vs, ws, q, q', .inr ?_⟩, fun d z => nomatch z⟩
          rw [← r'.length]
          simpa using f2
        | some e' =>
          simp only
          refine ⟨(fun z => nomatch z), fun d z => ?_⟩
          cases z
          obtain ⟨w, hw, rw'⟩ := r'.get f2
          refine ⟨⟨vs, ws, v, w, q, q', hv, hw⟩, fun y H2 hy => ?_⟩
          obtain ⟨p, x', y', rfl, hp, rfl, f1, f2⟩ := hy
          have e3 := f1 vs q
          rw [hv] at e3
          cases e3
          have e4 := f2 ws q'
          rw [hw] at e4
          cases e4
          exact pair_lay S hp rv rw'
theorem it_zipT {ys : List D} {vs ws : List V} (h1 : SqT W.K H a vs) (r : W.RDs nx ρ H xs vs) (h2 : SqT W.K H b ws) (r' : W.RDs nx ρ H ys ws) : ItR W (.tup [.int 3, .tup [.int 1, .tup xs], .tup [.int 1, .tup ys]]) nx ρ H (RZ.ItzT W.K a b) := by
  intro X κ σ st ρ' H' i x S
  have e0 : nextI 3 (.tup [.int 3, .tup [.int 1, .tup xs], .tup [.int 1, .tup ys]]) i st = (match xs[i]? with
    | some d => (match ys[i]? with
      | some e => some (some (.tup [d, e]))
      | none => some none)
    | none => some none) := by
    show (match (some xs[i]? : Option (Option D)) with
      | some (some d) => (match (some ys[i]? : Option (Option D)) with
        | some (some e) => some (some (D.tup [d, e]))
        | some none => some none
        | none => none)
      | some none => (match (some ys[i]? : Option (Option D)) with
        | some _ => some none
        | none => none)
      | none => none) = _
    cases xs[i]? <;> cases ys[i]? <;> rfl
  rw [e0]
  have q := x.sqT h1
  have q' := x.sqT h2
  have r := RDs.mono x r
  have r' := RDs.mono x r'
  cases e2 : xs[i]? with
  | none =>
    refine ⟨fun z => ⟨vs, ws, q, q', .inl ?_⟩, fun d z => nomatch z⟩
    rw [← r.length]
    simpa using e2
  | some d' =>
    simp only
    obtain ⟨v, hv, rv⟩ := r.get e2
    cases f2 : ys[i]? with
    | none =>
      simp only
      refine ⟨fun z => ⟨vs, ws, q, q', .inr ?_⟩, fun d z => nomatch z⟩
      rw [← r'.length]
      simpa using f2
    | some e' =>
      simp only
      refine ⟨(fun z => nomatch z), fun d z => ?_⟩
      cases z
      obtain ⟨w, hw, rw'⟩ := r'.get f2
      refine ⟨⟨vs, ws, v, w, q, q', hv, hw⟩, fun y H2 hy => ?_⟩
      obtain ⟨p, x', y', rfl, hp, rfl, f1, f2⟩ := hy
      have e3 := f1 vs q
      rw [hv] at e3
      cases e3
      have e4 := f2 ws q'
      rw [hw] at e4
      cases e4
      exact pair_lay S hp rv rw'
end
end MX
end
section
set_option Elab.async false
set_option linter.all false
set_option autoImplicit false
set_option maxRecDepth 100000
set_option maxHeartbeats 400000
/-! The iterables. -/
namespace MX
open PySem PySem.Spec PyProof.Rows L2
theorem _root_.L2.PI.imp' {X : Cx} {tg e : Expr} {t t' : TI} (h : PI X tg e t) (k : ∀ σ H R, t' σ H R → t σ H R) : PI X tg e t' := ⟨fun pins s σ H R I q => h.run pins s σ H R I (k _ _ _ q)⟩
section
variable {X : Cx} {tg : Expr} {pins : List (Addr × Obj)} {σ : L2.St} {H : Hp} {s : Shared}
/-- a list or a tuple as it is -/
def iSeq (K : PySem.W.Frag) (tl : TE) : TI := fun σ H R => tl σ H fun x H1 => ∃ a, x = .ref a ∧ ((∃ xs, SqL K H1 a xs ∧ R (Itl K a) H1) ∨ ∃ xs, SqT K H1 a xs ∧ R (Itt K a) H1)
theorem pi_seq {e : Expr} {tl : TE} (he : PE X e tl) : PI X tg e (iSeq X.K tl) := by
  refine ⟨fun pins s σ H R I h => thn (he.run pins s σ H _ I h) fun v s1 ⟨x, H1, I1, r1, a, ex, q⟩ => ?_⟩
  subst ex
  cases (show v = Value.ref a from r1)
  have one : ∀ b ∈ [s1.heap.objs.size], FpOk X pins H1 b := fun b hb => by
    cases List.mem_singleton.mp hb
    exact I1.fpOk (Nat.le_refl _) (I1.hok.fresh (Nat.le_refl _))
  rcases q with ⟨xs, hq, q⟩ | ⟨xs, hq, q⟩
  · obtain ⟨its, rv, p, _⟩ := I1.list hq
    exact wpAny_pyIter_list p.isList ⟨s1.heap.objs.size, [s1.heap.objs.size], _, _, H1, rfl, I1.kept (t' := s1.toks) fun b o e => Heap.get?_push_of_some _ e, turn_list a _, ⟨_, Heap.get?_push_size _ rfl, rfl, rfl⟩, one, q⟩
  · obtain ⟨its, rv, p, _⟩ := I1.tuple hq
    have p : s1.heap.IsTuple a its.toArray := p
    exact wpAny_pyIter_tuple p ⟨s1.heap.objs.size, [s1.heap.objs.size], _, _, H1, rfl, I1.kept (t' := s1.toks) fun b o e => Heap.get?_push_of_some _ e, turn_tuple a _, ⟨_, Heap.get?_push_size _ rfl, rfl, rfl⟩, one, q⟩
def iEnu (K : PySem.W.Frag) (ta : TA) : TI := fun σ H R => ta σ H fun vs H1 => ∃ a, vs = [.ref a] ∧ ((∃ xs, SqL K H1 a xs ∧ R (Ite K a) H1) ∨ ∃ xs, SqT K H1 a xs ∧ R (IteT K a) H1)
theorem pi_enu {e : Expr} {ta : TA} {p pos tpos : Pos} {elts : List Expr} {kk : Nat} (hg : Gl X "enumerate") (hm : X.mg "enumerate" = none) (ha : PA X [e] ta) (hs : starEach [e] X.env = [(false, eval e X.env)]) :
    PI X (.Tuple elts kk tpos) (.Call (.Name "enumerate" p) [e] [] pos) (iEnu X.K ta) := by
  refine ⟨fun pins s σ H R I h => Call_ (ld_blt I hg hm boot_enumerate (PyProof.Rows.callWith_type1 (thn (ha.run pos pins s σ H _ I h) fun us s1 ⟨vs, H1, I1, r1, a, ex, q⟩ => ?_) hs rfl))⟩
  subst ex
  obtain ⟨u, rfl, r⟩ := r1.one
  cases (show u = Value.ref a from r)
  have two : ∀ b ∈ [s1.heap.objs.size + 1, s1.heap.objs.size], FpOk X pins H1 b := fun b hb => by
    have hle : s1.heap.objs.size ≤ b := by
      rcases List.mem_cons.mp hb with rfl | hb
      · exact Nat.le_succ _
      · cases List.mem_singleton.mp hb
        exact Nat.le_refl _
    exact I1.fpOk hle (I1.hok.fresh hle)
  rcases q with ⟨xs, hq, q⟩ | ⟨xs, hq, q⟩
  · obtain ⟨its, rv, p', _⟩ := I1.list hq
    refine call_enum1 (begins_list a its.toArray) p'.isList fun h' he hit hk => wpAny_pyIter_enum he ?_
    exact ⟨s1.heap.objs.size + 1, [s1.heap.objs.size + 1, s1.heap.objs.size], _, _, H1, rfl, I1.kept (t' := s1.toks) hk, turn_enum a (s1.heap.objs.size + 1) s1.heap.objs.size, ⟨⟨.none, he⟩, ⟨_, hit, rfl, rfl⟩, Nat.succ_ne_self _⟩, two, q⟩
  · obtain ⟨its, rv, p', _⟩ := I1.tuple hq
    have p' : s1.heap.IsTuple a its.toArray := p'
    refine call_enum1 (begins_tuple a its.toArray) p' fun h' he hit hk => wpAny_pyIter_enum he ?_
    exact ⟨s1.heap.objs.size + 1, [s1.heap.objs.size + 1, s1.heap.objs.size], _, _, H1, rfl, I1.kept (t' := s1.toks) hk, turn_enumT a (s1.heap.objs.size + 1) s1.heap.objs.size, ⟨⟨.none, he⟩, ⟨_, hit, rfl, rfl⟩, Nat.succ_ne_self _⟩, two, q⟩
end
section
variable {W : Wd} {J : Jx} {c : CC} {k : Nat} {tg : Expr} (g : XG W J c k)
include g
theorem i_seq {e : Expr} {fe : Sg → St → R D} (he : PE J.X e (sem W J (rD W) fe)) : PI J.X tg e (sem W J (rIt W) fun σd st => (fe σd st).bind fun x st => match seqOf st x with | some _ => .ok (.tup [.int 1, x]) st | none => .bad) := by
  refine (pi_seq he).imp' fun σ H Qi ⟨σd, st, ρ, l, s, p⟩ => ⟨σd, st, ρ, l, s, (Post.bind (rl := rD W) p).mono fun v H1 ⟨d, st1, ρ1, x1, s1, r1, p1⟩ => ?_⟩
  rw [g.K]
  cases e : seqOf st1 d with
  | none => rw [e] at p1; exact p1.elim
  | some xs =>
    rw [e] at p1
    have p1 : Post W J σ st1.nx ρ1 H1 (rIt W) Qi (R.ok (D.tup [.int 1, d]) st1) := p1
    cases r1 with
    | @tup ds a vs h1 h2 =>
      exact ⟨a, rfl, .inr ⟨vs, h1, p1.now s1 (it_tup h1 h2)⟩⟩
    | @loc n a h1 h2 =>
      obtain ⟨vs, _, q⟩ := loc_seq s1 h1 h2 e
      exact ⟨a, rfl, .inl ⟨vs, q, p1.now s1 (it_list h1 h2)⟩⟩
    | _ => cases e
theorem i_enu (F : GF W) {e : Expr} {fe : Sg → St → R D} {p pos tpos : Pos} {elts : List Expr} {kk : Nat} (hx : c.blt "enumerate" = true) (hf : fewArgs [e] = true) (he : PE J.X e (sem W J (rD W) fe)) :
    PI J.X (.Tuple elts kk tpos) (.Call (.Name "enumerate" p) [e] [] pos) (sem W J (rIt W) fun σd st => ((fe σd st).bind fun x st => match seqOf st x with | some _ => .ok (.tup [.int 1, x]) st | none => .bad).bind fun x st => .ok (.tup [.int 2, x]) st) := by
  obtain ⟨h1, h2, _, hu⟩ := blt_ok hx
  have hg := g.gb _ h1
  rw [g.gl] at h2
  have hm : J.X.mg "enumerate" = none := by rw [g.mg]; exact F.blt _ _ boot_enumerate hu h2
  have hs : starEach [e] J.X.env = [(false, eval e J.X.env)] := noStar1 (few_ok hf).2
  refine (pi_enu hg hm (pa_cons he pa_nil hs) hs).imp' fun σ H Qi ⟨σd, st, ρ, l, s, p⟩ => ?_
  have p : Post W J σ st.nx ρ H (rIt W) Qi (((fe σd st).bind fun x st => match seqOf st x with | some _ => R.ok (D.tup [.int 1, x]) st | none => R.bad).bind fun x st => .ok (.tup [.int 2, x]) st) := p
  rw [R.bind_assoc] at p
  refine ⟨σd, st, ρ, l, s, (Post.bind (rl := rD W) p).mono fun v H1 ⟨d, st1, ρ1, x1, s1, r1, p1⟩ => ?_⟩
  rw [g.K]
  cases e : seqOf st1 d with
  | none => rw [e] at p1; exact p1.elim
  | some xs =>
    rw [e] at p1
    have p1 : Post W J σ st1.nx ρ1 H1 (rIt W) Qi (R.ok (D.tup [.int 2, .tup [.int 1, d]]) st1) := p1
    cases r1 with
    | @tup ds a vs h1 h2 => exact ⟨a, rfl, .inr ⟨vs, h1, p1.now s1 (it_enuT h1 h2)⟩⟩
    | @loc n a h1 h2 =>
      obtain ⟨vs, _, q⟩ := loc_seq s1 h1 h2 e
      exact ⟨a, rfl, .inl ⟨vs, q, p1.now s1 (it_enuL h1 h2)⟩⟩
    | _ => cases e
theorem i_zip (F : GF W) {e f : Expr} {fe ff : Sg → St → R D} {p pos tpos : Pos} {elts : List Expr} {kk : Nat} (hx : c.blt "zip" = true) (hf : fewArgs [e, f] = true) (he : PE J.X e (sem W J (rD W) fe)) (hff : PE J.X f (sem W J (rD W) ff)) :
    PI J.X (.Tuple elts kk tpos) (.Call (.Name "zip" p) [e, f] [] pos) (sem W J (rIt W) fun σd st => (fe σd st).bind fun x st => (ff σd st).bind fun y st => match seqOf st x, seqOf st y with
      | some _, some _ => cond (sameK x y) (.ok (.tup [.int 3, .tup [.int 1, x], .tup [.int 1, y]]) st) .bad
      | _, _ => .bad) := by
  obtain ⟨h1, h2, _, hu⟩ := blt_ok hx
  have hg := g.gb _ h1
  rw [g.gl] at h2
  have hm : J.X.mg "zip" = none := by rw [g.mg]; exact F.blt _ _ PyProof.Rows.boot_zip hu h2
  obtain ⟨_, f2⟩ := few_ok hf
  have hs := noStar1 (env := J.X.env) f2
  have f3 : [f].any isStar = false := by rw [List.any_cons, Bool.or_eq_false_iff] at f2; exact f2.2
  have hs2 : starEach [f] J.X.env = (false, eval f J.X.env) :: starEach [] J.X.env := noStar1 f3
  refine (RZ.pi_zipA hg hm (pa_cons he (pa_cons hff pa_nil hs2) hs) hs (noStars f3)).imp' fun σ H Qi ⟨σd, st, ρ, l, s, p⟩ => ?_
  refine ⟨σd, st, ρ, l, s, (Post.bind (rl := rD W) p).mono fun v H1 ⟨d, st1, ρ1, x1, s1, r1, p1⟩ => ?_⟩
  refine ⟨σd, st1, ρ1, l.mono x1, s1, (Post.bind (rl := rD W) p1).mono fun u H2 ⟨e, st2, ρ2, x2, s2, r2, p2⟩ => ?_⟩
  rw [g.K]
  have r1 := RD.mono x2 r1
  have p2 : Post W J σ st2.nx ρ2 H2 (rIt W) Qi (match seqOf st2 d, seqOf st2 e with
      | some _, some _ => cond (sameK d e) (R.ok (D.tup [.int 3, .tup [.int 1, d], .tup [.int 1, e]]) st2) R.bad
      | _, _ => R.bad) := p2
  cases e1 : seqOf st2 d with
  | none => rw [e1] at p2; exact p2.elim
  | some xs =>
    cases e2 : seqOf st2 e with
    | none => rw [e1, e2] at p2; exact p2.elim
    | some ys =>
      rw [e1, e2] at p2
      obtain ⟨hk, p2⟩ := cond_post p2
      cases r1 with
      | @tup ds a vs h1 h2 =>
        cases r2 with
        | @tup ds' b ws h3 h4 => exact ⟨a, b, vs, ws, rfl, .inr ⟨h1, h3, p2.now s2 (it_zipT h1 h2 h3 h4)⟩⟩
        | _ => cases hk
      | @loc n a h1 h2 =>
        cases r2 with
        | @loc m b h3 h4 =>
          obtain ⟨vs, _, q⟩ := loc_seq s2 h1 h2 e1
          obtain ⟨ws, _, q'⟩ := loc_seq s2 h3 h4 e2
          exact ⟨a, b, vs, ws, rfl, .inl ⟨q, q', p2.now s2 (it_zipL h1 h2 h3 h4)⟩⟩
        | _ => cases hk
      | _ => cases hk
theorem i_rng1 (F : GF W) {e : Expr} {fe : Sg → St → R D} {p pos : Pos} (hx : c.blt "range" = true) (hf : fewArgs [e] = true) (he : PE J.X e (sem W J (rD W) fe)) :
    PI J.X tg (.Call (.Name "range" p) [e] [] pos) (sem W J (rIt W) fun σd st => (fe σd st).bind fun x st => match x with
      | .int n => cond (decide (n ≤ 1000000) && decide (-1000000 ≤ n)) (.ok (.tup [.int 0, .int 0, .int n]) st) .bad
      | _ => .bad) := by
  obtain ⟨h1, h2, _, hu⟩ := blt_ok hx
  have hg := g.gb _ h1
  rw [g.gl] at h2
  have hm : J.X.mg "range" = none := by rw [g.mg]; exact F.blt _ _ PyProof.Rows.boot_range hu h2
  have hs : starEach [e] J.X.env = [(false, eval e J.X.env)] := noStar1 (few_ok hf).2
  refine (pi_range1 hg hm (pa_cons he pa_nil hs) hs).imp' fun σ H Qi ⟨σd, st, ρ, l, s, p⟩ => ?_
  refine ⟨σd, st, ρ, l, s, (Post.bind (rl := rD W) p).mono fun v H1 ⟨d, st1, ρ1, x1, s1, r1, p1⟩ => ?_⟩
  cases r1 with
  | int n =>
    obtain ⟨hb, p1⟩ := cond_post p1
    rw [Bool.and_eq_true, decide_eq_true_eq, decide_eq_true_eq] at hb
    exact ⟨n, rfl, by omega, by omega, p1.now s1 (it_rng 0 n)⟩
  | _ => exact p1.elim
theorem i_rng2 (F : GF W) {e f : Expr} {fe ff : Sg → St → R D} {p pos : Pos} (hx : c.blt "range" = true) (hf : fewArgs [e, f] = true) (he : PE J.X e (sem W J (rD W) fe)) (hff : PE J.X f (sem W J (rD W) ff)) :
    PI J.X tg (.Call (.Name "range" p) [e, f] [] pos) (sem W J (rIt W) fun σd st => (fe σd st).bind fun x st => (ff σd st).bind fun y st => match x, y with
      | .int m, .int n => cond (decide (n ≤ 1000000) && decide (-1000000 ≤ n) && decide (m ≤ 1000000) && decide (-1000000 ≤ m)) (.ok (.tup [.int 0, .int m, .int (n - m)]) st) .bad
      | _, _ => .bad) := by
  obtain ⟨h1, h2, _, hu⟩ := blt_ok hx
  have hg := g.gb _ h1
  rw [g.gl] at h2
  have hm : J.X.mg "range" = none := by rw [g.mg]; exact F.blt _ _ PyProof.Rows.boot_range hu h2
  obtain ⟨_, f2⟩ := few_ok hf
  have f3 : [f].any isStar = false := by rw [List.any_cons, Bool.or_eq_false_iff] at f2; exact f2.2
  have hs2 : starEach [f] J.X.env = [(false, eval f J.X.env)] := noStar1 f3
  have hs : starEach [e, f] J.X.env = [(false, eval e J.X.env), (false, eval f J.X.env)] := by rw [noStar1 f2, hs2]
  refine (pi_range2 hg hm (pa_cons he (pa_cons hff pa_nil hs2) (noStar1 f2)) hs hs2).imp' fun σ H Qi ⟨σd, st, ρ, l, s, p⟩ => ?_
  refine ⟨σd, st, ρ, l, s, (Post.bind (rl := rD W) p).mono fun v H1 ⟨d, st1, ρ1, x1, s1, r1, p1⟩ => ?_⟩
  refine ⟨σd, st1, ρ1, l.mono x1, s1, (Post.bind (rl := rD W) p1).mono fun u H2 ⟨e, st2, ρ2, x2, s2, r2, p2⟩ => ?_⟩
  have r1 := RD.mono x2 r1
  cases r1 with
  | int m =>
    cases r2 with
    | int n =>
      obtain ⟨hb, p2⟩ := cond_post p2
      rw [Bool.and_eq_true, Bool.and_eq_true, Bool.and_eq_true, decide_eq_true_eq, decide_eq_true_eq, decide_eq_true_eq, decide_eq_true_eq] at hb
      exact ⟨m, n, rfl, by omega, p2.now s2 (it_rng m (n - m))⟩
    | _ => exact p2.elim
  | _ => exact p2.elim
end
end MX
end
section
set_option Elab.async false
set_option linter.all false
set_option autoImplicit false
set_option maxRecDepth 100000
set_option maxHeartbeats 400000
/-! Statements. -/
namespace MX
open PySem PySem.Spec PyProof.Rows L2
section
variable {W : Wd} {X : Cx} {κ : Fm} {σ : L2.St} {st : St} {ρ : Asg} {H : Hp} {σd : Sg} {d : D} {v : V} {i : Nat}
theorem SRel.reobj {σ' : L2.St} {st' : St} (S : SRel W X κ σ st ρ H) (hn : st'.nx = st.nx) (hg : ∀ n, n < st.nx → ∃ ob, st'.get n = some ob ∧ RO W X κ σ' st.nx ρ H n ob (ρ n)) (hc : ∀ n v, st.get n = some (.cel v) → ∃ v', st'.get n = some (.cel v')) : SRel W X κ σ' st' ρ H := by
  refine ⟨fun n h => ?_, fun m n a h1 h2 => S.inj m n a (by omega) (by omega), S.tab, fun j m e => ?_, by rw [hn]; exact S.few⟩
  · rw [hn] at h ⊢
    exact hg n h
  · obtain ⟨h1, h2, h3⟩ := S.kap j m e
    exact ⟨by omega, h2, h3⟩
theorem put_ok (S : SRel W X κ σ st ρ H) (hi : i < σ.length) (r : W.RD st.nx ρ H d v) : (putCell κ.κ i d st).nx = st.nx ∧ SRel W X κ (σ.set i (some v)) (putCell κ.κ i d st) ρ H := by
  have few := S.few
  have other : ∀ {n : Nat} {b : Addr} {w : Option D}, cellOf i κ.κ ≠ some n → CellOk W X κ σ st.nx ρ H n b w → CellOk W X κ (σ.set i (some v)) st.nx ρ H n b w := by
    intro n b w ne h
    cases w with
    | none => exact trivial
    | some e =>
      rcases h with ⟨j, x, u, h0, h1, h2, h3, h4, h5, h6⟩ | h
      · have hj : i ≠ j := fun z => by subst z; exact ne h0
        exact .inl ⟨j, x, u, h0, h1, h2, h3, h4, by rw [List.getElem?_set_ne hj]; exact h5, h6⟩
      · exact .inr h
  have redo : ∀ {n : Nat} {ob : Ob}, cellOf i κ.κ ≠ some n → RO W X κ σ st.nx ρ H n ob (ρ n) → RO W X κ (σ.set i (some v)) st.nx ρ H n ob (ρ n) := by
    intro n ob ne h
    cases hz : ρ n with
    | mk z b =>
      rw [hz] at h
      cases h with
      | lst e1 e2 => exact .lst e1 e2
      | frz e1 e2 => exact .frz e1 e2
      | ins e1 e2 => exact .ins e1 e2
      | cho h1 h2 => exact .cho h1 h2
      | dice h1 h2 => exact .dice h1 h2
      | scr h1 h2 h3 h4 => exact .scr h1 h2 h3 h4
      | lam e1 e2 e3 e4 e5 e6 e7 k1 k2 e8 => exact .lam e1 e2 e3 e4 e5 e6 e7 k1 k2 e8
      | cel hc => exact .cel (other ne hc)
  unfold putCell
  cases e : cellOf i κ.κ with
  | none =>
    refine ⟨rfl, S.reobj rfl (fun n hn => ?_) fun n w h => ⟨w, h⟩⟩
    obtain ⟨ob, g, ro⟩ := S.get n hn
    exact ⟨ob, g, redo (by rw [e]; exact fun z => nomatch z) ro⟩
  | some c =>
    obtain ⟨h1, h2, x, h3, h4, h5, h6⟩ := S.kap i c e
    have gs : ∀ m, (st.set c (.cel (some d))).get m = if m = c then some (.cel (some d)) else st.get m := St.get_set (by omega)
    refine ⟨rfl, S.reobj rfl (fun n hn => ?_) fun n w' h => ?_⟩
    · obtain ⟨ob, g, ro⟩ := S.get n hn
      by_cases hc : n = c
      · subst hc
        refine ⟨_, by rw [gs, if_pos rfl], ?_⟩
        cases hz : ρ n with
        | mk z b =>
          rw [hz] at h2 h5
          have h2 : z = none := h2
          subst h2
          exact .cel (.inl ⟨i, x, v, e, h3, h4, h6, h5, List.getElem?_set_self hi, r⟩)
      · exact ⟨ob, by rw [gs, if_neg hc]; exact g, redo (by rw [e]; exact fun z => hc (Option.some.inj z).symm) ro⟩
    · by_cases hc : n = c
      · subst hc
        exact ⟨_, by rw [gs, if_pos rfl]⟩
      · exact ⟨w', by rw [gs, if_neg hc]; exact h⟩
/-- all the slots in a row -/
def setAll : L2.St → List Nat → List V → L2.St
  | σ, i :: is, v :: vs => setAll (σ.set i (some v)) is vs
  | σ, _, _ => σ
theorem fold_ok : ∀ {is : List Nat} {ds : List D} {vs : List V} {σd : Sg} {σ : L2.St} {st : St}, (∀ i ∈ is, i < σ.length) → is.length = ds.length → W.RDs st.nx ρ H ds vs → LRel W σd σ st.nx ρ H → SRel W X κ σ st ρ H →
    ((is.zip ds).foldl (fun p q => (p.1.set q.1 (some q.2), putCell κ.κ q.1 q.2 p.2)) (σd, st)).2.nx = st.nx ∧
    LRel W ((is.zip ds).foldl (fun p q => (p.1.set q.1 (some q.2), putCell κ.κ q.1 q.2 p.2)) (σd, st)).1 (setAll σ is vs) st.nx ρ H ∧
    SRel W X κ (setAll σ is vs) ((is.zip ds).foldl (fun p q => (p.1.set q.1 (some q.2), putCell κ.κ q.1 q.2 p.2)) (σd, st)).2 ρ H
  | [], [], _, σd, σ, st, _, _, .nil, l, S => ⟨rfl, l, S⟩
  | i :: is, d :: ds, _, σd, σ, st, hi, hl, .cons (v := v) (vs := vs) r rs, l, S => by
    obtain ⟨n1, S1⟩ := put_ok S (hi i List.mem_cons_self) r
    have rs' : W.RDs (putCell κ.κ i d st).nx ρ H ds vs := by rw [n1]; exact rs
    have l1 : LRel W (σd.set i (some d)) (σ.set i (some v)) (putCell κ.κ i d st).nx ρ H := by rw [n1]; exact l.set r
    have ih := fold_ok (is := is) (ds := ds) (σd := σd.set i (some d)) (σ := σ.set i (some v)) (st := putCell κ.κ i d st) (fun j hj => by rw [List.length_set]; exact hi j (List.mem_cons_of_mem _ hj)) (by simpa using hl) rs' l1 S1
    rw [n1] at ih
    exact ih
end
section
variable {W : Wd} {J : Jx} {c : CC} {k : Nat} (g : XG W J c k)
include g
/-- the slots of a target -/
def tgS : T → List Nat
  | .nm i => [i]
  | .tp is => is
def SameOut (is : List Nat) (σ σ' : L2.St) : Prop := σ'.length = σ.length ∧ ∀ j, j ∉ is → σ'[j]? = σ[j]?
omit g in
theorem setAll_out : ∀ {is : List Nat} {vs : List V} {σ : L2.St}, SameOut is σ (setAll σ is vs)
  | [], _, σ => ⟨by simp [setAll], fun j _ => by simp [setAll]⟩
  | i :: is, [], σ => ⟨by simp [setAll], fun j _ => by simp [setAll]⟩
  | i :: is, v :: vs, σ => by
    obtain ⟨h1, h2⟩ := setAll_out (is := is) (vs := vs) (σ := σ.set i (some v))
    refine ⟨by rw [show setAll σ (i :: is) (v :: vs) = setAll (σ.set i (some v)) is vs from rfl, h1, List.length_set], fun j hj => ?_⟩
    rw [List.mem_cons, not_or] at hj
    rw [show setAll σ (i :: is) (v :: vs) = setAll (σ.set i (some v)) is vs from rfl, h2 j hj.2, List.getElem?_set_ne (Ne.symm hj.1)]
/-- a target of for -/
def rTg (W : Wd) (J : Jx) (t : T) : TG := fun v σ H Q => ∃ (σd : Sg) (st : St) (ρ : Asg) (d : D) (r : Sg × St), LRel W σd σ st.nx ρ H ∧ SRel W J.X J.κ σ st ρ H ∧ W.RD st.nx ρ H d v ∧ store1 t d σd J.κ.κ st = some r ∧
  ∀ σ', SameOut (tgS t) σ σ' → r.2.nx = st.nx → LRel W r.1 σ' st.nx ρ H → SRel W J.X J.κ σ' r.2 ρ H → Q σ' H
omit g in
theorem slotL_ok {c : CC} {x : Str} {i : Nat} (h : c.slotL x = some i) : (c.sc.names.lookup x = some .local ∨ c.sc.names.lookup x = some .cell) ∧ c.N[i]? = some x ∧ nmOk x = true := by
  unfold CC.slotL at h
  split at h
  · rename_i e
    split at h
    · rename_i n
      exact ⟨.inl e, by simpa using (ixOf_get h).2, n⟩
    · cases h
  · rename_i e
    split at h
    · rename_i n
      exact ⟨.inr e, by simpa using (ixOf_get h).2, n⟩
    · cases h
  · cases h
theorem slotL_lt {x : Str} {i : Nat} {pins : List (Addr × Obj)} {σ : L2.St} {H : Hp} {s : Shared} (h : c.slotL x = some i) (I : Inv J.X pins σ H s) : i < σ.length := by
  rw [I.len, g.N]
  exact (List.getElem?_eq_some_iff.mp (slotL_ok h).2.1).1
theorem pg_nm {x : Str} {i : Nat} {pos : Pos} (h : c.slotL x = some i) : PG J.X (.Name x pos) (gName i) := by
  obtain ⟨h1, h2, _⟩ := slotL_ok h
  obtain ⟨k1, k2⟩ := g.loc x h1
  exact pg_name g.ndX (by rw [g.N]; exact h2) k1 k2
theorem g_nm {x : Str} {i : Nat} {pos : Pos} (h : c.slotL x = some i) : PG J.X (.Name x pos) (rTg W J (.nm i)) := by
  refine ⟨fun pins s σ H v u Q I r ⟨σd, st, ρ, d, rr, l, S, rd, e, q⟩ => ?_⟩
  cases e
  obtain ⟨n1, S1⟩ := put_ok S (slotL_lt g h I) rd
  exact (pg_nm g h).run pins s σ H v u Q I r (q _ (setAll_out (is := [i]) (vs := [v])) n1 (l.set rd) S1)
omit g in
theorem asEach_names {env : Env} : ∀ {es : List Expr}, (∀ e ∈ es, ∃ x p, e = .Name x p) → (assignEach es env).length = es.length ∧ (assignEach es env).findIdx? (·.1) = none
  | [], _ => ⟨rfl, rfl⟩
  | e :: es, h => by
    obtain ⟨x, p, rfl⟩ := h e List.mem_cons_self
    obtain ⟨h1, h2⟩ := asEach_names (env := env) fun e he => h e (List.mem_cons_of_mem _ he)
    have e0 : assignEach (.Name x p :: es) env = (false, assign (.Name x p) env) :: assignEach es env := rfl
    rw [e0]
    refine ⟨by rw [List.length_cons, List.length_cons, h1], ?_⟩
    rw [List.findIdx?_cons, h2]; rfl
theorem pgs_nms : ∀ {es : List Expr} {is : List Nat}, (es.mapM fun (e : Expr) => match e with | .Name x _ => c.slotL x | _ => none) = some is → (∀ e ∈ es, ∃ x p, e = .Name x p) ∧ PGs J.X es (fun vs σ H Q => vs.length = is.length ∧ Q (setAll σ is vs) H)
  | [], is, h => by
    rw [List.mapM_nil] at h
    cases h
    refine ⟨(fun e he => nomatch he), ⟨fun pins s σ H vs us Q I r ⟨hl, q⟩ => ?_⟩⟩
    have : vs = [] := by simpa using hl
    subst this
    exact pgs_nil.run pins s σ H [] us Q I r ⟨rfl, q⟩
  | e :: es, is, h => by
    rw [List.mapM_cons] at h
    cases e with
    | Name x p =>
      cases e1 : c.slotL x with
      | none => simp only [e1] at h; cases h
      | some i =>
        simp only [e1] at h
        cases e2 : (es.mapM fun (e : Expr) => match e with | .Name x _ => c.slotL x | _ => none) with
        | none => rw [e2] at h; cases h
        | some is' =>
          rw [e2] at h
          cases h
          obtain ⟨h1, h2⟩ := pgs_nms e2
          refine ⟨fun e he => ?_, ⟨fun pins s σ H vs us Q I r ⟨hl, q⟩ => ?_⟩⟩
          · rcases List.mem_cons.mp he with rfl | he
            · exact ⟨x, p, rfl⟩
            · exact h1 e he
          · cases vs with
            | nil => cases hl
            | cons v vs => exact (pgs_cons (pg_nm g (pos := p) e1) h2).run pins s σ H (v :: vs) us Q I r ⟨v, vs, rfl, by simpa using hl, q⟩
    | _ => cases h
theorem g_tp {es : List Expr} {is : List Nat} {kk : Nat} {pos : Pos} (h : (es.mapM fun (e : Expr) => match e with | .Name x _ => c.slotL x | _ => none) = some is) : PG J.X (.Tuple es kk pos) (rTg W J (.tp is)) := by
  obtain ⟨h1, h2⟩ := pgs_nms g h
  obtain ⟨h3, h4⟩ := mapM_get h
  obtain ⟨a1, a2⟩ := asEach_names (env := J.X.env) h1
  refine ⟨fun pins s σ H v u Q I r ⟨σd, st, ρ, d, rr, l, S, rd, e, q⟩ => ?_⟩
  have hi : ∀ i ∈ is, i < σ.length := fun i hi => by
    obtain ⟨j, hj⟩ := List.getElem?_of_mem hi
    have hj2 : j < es.length := by rw [← h3]; exact (List.getElem?_eq_some_iff.mp hj).1
    obtain ⟨i', e1, e2⟩ := h4 j _ (List.getElem?_eq_getElem hj2)
    rw [hj] at e1
    cases e1
    obtain ⟨x, p, e3⟩ := h1 _ (List.getElem_mem hj2)
    rw [e3] at e2
    exact slotL_lt g e2 I
  cases rd with
  | @tup ds a vs q1 q2 =>
    have e : cond (Nat.beq is.length ds.length) (some ((is.zip ds).foldl (fun p q => (p.1.set q.1 (some q.2), putCell J.κ.κ q.1 q.2 p.2)) (σd, st))) none = some rr := e
    obtain ⟨hb, e⟩ := cond_none e
    have hl := Nat.eq_of_beq_eq_true hb
    cases e
    obtain ⟨n1, l1, S1⟩ := fold_ok hi hl q2 l S
    refine (pg_tup (n := es.length) g.calm h2 a1 a2).run pins s σ H _ u Q I r ⟨a, vs, rfl, by rw [g.K]; exact q1, by rw [← q2.length, ← hl, h3], by rw [← q2.length, ← hl], q _ setAll_out n1 l1 S1⟩
  | _ => cases e
end
end MX
end
section
set_option Elab.async false
set_option linter.all false
set_option autoImplicit false
set_option maxRecDepth 100000
set_option maxHeartbeats 400000
/-! Statements: values, stores, loops. -/
namespace MX
open PySem PySem.Spec PyProof.Rows L2
section
variable {W : Wd} {J : Jx} {α β : Type} {σ : L2.St} {nx nx' : Nat} {ρ ρ' : Asg} {H H' : Hp} {rl : Rl α β} {D : Ends}
theorem PostS.shift {r : F} (x : Ext nx ρ H nx' ρ' H') (p : PostS W J nx ρ H D r) : PostS W J nx' ρ' H' D r := by
  cases r with
  | nx σd st' => exact fun ρ2 H2 σ2 y l s => p ρ2 H2 σ2 (x.trans y) l s
  | brk σd st' => exact fun ρ2 H2 σ2 y l s => p ρ2 H2 σ2 (x.trans y) l s
  | cnt σd st' => exact fun ρ2 H2 σ2 y l s => p ρ2 H2 σ2 (x.trans y) l s
  | ret d st' => exact fun ρ2 H2 σ2 v y s r => p ρ2 H2 σ2 v (x.trans y) s r
  | exc c fs st' => exact fun ρ2 H2 σ2 dd y s r => p ρ2 H2 σ2 dd (x.trans y) s r
  | bad => exact p
structure AftS (W : Wd) (J : Jx) {α β : Type} (σ : L2.St) (nx : Nat) (ρ : Asg) (H : Hp) (rl : Rl α β) (D : Ends) (f : α → St → F) (b : β) (H' : Hp) : Prop where
  ex : ∃ (a : α) (st' : St) (ρ' : Asg), Ext nx ρ H st'.nx ρ' H' ∧ SRel W J.X J.κ σ st' ρ' H' ∧ rl st'.nx ρ' H' a b ∧ PostS W J st'.nx ρ' H' D (f a st')
theorem PostS.to {r : R α} {f : α → St → F} (p : PostS W J nx ρ H D (F.to r f)) : Post W J σ nx ρ H rl (AftS W J σ nx ρ H rl D f) r := by
  cases r with
  | ok a st' => exact fun ρ' H' b x s rr => ⟨a, st', ρ', x, s, rr, PostS.shift x p⟩
  | exc c fs st' => exact fun ρ' H' dd x s e => p ρ' H' σ dd x s e
  | bad => exact p
theorem PostS.now {σd : Sg} {st : St} (p : PostS W J st.nx ρ H D (.nx σd st)) (l : LRel W σd σ st.nx ρ H) (s : SRel W J.X J.κ σ st ρ H) : D.nx σ H := p ρ H σ .refl l s
theorem condS {b : Bool} {x : F} (p : PostS W J nx ρ H D (cond b x .bad)) : b = true ∧ PostS W J nx ρ H D x := by
  cases b with
  | true => exact ⟨rfl, p⟩
  | false => exact p.elim
end
theorem sw_attr {e o : Expr} {f : Str} {p : Pos} {l : Nat} {env : Env} : swapsWith e (some (.Attribute o f p)) l env = pure false := by
  cases e <;> rfl
theorem sw_sub {e o i : Expr} {p : Pos} {l : Nat} {env : Env} : swapsWith e (some (.Subscript o i p)) l env = pure false := by
  cases e <;> rfl
theorem sw_plain {e : Expr} {t : Option Expr} {l : Nat} {env : Env} (h : isComp e = false) : swapsWith e t l env = pure false := by
  cases e <;> first | rfl | cases h
section
variable {W : Wd} {J : Jx} {c : CC} {k : Nat} (g : XG W J c k)
include g
theorem s_exp {e : Expr} {fe : Sg → St → R D} {pos : Pos} (h : isComp e = false) (he : PE J.X e (sem W J (rD W) fe)) : PS J.X (.Expr e pos) (semS W J fun σd st => F.to (fe σd st) fun _ st => .nx σd st) := by
  refine ⟨fun pins s σ H D I ⟨σd, st, ρ, l, S, p⟩ => (ps_expr he (sw_plain h)).run pins s σ H D I ⟨σd, st, ρ, l, S, (PostS.to (rl := rD W) p).mono fun v H1 ⟨d, st1, ρ1, x1, s1, r1, p1⟩ => ?_⟩⟩
  exact p1.now (l.mono x1) s1
theorem s_ret {e : Expr} {fe : Sg → St → R D} {pos : Pos} (he : PE J.X e (sem W J (rD W) fe)) : PS J.X (.Return (some e) pos) (semS W J fun σd st => F.to (fe σd st) fun d st => .ret d st) := by
  refine ⟨fun pins s σ H D I ⟨σd, st, ρ, l, S, p⟩ => (ps_ret he).run pins s σ H D I ⟨σd, st, ρ, l, S, (PostS.to (rl := rD W) p).mono fun v H1 ⟨d, st1, ρ1, x1, s1, r1, p1⟩ => ?_⟩⟩
  exact p1 ρ1 H1 σ v .refl s1 r1
theorem s_retN {pos : Pos} : PS J.X (.Return none pos) (semS W J fun _ st => .ret .non st) :=
  ⟨fun pins s σ H D I ⟨σd, st, ρ, l, S, p⟩ => ps_retN.run pins s σ H D I (p ρ H σ .non .refl S .non)⟩
theorem s_pas {pos : Pos} : PS J.X (.Pass pos) (semS W J fun σd st => .nx σd st) := ⟨fun pins s σ H D I ⟨σd, st, ρ, l, S, p⟩ => ps_pass.run pins s σ H D I (p ρ H σ .refl l S)⟩
theorem s_brk {pos : Pos} : PS J.X (.Break pos) (semS W J fun σd st => .brk σd st) := ⟨fun pins s σ H D I ⟨σd, st, ρ, l, S, p⟩ => ps_break.run pins s σ H D I (p ρ H σ .refl l S)⟩
theorem s_cnt {pos : Pos} : PS J.X (.Continue pos) (semS W J fun σd st => .cnt σd st) := ⟨fun pins s σ H D I ⟨σd, st, ρ, l, S, p⟩ => ps_continue.run pins s σ H D I (p ρ H σ .refl l S)⟩
theorem s_set {e : Expr} {fe : Sg → St → R D} {x : Str} {i : Nat} {p pos : Pos} (hx : c.slotL x = some i) (hs : swapsWith e (some (.Name x p)) pos.line J.X.env = pure false) (he : PE J.X e (sem W J (rD W) fe)) :
    PS J.X (.Assign [.Name x p] e pos) (semS W J fun σd st => F.to (fe σd st) fun d st => .nx (σd.set i (some d)) (putCell J.κ.κ i d st)) := by
  obtain ⟨h1, h2, _⟩ := slotL_ok hx
  obtain ⟨k1, k2⟩ := g.loc x h1
  refine ⟨fun pins s σ H D I ⟨σd, st, ρ, l, S, q⟩ => (ps_set (i := i) g.ndX (by rw [g.N]; exact h2) k1 he hs k2).run pins s σ H D I ⟨σd, st, ρ, l, S, (PostS.to (rl := rD W) q).mono fun v H1 ⟨d, st1, ρ1, x1, s1, r1, p1⟩ => ?_⟩⟩
  obtain ⟨n1, S1⟩ := put_ok s1 (slotL_lt g hx I) r1
  have x2 : Ext st1.nx ρ1 H1 (putCell J.κ.κ i d st1).nx ρ1 H1 := by rw [n1]; exact .refl
  have l2 : LRel W (σd.set i (some d)) (σ.set i (some v)) (putCell J.κ.κ i d st1).nx ρ1 H1 := by rw [n1]; exact (l.mono x1).set r1
  exact p1 ρ1 H1 _ x2 l2 S1
omit g in
theorem chg_ins {σ : L2.St} {st : St} {ρ : Asg} {H : Hp} {n q : Nat} {a dx : Addr} {fs : List (Nat × D)} {vs ws : List (Str × V)} (s : SRel W J.X J.κ σ st ρ H) (h1 : n < st.nx) (h2 : (ρ n).1 = some a) (e : H a = some (.ins (W.ad q) dx vs)) (r : RF W.K W.ad W.at_ st.nx ρ H fs ws) :
    Ext st.nx ρ H (st.set n (.ins q fs)).nx ρ (upd H a (.ins (W.ad q) dx ws)) ∧ SRel W J.X J.κ σ (st.set n (.ins q fs)) ρ (upd H a (.ins (W.ad q) dx ws)) := by
  have hx : Ext st.nx ρ H st.nx ρ (upd H a (.ins (W.ad q) dx ws)) := {
    le := Nat.le_refl _
    old := fun _ _ => rfl
    new := fun n' _ h1 h2 => absurd h2 (Nat.not_lt.mpr h1)
    thr := fun b u q => by
      by_cases hb : b = a
      · subst hb; exact ⟨_, upd_same⟩
      · exact ⟨u, by rw [upd_ne hb]; exact q⟩
    fix := fun b u q f => by
      have hb : b ≠ a := fun z => by subst z; rw [e] at q; cases q; exact f
      rw [upd_ne hb]; exact q
    frm := fun b u q k _ => by
      have hb : b ≠ a := fun z => by subst z; exact k n h1 h2
      rw [upd_ne hb]; exact q }
  refine s.chg h1 h2 (fun u q => by rw [e] at q; cases q; exact ⟨fun z => z, True.intro⟩) ?_ (fun v => by simp)
  have e3 : ρ n = (some a, (ρ n).2) := by rw [← h2]
  rw [e3]
  exact .ins upd_same (r.mono hx)
theorem s_setA (C : GC W) {o e : Expr} {fo fe : Sg → St → R D} {f : Str} {i : Nat} {p pos : Pos} (hf : ixOf f c.at_ 0 = some i) (ho : PE J.X o (sem W J (rD W) fo)) (he : PE J.X e (sem W J (rD W) fe)) :
    PS J.X (.Assign [.Attribute o f p] e pos) (semS W J fun σd st => F.to (fe σd st) fun d st => F.to (fo σd st) fun x st => match x with
      | .loc p => match st.get p with
        | some (.ins c fs) => cond (Nat.ble fs.length 900 && notM W.G c i) (.nx σd (st.set p (.ins c (MX.putF i d fs)))) .bad
        | _ => .bad
      | _ => .bad) := by
  rw [g.at_] at hf
  obtain ⟨hi, rfl⟩ := at_of hf
  refine ⟨fun pins s σ H D I ⟨σd, st, ρ, l, S, q⟩ => (ps_fld ho he sw_attr).run pins s σ H D I ⟨σd, st, ρ, l, S, (PostS.to (rl := rD W) q).mono fun y H1 ⟨d, st1, ρ1, x1, s1, r1, p1⟩ => ?_⟩⟩
  refine ⟨σd, st1, ρ1, l.mono x1, s1, (PostS.to (rl := rD W) p1).mono fun v H2 ⟨e, st2, ρ2, x2, s2, r2, p2⟩ => ?_⟩
  rw [g.K]
  cases r2 with
  | @loc n a h1 h2 =>
    have p2 : PostS W J st2.nx ρ2 H2 D (match st2.get n with
        | some (.ins c fs) => cond (Nat.ble fs.length 900 && notM W.G c i) (F.nx σd (st2.set n (.ins c (MX.putF i d fs)))) F.bad
        | _ => F.bad) := p2
    split at p2
    · rename_i q fs e
      obtain ⟨hb, p2⟩ := condS p2
      rw [Bool.and_eq_true] at hb
      obtain ⟨b, ro⟩ := s2.at h1 h2 e
      cases ro with
      | ins e1 e2 =>
        obtain ⟨k1, k2⟩ := notM_of C hb.2 hi
        have rf := RF.put C.nd hi (RD.mono x2 r1) e2
        obtain ⟨x3, S3⟩ := chg_ins s2 h1 h2 e1 rf
        refine ⟨a, _, _, _, rfl, e1, k1, k2, ?_, p2 ρ2 _ σ x3 (((l.mono x1).mono x2).mono x3) S3⟩
        have := Nat.le_of_ble_eq_true hb.1
        rw [← RF.length e2]; omega
    · exact p2.elim
  | _ => exact p2.elim
omit g in
theorem asgSub {o i : Expr} {p : Pos} {env : Env} {v : Value} (h : isSlice i = false) : assign (.Subscript o i p) env v = (do
      let ov ← holding [v] (eval o env)
      let iv ← holding [v, ov] (eval i env)
      standAt p
      holding [v, ov, iv] (setItem ov iv v)
      release [v, ov, iv] []) := by
  cases i <;> first | rfl | cases h
theorem s_setI {o b e : Expr} {fo fb fe : Sg → St → R D} {p pos : Pos} (hb : isSlice b = false) (ho : PE J.X o (sem W J (rD W) fo)) (hi : PE J.X b (sem W J (rD W) fb)) (he : PE J.X e (sem W J (rD W) fe)) :
    PS J.X (.Assign [.Subscript o b p] e pos) (semS W J fun σd st => F.to (fe σd st) fun d st => F.to (fo σd st) fun x st => F.to (fb σd st) fun y st => match setIx x y d st with
      | some st => .nx σd st
      | none => .bad) := by
  have hw : swappedStores [.Subscript o b p] e J.X.env = pure none := by cases e <;> rfl
  have hsw : swapsWithSole [.Subscript o b p] e pos.line J.X.env = pure false := sw_sub (e := e) (o := o) (i := b) (p := p) (l := pos.line) (env := J.X.env)
  have h1 : (assignEach [.Subscript o b p] J.X.env).map (·.2) = [assign (.Subscript o b p) J.X.env] := rfl
  refine ⟨fun pins s σ H D I ⟨σd, st, ρ, l, S, q⟩ => (ps_asg he (pg_sub ho hi set_list fun v => asgSub hb) hsw hw h1).run pins s σ H D I ⟨σd, st, ρ, l, S, (PostS.to (rl := rD W) q).mono fun y H1 ⟨d, st1, ρ1, x1, s1, r1, p1⟩ => ?_⟩⟩
  refine ⟨σd, st1, ρ1, l.mono x1, s1, (PostS.to (rl := rD W) p1).mono fun v H2 ⟨x, st2, ρ2, x2, s2, r2, p2⟩ => ?_⟩
  refine ⟨σd, st2, ρ2, (l.mono x1).mono x2, s2, (PostS.to (rl := rD W) p2).mono fun w H3 ⟨z, st3, ρ3, x3, s3, r3, p3⟩ => ?_⟩
  have r2 := RD.mono x3 r2
  have p3 : PostS W J st3.nx ρ3 H3 D (match setIx x z d st3 with | some st => F.nx σd st | none => F.bad) := p3
  cases r2 with
  | @loc n a h1 h2 =>
    cases r3 with
    | int kk =>
      have e0 : setIx (.loc n) (.int kk) d st3 = (match st3.get n with
        | some (.lst xs) => (match normIx xs.length kk with
          | some j => some (st3.set n (.lst (xs.set j d)))
          | none => none)
        | _ => none) := rfl
      rw [e0] at p3
      split at p3
      · rename_i st4 e4
        split at e4
        · rename_i xs e
          cases e5 : normIx xs.length kk with
          | none => rw [e5] at e4; cases e4
          | some j =>
            rw [e5] at e4
            cases e4
            obtain ⟨b, ro⟩ := s3.at h1 h2 e
            cases ro with
            | lst e1 e2 =>
              obtain ⟨x4, S4⟩ := chg_lst s3 h1 h2 e1 (RDs.set j e2 (RD.mono x3 (RD.mono x2 r1)))
              rw [normIx_ixN, e2.length] at e5
              exact ⟨a, _, kk, j, rfl, rfl, e1, e5, p3 ρ3 _ σ x4 ((((l.mono x1).mono x2).mono x3).mono x4) S4⟩
        · cases e4
      · exact p3.elim
    | _ => exact p3.elim
  | _ => cases r3 <;> exact p3.elim
/-! ### blocks, branches -/
theorem ss_nil : PSs J.X [] (semS W J fun σd st => .nx σd st) := ⟨fun pins s σ H D I ⟨σd, st, ρ, l, S, p⟩ => pss_nil.run pins s σ H D I (p ρ H σ .refl l S)⟩
theorem ss_cons {a : Stmt} {b : List Stmt} {fa fb : Sg → St → F} (ha : PS J.X a (semS W J fa)) (hb : PSs J.X b (semS W J fb)) : PSs J.X (a :: b) (semS W J fun σd st => (fa σd st).seq fun σd st => fb σd st) := by
  refine ⟨fun pins s σ H D I ⟨σd, st, ρ, l, S, p⟩ => (pss_cons ha hb).run pins s σ H D I ⟨σd, st, ρ, l, S, ?_⟩⟩
  have p : PostS W J st.nx ρ H D ((fa σd st).seq fun σd st => fb σd st) := p
  cases e : fa σd st with
  | nx σd' st' =>
    rw [e] at p
    exact fun ρ' H' σ' x l' s' => ⟨σd', st', ρ', l', s', PostS.shift x p⟩
  | brk σd' st' => rw [e] at p; exact p
  | cnt σd' st' => rw [e] at p; exact p
  | ret d st' => rw [e] at p; exact p
  | exc cc fs st' => rw [e] at p; exact p
  | bad => rw [e] at p; exact p.elim
theorem s_if {t : Expr} {a b : List Stmt} {ft : Sg → St → R Bool} {fa fb : Sg → St → F} {pos : Pos} (ht : PT J.X t (sem W J rB ft)) (ha : PSs J.X a (semS W J fa)) (hb : PSs J.X b (semS W J fb)) :
    PS J.X (.If t a b pos) (semS W J fun σd st => F.to (ft σd st) fun k st => cond k (fa σd st) (fb σd st)) := by
  refine ⟨fun pins s σ H D I ⟨σd, st, ρ, l, S, q⟩ => (ps_if ht ha hb).run pins s σ H D I ⟨σd, st, ρ, l, S, (PostS.to (rl := rB) q).mono fun v H1 ⟨d, st1, ρ1, x1, s1, r1, p1⟩ => ?_⟩⟩
  cases r1
  cases v with
  | true => rw [if_pos rfl]; exact ⟨σd, st1, ρ1, l.mono x1, s1, p1⟩
  | false => rw [if_neg Bool.false_ne_true]; exact ⟨σd, st1, ρ1, l.mono x1, s1, p1⟩
end
end MX
end
section
set_option Elab.async false
set_option linter.all false
set_option autoImplicit false
set_option maxRecDepth 100000
set_option maxHeartbeats 1000000
/-! A list comprehension whose readings are chosen when the block starts. Own work, along the kit's rule for blocks. -/
namespace MX
open PySem PySem.Spec PyProof.Rows L2
section
variable {X : Cx}
/-- what the block's loop is to meet: L the new list, B the block's context -/
def LcT (B : Cx) (tg : Expr) (ifs : List Expr) (elt : Expr) (vs : List Nat) (T : It) (L : Addr) (σ : L2.St) (H0 : Hp) (Q : VK) : Prop :=
  ∃ (gt : TG) (tt : TT) (te : TE), PG B tg gt ∧ PTs B ifs tt ∧ PE B elt te ∧ ∃ V : Nat → Nat → Hp → Prop, (∃ m, V 0 m H0) ∧ ∀ i m G, V i m G →
    (T.stop i G ∧ Q (.ref L) G) ∨ (T.go i G ∧ ∃ N : Hp → Prop, (∀ G', N G' → ∃ m', m' < m ∧ V (i + 1) m' G') ∧
      ∀ x G', T.yld i G x G' → gt x (L2.wipe σ vs) G' fun σ2 G2 => L2.wipe σ2 vs = L2.wipe σ vs ∧ tt σ2 G2 fun b G3 =>
        if b = true then te σ2 G3 fun y G4 => ∃ acc, G4 L = some (.lst acc) ∧ acc.length < sizeLine ∧ N (upd G4 L (.lst (acc ++ [y]))) else N G3)
theorem lcw {pins : List (Addr × Obj)} {s : Shared} {σ : L2.St} {H : Hp} {Q : VK} {elt tg iter : Expr} {ifs : List Expr} {scope : Scope} {own : List (Str × Nat)} {pos pos' : Pos} {wi : TI} {use : Option (Value → Sem Unit)} {Qf : Value → Shared → Prop}
    (calm : X.calm = true) (nd : X.N.Nodup) (I : Inv X pins σ H s) (hi : PI X tg iter wi) (bo : BlkOk X.N X.env.scope scope own) (hs : ∀ x, foldedSetIterable iter X.env x = pure x)
    (h : wi σ H fun T H1 => ∀ (L : Addr) (s3 : Shared) (C : Addr) (cl : List (Str × Addr)) (fp : List Addr), H1 L = none → Inv X pins σ (upd H1 L (.lst [])) s3 → (∀ b ∈ fp, FpOk X pins (upd H1 L (.lst [])) b) →
      C = s3.heap.objs.size → cl = cellsFrom (s3.heap.objs.size + 1) scope.names (cloFrom X.env.cells scope.names []) →
      LcT (X.blk s3 (upd H1 L (.lst [])) scope (compEnvC scope cl C X.env) fp) tg ifs elt (own.map (·.2)) T L σ (upd H1 L (.lst [])) Q)
    (fin : ∀ (L C : Addr) (s' : Shared) (m : Str → Option Value) (H' : Hp), Inv X pins σ H' s' → Q (.ref L) H' → s'.heap.Ns C m → FpOk X pins H' C → compPost (model X.prog X.w) X.A X.xe use Qf (.ref L) C (.ok .next) s') :
    wpAny (model X.prog X.w) X.A (comprehension (.ListComp elt [⟨tg, iter, ifs, 0⟩] scope pos) scope X.env pos' (newList []) false (eval iter X.env) use) Qf X.xe s := by
  have capt : ∀ z ∈ scope.names, z.2 = .free → ∃ ca, X.env.cells.lookup z.1 = some ca := fun z hz e =>
    (bo.free z hz e).elim (fun k => I.ok.has _ (.inl k)) fun k => I.ok.has _ (.inr k)
  refine wpAny_comprehension_free (use := use) rfl hs (closure_ok capt) bo.kind (fun z hz e => by rw [bo.uniq z hz, e]) ?_
  refine thn (hi.run pins s σ H _ I h) fun iv sa ha => thn ha fun itv sb hb => ?_
  obtain ⟨q, fp, tn, T, H1, rfl, Ib, Tn, stb, fb, rest⟩ := hb
  refine wpAny_newObj_type (newEnv_comp ?_) (by show 0 ≤ sizeLine; decide)
  generalize hL : sb.heap.objs.size = L
  have fresh : H1 L = none := Ib.hok.fresh (Nat.le_of_eq hL)
  generalize hsc : ({ sb with heap := sb.heap.push { cls := .type "list", data := .seq ([] : List Value).toArray } } : Shared) = sc
  have heapc : sc.heap = sb.heap.push { cls := .type "list", data := .seq ([] : List Value).toArray } := by rw [← hsc]
  have Ic : Inv X pins σ (upd H1 L (.lst [])) sc := by
    rw [← hsc]
    refine Ib.laid (t' := sb.toks) (fun _ _ e => Heap.get?_push_of_some _ e) (Nat.le_of_eq hL) ⟨Nat.zero_le _, [], 0, .nil, ?_⟩
    rw [← hL]
    exact Heap.get?_push_size _ rfl
  have small : ∀ b ∈ fp, b < sb.heap.objs.size := fun b hm => by
    obtain ⟨o, e, _⟩ := Tn.obj _ _ stb b hm
    exact Heap.lt_size e
  have fpc : ∀ b ∈ fp, FpOk X pins (upd H1 L (.lst [])) b := fun b hm => by
    refine ⟨?_, (fb b hm).2⟩
    rw [upd_ne (by rw [← hL]; exact Nat.ne_of_lt (small b hm))]
    exact (fb b hm).1
  have stc : tn 0 sc.heap := Tn.keep _ _ _ stb fun b _ o e => by rw [heapc]; exact Heap.get?_push_of_some _ e
  obtain ⟨gt, tt, te, pg, pt, pe, V, ⟨m0, v0⟩, turn⟩ := rest L sc sc.heap.objs.size (cellsFrom (sc.heap.objs.size + 1) scope.names (cloFrom X.env.cells scope.names [])) fp fresh Ic fpc rfl rfl
  have Id := block_start Ic bo nd fun b hm => ⟨fpc b hm, by rw [heapc, Heap.size_push]; exact Nat.lt_succ_of_lt (small b hm)⟩
  show codeAny _ _ (.compStart (.ListComp elt [⟨tg, iter, ifs, 0⟩] scope pos) 0 (.ref q) (.ref L) (compEnvC scope (cellsFrom (sc.heap.objs.size + 1) scope.names (cloFrom X.env.cells scope.names [])) sc.heap.objs.size X.env))
    (compPost (model X.prog X.w) X.A X.xe use Qf (.ref L) sc.heap.objs.size) { sc with heap := pushCells (sc.heap.push { cls := .type "dict", data := .dict #[] }) scope.names }
  generalize hE : compEnvC scope (cellsFrom (sc.heap.objs.size + 1) scope.names (cloFrom X.env.cells scope.names [])) sc.heap.objs.size X.env = benv at Id pg pt pe ⊢
  have lE : benv.locals = sc.heap.objs.size := by subst hE; rfl
  have freeL : ∀ b ∈ fp, (upd H1 L (.lst [])) b = none := fun b hm => (fpc b hm).1
  generalize hG : upd H1 L (.lst []) = G0 at Ic Id pg pt pe v0 freeL fpc
  generalize hsd : ({ sc with heap := pushCells (sc.heap.push { cls := .type "dict", data := .dict #[] }) scope.names } : Shared) = sd at Id ⊢
  have std : tn 0 sd.heap := Tn.keep _ _ _ stc fun b _ o e => by rw [← hsd]; exact pushCells_keeps _ _ _ _ (Heap.get?_push_of_some _ e)
  have still : ∀ {σ' : L2.St} {G : Hp} {s' : Shared}, Inv (X.blk sc G0 scope benv fp) [] σ' G s' → (∀ b ∈ fp, G b = none) → ∀ b ∈ fp, FpOk (X.blk sc G0 scope benv fp) [] G b := fun {σ' G s'} J hn b hm =>
    ⟨hn b hm, (J.ok.exf b hm).1, J.ok.exfs b hm, .inl hm, fun x ca e => (J.ok.exf b hm).2 x ca e, fun p hp => absurd (show p ∈ ([] : List (Addr × Obj)) ++ [] from hp) (by simp)⟩
  refine codeAny_compStart_list (it := .ref q) ?loop (Tn.self X.A 0 _ _ _ std ?loop)
  refine compLoop_any (fun n s' => ∃ i G, Inv (X.blk sc G0 scope benv fp) [] (L2.wipe σ (own.map (·.2))) G s' ∧ tn i s'.heap ∧ (∀ b ∈ fp, G b = none) ∧ V i n G) ?_ m0 ⟨0, G0, Id, std, freeL, v0⟩
  rintro n s5 ⟨i, G5, J5, st5, n5, v5⟩
  rcases turn i n G5 v5 with ⟨stop, qq⟩ | ⟨go, N, hN, step⟩
  · refine thnF (Tn.done (X.blk sc G0 scope benv fp) rfl rfl rfl calm i [] s5 _ G5 (fun _ _ => False) J5 (still J5 n5) st5 stop) fun r s6 ⟨er, J6⟩ => ?_
    subst er
    have I7 : Inv X pins σ G5 s6 := Ic.call' (ch := fp) J6.os J6.base J6.hok J6.bare fun b hm => ⟨(fpc b hm).2.2.2.1, (fpc b hm).2.1, (fpc b hm).2.2.2.2.1, (fpc b hm).2.2.2.2.2⟩
    have nE : G5 sc.heap.objs.size = none := by
      have z : G5 benv.locals = none := J6.free
      rwa [lE] at z
    obtain ⟨mm, hns, _⟩ := J6.loc
    have hns : s6.heap.Ns benv.locals mm := hns
    rw [lE] at hns
    exact fin L sc.heap.objs.size s6 mm G5 I7 qq hns (Ic.fpOk (Nat.le_refl _) nE)
  · refine thnF (Tn.item (X.blk sc G0 scope benv fp) rfl rfl rfl calm i [] s5 _ G5 (fun _ _ => False) J5 (still J5 n5) st5 go) fun r s6 ⟨u, er, k6⟩ => ?_
    subst er
    refine thnF k6 fun _ s7 ⟨x, G7, J7, rx, yx, st7, n7⟩ => ?_
    refine thnF (pg.run _ s7 _ G7 x u _ (J7.pinned (still J7 n7) (Tn.obj _ _ st7)) rx (step x G7 yx)) fun _ s8 ⟨σ8, G8, J8, w8, q8⟩ => ?_
    refine thnF (pt.run _ s8 σ8 G8 _ J8 q8) fun b s9 ⟨G9, J9, q9⟩ => ?_
    have again : ∀ {s' : Shared} {G : Hp}, Inv (X.blk sc G0 scope benv fp) ([] ++ pinsAt fp s7.heap) σ8 G s' → N G → ∃ m, m < n ∧ ∃ i G, Inv (X.blk sc G0 scope benv fp) [] (L2.wipe σ (own.map (·.2))) G s' ∧ tn i s'.heap ∧ (∀ b ∈ fp, G b = none) ∧ V i m G := fun {s' G} J hn => by
      obtain ⟨m', hm, v'⟩ := hN G hn
      have held : ∀ b ∈ fp, ∀ o, s7.heap.get? b = some o → s'.heap.get? b = some o ∧ G b = none := fun b hb o e => by
        obtain ⟨z1, z2, _⟩ := J.pin (b, o) (List.mem_append_right _ (List.mem_append_right _ (mem_pinsAt hb e)))
        exact ⟨z1, z2⟩
      have len : (L2.wipe σ (own.map (·.2))).length = σ8.length := by rw [← w8, wipe_length]
      refine ⟨m', hm, i + 1, G, (J.unpinned (pins := [])).weak len (fun j v e => ?_), Tn.keep _ _ _ st7 fun b hb o e => (held b hb o e).1, fun b hb => ?_, v'⟩
      · rw [← w8] at e
        exact (wipe_some e).1
      · obtain ⟨o, e, _⟩ := Tn.obj _ _ st7 b hb
        exact (held b hb o e).2
    cases b with
    | false =>
      simp only [Bool.false_eq_true, if_false] at q9 ⊢
      exact again J9 q9
    | true =>
      simp only [if_true] at q9 ⊢
      refine thnF (pe.run _ s9 σ8 G9 _ J9 q9) fun z s10 ⟨y, G10, J10, ry, acc, hL10, hz10, hn⟩ => ?_
      exact app_ok (X := X.blk sc G0 scope benv fp) J10 hL10 hz10 ry fun s11 J11 => again J11 hn
end
end MX
end
section
set_option Elab.async false
set_option linter.all false
set_option autoImplicit false
set_option maxRecDepth 100000
set_option maxHeartbeats 400000
/-! Loops. -/
namespace MX
open PySem PySem.Spec PyProof.Rows L2
theorem pt_ex {X : Cx} {e : Expr} {t : Nat → TT} (h : ∀ n, PT X e (t n)) : PT X e (fun σ H Q => ∃ n, t n σ H Q) := ⟨fun pins s σ H Q I ⟨n, q⟩ => (h n).run pins s σ H Q I q⟩
theorem pss_ex {X : Cx} {e : List Stmt} {t : Nat → TS} (h : ∀ n, PSs X e (t n)) : PSs X e (fun D σ H => ∃ n, t n D σ H) := ⟨fun pins s σ H D I ⟨n, q⟩ => (h n).run pins s σ H D I q⟩
/-- a turn's end -/
def turnEnd (x : F) (again : Sg → St → F) : F := match x with
  | .nx σ st | .cnt σ st => again σ st
  | .brk σ st => .nx σ st
  | x => x
section
variable {W : Wd} {J : Jx} {c : CC} {k : Nat}
/-- behind the body -/
theorem turn_end {nx : Nat} {ρ : Asg} {H : Hp} {D : Ends} {x : F} {again : Sg → St → F} (p : PostS W J nx ρ H D (turnEnd x again)) (N : L2.St → Hp → Prop)
    (hN : ∀ (σd : Sg) (st : St) (ρ' : Asg) (H' : Hp) (σ' : L2.St), Ext nx ρ H st.nx ρ' H' → LRel W σd σ' st.nx ρ' H' → SRel W J.X J.κ σ' st ρ' H' → PostS W J st.nx ρ' H' D (again σd st) → N σ' H') :
    PostS W J nx ρ H { D with nx := N, ct := N, bk := D.nx } x := by
  cases x with
  | nx σd st => exact fun ρ' H' σ' x l s => hN σd st ρ' H' σ' x l s (PostS.shift x p)
  | cnt σd st => exact fun ρ' H' σ' x l s => hN σd st ρ' H' σ' x l s (PostS.shift x p)
  | brk σd st => exact p
  | ret d st => exact p
  | exc cc fs st => exact p
  | bad => exact p
theorem s_whl (Sx : XS J c) {t : Expr} {b : List Stmt} {pos : Pos} {ft : Nat → Sg → St → R Bool} {fb whl : Nat → Sg → St → F} (ht : ∀ n, PT J.X t (sem W J rB (ft n))) (hb : ∀ n, PSs J.X b (semS W J (fb n)))
    (h0 : ∀ σd st, whl 0 σd st = .bad) (h1 : ∀ n σd st, whl (n + 1) σd st = F.to (ft n σd st) fun k st => cond k (turnEnd (fb n σd st) (whl n)) (.nx σd st)) (n : Nat) : PS J.X (.While t b [] pos) (semS W J (whl n)) := by
  refine ⟨fun pins s σ H D I h => (ps_while Sx.po (pt_ex ht) (pss_ex hb)).run pins s σ H D I ?_⟩
  refine ⟨fun m σ H => semS W J (whl m) D σ H, ⟨n, h⟩, fun m σ H ⟨σd, st, ρ, l, S, p⟩ => ?_⟩
  cases m with
  | zero => rw [h0] at p; exact p.elim
  | succ m =>
    rw [h1] at p
    refine ⟨m, σd, st, ρ, l, S, (PostS.to (rl := rB) p).mono fun v H1 ⟨d, st1, ρ1, x1, s1, r1, p1⟩ => ?_⟩
    cases r1
    cases v with
    | false => rw [if_neg Bool.false_ne_true]; exact p1.now (l.mono x1) s1
    | true =>
      rw [if_pos rfl]
      refine ⟨semS W J (whl m) D, fun σ' H' w => ⟨m, Nat.lt_succ_self _, w⟩, m, σd, st1, ρ1, l.mono x1, s1, ?_⟩
      exact turn_end p1 _ fun σd2 st2 ρ2 H2 σ2 x2 l2 s2 p2 => ⟨σd2, st2, ρ2, l2, s2, p2⟩
theorem ItR.shift {it : D} {nx nx' : Nat} {ρ ρ' : Asg} {H H' : Hp} {T : It} (h : ItR W it nx ρ H T) (x : Ext nx ρ H nx' ρ' H') : ItR W it nx' ρ' H' T := fun X κ σ st ρ2 H2 i y S => h X κ σ st ρ2 H2 i (x.trans y) S
theorem s_for (g : XG W J c k) (Sx : XS J c) {tg it : Expr} {t : T} {b : List Stmt} {pos : Pos} {fi : Sg → St → R D} {fb : Nat → Sg → St → F} {fo : Nat → D → Nat → Sg → St → F} (hi : PI J.X tg it (sem W J (rIt W) fi)) (hg : PG J.X tg (rTg W J t)) (hb : ∀ n, PSs J.X b (semS W J (fb n)))
    (hs : ∀ x, foldedSetIterable it J.X.env x = pure x)
    (h0 : ∀ d i σd st, fo 0 d i σd st = .bad) (h1 : ∀ n d i σd st, fo (n + 1) d i σd st = match nextI 3 d i st with
      | none => .bad
      | some none => .nx σd st
      | some (some e) => match store1 t e σd J.κ.κ st with
        | none => .bad
        | some r => turnEnd (fb n r.1 r.2) (fo n d (i + 1))) (n : Nat) :
    PS J.X (.For tg it b [] pos) (semS W J fun σd st => F.to (fi σd st) fun d st => fo n d 0 σd st) := by
  refine ⟨fun pins s σ H D I ⟨σd, st, ρ, l, S, p⟩ => (ps_for Sx.po g.calm hi hg (pss_ex hb) hs).run pins s σ H D I ⟨σd, st, ρ, l, S, (PostS.to (rl := rIt W) p).mono fun T H1 ⟨d, st1, ρ1, x1, s1, r1, p1⟩ => ?_⟩⟩
  refine ⟨fun i m σ H => ∃ (σd : Sg) (st : St) (ρ : Asg), LRel W σd σ st.nx ρ H ∧ SRel W J.X J.κ σ st ρ H ∧ ItR W d st.nx ρ H T ∧ PostS W J st.nx ρ H D (fo m d i σd st), ⟨n, σd, st1, ρ1, l.mono x1, s1, r1, p1⟩, fun i m σ H ⟨σd, st, ρ, l, S, hT, p⟩ => ?_⟩
  cases m with
  | zero => rw [h0] at p; exact p.elim
  | succ m =>
    rw [h1] at p
    obtain ⟨q1, q2⟩ := hT J.X J.κ σ st ρ H i .refl S
    cases e : nextI 3 d i st with
    | none => rw [e] at p; exact p.elim
    | some o =>
      cases o with
      | none =>
        rw [e] at p
        exact .inl ⟨q1 e, PostS.now p l S⟩
      | some e' =>
        rw [e] at p
        obtain ⟨q3, q4⟩ := q2 e' e
        refine .inr ⟨q3, fun σ' H' => ∃ (σd : Sg) (st : St) (ρ : Asg), LRel W σd σ' st.nx ρ H' ∧ SRel W J.X J.κ σ' st ρ H' ∧ ItR W d st.nx ρ H' T ∧ PostS W J st.nx ρ H' D (fo m d (i + 1) σd st), fun σ' H' w => ⟨m, Nat.lt_succ_self _, w⟩, fun x H2 hy => ?_⟩
        obtain ⟨x2, S2, rd⟩ := q4 x H2 hy
        have p : PostS W J st.nx ρ H D (match store1 t e' σd J.κ.κ st with | none => F.bad | some r => turnEnd (fb m r.1 r.2) (fo m d (i + 1))) := p
        cases e2 : store1 t e' σd J.κ.κ st with
        | none => rw [e2] at p; exact p.elim
        | some r =>
          rw [e2] at p
          refine ⟨σd, st, ρ, e', r, l.mono x2, S2, rd, e2, fun σ' _ hn l' S' => ?_⟩
          have x3 : Ext st.nx ρ H r.2.nx ρ H2 := by rw [hn]; exact x2
          refine ⟨m, r.1, r.2, ρ, by rw [hn]; exact l', S', ?_⟩
          refine turn_end (PostS.shift x3 p) _ fun σd2 st2 ρ2 H3 σ2 x4 l2 s2 p2 => ⟨σd2, st2, ρ2, l2, s2, hT.shift (x3.trans x4), p2⟩
end
end MX
end
section
set_option Elab.async false
set_option linter.all false
set_option autoImplicit false
set_option maxRecDepth 100000
set_option maxHeartbeats 400000
/-! List comprehensions. -/
namespace MX
open PySem PySem.Spec PyProof.Rows L2
theorem rel_free {sc : Scope} {x : Str} : ∀ {l : List (Str × NameKind)}, l.lookup x = some .free →
    (l.map fun (n, k) => if (k == NameKind.free && sc.kind == .function && sc.names.lookup n == some .cell) then (n, NameKind.cell) else (n, k)).lookup x = some .cell ∨
    (l.map fun (n, k) => if (k == NameKind.free && sc.kind == .function && sc.names.lookup n == some .cell) then (n, NameKind.cell) else (n, k)).lookup x = some .free
  | [], h => by cases h
  | (a, b) :: l, h => by
    have ih := rel_free (sc := sc) (x := x) (l := l)
    rw [List.lookup_cons] at h
    rw [List.map_cons, List.lookup_cons]
    cases e : x == a with
    | true =>
      rw [e] at h
      cases h
      by_cases hc : (NameKind.free == NameKind.free && sc.kind == .function && sc.names.lookup a == some .cell) = true
      · rw [if_pos hc]; simp [e]
      · rw [if_neg hc]; simp [e]
    | false =>
      rw [e] at h
      by_cases hc : (b == NameKind.free && sc.kind == .function && sc.names.lookup a == some .cell) = true
      · rw [if_pos hc]; simp only [e]; exact ih h
      · rw [if_neg hc]; simp only [e]; exact ih h
/-- a block's own names with their slots -/
def ownP (c : CC) (sc : Scope) : List (Str × Nat) := (sc.names.filter fun y => y.2 == .local || y.2 == .cell).filterMap fun y => (ixOf y.1 c.N 0).map fun i => (y.1, i)
theorem ownP_snd (c : CC) (sc : Scope) : (ownP c sc).map (·.2) = ownOf c sc := by
  unfold ownP ownOf
  generalize sc.names.filter (fun y => y.2 == .local || y.2 == .cell) = l
  induction l with
  | nil => rfl
  | cons y l ih =>
    rw [List.filterMap_cons, List.filterMap_cons]
    cases e : ixOf y.1 c.N 0 with
    | none => exact ih
    | some i => show i :: _ = i :: _; rw [ih]
theorem mem_ownP {c : CC} {sc : Scope} {y : Str} {b : NameKind} {i : Nat} (h : (y, b) ∈ sc.names) (hb : b = .local ∨ b = .cell) (e : ixOf y c.N 0 = some i) : (y, i) ∈ ownP c sc := by
  unfold ownP
  refine List.mem_filterMap.mpr ⟨(y, b), List.mem_filter.mpr ⟨h, ?_⟩, by rw [e]; rfl⟩
  rcases hb with rfl | rfl <;> rfl
theorem blkS_ok {W : Wd} {J : Jx} {c : CC} {k : Nat} (g : XG W J c k) {sc : Scope} (h : blkS c sc = true) : BlkOk J.X.N J.X.env.scope sc (ownP c sc) := by
  unfold blkS at h
  rw [Bool.and_eq_true, decide_eq_true_eq, List.all_eq_true] at h
  obtain ⟨h1, h2⟩ := h
  have h2 : ∀ y ∈ sc.names, (sc.names.lookup y.1 = some y.2 ∧ (y.2 = .free → c.sc.names.lookup y.1 = some .cell ∨ c.sc.names.lookup y.1 = some .free)) ∧ (y.2 = .local ∨ y.2 = .cell → (ixOf y.1 c.N 0).isSome = true ∨ y.1 ∉ c.N) := fun y hy => by
    have z := h2 y hy
    simp only [Bool.and_eq_true, Bool.or_eq_true, Bool.not_eq_true', decide_eq_true_eq, decide_eq_false_iff_not, Bool.or_eq_false_iff, List.contains_iff_mem] at z
    obtain ⟨⟨z1, z2⟩, z3⟩ := z
    refine ⟨⟨z1, fun e => ?_⟩, fun e => ?_⟩
    · rcases z2 with (z2 | z2) | z2
      · exact absurd e z2
      · exact .inl z2
      · exact .inr z2
    · rcases z3 with (z3 | z3) | z3
      · rcases e with e | e
        · exact absurd e z3.1
        · exact absurd e z3.2
      · exact .inl z3
      · exact .inr (by simpa using z3)
  refine ⟨h1, fun y hy => (h2 y hy).1.1, fun p hp => ?_, fun y hy e => g.cap _ ((h2 y hy).1.2 e), fun y hy e => ?_⟩
  · obtain ⟨y, _, e⟩ := List.mem_filterMap.mp hp
    cases e1 : ixOf y.1 c.N 0 with
    | none => rw [e1] at e; cases e
    | some i =>
      rw [e1] at e
      cases e
      rw [g.N]
      simpa using (ixOf_get e1).2
  · rcases (h2 y hy).2 e with z | z
    · obtain ⟨i, hi⟩ := Option.isSome_iff_exists.mp z
      exact .inl (List.mem_map.mpr ⟨(y.1, i), mem_ownP hy e hi, rfl⟩)
    · exact .inr (by rw [g.N]; exact z)
theorem blk_xg {W : Wd} {J : Jx} {c : CC} {k : Nat} (g : XG W J c k) {sc : Scope} {s3 : Shared} {G : Hp} {C : Addr} {cl : List (Str × Addr)} {fp : List Addr} {out : Nat → Addr → Prop} :
    XG W ⟨J.X.blk s3 G sc (compEnvC sc cl C J.X.env) fp, ⟨[], out⟩, fun _ _ _ _ => False⟩ (c.inner sc) k where
  P := g.P
  w := g.w
  K := g.K
  mg := g.mg
  base := g.base
  N := g.N
  nd := g.nd
  calm := g.calm
  room := g.room
  tk := LamX.takes0
  vis := fun x h => by
    show Vis (relS sc J.X.env.scope) x
    rcases h with h | h | h
    · exact .inl (lookup_relS_keep (k := .local) (by decide) h)
    · exact .inr (.inl (lookup_relS_keep (k := .cell) (by decide) h))
    · rcases rel_free (sc := J.X.env.scope) h with z | z
      · exact .inr (.inl z)
      · exact .inr (.inr z)
  gb := fun x h => by
    show (relS sc J.X.env.scope).names.lookup x = some .globalImplicit
    exact lookup_relS_keep (k := .globalImplicit) (by decide) h
  cap := fun x h => by
    show (relS sc J.X.env.scope).names.lookup x = some .cell ∨ (relS sc J.X.env.scope).names.lookup x = some .free
    rcases h with h | h
    · exact .inl (lookup_relS_keep (k := .cell) (by decide) h)
    · exact rel_free h
  loc := fun x h => by
    show Loc (relS sc J.X.env.scope) x ∧ ((sc.names.lookup x == some .cell) = true ∨ (relS sc J.X.env.scope).names.lookup x = some .local)
    rcases h with h | h
    · have z := lookup_relS_keep (k := .local) (sc := J.X.env.scope) (by decide) h
      exact ⟨.inl z, .inr z⟩
    · have h : sc.names.lookup x = some .cell := h
      exact ⟨.inr (lookup_relS_keep (k := .cell) (by decide) h), .inl (by rw [h]; rfl)⟩
  gl := g.gl
  cl := g.cl
  at_ := g.at_
  gu := g.gu
  lam := fun h => nomatch h
theorem pts_ex {X : Cx} {e : List Expr} {t : Nat → TT} (h : ∀ n, PTs X e (t n)) : PTs X e (fun σ H Q => ∃ n, t n σ H Q) := ⟨fun pins s σ H Q I ⟨n, q⟩ => (h n).run pins s σ H Q I q⟩
theorem pe_ex {X : Cx} {e : Expr} {t : Nat → TE} (h : ∀ n, PE X e (t n)) : PE X e (fun σ H Q => ∃ n, t n σ H Q) := ⟨fun pins s σ H Q I ⟨n, q⟩ => (h n).run pins s σ H Q I q⟩
theorem wipe_get {σ : L2.St} {j : Nat} : ∀ {vs : List Nat}, (L2.wipe σ vs)[j]? = if j ∈ vs then (if j < σ.length then some none else none) else σ[j]?
  | [] => by simp [L2.wipe]
  | v :: vs => by
    show ((L2.wipe σ vs).set v none)[j]? = _
    rw [List.getElem?_set, wipe_length]
    by_cases h : v = j
    · subst h
      rw [if_pos rfl, if_pos List.mem_cons_self]
    · rw [if_neg h, wipe_get (vs := vs)]
      have : j ∈ v :: vs ↔ j ∈ vs := by rw [List.mem_cons]; exact ⟨fun z => z.elim (fun z => absurd z.symm h) id, .inr⟩
      simp only [this]
theorem wipe_same {σ σ' : L2.St} {is vs : List Nat} (h : SameOut is (L2.wipe σ vs) σ') (hs : ∀ j ∈ is, j ∈ vs) : L2.wipe σ' vs = L2.wipe σ vs := by
  refine List.ext_getElem? fun j => ?_
  rw [wipe_get, wipe_get]
  have hl : σ'.length = σ.length := by rw [h.1, wipe_length]
  by_cases hj : j ∈ vs
  · rw [if_pos hj, if_pos hj, hl]
  · rw [if_neg hj, if_neg hj, h.2 j (fun z => hj (hs j z)), wipe_get, if_neg hj]
theorem SRel.anyσ {W : Wd} {X : Cx} {out : Nat → Addr → Prop} {σ σ' : L2.St} {st : St} {ρ : Asg} {H : Hp} (S : SRel W X ⟨[], out⟩ σ st ρ H) : SRel W X ⟨[], out⟩ σ' st ρ H := by
  refine S.reobj rfl (fun n hn => ?_) fun n v h => ⟨v, h⟩
  obtain ⟨ob, g, r⟩ := S.get n hn
  refine ⟨ob, g, ?_⟩
  cases hz : ρ n with
  | mk z b =>
    rw [hz] at r
    cases r with
    | lst e1 e2 => exact .lst e1 e2
    | frz e1 e2 => exact .frz e1 e2
    | ins e1 e2 => exact .ins e1 e2
    | cho h1 h2 => exact .cho h1 h2
    | dice h1 h2 => exact .dice h1 h2
    | scr h1 h2 h3 h4 => exact .scr h1 h2 h3 h4
    | lam e1 e2 e3 e4 e5 e6 e7 k1 k2 e8 => exact .lam e1 e2 e3 e4 e5 e6 e7 k1 k2 e8
    | @cel v _ hc =>
      refine .cel ?_
      cases v with
      | none => exact trivial
      | some d =>
        rcases hc with ⟨i, x, v, h0, _⟩ | h
        · cases h0
        · exact .inr h
section
variable {W : Wd} {J : Jx} {c : CC} {k : Nat}
theorem lc_h (g : XG W J c k) {sc : Scope} (hb : blkS c sc = true) {tg elt : Expr} {ifs : List Expr} {t : T} {fi : Sg → St → R D} {fe : Nat → Sg → St → R D} {ft : Nat → Sg → St → R Bool} {lcg : Nat → D → Nat → Sg → D → St → R D}
    (hg : ∀ Jb, XG W Jb (c.inner sc) k → PG Jb.X tg (rTg W Jb t)) (ht : ∀ n Jb, XG W Jb (c.inner sc) k → Jb.κ.κ = [] → PTs Jb.X ifs (sem W Jb rB (ft n))) (he : ∀ n Jb, XG W Jb (c.inner sc) k → Jb.κ.κ = [] → PE Jb.X elt (sem W Jb (rD W) (fe n)))
    (hsub : ∀ j ∈ tgS t, j ∈ ownOf c sc) (h0 : ∀ d i σ l st, lcg 0 d i σ l st = .bad)
    (h1 : ∀ n d i σ l st, lcg (n + 1) d i σ l st = match nextI 3 d i st with
      | none => .bad
      | some none => .ok .non st
      | some (some e) => match store1 t e σ [] st with
        | none => .bad
        | some r => (ft n r.1 r.2).bind fun k st => cond k ((fe n r.1 st).bind fun x st => match lcPut l x st with
          | some st => lcg n d (i + 1) σ l st
          | none => .bad) (lcg n d (i + 1) σ l st))
    (n : Nat) {pins : List (Addr × Obj)} {σ : L2.St} {H : Hp} {Q : VK} (hq : sem W J (rD W) (fun σd st => (fi σd st).bind fun d st => (alloc (.lst []) st).bind fun l st => lcFin l (lcg n d 0 (MX.wipe σd (ownOf c sc)) l st)) σ H Q) :
    sem W J (rIt W) fi σ H fun T H1 => ∀ (L : Addr) (s3 : Shared) (C : Addr) (cl : List (Str × Addr)) (fp : List Addr), H1 L = none → Inv J.X pins σ (upd H1 L (.lst [])) s3 → (∀ b ∈ fp, FpOk J.X pins (upd H1 L (.lst [])) b) →
      C = s3.heap.objs.size → cl = cellsFrom (s3.heap.objs.size + 1) sc.names (cloFrom J.X.env.cells sc.names []) →
      LcT (J.X.blk s3 (upd H1 L (.lst [])) sc (compEnvC sc cl C J.X.env) fp) tg ifs elt ((ownP c sc).map (·.2)) T L σ (upd H1 L (.lst [])) Q := by
  obtain ⟨σd, st, ρ, l, S, p⟩ := hq
  refine ⟨σd, st, ρ, l, S, (Post.bind (rl := rIt W) p).mono fun T H1 ⟨d, st1, ρ1, x1, S1, hT, p1⟩ => fun L s3 C cl fp hL I3 hfp _ _ => ?_⟩
  rw [ownP_snd]
  have p1 : Post W J σ st1.nx ρ1 H1 (rD W) Q ((alloc (.lst []) st1).bind fun l st => lcFin l (lcg n d 0 (MX.wipe σd (ownOf c sc)) l st)) := p1
  rcases alloc_cases (.lst []) st1 with e | ⟨st2, e, k1, k2, k3⟩
  · rw [e] at p1; exact p1.elim
  · rw [e] at p1
    have p1 : Post W J σ st1.nx ρ1 H1 (rD W) Q (lcFin (.loc st1.nx) (lcg n d 0 (MX.wipe σd (ownOf c sc)) (.loc st1.nx) st2)) := p1
    obtain ⟨x2, S2⟩ := S1.new (p := L) (o := .lst []) (ob := .lst []) hL k1 k2 k3 (.lst upd_same .nil)
    have p2 := Post.shift x2 p1
    have hT2 := hT.shift x2
    have l2 : LRel W σd σ st2.nx (ρ1.put st1.nx (some L, 0)) (upd H1 L (.lst [])) := (l.mono x1).mono x2
    have hput : (ρ1.put st1.nx (some L, 0)) st1.nx = (some L, 0) := put_same
    generalize hρ : ρ1.put st1.nx (some L, 0) = ρ2 at S2 p2 hT2 l2 hput
    generalize hG : upd H1 L (.lst []) = G0 at I3 hfp S2 p2 hT2 l2 ⊢
    have E : Into J pins G0 s3 (J.X.blk s3 G0 sc (compEnvC sc cl C J.X.env) fp) := ⟨rfl, rfl, rfl, hfp⟩
    have Sb := enter (σ' := L2.wipe σ (ownOf c sc)) S2 I3 E
    have GX := blk_xg g (sc := sc) (s3 := s3) (G := G0) (C := C) (cl := cl) (fp := fp) (out := outOf J σ st2.nx)
    generalize hX : J.X.blk s3 G0 sc (compEnvC sc cl C J.X.env) fp = Xb at E Sb GX ⊢
    refine ⟨rTg W ⟨Xb, ⟨[], outOf J σ st2.nx⟩, fun _ _ _ _ => False⟩ t, fun σb Hb Qb => ∃ n, sem W ⟨Xb, ⟨[], outOf J σ st2.nx⟩, fun _ _ _ _ => False⟩ rB (ft n) σb Hb Qb, fun σb Hb Qb => ∃ n, sem W ⟨Xb, ⟨[], outOf J σ st2.nx⟩, fun _ _ _ _ => False⟩ (rD W) (fe n) σb Hb Qb,
      hg _ GX, pts_ex fun n => ht n _ GX rfl, pe_ex fun n => he n _ GX rfl, fun i m G => ∃ (st : St) (ρ : Asg), Ext st2.nx ρ2 G0 st.nx ρ G ∧ SRel W Xb ⟨[], outOf J σ st2.nx⟩ (L2.wipe σ (ownOf c sc)) st ρ G ∧ LRel W (MX.wipe σd (ownOf c sc)) (L2.wipe σ (ownOf c sc)) st.nx ρ G ∧ ItR W d st.nx ρ G T ∧
        Post W J σ st2.nx ρ2 G0 (rD W) Q (lcFin (.loc st1.nx) (lcg m d i (MX.wipe σd (ownOf c sc)) (.loc st1.nx) st)), ⟨n, st2, ρ2, .refl, Sb, l2.wipe _, hT2, p2⟩, fun i m G ⟨st, ρ, x, S, l, hT, p⟩ => ?_⟩
    have Lr : ∀ {ρ : Asg} {H : Hp} {st : St}, Ext st2.nx ρ2 G0 st.nx ρ H → (ρ st1.nx).1 = some L ∧ st1.nx < st.nx := fun {ρ H st} x => ⟨by rw [x.old _ (by omega), hput], Nat.lt_of_lt_of_le (by omega) x.le⟩
    cases m with
    | zero => rw [h0] at p; exact p.elim
    | succ m =>
      rw [h1] at p
      obtain ⟨q1, q2⟩ := hT Xb ⟨[], outOf J σ st2.nx⟩ (L2.wipe σ (ownOf c sc)) st ρ G i .refl S
      cases e1 : nextI 3 d i st with
      | none => rw [e1] at p; exact p.elim
      | some o =>
        cases o with
        | none =>
          rw [e1] at p
          have p : Post W J σ st2.nx ρ2 G0 (rD W) Q (.ok (.loc st1.nx) st) := p
          obtain ⟨a1, a2⟩ := Lr x
          exact .inl ⟨q1 e1, p ρ G (.ref L) x (leave0 S2 I3 E x.le x.old S fun e he => nomatch he) (.loc a2 a1)⟩
        | some e' =>
          rw [e1] at p
          obtain ⟨q3, q4⟩ := q2 e' e1
          refine .inr ⟨q3, fun G' => ∃ (st : St) (ρ : Asg), Ext st2.nx ρ2 G0 st.nx ρ G' ∧ SRel W Xb ⟨[], outOf J σ st2.nx⟩ (L2.wipe σ (ownOf c sc)) st ρ G' ∧ LRel W (MX.wipe σd (ownOf c sc)) (L2.wipe σ (ownOf c sc)) st.nx ρ G' ∧ ItR W d st.nx ρ G' T ∧
            Post W J σ st2.nx ρ2 G0 (rD W) Q (lcFin (.loc st1.nx) (lcg m d (i + 1) (MX.wipe σd (ownOf c sc)) (.loc st1.nx) st)), fun G' w => ⟨m, Nat.lt_succ_self _, w⟩, fun y G' hy => ?_⟩
          obtain ⟨x3, S3, rd⟩ := q4 y G' hy
          cases e2 : store1 t e' (MX.wipe σd (ownOf c sc)) [] st with
          | none => simp only [e2] at p; exact p.elim
          | some r =>
            simp only [e2] at p
            refine ⟨MX.wipe σd (ownOf c sc), st, ρ, e', r, l.mono x3, S3, rd, e2, fun σ2 hso hn l' S' => ⟨wipe_same hso hsub, m, r.1, r.2, ρ, by rw [hn]; exact l', S', ?_⟩⟩
            have xr : Ext st2.nx ρ2 G0 r.2.nx ρ G' := by rw [hn]; exact x.trans x3
            have x3' : Ext st.nx ρ G r.2.nx ρ G' := by rw [hn]; exact x3
            have lw : LRel W (MX.wipe σd (ownOf c sc)) (L2.wipe σ (ownOf c sc)) r.2.nx ρ G' := by rw [hn]; exact l.mono x3
            have l'' : LRel W r.1 σ2 r.2.nx ρ G' := by rw [hn]; exact l'
            cases e3 : ft m r.1 r.2 with
            | bad => rw [e3] at p; exact p.elim
            | exc cc fs st4 => rw [e3] at p; exact p.elim
            | ok kb st4 =>
              rw [e3] at p
              intro ρ4 G4 b x4 S4 rb
              cases rb
              cases kb with
              | false =>
                rw [if_neg Bool.false_ne_true]
                exact ⟨st4, ρ4, xr.trans x4, S4.anyσ, lw.mono x4, hT.shift (x3'.trans x4), p⟩
              | true =>
                rw [if_pos rfl]
                have p : Post W J σ st2.nx ρ2 G0 (rD W) Q (lcFin (.loc st1.nx) ((fe m r.1 st4).bind fun x st => match lcPut (.loc st1.nx) x st with
                  | some st => lcg m d (i + 1) (MX.wipe σd (ownOf c sc)) (.loc st1.nx) st
                  | none => .bad)) := p
                refine ⟨m, r.1, st4, ρ4, l''.mono x4, S4, ?_⟩
                cases e4 : fe m r.1 st4 with
                | bad => rw [e4] at p; exact p.elim
                | exc cc fs st5 => rw [e4] at p; exact p.elim
                | ok xv st5 =>
                  rw [e4] at p
                  intro ρ5 G5 yv x5 S5 rdx
                  have p : Post W J σ st2.nx ρ2 G0 (rD W) Q (lcFin (.loc st1.nx) (match lcPut (.loc st1.nx) xv st5 with
                    | some st => lcg m d (i + 1) (MX.wipe σd (ownOf c sc)) (.loc st1.nx) st
                    | none => .bad)) := p
                  have xx := (xr.trans x4).trans x5
                  obtain ⟨a1, a2⟩ := Lr xx
                  cases e5 : lcPut (.loc st1.nx) xv st5 with
                  | none => rw [e5] at p; exact p.elim
                  | some st6 =>
                    rw [e5] at p
                    have e6 : (match st5.get st1.nx with
                      | some (.lst xs) => cond (Nat.ble xs.length 100000) (some (st5.set st1.nx (.lst (xs ++ [xv])))) none
                      | _ => none) = some st6 := e5
                    split at e6
                    · rename_i xs eg
                      obtain ⟨hb6, e6⟩ := cond_none e6
                      cases e6
                      obtain ⟨z, ro⟩ := SRel.at (J := ⟨Xb, ⟨[], outOf J σ st2.nx⟩, fun _ _ _ _ => False⟩) S5 a2 a1 eg
                      cases ro with
                      | @lst _ _ _ accv o1 o2 =>
                        obtain ⟨x6, S6⟩ := chg_lst (J := ⟨Xb, ⟨[], outOf J σ st2.nx⟩, fun _ _ _ _ => False⟩) S5 a2 a1 o1 (RDs.append o2 (.cons rdx .nil))
                        refine ⟨accv, o1, ?_, _, ρ5, xx.trans x6, SRel.anyσ S6, ((lw.mono x4).mono x5).mono x6, hT.shift (((x3'.trans x4).trans x5).trans x6), p⟩
                        have := Nat.le_of_ble_eq_true hb6
                        rw [← o2.length, sizeLine_eq]; omega
                    · cases e6
end
end MX
end
section
set_option Elab.async false
set_option linter.all false
set_option autoImplicit false
set_option maxRecDepth 100000
set_option maxHeartbeats 400000
/-! List comprehensions as values, and stored on their line. -/
namespace MX
open PySem PySem.Spec PyProof.Rows L2
theorem notSet {e : Expr} {env : Env} (h : isSet e = false) (x : Value) : foldedSetIterable e env x = pure x := by
  cases e <;> first | rfl | cases h
section
variable {W : Wd} {J : Jx} {c : CC} {k : Nat} (g : XG W J c k)
include g
theorem e_lc {sc : Scope} (hb : blkS c sc = true) {tg it elt : Expr} {ifs : List Expr} {t : T} {pos : Pos} {fi : Sg → St → R D} {fe : Nat → Sg → St → R D} {ft : Nat → Sg → St → R Bool} {lcg : Nat → D → Nat → Sg → D → St → R D} (hi : PI J.X tg it (sem W J (rIt W) fi))
    (hg : ∀ Jb, XG W Jb (c.inner sc) k → PG Jb.X tg (rTg W Jb t)) (ht : ∀ n Jb, XG W Jb (c.inner sc) k → Jb.κ.κ = [] → PTs Jb.X ifs (sem W Jb rB (ft n))) (he : ∀ n Jb, XG W Jb (c.inner sc) k → Jb.κ.κ = [] → PE Jb.X elt (sem W Jb (rD W) (fe n)))
    (hsub : ∀ j ∈ tgS t, j ∈ ownOf c sc) (hs : isSet it = false) (h0 : ∀ d i σ l st, lcg 0 d i σ l st = .bad)
    (h1 : ∀ n d i σ l st, lcg (n + 1) d i σ l st = match nextI 3 d i st with
      | none => .bad
      | some none => .ok .non st
      | some (some e) => match store1 t e σ [] st with
        | none => .bad
        | some r => (ft n r.1 r.2).bind fun k st => cond k ((fe n r.1 st).bind fun x st => match lcPut l x st with
          | some st => lcg n d (i + 1) σ l st
          | none => .bad) (lcg n d (i + 1) σ l st))
    (n : Nat) : PE J.X (.ListComp elt [⟨tg, it, ifs, 0⟩] sc pos) (sem W J (rD W) fun σd st => (fi σd st).bind fun d st => (alloc (.lst []) st).bind fun l st => lcFin l (lcg n d 0 (MX.wipe σd (ownOf c sc)) l st)) := by
  refine ⟨fun pins s σ H Q I h => ?_⟩
  rw [eval_ListComp]
  refine lcw g.calm g.ndX I hi (blkS_ok g hb) (notSet hs) (lc_h g hb hg ht he hsub h0 h1 n h) fun L C s' m H' I' q hn ⟨f0, f1, _, f3, f4, f5⟩ => ⟨m, hn, fun h2 sb => ?_⟩
  exact ⟨.ref L, H', I'.turned (t' := s'.toks) (fun b o nb e => (sb.2 b nb).trans e) f0 f1 f3 f4 f5, rfl, q⟩
/-- name = [..] where the name's old value stands on the stack: stored in the block's end -/
theorem s_setLc {sc : Scope} (hb : blkS c sc = true) {x : Str} {j : Nat} {p spos : Pos} {tg it elt : Expr} {ifs : List Expr} {t : T} {pos : Pos} {fi : Sg → St → R D} {fe : Nat → Sg → St → R D} {ft : Nat → Sg → St → R Bool} {lcg : Nat → D → Nat → Sg → D → St → R D} (hi : PI J.X tg it (sem W J (rIt W) fi))
    (hg : ∀ Jb, XG W Jb (c.inner sc) k → PG Jb.X tg (rTg W Jb t)) (ht : ∀ n Jb, XG W Jb (c.inner sc) k → Jb.κ.κ = [] → PTs Jb.X ifs (sem W Jb rB (ft n))) (he : ∀ n Jb, XG W Jb (c.inner sc) k → Jb.κ.κ = [] → PE Jb.X elt (sem W Jb (rD W) (fe n)))
    (hsub : ∀ j ∈ tgS t, j ∈ ownOf c sc) (hs : isSet it = false) (h0 : ∀ d i σ l st, lcg 0 d i σ l st = .bad)
    (h1 : ∀ n d i σ l st, lcg (n + 1) d i σ l st = match nextI 3 d i st with
      | none => .bad
      | some none => .ok .non st
      | some (some e) => match store1 t e σ [] st with
        | none => .bad
        | some r => (ft n r.1 r.2).bind fun k st => cond k ((fe n r.1 st).bind fun x st => match lcPut l x st with
          | some st => lcg n d (i + 1) σ l st
          | none => .bad) (lcg n d (i + 1) σ l st))
    (hx : c.slotL x = some j) (hl : J.X.env.scope.names.lookup x = some .local) (hsw : swapsWith (.ListComp elt [⟨tg, it, ifs, 0⟩] sc pos) (some (.Name x p)) spos.line J.X.env = pure true)
    (n : Nat) : PS J.X (.Assign [.Name x p] (.ListComp elt [⟨tg, it, ifs, 0⟩] sc pos) spos) (semS W J fun σd st => F.to ((fi σd st).bind fun d st => (alloc (.lst []) st).bind fun l st => lcFin l (lcg n d 0 (MX.wipe σd (ownOf c sc)) l st)) fun d st => .nx (σd.set j (some d)) (putCell J.κ.κ j d st)) := by
  obtain ⟨_, k2, _⟩ := slotL_ok hx
  refine ⟨fun pins s σ H D I ⟨σd, st, ρ, l, S, pq⟩ => ?_⟩
  have hq : sem W J (rD W) (fun σd st => (fi σd st).bind fun d st => (alloc (.lst []) st).bind fun l st => lcFin l (lcg n d 0 (MX.wipe σd (ownOf c sc)) l st)) σ H (fun v H1 => D.nx (σ.set j (some v)) H1) := ⟨σd, st, ρ, l, S, (PostS.to (rl := rD W) pq).mono fun v H1 ⟨d, st1, ρ1, x1, s1, r1, p1⟩ => by
    obtain ⟨n1, S1⟩ := put_ok s1 (slotL_lt g hx I) r1
    have x2 : Ext st1.nx ρ1 H1 (putCell J.κ.κ j d st1).nx ρ1 H1 := by rw [n1]; exact .refl
    have l2 : LRel W (σd.set j (some d)) (σ.set j (some v)) (putCell J.κ.κ j d st1).nx ρ1 H1 := by rw [n1]; exact (l.mono x1).set r1
    exact p1 ρ1 H1 _ x2 l2 S1⟩
  rw [exec_Assign_Name_used _ _ _ _ hsw]
  refine wpAny_bind (wpAny_standAt (wpAny_bind ?_))
  show wpAny _ J.X.A (do let _ ← comprehension (.ListComp elt [⟨tg, it, ifs, 0⟩] sc pos) sc J.X.env (firstIterPos [⟨tg, it, ifs, 0⟩] pos) (newList []) false (eval it J.X.env) (some (assign (.Name x p) J.X.env))) _ _ s
  refine wpAny_bind (thn (lcw (Qf := fun _ s' => SP J.X pins D .next s') g.calm g.ndX I hi (blkS_ok g hb) (notSet hs) (lc_h g hb hg ht he hsub h0 h1 n hq) fun L C s' m H' I' q hn f => ?_) fun _ s' z => wpAny_pure (wpAny_pure z))
  show wpAny _ _ (assign (.Name x p) J.X.env (.ref L)) _ _ _
  refine wpAny_assign_Name (store_ok2 (v := V.ref L) I' g.ndX (by rw [g.N]; exact k2) (.inl hl) rfl (fun s2 I2 ⟨a, sb, hav⟩ => ?_) (.inr hl))
  obtain ⟨f0, f1, _, f3, f4, f5⟩ := f
  have ca : C ≠ a := hav.elim (fun z => by rw [z]; exact f1) fun z e => f4 x a z e.symm
  exact ⟨m, hn.sameBut sb ca, fun h3 sb3 => ⟨_, H', I2.turned (t' := s2.toks) (fun b o nb e => (sb3.2 b nb).trans e) f0 f1 f3 f4 f5, q⟩⟩
end
end MX
end
section
set_option Elab.async false
set_option linter.all false
set_option autoImplicit false
set_option maxRecDepth 100000
set_option maxHeartbeats 1000000
/-! All expressions. -/
namespace MX
open PySem PySem.Spec PyProof.Rows L2
theorem bsome {α β : Type} {o : Option α} {f : α → Option β} {b : β} (h : (o >>= f) = some b) : ∃ a, o = some a ∧ f a = some b := by
  cases o with
  | none => cases h
  | some a => exact ⟨a, rfl, h⟩
theorem no_star : ∀ (n : Nat) (c : CC), (∀ (e : Expr) (a : E), cE n c e = some (.star a) → False) ∧ ∀ (o : BoolOp) (vs : List Expr) (a : E), cB n c o vs = some (.star a) → False
  | 0, c => ⟨(fun _ _ h => nomatch h), fun _ _ _ h => nomatch h⟩
  | n + 1, c => by
    refine ⟨fun e a h => ?_, fun o vs a h => ?_⟩
    · unfold cE at h
      split at h
      all_goals first
        | exact (no_star n c).2 _ _ _ h
        | (repeat' (first
            | (refine absurd h ?_; simp; done)
            | (refine absurd (Option.some.inj (show some _ = some _ from h)) ?_; simp; done)
            | (obtain ⟨_, _, h⟩ := bsome h)
            | (split at h)))
    · unfold cB at h
      split at h
      · exact (no_star n c).1 _ _ h
      · obtain ⟨_, _, h⟩ := bsome h
        obtain ⟨_, _, h⟩ := bsome h
        cases o <;> cases h
      · cases h
section
variable {W : Wd} {J : Jx}
theorem pe_bad {e : Expr} : PE J.X e (sem W J (rD W) fun _ _ => .bad) := ⟨fun _ _ _ _ _ _ ⟨_, _, _, _, _, p⟩ => p.elim⟩
theorem pt_bad {e : Expr} : PT J.X e (sem W J rB fun _ _ => .bad) := ⟨fun _ _ _ _ _ _ ⟨_, _, _, _, _, p⟩ => p.elim⟩
theorem pw_bad {e : Expr} : PW J.X e (sem W J rB fun _ _ => .bad) := ⟨fun _ _ _ _ _ _ _ ⟨_, _, _, _, _, p⟩ => p.elim⟩
theorem pa_bad {es : List Expr} : PA J.X es (sem W J (rDs W) fun _ _ => .bad) := ⟨fun _ _ _ _ _ _ _ ⟨_, _, _, _, _, p⟩ => p.elim⟩
end
/-- what is known of the compiled expressions of fuel n -/
structure PX (W : Wd) (m k n : Nat) (J : Jx) (c : CC) : Prop where
  E : ∀ e ir, cE n c e = some ir → ∀ q, PE J.X e (sem W J (rD W) fun σd st => (evF W.G k (evs W.G m k) q).e ir σd J.κ.κ st)
  T : ∀ e ir, cE n c e = some ir → ∀ q, PT J.X e (sem W J rB fun σd st => (evF W.G k (evs W.G m k) q).t ir σd J.κ.κ st)
  B : ∀ o vs ir pos, cB n c o vs = some ir → ∀ q, PE J.X (.BoolOp o vs pos) (sem W J (rD W) fun σd st => (evF W.G k (evs W.G m k) q).e ir σd J.κ.κ st)
  BT : ∀ o vs ir pos, cB n c o vs = some ir → ∀ q, PW J.X (.BoolOp o vs pos) (sem W J rB fun σd st => (evF W.G k (evs W.G m k) q).t ir σd J.κ.κ st)
  L : ∀ es irs, cL n c es = some irs → ∀ q, PA J.X es (sem W J (rDs W) fun σd st => (evF W.G k (evs W.G m k) q).l irs σd J.κ.κ st)
  LT : ∀ a irs, cL n c [a] = some irs → ∃ ia, irs = [ia] ∧ ∀ q, PT J.X a (sem W J rB fun σd st => (evF W.G k (evs W.G m k) q).t ia σd J.κ.κ st)
  O : ∀ e ir, cO n c e = some ir → ∀ q, PO J.X e (sem W J rO fun σd st => stPart (evF W.G k (evs W.G m k) q) ir σd J.κ.κ st)
  I : ∀ e ir, cI n c e = some ir → ∀ tg, itOk tg ir = true → isSet e = false ∧ ∀ q, PI J.X tg e (sem W J (rIt W) fun σd st => stIt (evF W.G k (evs W.G m k) q) ir σd J.κ.κ st)
section
variable {W : Wd} {J : Jx} {c : CC} {m k n : Nat}
theorem px_zero : PX W m k 0 J c where
  E := fun _ _ h => nomatch h
  T := fun _ _ h => nomatch h
  B := fun _ _ _ _ h => nomatch h
  BT := fun _ _ _ _ h => nomatch h
  L := fun _ _ h => nomatch h
  LT := fun _ _ h => nomatch h
  O := fun _ _ h => nomatch h
  I := fun _ _ h => nomatch h
variable (B : BodyOk W m k) (X : ExprOk W m k) (Fo : FnsOk W) (F : GF W) (C : GC W) (g : XG W J c (k + 1)) (ih : ∀ J c, XG W J c (k + 1) → PX W m k n J c)
include B X Fo F C g ih
theorem px_L : ∀ es irs, cL (n + 1) c es = some irs → ∀ q, PA J.X es (sem W J (rDs W) fun σd st => (evF W.G k (evs W.G m k) q).l irs σd J.κ.κ st) := by
  intro es irs h q
  cases q with
  | zero => exact pa_bad
  | succ q =>
    unfold cL at h
    split at h
    · cases h; exact a_nil g
    · rename_i a p r
      obtain ⟨ia, ha, h⟩ := bsome h
      obtain ⟨ir, hr, h⟩ := bsome h
      cases h
      exact a_star g ((ih J c g).E a ia ha q) ((ih J c g).L r ir hr q)
    · rename_i a r hns
      obtain ⟨ia, ha, h⟩ := bsome h
      obtain ⟨ir, hr, h⟩ := bsome h
      cases h
      have hs : isStar a = false := by cases a <;> first | rfl | exact absurd rfl (hns _ _)
      have z := a_cons g hs ((ih J c g).E a ia ha q) ((ih J c g).L r ir hr q)
      have e : ∀ σd st, (evF W.G k (evs W.G m k) (q + 1)).l (ia :: ir) σd J.κ.κ st = ((evF W.G k (evs W.G m k) q).e ia σd J.κ.κ st).bind fun d st => ((evF W.G k (evs W.G m k) q).l ir σd J.κ.κ st).bind fun ds st => .ok (d :: ds) st := by
        intro σd st
        cases ia with
        | star zz => exact ((no_star n c).1 a zz ha).elim
        | _ => rfl
      have e2 : (fun σd st => (evF W.G k (evs W.G m k) (q + 1)).l (ia :: ir) σd J.κ.κ st) = fun σd st => ((evF W.G k (evs W.G m k) q).e ia σd J.κ.κ st).bind fun d st => ((evF W.G k (evs W.G m k) q).l ir σd J.κ.κ st).bind fun ds st => .ok (d :: ds) st := funext fun σd => funext fun st => e σd st
      rw [e2]
      exact z
theorem px_O : ∀ e ir, cO (n + 1) c e = some ir → ∀ q, PO J.X e (sem W J rO fun σd st => stPart (evF W.G k (evs W.G m k) q) ir σd J.κ.κ st) := by
  intro e ir h q
  unfold cO at h
  split at h
  · cases h; exact o_none g
  · rename_i e
    cases e1 : cE n c e with
    | none => rw [e1] at h; cases h
    | some ie =>
      rw [e1] at h
      cases h
      exact o_some g ((ih J c g).E e ie e1 q)
theorem px_LT : ∀ a irs, cL (n + 1) c [a] = some irs → ∃ ia, irs = [ia] ∧ ∀ q, PT J.X a (sem W J rB fun σd st => (evF W.G k (evs W.G m k) q).t ia σd J.κ.κ st) := by
  intro a irs h
  have nil : ∀ {r : List E}, cL n c [] = some r → r = [] := fun {r} hr => by
    cases n with
    | zero => cases hr
    | succ n => unfold cL at hr; cases hr; rfl
  unfold cL at h
  split at h
  · rename_i e; cases e
  · rename_i a' p r e
    cases e
    obtain ⟨ia, ha, h⟩ := bsome h
    obtain ⟨ir, hr, h⟩ := bsome h
    cases h
    have := nil hr
    subst this
    refine ⟨_, rfl, fun q => ?_⟩
    cases q with
    | zero => exact pt_bad
    | succ q => cases q <;> exact pt_bad
  · rename_i a' r _ e
    cases e
    obtain ⟨ia, ha, h⟩ := bsome h
    obtain ⟨ir, hr, h⟩ := bsome h
    cases h
    have := nil hr
    subst this
    exact ⟨_, rfl, (ih J c g).T _ _ ha⟩
end
end MX
end
section
set_option Elab.async false
set_option linter.all false
set_option autoImplicit false
set_option maxRecDepth 100000
set_option maxHeartbeats 1000000
namespace MX
open PySem
theorem no_it : ∀ (n : Nat) (c : CC), (∀ (e : Expr) (ir : E), cE n c e = some ir → isItE ir = false) ∧ ∀ (o : BoolOp) (vs : List Expr) (ir : E), cB n c o vs = some ir → isItE ir = false
  | 0, c => ⟨(fun _ _ h => nomatch h), fun _ _ _ h => nomatch h⟩
  | n + 1, c => by
    refine ⟨fun e ir h => ?_, fun o vs ir h => ?_⟩
    · unfold cE at h
      split at h
      all_goals first
        | exact (no_it n c).2 _ _ _ h
        | (repeat' (first
            | (refine absurd h ?_; simp; done)
            | (have z := Option.some.inj (show some _ = some _ from h); subst z; rfl)
            | (obtain ⟨_, _, h⟩ := bsome h)
            | (split at h)))
    · unfold cB at h
      split at h
      · exact (no_it n c).1 _ _ h
      · obtain ⟨_, _, h⟩ := bsome h
        obtain ⟨_, _, h⟩ := bsome h
        have h := Option.some.inj (show some _ = some _ from h)
        cases o <;> (subst h; rfl)
      · cases h
def isTestE : E → Bool
  | .not _ | .and _ _ | .or _ _ | .ite _ _ _ => true
  | _ => false
def isTestX : Expr → Bool
  | .UnaryOp .Not _ _ | .BoolOp .. | .IfExp .. => true
  | _ => false
theorem no_test (n : Nat) (c : CC) (e : Expr) (ir : E) (hx : isTestX e = false) (h : cE (n + 1) c e = some ir) : isTestE ir = false := by
  unfold cE at h
  split at h
  all_goals first
    | (cases hx; done)
    | (repeat' (first
        | (refine absurd h ?_; simp; done)
        | (have z := Option.some.inj (show some _ = some _ from h); subst z; rfl)
        | (obtain ⟨_, _, h⟩ := bsome h)
        | (split at h)))
theorem stT_def {r : Evs} {ir : E} {σ : Sg} {κ : List (Nat × Nat)} {st : St} (h : isTestE ir = false) : stT r ir σ κ st = (r.e ir σ κ st).bind fun x st => match tru st x with | some k => .ok k st | none => .bad := by
  cases ir <;> first | rfl | cases h
theorem stIt_def {r : Evs} {ir : E} {σ : Sg} {κ : List (Nat × Nat)} {st : St} (h : isItE ir = false) : stIt r ir σ κ st = stIter r ir σ κ st := by
  cases ir <;> first | rfl | cases h
theorem cE_set {n : Nat} {c : CC} {e : Expr} {ir : E} (h : cE n c e = some ir) : isSet e = false := by
  cases n with
  | zero => cases h
  | succ n => cases e <;> first | rfl | (unfold cE at h; cases h)
end MX
end
section
set_option Elab.async false
set_option linter.all false
set_option autoImplicit false
set_option maxRecDepth 100000
set_option maxHeartbeats 1000000
/-! All expressions: the cases. -/
namespace MX
open PySem PySem.Spec PyProof.Rows L2
section
variable {W : Wd} {J : Jx} {c : CC} {m k n : Nat}
variable (B : BodyOk W m k) (X : ExprOk W m k) (Fo : FnsOk W) (F : GF W) (C : GC W) (g : XG W J c (k + 1)) (ih : ∀ J c, XG W J c (k + 1) → PX W m k n J c)
include B X Fo F C g ih
theorem px_B : ∀ o vs ir pos, cB (n + 1) c o vs = some ir → ∀ q, PE J.X (.BoolOp o vs pos) (sem W J (rD W) fun σd st => (evF W.G k (evs W.G m k) q).e ir σd J.κ.κ st) := by
  intro o vs ir pos h q
  unfold cB at h
  split at h
  · exact pe_one ((ih J c g).E _ ir h q)
  · rename_i a b r
    obtain ⟨x, hx, h⟩ := bsome h
    obtain ⟨y, hy, h⟩ := bsome h
    have h := Option.some.inj (show some _ = some _ from h)
    cases q with
    | zero => exact pe_bad
    | succ q =>
      cases o with
      | And => subst h; exact e_and g ((ih J c g).E a x hx q) ((ih J c g).B .And (b :: r) y pos hy q)
      | Or => subst h; exact e_or g ((ih J c g).E a x hx q) ((ih J c g).B .Or (b :: r) y pos hy q)
  · cases h
theorem px_BT : ∀ o vs ir pos, cB (n + 1) c o vs = some ir → ∀ q, PW J.X (.BoolOp o vs pos) (sem W J rB fun σd st => (evF W.G k (evs W.G m k) q).t ir σd J.κ.κ st) := by
  intro o vs ir pos h q
  unfold cB at h
  split at h
  · cases o
    · exact pw_and1 ((ih J c g).T _ ir h q)
    · exact pw_or1 ((ih J c g).T _ ir h q)
  · rename_i a b r
    obtain ⟨x, hx, h⟩ := bsome h
    obtain ⟨y, hy, h⟩ := bsome h
    have h := Option.some.inj (show some _ = some _ from h)
    cases q with
    | zero => exact pw_bad
    | succ q =>
      cases o with
      | And => subst h; exact t_and g ((ih J c g).T a x hx q) ((ih J c g).BT .And (b :: r) y pos hy q)
      | Or => subst h; exact t_or g ((ih J c g).T a x hx q) ((ih J c g).BT .Or (b :: r) y pos hy q)
  · cases h
theorem px_call {fn : Expr} {es : List Expr} {p : Pos} {ir : E} (h : cE (n + 1) c (.Call fn es [] p) = some ir) (q : Nat) : PE J.X (.Call fn es [] p) (sem W J (rD W) fun σd st => (evF W.G k (evs W.G m k) (q + 1)).e ir σd J.κ.κ st) := by
  cases fn with
  | Name f fp =>
    unfold cE at h
    simp only at h
    cases hf : fewArgs es with
    | false => rw [hf] at h; simp at h
    | true =>
      rw [hf] at h
      simp only [Bool.not_true, Bool.false_eq_true, if_false] at h
      cases hs : c.slot f with
      | some i =>
        rw [hs] at h
        obtain ⟨irs, hl, h⟩ := bsome h
        cases h
        have z := e_callv (p := fp) (pos := p) B X Fo g hs hf ((ih J c g).L es irs hl q)
        have e : (fun σd st => (evF W.G k (evs W.G m k) (q + 1)).e (.callv i irs) σd J.κ.κ st) = fun σd st => (slot σd i st).bind fun f st => cond (canCall W.G st f) (((evF W.G k (evs W.G m k) q).l irs σd J.κ.κ st).bind fun ds st => stCallV W.G (evs W.G m k) k f ds st) .bad := by
          funext σd st
          cases q with
          | zero =>
            show ((slot σd i st).bind fun f st => cond (canCall W.G st f) R.bad R.bad) = (slot σd i st).bind fun f st => cond (canCall W.G st f) R.bad R.bad
            rfl
          | succ q => rfl
        rw [e]
        exact z
      | none =>
        rw [hs] at h
        simp only at h
        cases hg : c.glob f with
        | some gg =>
          rw [hg] at h
          simp only at h
          split at h
          · obtain ⟨irs, hl, h⟩ := bsome h
            cases h
            have z := e_mk (p := fp) (pos := p) B Fo F C g hg hf ((ih J c g).L es irs hl q)
            have e : (fun σd st => (evF W.G k (evs W.G m k) (q + 1)).e (.mk gg irs) σd J.κ.κ st) = fun σd st => match W.G.tab[gg]? with
              | some (.cls k') => match k'.init with
                | some f => ((evF W.G k (evs W.G m k) q).l irs σd J.κ.κ st).bind fun ds st => (alloc (.ins gg []) st).bind fun x st => (stCallF W.G (evs W.G m k) k f (x :: ds) st).bind fun v st => nonTo x v st
                | none => .bad
              | _ => .bad := by
              funext σd st
              cases q with
              | zero =>
                show (match W.G.tab[gg]? with
                  | some (.cls k') => (match k'.init with
                    | some f => R.bad
                    | none => R.bad)
                  | _ => R.bad) = _
                rfl
              | succ q => rfl
            rw [e]
            exact z
          · obtain ⟨irs, hl, h⟩ := bsome h
            cases h
            have z := e_call (p := fp) (pos := p) B Fo F g hg hf ((ih J c g).L es irs hl q)
            have e : (fun σd st => (evF W.G k (evs W.G m k) (q + 1)).e (.call gg irs) σd J.κ.κ st) = fun σd st => match W.G.tab[gg]? with
              | some (.fn _) => ((evF W.G k (evs W.G m k) q).l irs σd J.κ.κ st).bind fun ds st => stCallF W.G (evs W.G m k) k gg ds st
              | _ => .bad := by
              funext σd st
              cases q with
              | zero => rfl
              | succ q => rfl
            rw [e]
            exact z
        | none =>
          rw [hg] at h
          simp only at h
          cases hb : c.blt f with
          | false => rw [hb] at h; simp at h
          | true =>
            rw [hb] at h
            simp only [Bool.not_true, Bool.false_eq_true, if_false] at h
            split at h
            · rename_i e
              subst e
              split at h
              · rename_i a t tp
                obtain ⟨ia, ha, h⟩ := bsome h
                obtain ⟨bt, ht, h⟩ := bsome h
                cases h
                have hst : isStar a = false := by
                  obtain ⟨_, f2⟩ := few_ok hf
                  rw [List.any_cons, Bool.or_eq_false_iff] at f2
                  exact f2.1
                exact e_isi (p := fp) (q := tp) (pos := p) g F C hb ht hst ((ih J c g).E a ia ha q)
              · cases h
            · split at h
              · cases h
              · rename_i hne
                obtain ⟨bf, hbf, h⟩ := bsome h
                obtain ⟨irs, hl, h⟩ := bsome h
                cases h
                cases es with
                | nil => exact absurd rfl hne
                | cons a r => exact e_bi (p := fp) (pos := p) g F g.gu hb hbf hf ((ih J c g).L (a :: r) irs hl q)
  | Attribute o mm mp =>
    unfold cE at h
    simp only at h
    split at h
    · cases h
    · rename_i hh
      simp only [Bool.or_eq_true, Bool.not_eq_true', not_or, Bool.not_eq_false] at hh
      obtain ⟨hf, hr⟩ := hh
      cases hi : ixOf mm c.at_ 0 with
      | some kk =>
        rw [hi] at h
        simp only at h
        split at h
        · rename_i hl
          obtain ⟨io, ho, h⟩ := bsome h
          obtain ⟨irs, hes, h⟩ := bsome h
          cases h
          have z := e_meth (p := mp) (pos := p) B Fo C g hr hl hi hf ((ih J c g).E o io ho q) ((ih J c g).L es irs hes q)
          cases q with
          | zero => exact ⟨fun _ _ _ _ _ _ ⟨_, _, _, _, _, p⟩ => p.elim⟩
          | succ q => exact z
        · cases h
      | none =>
        rw [hi] at h
        simp only at h
        split at h
        · rename_i hl
          rw [Bool.and_eq_true] at hl
          obtain ⟨io, ho, h⟩ := bsome h
          obtain ⟨bm, hbm, h⟩ := bsome h
          obtain ⟨irs, hes, h⟩ := bsome h
          cases h
          cases es with
          | nil => exact absurd hl.2 (by simp)
          | cons a r => exact e_bm (p := mp) (pos := p) g hbm hf hr hl.1 ((ih J c g).E o io ho q) ((ih J c g).L (a :: r) irs hes q)
        · cases h
  | _ =>
    unfold cE at h
    simp only at h
    cases h
theorem px_I : ∀ e ir, cI (n + 1) c e = some ir → ∀ tg, itOk tg ir = true → isSet e = false ∧ ∀ q, PI J.X tg e (sem W J (rIt W) fun σd st => stIt (evF W.G k (evs W.G m k) q) ir σd J.κ.κ st) := by
  have plain : ∀ e ir tg, cE n c e = some ir → isSet e = false ∧ ∀ q, PI J.X tg e (sem W J (rIt W) fun σd st => stIt (evF W.G k (evs W.G m k) q) ir σd J.κ.κ st) := by
    intro e ir tg h
    refine ⟨cE_set h, fun q => ?_⟩
    have e2 : (fun σd st => stIt (evF W.G k (evs W.G m k) q) ir σd J.κ.κ st) = fun σd st => stIter (evF W.G k (evs W.G m k) q) ir σd J.κ.κ st := funext fun σd => funext fun st => stIt_def ((no_it n c).1 e ir h)
    rw [e2]
    exact i_seq g ((ih J c g).E e ir h q)
  intro e ir h tg ht
  unfold cI at h
  split at h
  · rename_i f fp es p
    split at h
    · rename_i hh
      rw [Bool.and_eq_true] at hh
      obtain ⟨hb, hf⟩ := hh
      refine ⟨rfl, fun q => ?_⟩
      split at h
      · rename_i e; subst e
        split at h
        · rename_i a
          obtain ⟨ia, ha, h⟩ := bsome h
          cases h
          exact i_rng1 g F hb hf ((ih J c g).E a ia ha q)
        · rename_i a b
          obtain ⟨ia, ha, h⟩ := bsome h
          obtain ⟨ib, hb2, h⟩ := bsome h
          cases h
          exact i_rng2 g F hb hf ((ih J c g).E a ia ha q) ((ih J c g).E b ib hb2 q)
        · cases h
      split at h
      · rename_i e; subst e
        split at h
        · rename_i a
          obtain ⟨ia, ha, h⟩ := bsome h
          cases h
          cases tg <;> first | (cases ht; done) | exact i_enu g F hb hf ((ih J c g).E a ia ha q)
        · cases h
      split at h
      · rename_i e; subst e
        split at h
        · rename_i a b
          obtain ⟨ia, ha, h⟩ := bsome h
          obtain ⟨ib, hb2, h⟩ := bsome h
          cases h
          cases tg <;> first | (cases ht; done) | exact i_zip g F hb hf ((ih J c g).E a ia ha q) ((ih J c g).E b ib hb2 q)
        · cases h
      · exact (plain _ ir tg h).2 q
    · exact plain _ ir tg h
  · exact plain _ ir tg h
end
end MX
end
section
set_option Elab.async false
set_option linter.all false
set_option autoImplicit false
set_option maxRecDepth 100000
set_option maxHeartbeats 1000000
/-! All expressions: the end. -/
namespace MX
open PySem PySem.Spec PyProof.Rows L2
theorem tgOf_ok {c : CC} {tg : Expr} {t : T} (h : tgOf c tg = some t) : (∃ x p i, tg = .Name x p ∧ t = .nm i ∧ c.slotL x = some i) ∨
    ∃ es kk p is, tg = .Tuple es kk p ∧ t = .tp is ∧ (es.mapM fun (e : Expr) => match e with | .Name x _ => c.slotL x | _ => none) = some is := by
  cases tg with
  | Name x p =>
    have h : (c.slotL x).map T.nm = some t := h
    cases e : c.slotL x with
    | none => rw [e] at h; cases h
    | some i => rw [e] at h; cases h; exact .inl ⟨x, p, i, rfl, rfl, e⟩
  | Tuple es kk p =>
    have h : ((es.mapM fun (e : Expr) => match e with | .Name x _ => c.slotL x | _ => none).map T.tp) = some t := h
    cases e : (es.mapM fun (e : Expr) => match e with | .Name x _ => c.slotL x | _ => none) with
    | none => rw [e] at h; cases h
    | some is => rw [e] at h; cases h; exact .inr ⟨es, kk, p, is, rfl, rfl, e⟩
  | _ => cases h
theorem slotL_ix {c : CC} {x : Str} {i : Nat} (e : c.slotL x = some i) : ixOf x c.N 0 = some i := by
  unfold CC.slotL at e
  split at e
  · split at e
    · exact e
    · cases e
  · split at e
    · exact e
    · cases e
  · cases e
section
variable {W : Wd} {J : Jx} {c : CC} {m k n : Nat}
variable (B : BodyOk W m k) (X : ExprOk W m k) (Fo : FnsOk W) (F : GF W) (C : GC W) (g : XG W J c (k + 1)) (ih : ∀ J c, XG W J c (k + 1) → PX W m k n J c)
include B X Fo F C g ih
/-- what is known of a comprehension's parts -/
theorem lc_parts {elt tg it : Expr} {ifs : List Expr} {sc : Scope} {pos : Pos} {ir : E} (h : cE (n + 1) c (.ListComp elt [⟨tg, it, ifs, 0⟩] sc pos) = some ir) :
    ∃ (iit ielt : E) (t : T) (iifs : List E), ir = .lc ielt t iit iifs (ownOf c sc) ∧ blkS c sc = true ∧ isSet it = false ∧ (∀ q, PI J.X tg it (sem W J (rIt W) fun σd st => stIt (evF W.G k (evs W.G m k) q) iit σd J.κ.κ st)) ∧ (∀ Jb, XG W Jb (c.inner sc) (k + 1) → PG Jb.X tg (rTg W Jb t)) ∧ (∀ j ∈ tgS t, j ∈ ownOf c sc) ∧
      (∀ q Jb, XG W Jb (c.inner sc) (k + 1) → Jb.κ.κ = [] → PTs Jb.X ifs (sem W Jb rB fun σd st => testAll (evF W.G k (evs W.G m k) q) iifs σd [] st)) ∧ (∀ q Jb, XG W Jb (c.inner sc) (k + 1) → Jb.κ.κ = [] → PE Jb.X elt (sem W Jb (rD W) fun σd st => (evF W.G k (evs W.G m k) q).e ielt σd [] st)) := by
  unfold cE at h
  simp only at h
  obtain ⟨iit, hit, h⟩ := bsome h
  split at h
  · rename_i hh
    rw [Bool.and_eq_true] at hh
    obtain ⟨ielt, helt, h⟩ := bsome h
    obtain ⟨t, htg, h⟩ := bsome h
    obtain ⟨iifs, hifs, h⟩ := bsome h
    cases h
    obtain ⟨hset, hI⟩ := (ih J c g).I it iit hit tg hh.1
    have own1 : ∀ {x : Str} {i : Nat}, (c.inner sc).slotL x = some i → i ∈ ownOf c sc := fun {x i} e => by
      obtain ⟨h1, _, _⟩ := slotL_ok e
      have e2 : ixOf x c.N 0 = some i := slotL_ix (c := c.inner sc) e
      rw [← ownP_snd]
      rcases h1 with h1 | h1
      · exact List.mem_map.mpr ⟨(x, i), mem_ownP (PySem.mem_of_lookup h1) (.inl rfl) e2, rfl⟩
      · exact List.mem_map.mpr ⟨(x, i), mem_ownP (PySem.mem_of_lookup h1) (.inr rfl) e2, rfl⟩
    have hgs : (∀ Jb, XG W Jb (c.inner sc) (k + 1) → PG Jb.X tg (rTg W Jb t)) ∧ ∀ j ∈ tgS t, j ∈ ownOf c sc := by
      rcases tgOf_ok htg with ⟨x, p, i, rfl, rfl, e⟩ | ⟨es, kk, p, is, rfl, rfl, e⟩
      · exact ⟨fun Jb gb => g_nm gb e, fun j hj => by cases List.mem_singleton.mp hj; exact own1 e⟩
      · refine ⟨fun Jb gb => g_tp gb e, fun j hj => ?_⟩
        obtain ⟨a1, a2⟩ := mapM_get e
        obtain ⟨r, hr⟩ := List.getElem?_of_mem (show j ∈ is from hj)
        have hl : r < es.length := by rw [← a1]; exact (List.getElem?_eq_some_iff.mp hr).1
        obtain ⟨i', b1, b2⟩ := a2 r _ (List.getElem?_eq_getElem hl)
        rw [hr] at b1
        cases b1
        split at b2
        · exact own1 b2
        · cases b2
    obtain ⟨hg, hsub⟩ := hgs
    have ht : ∀ q Jb, XG W Jb (c.inner sc) (k + 1) → Jb.κ.κ = [] → PTs Jb.X ifs (sem W Jb rB fun σd st => testAll (evF W.G k (evs W.G m k) q) iifs σd [] st) := fun q Jb gb hκ => by
      cases ifs with
      | nil =>
        have e : iifs = [] := by
          cases n with
          | zero => cases hifs
          | succ n => unfold cL at hifs; cases hifs; rfl
        subst e
        exact ⟨fun pins s σ H Q I ⟨σd, st, ρ, l, S, p⟩ => pts_nil.run pins s σ H Q I (p.now S rfl)⟩
      | cons a r =>
        cases r with
        | nil =>
          obtain ⟨ia, rfl, hT⟩ := (ih Jb _ gb).LT a iifs hifs
          have z := hT q
          rw [hκ] at z
          exact pts_one z
        | cons b r =>
          have e : ∃ x y z, iifs = x :: y :: z := by
            cases n with
            | zero => cases hifs
            | succ n =>
              unfold cL at hifs
              split at hifs
              · rename_i e; cases e
              all_goals
                rename_i e
                cases e
                obtain ⟨x, _, hifs⟩ := bsome hifs
                obtain ⟨ys, hys, hifs⟩ := bsome hifs
                cases hifs
                cases n with
                | zero => cases hys
                | succ n =>
                  unfold cL at hys
                  split at hys
                  · rename_i e; cases e
                  all_goals
                    obtain ⟨y, _, hys⟩ := bsome hys
                    obtain ⟨zs, _, hys⟩ := bsome hys
                    cases hys
                    exact ⟨_, _, _, rfl⟩
          obtain ⟨x, y, z, rfl⟩ := e
          exact ⟨fun _ _ _ _ _ _ ⟨_, _, _, _, _, p⟩ => p.elim⟩
    have he : ∀ q Jb, XG W Jb (c.inner sc) (k + 1) → Jb.κ.κ = [] → PE Jb.X elt (sem W Jb (rD W) fun σd st => (evF W.G k (evs W.G m k) q).e ielt σd [] st) := fun q Jb gb hκ => by
      have z := (ih Jb _ gb).E elt ielt helt q
      rw [hκ] at z
      exact z
    exact ⟨iit, ielt, t, iifs, rfl, hh.2, hset, hI, hg, hsub, ht, he⟩
  · cases h
omit B X Fo F C g ih in
theorem lcg_turn (G : Gb) (k0 : Nat) (rc : Evs) (ielt : E) (t : T) (iifs : List E) (q : Nat) (d : D) (i : Nat) (σ : Sg) (l : D) (st : MX.St) : (evF G k0 rc (q + 1)).lcg ielt t d iifs i σ l st = match nextI 3 d i st with
    | none => .bad
    | some none => .ok .non st
    | some (some e) => match store1 t e σ [] st with
      | none => .bad
      | some r => (testAll (evF G k0 rc q) iifs r.1 [] r.2).bind fun k st => cond k (((evF G k0 rc q).e ielt r.1 [] st).bind fun x st => match lcPut l x st with
        | some st => (evF G k0 rc q).lcg ielt t d iifs (i + 1) σ l st
        | none => .bad) ((evF G k0 rc q).lcg ielt t d iifs (i + 1) σ l st) := by
  show stLcg (evF G k0 rc q) ielt t d iifs i σ l st = _
  unfold stLcg
  cases nextI 3 d i st with
  | none => rfl
  | some o =>
    cases o with
    | none => rfl
    | some e =>
      simp only
      cases store1 t e σ [] st with
      | none => rfl
      | some r => rfl
theorem px_lc {elt tg it : Expr} {ifs : List Expr} {sc : Scope} {pos : Pos} {ir : E} (h : cE (n + 1) c (.ListComp elt [⟨tg, it, ifs, 0⟩] sc pos) = some ir) (q : Nat) :
    PE J.X (.ListComp elt [⟨tg, it, ifs, 0⟩] sc pos) (sem W J (rD W) fun σd st => (evF W.G k (evs W.G m k) (q + 1)).e ir σd J.κ.κ st) := by
  obtain ⟨iit, ielt, t, iifs, rfl, hb, hset, hI, hg, hsub, ht, he⟩ := lc_parts B X Fo F C g ih h
  exact e_lc g hb (hI q) hg ht he hsub hset (lcg := fun q d i σ l st => (evF W.G k (evs W.G m k) q).lcg ielt t d iifs i σ l st) (fun _ _ _ _ _ => rfl) (fun q d i σ l st => lcg_turn W.G k (evs W.G m k) ielt t iifs q d i σ l st) q
end
end MX
end
section
set_option Elab.async false
set_option linter.all false
set_option autoImplicit false
set_option maxRecDepth 100000
set_option maxHeartbeats 1000000
/-! All expressions, tests, iterables: one theorem. -/
namespace MX
open PySem PySem.Spec PyProof.Rows L2
section
variable {W : Wd} {J : Jx} {c : CC} {m k n : Nat}
variable (B : BodyOk W m k) (X : ExprOk W m k) (Fo : FnsOk W) (F : GF W) (C : GC W) (g : XG W J c (k + 1)) (ih : ∀ J c, XG W J c (k + 1) → PX W m k n J c)
include B X Fo F C g ih
theorem px_E : ∀ e ir, cE (n + 1) c e = some ir → ∀ q, PE J.X e (sem W J (rD W) fun σd st => (evF W.G k (evs W.G m k) q).e ir σd J.κ.κ st) := by
  intro e ir h q
  have I := ih J c g
  cases q with
  | zero => exact pe_bad
  | succ q =>
    cases e with
    | Name x p =>
      unfold cE at h
      simp only at h
      cases hs : c.slot x with
      | some i => rw [hs] at h; cases h; exact e_var g hs
      | none =>
        rw [hs] at h
        cases hg : c.glob x with
        | some gg =>
          rw [hg] at h
          simp only at h
          split at h
          · cases h
          · cases h; exact e_glo g F hg
        | none => rw [hg] at h; cases h
    | Constant v kk p =>
      unfold cE at h
      cases v with
      | none => cases h; exact e_con g pe_non fun _ _ _ => .non
      | bool b => cases h; exact e_con g pe_bl fun _ _ _ => .bl b
      | int i => cases h; exact e_con g pe_int fun _ _ _ => .int i
      | str x =>
        cases h
        refine e_con g pe_str fun _ _ _ => ?_
        have z := RD.str (K := W.K) (ad := W.ad) (nx := ‹_›) (ρ := ‹_›) (H := ‹_›) x.cps.toList
        have e : (⟨x.cps.toList.toArray⟩ : Str) = x := by simp
        rw [e] at z
        exact z
      | _ => cases h
    | BinOp a o b p =>
      unfold cE at h
      obtain ⟨o', ho, h⟩ := bsome h
      obtain ⟨ia, ha, h⟩ := bsome h
      obtain ⟨ib, hb, h⟩ := bsome h
      cases h
      exact e_op g ho (I.E a ia ha q) (I.E b ib hb q)
    | UnaryOp o a p =>
      unfold cE at h
      cases o with
      | USub => obtain ⟨ia, ha, h⟩ := bsome h; cases h; exact e_neg g (I.E a ia ha q)
      | Not => obtain ⟨ia, ha, h⟩ := bsome h; cases h; exact e_not g (I.E a ia ha q)
      | _ => cases h
    | Compare a ops bs p =>
      unfold cE at h
      split at h
      all_goals first
        | (cases h; done)
        | skip
      all_goals rename_i hh
      all_goals cases hh
      · split at h
        · rename_i hc
          obtain ⟨ia, ha, h⟩ := bsome h
          obtain ⟨ib, hb, h⟩ := bsome h
          cases h
          exact e_cmp g hc (I.E _ ia ha q) (I.E _ ib hb q)
        · cases h
      · split at h
        · rename_i hc
          rw [Bool.and_eq_true] at hc
          obtain ⟨ia, ha, h⟩ := bsome h
          obtain ⟨ib, hb, h⟩ := bsome h
          obtain ⟨id, hd, h⟩ := bsome h
          cases h
          exact e_chain g hc.1 hc.2 (I.E _ ia ha q) (I.E _ ib hb q) (I.E _ id hd q)
        · cases h
    | BoolOp o vs p =>
      unfold cE at h
      exact I.B o vs ir p h (q + 1)
    | IfExp t a b p =>
      unfold cE at h
      obtain ⟨it, ht, h⟩ := bsome h
      obtain ⟨ia, ha, h⟩ := bsome h
      obtain ⟨ib, hb, h⟩ := bsome h
      cases h
      exact e_ite g (I.T t it ht q) (I.E a ia ha q) (I.E b ib hb q)
    | Tuple es x1 p =>
      unfold cE at h
      obtain ⟨is, hs, h⟩ := bsome h
      cases h
      exact e_tup g (I.L es is hs q)
    | List es p =>
      unfold cE at h
      obtain ⟨is, hs, h⟩ := bsome h
      cases h
      exact e_lst g (I.L es is hs q)
    | Attribute o f p =>
      unfold cE at h
      simp only at h
      split at h
      · cases h
      · rename_i hr
        obtain ⟨io, ho, h⟩ := bsome h
        obtain ⟨i, hi, h⟩ := bsome h
        cases h
        exact e_attr g C (by simpa using hr) hi (I.E o io ho q)
    | Subscript a i p =>
      unfold cE at h
      split at h
      all_goals first
        | (cases h; done)
        | skip
      all_goals rename_i hh
      all_goals cases hh
      · obtain ⟨ia, ha, h⟩ := bsome h
        obtain ⟨il, hl, h⟩ := bsome h
        obtain ⟨ihh, hu, h⟩ := bsome h
        cases h
        exact e_slc g (I.E _ ia ha q) (I.O _ il hl q) (I.O _ ihh hu q)
      · split at h
        · cases h
        · rename_i hs
          obtain ⟨ia, ha, h⟩ := bsome h
          obtain ⟨ii, hi, h⟩ := bsome h
          cases h
          exact e_sub g (by simpa using hs) (I.E _ ia ha q) (I.E _ ii hi q)
    | Call fn es kws p =>
      cases kws with
      | nil => exact px_call B X Fo F C g ih h q
      | cons _ _ =>
        unfold cE at h
        split at h <;> first | (cases h; done) | (rename_i hh; cases hh)
    | ListComp elt gens sc p =>
      have h0 := h
      unfold cE at h
      split at h
      all_goals first
        | (cases h; done)
        | skip
      all_goals rename_i hh
      all_goals cases hh
      exact px_lc B X Fo F C g ih h0 q
    | Lambda a body sc p =>
      unfold cE at h
      simp only at h
      split at h
      · cases h
      · rename_i hl
        obtain ⟨ps, hp, h⟩ := bsome h
        split at h
        · cases h
        · rename_i hB
          obtain ⟨ib, hb, h⟩ := bsome h
          obtain ⟨is, hi, h⟩ := bsome h
          cases h
          refine e_lam g (by simpa using hl) hp (by simpa using hB) hi (n := n) ?_
          have e : cLam W ps sc = { c with N := ps ++ frees sc, sc := sc, lam := false } := by
            unfold cLam
            rw [← g.gl, ← g.cl, ← g.at_]
          rw [e]
          exact hb
    | _ => unfold cE at h; cases h
theorem px_T : ∀ e ir, cE (n + 1) c e = some ir → ∀ q, PT J.X e (sem W J rB fun σd st => (evF W.G k (evs W.G m k) q).t ir σd J.κ.κ st) := by
  intro e ir h q
  have I := ih J c g
  have hE := px_E B X Fo F C g ih e ir h
  cases q with
  | zero => exact pt_bad
  | succ q =>
    have plain : isTestX e = false → (∀ whole, isTrue e J.X.env whole = (do let v ← whole; standAt e.pos; holding [v] (truthy v))) → PT J.X e (sem W J rB fun σd st => (evF W.G k (evs W.G m k) (q + 1)).t ir σd J.κ.κ st) := fun hx he => by
      have z := t_plain g (hE q) he
      have e1 := no_test n c e ir hx h
      have e2 : (fun σd st => (evF W.G k (evs W.G m k) (q + 1)).t ir σd J.κ.κ st) = fun σd st => ((evF W.G k (evs W.G m k) q).e ir σd J.κ.κ st).bind fun x st => match tru st x with | some k => .ok k st | none => .bad := funext fun σd => funext fun st => stT_def e1
      rw [e2]
      exact z
    cases e with
    | UnaryOp o a p =>
      cases o with
      | Not =>
        unfold cE at h
        obtain ⟨ia, ha, h⟩ := bsome h
        cases h
        exact t_not g (I.T a ia ha q)
      | _ => exact plain rfl fun _ => rfl
    | BoolOp o vs p =>
      unfold cE at h
      exact (I.BT o vs ir p h (q + 1)).pt
    | IfExp t a b p =>
      unfold cE at h
      obtain ⟨it, ht, h⟩ := bsome h
      obtain ⟨ia, ha, h⟩ := bsome h
      obtain ⟨ib, hb, h⟩ := bsome h
      cases h
      exact t_ite g (I.T t it ht q) (I.T a ia ha q) (I.T b ib hb q)
    | Compare a ops bs p =>
      unfold cE at h
      split at h
      all_goals first
        | (cases h; done)
        | skip
      all_goals rename_i hh
      all_goals cases hh
      · split at h
        · rename_i hc
          obtain ⟨ia, ha, h⟩ := bsome h
          obtain ⟨ib, hb, h⟩ := bsome h
          cases h
          cases q with
          | zero => exact pt_bad
          | succ q => exact t_cmp g hc (I.E _ ia ha q) (I.E _ ib hb q)
        · cases h
      · split at h
        · rename_i hc
          rw [Bool.and_eq_true] at hc
          obtain ⟨ia, ha, h⟩ := bsome h
          obtain ⟨ib, hb, h⟩ := bsome h
          obtain ⟨id, hd, h⟩ := bsome h
          cases h
          cases q with
          | zero => exact pt_bad
          | succ q => exact t_chain g hc.1 hc.2 (I.E _ ia ha q) (I.E _ ib hb q) (I.E _ id hd q)
        · cases h
    | _ => exact plain rfl fun _ => rfl
end
theorem px_all {W : Wd} {m k : Nat} (B : BodyOk W m k) (X : ExprOk W m k) (Fo : FnsOk W) (F : GF W) (C : GC W) : ∀ (n : Nat) (J : Jx) (c : CC), XG W J c (k + 1) → PX W m k n J c
  | 0, _, _, _ => px_zero
  | n + 1, J, c, g => ⟨px_E B X Fo F C g (px_all B X Fo F C n), px_T B X Fo F C g (px_all B X Fo F C n), px_B B X Fo F C g (px_all B X Fo F C n), px_BT B X Fo F C g (px_all B X Fo F C n), px_L B X Fo F C g (px_all B X Fo F C n), px_LT B X Fo F C g (px_all B X Fo F C n),
    px_O B X Fo F C g (px_all B X Fo F C n), px_I B X Fo F C g (px_all B X Fo F C n)⟩
/-- the next depth's expressions -/
theorem exprOk_succ {W : Wd} {m k : Nat} (B : BodyOk W m k) (X : ExprOk W m k) (Fo : FnsOk W) (F : GF W) (C : GC W) : ExprOk W m (k + 1) := fun J c g n e ir h => (px_all B X Fo F C n J c g).E e ir h m
end MX
end
section
set_option Elab.async false
set_option linter.all false
set_option autoImplicit false
set_option maxRecDepth 100000
set_option maxHeartbeats 1000000
/-! Targets of assignments. -/
namespace MX
open PySem PySem.Spec PyProof.Rows L2
def onlyNx (Q : L2.St → Hp → Prop) : Ends := { nx := Q, rt := fun _ _ => False }
def rStore (W : Wd) (J : Jx) (r : Evs) (t : Tg) : TG := fun v σ H Q => ∃ (σd : Sg) (st : St) (ρ : Asg) (d : D), LRel W σd σ st.nx ρ H ∧ SRel W J.X J.κ σ st ρ H ∧ W.RD st.nx ρ H d v ∧ PostS W J st.nx ρ H (onlyNx Q) (stStore W.G r t d σd J.κ.κ st)
def rStores (W : Wd) (J : Jx) (r : Evs) (ts : List Tg) : TGs := fun vs σ H Q => ∃ (σd : Sg) (st : St) (ρ : Asg) (ds : List D), LRel W σd σ st.nx ρ H ∧ SRel W J.X J.κ σ st ρ H ∧ W.RDs st.nx ρ H ds vs ∧ PostS W J st.nx ρ H (onlyNx Q) (stStores W.G r ts ds σd J.κ.κ st)
section
variable {W : Wd} {J : Jx} {c : CC} {m k n : Nat}
theorem g_store (C : GC W) (g : XG W J c (k + 1)) (P : PX W m k n J c) {t : Expr} {tgt : Tg} (h : cTg n c t = some tgt) (q : Nat) : PG J.X t (rStore W J (evF W.G k (evs W.G m k) q) tgt) := by
  cases t with
  | Name x p =>
    have h : (c.slotL x).map Tg.nm = some tgt := h
    cases e : c.slotL x with
    | none => rw [e] at h; cases h
    | some i =>
      rw [e] at h
      cases h
      refine ⟨fun pins s σ H v u Q I r ⟨σd, st, ρ, d, l, S, rd, pp⟩ => ?_⟩
      obtain ⟨n1, S1⟩ := put_ok S (slotL_lt g e I) rd
      have x2 : Ext st.nx ρ H (putCell J.κ.κ i d st).nx ρ H := by rw [n1]; exact .refl
      have l2 : LRel W (σd.set i (some d)) (σ.set i (some v)) (putCell J.κ.κ i d st).nx ρ H := by rw [n1]; exact l.set rd
      exact (pg_nm g e).run pins s σ H v u Q I r (pp ρ H _ x2 l2 S1)
  | Attribute o f p =>
    have h : (if (!recvOk o) = true then none else (do return Tg.at (← cE n c o) (← ixOf f c.at_ 0))) = some tgt := h
    split at h
    · cases h
    · obtain ⟨io, ho, h⟩ := bsome h
      obtain ⟨i, hi, h⟩ := bsome h
      cases h
      rw [g.at_] at hi
      obtain ⟨hil, rfl⟩ := at_of hi
      refine ⟨fun pins s σ H v u Q I r ⟨σd, st, ρ, d, l, S, rd, pp⟩ => ?_⟩
      have pp : PostS W J st.nx ρ H (onlyNx Q) (F.to ((evF W.G k (evs W.G m k) q).e io σd J.κ.κ st) fun x st => match x with
        | .loc p => match st.get p with
          | some (.ins c fs) => cond (Nat.ble fs.length 900 && notM W.G c i) (.nx σd (st.set p (.ins c (MX.putF i d fs)))) .bad
          | _ => .bad
        | _ => .bad) := pp
      show wpAny _ _ (do
        let ov ← holding [u] (eval o J.X.env)
        standAt p.atName
        holding [u, ov] (setAttr ov (nmAt W.at_ i) u)
        release [u, ov] []) _ _ s
      refine wpAny_bind (wpAny_holding (thn ((P.E o io ho q).run pins s σ H _ I ⟨σd, st, ρ, l, S, PostS.to (rl := rD W) pp⟩) fun ov s1 ⟨w, H1, I1, rw1, e, st1, ρ1, x1, s1', r1, p1⟩ => ?_))
      cases r1 with
      | @loc nn a h1 h2 =>
        have p1 : PostS W J st1.nx ρ1 H1 (onlyNx Q) (match st1.get nn with
          | some (.ins c fs) => cond (Nat.ble fs.length 900 && notM W.G c i) (F.nx σd (st1.set nn (.ins c (MX.putF i d fs)))) F.bad
          | _ => F.bad) := p1
        split at p1
        · rename_i q' fs e
          obtain ⟨hb, p1⟩ := condS p1
          rw [Bool.and_eq_true] at hb
          obtain ⟨b, ro⟩ := s1'.at h1 h2 e
          cases ro with
          | ins e1 e2 =>
            obtain ⟨k1, k2⟩ := notM_of C hb.2 hil
            rw [← g.K] at k1 k2
            cases (show ov = Value.ref a from rw1)
            have rf := RF.put C.nd hil (RD.mono x1 rd) e2
            obtain ⟨x3, S3⟩ := chg_ins s1' h1 h2 e1 rf
            have hlen := Nat.le_of_ble_eq_true hb.1
            refine wpAny_bind (wpAny_standAt (wpAny_bind (wpAny_holding (setattr_ok I1 e1 k1 k2 (by rw [← RF.length e2]; omega) r fun s3 I3 => ?_))))
            exact wpAny_release ⟨σ, _, I3, p1 ρ1 _ σ x3 ((l.mono x1).mono x3) S3⟩
        · exact p1.elim
      | _ => exact p1.elim
  | Subscript o i p =>
    have h : (if isSlice i = true then none else (do return Tg.ix (← cE n c o) (← cE n c i))) = some tgt := h
    split at h
    · cases h
    · rename_i hs
      have hs : isSlice i = false := by simpa using hs
      obtain ⟨io, ho, h⟩ := bsome h
      obtain ⟨ii, hi, h⟩ := bsome h
      cases h
      refine ⟨fun pins s σ H v u Q I r ⟨σd, st, ρ, d, l, S, rd, pp⟩ => ?_⟩
      have pp : PostS W J st.nx ρ H (onlyNx Q) (F.to ((evF W.G k (evs W.G m k) q).e io σd J.κ.κ st) fun x st => F.to ((evF W.G k (evs W.G m k) q).e ii σd J.κ.κ st) fun y st => match setIx x y d st with
        | some st => .nx σd st
        | none => .bad) := pp
      refine (pg_sub (P.E o io ho q) (P.E i ii hi q) set_list fun v => asgSub hs).run pins s σ H v u Q I r ⟨σd, st, ρ, l, S, (PostS.to (rl := rD W) pp).mono fun w H2 ⟨x, st2, ρ2, x2, s2, r2, p2⟩ => ?_⟩
      refine ⟨σd, st2, ρ2, l.mono x2, s2, (PostS.to (rl := rD W) p2).mono fun w3 H3 ⟨z, st3, ρ3, x3, s3, r3, p3⟩ => ?_⟩
      have r2 := RD.mono x3 r2
      have p3 : PostS W J st3.nx ρ3 H3 (onlyNx Q) (match setIx x z d st3 with | some st => F.nx σd st | none => F.bad) := p3
      cases r2 with
      | @loc nn a h1 h2 =>
        cases r3 with
        | int kk =>
          have e0 : setIx (.loc nn) (.int kk) d st3 = (match st3.get nn with
            | some (.lst xs) => (match normIx xs.length kk with
              | some j => some (st3.set nn (.lst (xs.set j d)))
              | none => none)
            | _ => none) := rfl
          rw [e0] at p3
          split at p3
          · rename_i st4 e4
            split at e4
            · rename_i xs e
              cases e5 : normIx xs.length kk with
              | none => rw [e5] at e4; cases e4
              | some j =>
                rw [e5] at e4
                cases e4
                obtain ⟨b, ro⟩ := s3.at h1 h2 e
                cases ro with
                | lst e1 e2 =>
                  obtain ⟨x4, S4⟩ := chg_lst s3 h1 h2 e1 (RDs.set j e2 (RD.mono x3 (RD.mono x2 rd)))
                  rw [normIx_ixN, e2.length] at e5
                  exact ⟨a, _, kk, j, rfl, rfl, e1, e5, p3 ρ3 _ σ x4 (((l.mono x2).mono x3).mono x4) S4⟩
            · cases e4
          · exact p3.elim
        | _ => exact p3.elim
      | _ => cases r3 <;> exact p3.elim
  | _ => cases h
theorem cTg_plain {t : Expr} {tgt : Tg} (h : cTg n c t = some tgt) {es : List Expr} {env : Env} : assignEach (t :: es) env = (false, assign t env) :: assignEach es env := by
  cases t <;> first | rfl | cases h
theorem gs_store (C : GC W) (g : XG W J c (k + 1)) (P : PX W m k n J c) (q : Nat) : ∀ {ts : List Expr} {tgs : List Tg}, ts.mapM (cTg n c) = some tgs → PGs J.X ts (rStores W J (evF W.G k (evs W.G m k) q) tgs) ∧ (assignEach ts J.X.env).length = ts.length ∧ (assignEach ts J.X.env).findIdx? (·.1) = none
  | [], tgs, h => by
    rw [List.mapM_nil] at h
    cases h
    refine ⟨⟨fun pins s σ H vs us Q I r ⟨σd, st, ρ, ds, l, S, rd, pp⟩ => ?_⟩, rfl, rfl⟩
    cases rd with
    | nil => exact pgs_nil.run pins s σ H [] us Q I r ⟨rfl, pp ρ H σ .refl l S⟩
    | cons _ _ => exact pp.elim
  | t :: ts, tgs, h => by
    rw [List.mapM_cons] at h
    obtain ⟨tgt, ht, h⟩ := bsome h
    obtain ⟨rest, hr, h⟩ := bsome h
    cases h
    obtain ⟨h1, h2, h3⟩ := gs_store C g P q hr
    have e0 := cTg_plain (es := ts) (env := J.X.env) ht
    refine ⟨⟨fun pins s σ H vs us Q I r ⟨σd, st, ρ, ds, l, S, rd, pp⟩ => ?_⟩, by rw [e0, List.length_cons, List.length_cons, h2], by rw [e0, List.findIdx?_cons, h3]; rfl⟩
    cases rd with
    | nil => exact pp.elim
    | @cons d ds v vs r1 rs =>
      refine (pgs_cons (g_store C g P ht q) h1 (by rw [e0]; rfl)).run pins s σ H (v :: vs) us Q I r ⟨v, vs, rfl, σd, st, ρ, d, l, S, r1, ?_⟩
      have pp : PostS W J st.nx ρ H (onlyNx Q) ((stStore W.G (evF W.G k (evs W.G m k) q) tgt d σd J.κ.κ st).seq fun σ st => stStores W.G (evF W.G k (evs W.G m k) q) rest ds σ J.κ.κ st) := pp
      cases e : stStore W.G (evF W.G k (evs W.G m k) q) tgt d σd J.κ.κ st with
      | nx σ1 st1 =>
        rw [e] at pp
        exact fun ρ' H' σ' x l' s' => ⟨σ1, st1, ρ', ds, l', s', RDs.mono x rs, PostS.shift x pp⟩
      | brk σ1 st1 => rw [e] at pp; exact pp
      | cnt σ1 st1 => rw [e] at pp; exact pp
      | ret d st1 => rw [e] at pp; exact pp
      | exc cc fs st1 => rw [e] at pp; exact pp
      | bad => rw [e] at pp; exact pp.elim
end
end MX
end
section
set_option Elab.async false
set_option linter.all false
set_option autoImplicit false
set_option maxRecDepth 100000
set_option maxHeartbeats 1000000
/-! Assignments of tuples. -/
namespace MX
open PySem PySem.Spec PyProof.Rows L2
/-- neither a return nor a break nor a continue -/
def noJmp : F → Bool
  | .nx _ _ | .exc _ _ _ | .bad => true
  | _ => false
theorem noJmp_to {α : Type} {r : R α} {f : α → St → F} (h : ∀ a st, noJmp (f a st) = true) : noJmp (F.to r f) = true := by
  cases r with
  | ok a st => exact h a st
  | exc _ _ _ => rfl
  | bad => rfl
theorem noJmp_store {G : Gb} {r : Evs} {t : Tg} {d : D} {σ : Sg} {κ : List (Nat × Nat)} {st : St} : noJmp (stStore G r t d σ κ st) = true := by
  cases t with
  | nm i => rfl
  | «at» o f =>
    refine noJmp_to fun x st => ?_
    split
    · split
      · cases (Nat.ble _ 900 && notM G _ f) <;> rfl
      · rfl
    · rfl
  | ix o i =>
    refine noJmp_to fun x st => noJmp_to fun y st => ?_
    split <;> rfl
theorem noJmp_stores {G : Gb} {r : Evs} : ∀ {ts : List Tg} {ds : List D} {σ : Sg} {κ : List (Nat × Nat)} {st : St}, noJmp (stStores G r ts ds σ κ st) = true
  | [], [], _, _, _ => rfl
  | [], _ :: _, _, _, _ => rfl
  | _ :: _, [], _, _, _ => rfl
  | t :: ts, d :: ds, σ, κ, st => by
    show noJmp ((stStore G r t d σ κ st).seq fun σ st => stStores G r ts ds σ κ st) = true
    have h := noJmp_store (G := G) (r := r) (t := t) (d := d) (σ := σ) (κ := κ) (st := st)
    cases e : stStore G r t d σ κ st with
    | nx σ1 st1 => exact noJmp_stores
    | exc _ _ _ => rfl
    | bad => rfl
    | ret _ _ => rw [e] at h; cases h
    | brk _ _ => rw [e] at h; cases h
    | cnt _ _ => rw [e] at h; cases h
theorem PostS.only {W : Wd} {J : Jx} {nx : Nat} {ρ : Asg} {H : Hp} {D : Ends} {x : F} (h : noJmp x = true) (p : PostS W J nx ρ H D x) : PostS W J nx ρ H (onlyNx D.nx) x := by
  cases x with
  | nx _ _ => exact p
  | exc _ _ _ => exact p
  | bad => exact p
  | ret _ _ => cases h
  | brk _ _ => cases h
  | cnt _ _ => cases h
section
variable {W : Wd} {J : Jx} {c : CC} {m k n : Nat}
theorem sw_tup {e : Expr} {ts : List Expr} {kk : Nat} {p : Pos} {l : Nat} {env : Env} : swapsWith e (some (.Tuple ts kk p)) l env = pure false := by
  cases e <;> rfl
theorem s_tup (C : GC W) (g : XG W J c (k + 1)) (P : PX W m k n J c) {ts : List Expr} {tgs : List Tg} {e : Expr} {ie : E} {kk : Nat} {tp pos : Pos} (hts : ts.mapM (cTg n c) = some tgs) (he : cE n c e = some ie) (hw : swappedStores [.Tuple ts kk tp] e J.X.env = pure none) (q : Nat) :
    PS J.X (.Assign [.Tuple ts kk tp] e pos) (semS W J fun σd st => F.to ((evF W.G k (evs W.G m k) q).e ie σd J.κ.κ st) fun d st => match d with
      | .tup ds => cond (Nat.beq ds.length tgs.length) (stStores W.G (evF W.G k (evs W.G m k) q) tgs ds σd J.κ.κ st) .bad
      | _ => .bad) := by
  obtain ⟨h1, h2, h3⟩ := gs_store C g P q hts
  have hs : swapsWithSole [.Tuple ts kk tp] e pos.line J.X.env = pure false := sw_tup (e := e) (ts := ts) (kk := kk) (p := tp) (l := pos.line) (env := J.X.env)
  refine ⟨fun pins s σ H D I ⟨σd, st, ρ, l, S, p⟩ => (ps_asg (P.E e ie he q) (pg_tup (n := ts.length) g.calm h1 h2 h3) hs hw rfl).run pins s σ H D I ⟨σd, st, ρ, l, S, (PostS.to (rl := rD W) p).mono fun v H1 ⟨d, st1, ρ1, x1, s1, r1, p1⟩ => ?_⟩⟩
  cases r1 with
  | @tup ds a vs q1 q2 =>
    have p1 : PostS W J st1.nx ρ1 H1 D (cond (Nat.beq ds.length tgs.length) (stStores W.G (evF W.G k (evs W.G m k) q) tgs ds σd J.κ.κ st1) .bad) := p1
    obtain ⟨hb, p1⟩ := condS p1
    have hd := Nat.eq_of_beq_eq_true hb
    have hl : tgs.length = ts.length := (mapM_get hts).1
    exact ⟨a, vs, rfl, by rw [g.K]; exact q1, by rw [← q2.length, hd, hl], σd, st1, ρ1, ds, l.mono x1, s1, q2, p1.only noJmp_stores⟩
  | _ => exact p1.elim
end
end MX
end
section
set_option Elab.async false
set_option linter.all false
set_option autoImplicit false
set_option maxRecDepth 100000
set_option maxHeartbeats 1000000
/-! Tuples stored from the right. -/
namespace MX
open PySem PySem.Spec PyProof.Rows L2
section
variable {W : Wd} {J : Jx} {c : CC} {m k n : Nat}
theorem sw_not {e : Expr} {ts : List Expr} {kk : Nat} {p : Pos} {env : Env} (h : ∀ vs a b, e ≠ .Tuple vs a b) : swappedStores [.Tuple ts kk p] e env = pure none := by
  cases e <;> first | rfl | exact absurd rfl (h _ _ _)
theorem sw_eq (Sx : XS J c) (hk : J.X.env.scope.kind = .function) {ts vs : List Expr} {kk k2 : Nat} {p p2 : Pos} {o : Option (List Str)} (h : swS c ts vs = some o) : swappedStores [.Tuple ts kk p] (.Tuple vs k2 p2) J.X.env = pure o := by
  have hb : J.X.env.blockKind = .function := by unfold Env.blockKind; rw [hk]; rfl
  have hn : ∀ x, J.X.env.kindOf x = c.sc.names.lookup x := fun x => by show J.X.env.scope.names.lookup x = _; rw [Sx.hsc]
  unfold swS at h
  unfold swappedStores
  simp only [hb, hn]
  have hs : (vs.any fun | .Starred .. => true | _ => false) = vs.any isStar := by
    congr 1
  have hf : (ScopeKind.function != ScopeKind.function) = false := rfl
  rw [hf, Bool.or_false]
  simp only at h
  split at h
  · rename_i c1
    cases h
    exact if_pos c1
  rename_i c1
  refine (if_neg c1).trans ?_
  split at h
  · rename_i c2
    cases h
    exact if_pos (hs.trans c2)
  rename_i c2
  refine (if_neg fun z => c2 (hs.symm.trans z)).trans ?_
  split at h
  · rename_i c3
    cases h
    exact if_pos c3
  rename_i c3
  refine (if_neg c3).trans ?_
  split at h
  · rename_i c4
    cases h
    exact if_pos c4
  rename_i c4
  refine (if_neg c4).trans ?_
  split at h
  · cases h
  rename_i c5
  refine (if_neg c5).trans ?_
  cases h
  rfl
end
end MX
end
section
set_option Elab.async false
set_option linter.all false
set_option autoImplicit false
set_option maxRecDepth 100000
set_option maxHeartbeats 1000000
/-! Two names stored from the right. -/
namespace MX
open PySem PySem.Spec PyProof.Rows L2
section
variable {W : Wd} {J : Jx} {c : CC} {m k n : Nat}
theorem s_par (g : XG W J c (k + 1)) (Sx : XS J c) {x y : Str} {px py tp p2 pos : Pos} {kk k2 : Nat} {a b : Expr} {fs : Sg → St → R (List D)} {i j : Nat} (hx : c.slotL x = some i) (hy : c.slotL y = some j) (lx : c.sc.names.lookup x = some .local) (ly : c.sc.names.lookup y = some .local) (hij : i ≠ j)
    (ha : PA J.X [a, b] (sem W J (rDs W) fs)) (hw : swappedStores [.Tuple [.Name x px, .Name y py] kk tp] (.Tuple [a, b] k2 p2) J.X.env = pure (some [x, y])) :
    PS J.X (.Assign [.Tuple [.Name x px, .Name y py] kk tp] (.Tuple [a, b] k2 p2) pos) (semS W J fun σd st => F.to ((fs σd st).bind fun ds st => cond (Nat.ble ds.length 100000) (R.ok (D.tup ds) st) R.bad) fun (d : D) st => match d with
      | D.tup ds => cond (Nat.beq ds.length 2) (match ds with
        | [d, e] => .nx ((σd.set i (some d)).set j (some e)) (putCell J.κ.κ j e (putCell J.κ.κ i d st))
        | _ => .bad) .bad
      | _ => .bad) := by
  obtain ⟨_, hi, _⟩ := slotL_ok hx
  obtain ⟨_, hj, _⟩ := slotL_ok hy
  refine ⟨fun pins s σ H Dn I ⟨σd, st, ρ, l, S, p⟩ => (ps_par g.calm g.ndX (by rw [g.N]; exact hi) (by rw [g.N]; exact hj) hij (by rw [Sx.hsc]; exact lx) (by rw [Sx.hsc]; exact ly) ha hw rfl).run pins s σ H Dn I ?_⟩
  have p : PostS W J st.nx ρ H Dn (F.to ((fs σd st).bind fun ds st => cond (Nat.ble ds.length 100000) (R.ok (D.tup ds) st) R.bad) fun (d : D) st => match d with
      | D.tup ds => cond (Nat.beq ds.length 2) (match ds with
        | [d, e] => .nx ((σd.set i (some d)).set j (some e)) (putCell J.κ.κ j e (putCell J.κ.κ i d st))
        | _ => .bad) .bad
      | _ => .bad) := p
  have e : ∀ (r : R (List D)) (f : D → St → F), F.to (r.bind fun ds st => cond (Nat.ble ds.length 100000) (R.ok (D.tup ds) st) R.bad) f = F.to r fun ds st => cond (Nat.ble ds.length 100000) (f (.tup ds) st) .bad := fun r f => by
    cases r with
    | ok ds st =>
      show F.to (cond (Nat.ble ds.length 100000) (R.ok (D.tup ds) st) R.bad) f = cond (Nat.ble ds.length 100000) (f (.tup ds) st) F.bad
      cases Nat.ble ds.length 100000 <;> rfl
    | exc _ _ _ => rfl
    | bad => rfl
  rw [e] at p
  refine ⟨σd, st, ρ, l, S, (PostS.to (rl := rDs W) p).mono fun vs H1 ⟨ds, st1, ρ1, x1, s1, r1, p1⟩ => ?_⟩
  obtain ⟨_, p1⟩ := condS p1
  match ds, r1 with
  | [d, e], .cons (v := v) q1 (.cons (v := u) q2 .nil) =>
    have p1 : PostS W J st1.nx ρ1 H1 Dn (.nx ((σd.set i (some d)).set j (some e)) (putCell J.κ.κ j e (putCell J.κ.κ i d st1))) := p1
    obtain ⟨n1, S1⟩ := put_ok s1 (slotL_lt g hx I) q1
    have q2' : W.RD (putCell J.κ.κ i d st1).nx ρ1 H1 e u := by rw [n1]; exact q2
    obtain ⟨n2, S2⟩ := put_ok S1 (by rw [List.length_set]; exact slotL_lt g hy I) q2'
    have x2 : Ext st1.nx ρ1 H1 (putCell J.κ.κ j e (putCell J.κ.κ i d st1)).nx ρ1 H1 := by rw [n2, n1]; exact .refl
    have l2 : LRel W ((σd.set i (some d)).set j (some e)) ((σ.set i (some v)).set j (some u)) (putCell J.κ.κ j e (putCell J.κ.κ i d st1)).nx ρ1 H1 := by
      rw [n2, n1]
      exact ((l.mono x1).set q1).set q2
    exact ⟨v, u, rfl, p1 ρ1 H1 _ x2 l2 S2⟩
  | [], .nil => exact p1.elim
  | [_], .cons _ .nil => exact p1.elim
  | _ :: _ :: _ :: _, .cons _ (.cons _ (.cons _ _)) => exact p1.elim
end
end MX
end
section
set_option Elab.async false
set_option linter.all false
set_option autoImplicit false
set_option maxRecDepth 100000
set_option maxHeartbeats 400000
/-! raise X('..'), X an own class without an __init__ of its own. -/
namespace MX
open PySem PySem.Spec PyProof.Rows L2
/-- what an exception class without an own __init__ must have -/
structure ExcN (W : Wd) (c : Nat) : Prop where
  base : ∃ (bmB : List Value) (B newId initId : String), ExcBaseFacts B newId initId bmB ∧ PySem.W.excIn W.K (W.ad c) bmB newId = true
  kp : PySem.W.keepIn W.K (.ref (W.ad c)) = true
  rs : ∀ X : Cx, X.prog = W.P → X.w = W.w → X.K = W.K → Raises X (.ref (W.ad c))
structure GE (W : Wd) : Prop where
  ex : ∀ c k, W.G.tab[c]? = some (.cls k) → k.fld = none → k.init = none → ExcN W c
section
variable {W : Wd} {J : Jx} {c : CC} {k : Nat}
theorem s_rai (Fg : GF W) (X : GE W) (g : XG W J c k) {x m : Str} {q j : Nat} {p p2 pos pos' : Pos} (hx : c.glob x = some q) :
    PS J.X (.Raise (some (.Call (.Name x p) [.Constant (.str m) j p2] [] pos')) none pos) (semS W J fun σd st => match W.G.tab[q]? with
      | some (.cls kk) => cond (kk.fld.isNone && kk.init.isNone) (.exc q [] st) .bad
      | _ => .bad) := by
  obtain ⟨h1, h2, h3⟩ := glob_ok hx
  obtain ⟨n1, _, _⟩ := nmOk_ok h3
  rw [g.gl] at h2
  refine ⟨fun pins s σ H D I ⟨σd, st, ρ, l, S, z⟩ => ?_⟩
  have z : PostS W J st.nx ρ H D (match W.G.tab[q]? with
      | some (.cls kk) => cond (kk.fld.isNone && kk.init.isNone) (F.exc q [] st) F.bad
      | _ => F.bad) := z
  split at z
  · rename_i kk hk
    obtain ⟨hb, z⟩ := condS z
    rw [Bool.and_eq_true] at hb
    have E := X.ex q kk hk (by simpa using hb.1) (by simpa using hb.2)
    obtain ⟨bmB, B, newId, initId, f1, f2⟩ := E.base
    have gm := Fg.cls x q kk h2 hk
    refine (ps_raise g.calm g.tk (pmk_own (pos := pos') (p := p) (p2 := p2) (j := j) (m := m) f1 (by rw [g.K]; exact f2) (by rw [g.mg]; exact gm) (by rw [g.K]; exact E.kp) (E.rs J.X g.P g.w g.K) (g.gb x h1) n1)).run pins s σ H D I ?_
    exact z ρ H σ none .refl S trivial
  · exact z.elim
end
end MX
end
section
set_option Elab.async false
set_option linter.all false
set_option autoImplicit false
set_option maxRecDepth 100000
set_option maxHeartbeats 1000000
/-! except clauses, with a name and without one, mixed. Own work, along the kit's rules for one kind of clause. -/
namespace MX
open PySem PySem.Spec PyProof.Rows L2
/-- a clause: its class, the slot of its name, the reading of its suite -/
abbrev Cla := Value × Option Nat × (Addr → Value → Option Addr → TS)
def slotIn (σ : L2.St) (a : Addr) : Option Nat → L2.St
  | none => σ
  | some i => σ.set i (some (.ref a))
def slotOff (σ : L2.St) : Option Nat → L2.St
  | none => σ
  | some i => σ.set i none
def endsAt (D : Ends) (o : Option Nat) : Ends := { nx := fun σ H => D.nx (slotOff σ o) H, rt := D.rt, bk := fun σ H => D.bk (slotOff σ o) H, ct := fun σ H => D.ct (slotOff σ o) H }
def wMix (K : PySem.W.Frag) (Wout : WX) (D : Ends) : List Cla → WX
  | [] => Wout
  | (c, o, ts) :: r => fun cls d σ H => ∃ b, PySem.W.exmOne K cls c = some b ∧ (b = true → ∀ a, H a = none → ts a cls d (endsAt D o) (slotIn σ a o) H) ∧ (b = false → wMix K Wout D r cls d σ H)
/-- the clauses as they are written -/
inductive Clas (X : Cx) : List ExceptHandler → List Cla → Prop
  | nil : Clas X [] []
  | bare {x : Str} {c : Value} {ts : Addr → Value → Option Addr → TS} {s₀ : Stmt} {ss : List Stmt} {p p' : Pos} {hs : List ExceptHandler} {l : List Cla} (n : Names X x c)
      (su : ∀ (a : Addr) (oe : Obj) (cls : Value) (d : Option Addr) (pn : List (Addr × Obj)), Zc cls d oe → (∃ vs, oe.data = .fields vs) → PSs (X.suite a ((a, oe) :: pn)) (s₀ :: ss) (ts a cls d)) (r : Clas X hs l) :
      Clas X (.ExceptHandler (some (.Name x p)) none (s₀ :: ss) p' :: hs) ((c, none, ts) :: l)
  | named {x e : Str} {i : Nat} {c : Value} {ts : Addr → Value → Option Addr → TS} {s₀ : Stmt} {ss : List Stmt} {p p' : Pos} {hs : List ExceptHandler} {l : List Cla} (n : Names X x c) (hi : X.N[i]? = some e) (hl : X.env.kindOf e = some .local)
      (su : ∀ (a : Addr) (oe : Obj) (cls : Value) (d : Option Addr) (pn : List (Addr × Obj)), Zc cls d oe → (∃ vs, oe.data = .fields vs) → PSs (X.suite a ((a, oe) :: pn)) (s₀ :: ss) (ts a cls d)) (r : Clas X hs l) :
      Clas X (.ExceptHandler (some (.Name x p)) (some e) (s₀ :: ss) p' :: hs) ((c, some i, ts) :: l)
section
variable {X : Cx} {body : List Stmt} {h₀ : ExceptHandler} {hds : List ExceptHandler} {l : List Cla} {pos : Pos} {tb : WX → TS} {Wout : WX}
theorem ps_try_mix (stk : X.stack = X.env :: X.outer) (frm : X.env.frame = some X.env.locals) (nd : X.N.Nodup) (tk : Takes X Wout)
    (hb : ∀ (W : WX) (pn : List (Addr × Obj)) (xe : Value → Shared → Prop), Takes (X.tr pn xe) W → PassesOwn (model X.prog X.w) X.A X.env xe → PSs (X.tr pn xe) body (tb W))
    (hh : Clas X (h₀ :: hds) l) : PS X (.Try body (h₀ :: hds) [] [] pos) (fun D σ H => tb (wMix X.K Wout D l) D σ H) := by
  refine ⟨fun pins s σ H D I h => ?_⟩
  have ok := I.ok
  have frames : X.A.frames = some (X.env :: X.outer) := by rw [ok.frames, stk]
  refine wpAny_Try_except ?_
  refine wpAny_mono ((hb (wMix X.K Wout D l) (X.pn ++ pins) (fun e sa => wpAny (model X.prog X.w) X.A (noteFrame e X.env) (fun _ sb => wpAny (model X.prog X.w) X.A (setFlight e none)
    (fun _ sc => wpAny (model X.prog X.w) X.A (handleBy e X.env (h₀ :: hds)) (SP X pins D) X.xe sc) X.xe sb) X.xe sa) (fun u s' xx => ?_) PassesOwn.looking).run [] s σ H D (I.toTry _) h) (fun f sz hsp => ?_) (fun e sz he => he)
  · obtain ⟨a, G, sI, ps', σ', H', cls, d, rfl, J', nb, up, sky, na, os, ag, w⟩ := xx
    have J : Inv X pins σ' H' sI := J'.ofTry ok
    have sky2 : Sky G (X.env :: X.outer) a (Zc cls d) X.env.locals s'.heap := by rw [← stk]; exact sky
    show wpAny (model X.prog X.w) X.A (noteFrame (.ref a) X.env) _ _ _
    refine Sky.land Zc.steady frames frm sky2 fun hc fl upc => ?_
    have Jc : Inv X pins σ' H' { s' with heap := hc } := J.landed nb fl.1 (up.trans upc) os ag
    obtain ⟨oc, vc, ec, zc, dc⟩ := fl.there
    have away : a ∉ frs (X.env :: X.outer) := fun hm => by
      obtain ⟨_, o', e', nf⟩ := fl.2.2.1.mem hm
      rw [ec] at e'
      cases e'
      exact nf _ dc
    have aL : a ≠ X.env.locals := fun z => away (List.mem_filterMap.mpr ⟨X.env, List.mem_cons_self, by rw [frm, z]⟩)
    have aF : a ∉ X.fs := fun hm => by
      obtain ⟨e, he, z⟩ := List.mem_filterMap.mp hm
      exact away (List.mem_filterMap.mpr ⟨e, List.mem_cons_of_mem _ he, z⟩)
    have Sc := Jc.suite ec dc na aL aF
    -- the class of a clause
    have test : ∀ {x : Str} {c : Value} {p : Pos} {Q : Value → Shared → Prop} {E : Value → Shared → Prop}, Names X x c → Q c { s' with heap := hc } → wpAny (model X.prog X.w) (X.A.mark (some (.ref a))) (eval (.Name x p) X.env) Q E { s' with heap := hc } := fun {x c p Q E} n z => by
      obtain ⟨hg, hdb, hm | ⟨hm, hv, hn⟩⟩ := n
      · exact ld_glob (X := X.suite a ((a, oc) :: (X.pn ++ pins))) Sc hg hm z hdb
      · exact ld_blt (X := X.suite a ((a, oc) :: (X.pn ++ pins))) Sc hg hm hv z hn hdb
    have kind : PySem.W.Looks (model X.prog X.w) hc (typeOf (.ref a)) cls := fun A Q E s k z => wpAny_typeOf_ref (k _ _ ec) (by rw [zc.1]; exact z)
    have go : ∀ {hs' : List ExceptHandler} {l' : List Cla}, Clas X hs' l' → wMix X.K Wout D l' cls d σ' H' → wpAny (model X.prog X.w) X.A (handleBy (.ref a) X.env hs') (SP X pins D) X.xe { s' with heap := hc } := by
      intro hs' l' hk
      induction hk with
      | nil =>
        intro w
        refine wpAny_handleBy_nil ?_
        obtain ⟨_, _, _, oe, vs, T, _, _, he, _, hd, h1, _⟩ := id fl
        unfold PySem.passOn
        refine wpAny_bind (wpAny_field he hd h1 ?_)
        rw [if_neg (show ¬ ((Value.ref T == Value.none) = true) from by simp)]
        have out : wpAny (model X.prog X.w) X.A (setFlight (.ref a) X.env.frame) (fun _ se => wpAny (model X.prog X.w) X.A (throw (.ref a) : Sem Flow) (SP X pins D) X.xe se) X.xe { s' with heap := hc } := by
          rw [frm]
          refine HandSPX.setFlight_upZ fl fun he hh upe => wpAny_throw (tk _ _ ?_)
          exact ⟨a, G, sI, pins, σ', H', cls, d, rfl, J, nb, (up.trans upc).trans upe, .inr (.inr (by rw [stk]; exact hh)), na, os, ag, w⟩
        first
          | exact wpAny_bind (wpAny_pure (wpAny_bind out))
          | exact wpAny_bind out
      | @bare x c ts s₀ ss p p' hs2 l2 n su r ih =>
        intro w
        obtain ⟨b, hb1, yes, no⟩ := w
        refine wpAny_handleBy_cons (codeAny_handlers_test (test n ((PySem.W.exm_one (M := model X.prog X.w) Jc.kIn kind hb1).here ?_))) (by intro z; cases z)
        cases b with
        | false => exact ih (no rfl)
        | true =>
          refine codeAny_handlers_suite (HandSPX.lands_againZ fl fun hd fld upd' => ?_)
          have Jd : Inv X pins σ' H' { s' with heap := hd } := J.landed nb fld.1 ((up.trans upc).trans upd') os ag
          obtain ⟨od, vd, ed, zd, dd⟩ := fld.there
          refine wpAny_mono ((su a od cls d (X.pn ++ pins) zd ⟨_, dd⟩).run [] _ _ H' _ (Jd.suite ed dd na aL aF) (yes rfl a na)) (fun f sz hsp => ?_) (fun _ _ z => False.elim z)
          cases f with
          | next => obtain ⟨σz, Hz, Sz, qz⟩ := hsp; exact ⟨_, _, Sz.unsuite ok, qz⟩
          | brk => obtain ⟨σz, Hz, Sz, qz⟩ := hsp; exact ⟨_, _, Sz.unsuite ok, qz⟩
          | cont => obtain ⟨σz, Hz, Sz, qz⟩ := hsp; exact ⟨_, _, Sz.unsuite ok, qz⟩
          | ret u => obtain ⟨vz, σz, Hz, Sz, rz, qz⟩ := hsp; exact ⟨_, _, _, Sz.unsuite ok, rz, qz⟩
      | @named x e i c ts s₀ ss p p' hs2 l2 n hi hl su r ih =>
        intro w
        obtain ⟨b, hb1, yes, no⟩ := w
        refine wpAny_handleBy_cons (codeAny_handlers_test (test n ((PySem.W.exm_one (M := model X.prog X.w) Jc.kIn kind hb1).here ?_))) (by intro z; cases z)
        cases b with
        | false => exact ih (no rfl)
        | true =>
          refine codeAny_handlers_suite_as (HandSPX.lands_againZ fl fun hd fld upd' => ?_)
          have Jd : Inv X pins σ' H' { s' with heap := hd } := J.landed nb fld.1 ((up.trans upc).trans upd') os ag
          obtain ⟨od, vd, ed, zd, dd⟩ := fld.there
          refine store_ok (X := X.suite a ((a, od) :: (X.pn ++ pins))) (v := .ref a) (Jd.suite ed dd na aL aF) nd hi (.inl hl) rfl (fun se Se => ?_) (.inr hl)
          refine wpAny_mono ((su a od cls d (X.pn ++ pins) zd ⟨_, dd⟩).run [] se _ H' _ Se (yes rfl a na)) (fun f sz hsp => ?_) (fun _ _ z => False.elim z)
          have off : ∀ {σz : L2.St} {Hz : Hp} {Q : Shared → Prop}, Inv (X.suite a ((a, od) :: (X.pn ++ pins))) [] σz Hz sz → (∀ sy, Inv X pins (σz.set i none) Hz sy → Q sy) →
              wpAny (model X.prog X.w) X.A (do bindName X.env e .none; unbindBehindTheSuite X.env e p') (fun _ sy => Q sy) X.xe sz := fun {σz Hz Q} Sz hq => gone_ok (Sz.unsuite ok) nd hi hl hq
          cases f with
          | next => obtain ⟨σz, Hz, Sz, qz⟩ := hsp; exact off Sz fun sy Jy => ⟨_, _, Jy, qz⟩
          | brk => obtain ⟨σz, Hz, Sz, qz⟩ := hsp; exact off Sz fun sy Jy => ⟨_, _, Jy, qz⟩
          | cont => obtain ⟨σz, Hz, Sz, qz⟩ := hsp; exact off Sz fun sy Jy => ⟨_, _, Jy, qz⟩
          | ret u => obtain ⟨vz, σz, Hz, Sz, rz, qz⟩ := hsp; exact off Sz fun sy Jy => ⟨_, _, _, Jy, rz, qz⟩
    exact go hh w
  · cases f with
    | next => obtain ⟨σz, Hz, Jz, qz⟩ := hsp; exact wpAny_execs_nil ⟨σz, Hz, Jz.ofTry ok, qz⟩
    | brk => obtain ⟨σz, Hz, Jz, qz⟩ := hsp; exact ⟨σz, Hz, Jz.ofTry ok, qz⟩
    | cont => obtain ⟨σz, Hz, Jz, qz⟩ := hsp; exact ⟨σz, Hz, Jz.ofTry ok, qz⟩
    | ret u => obtain ⟨vz, σz, Hz, Jz, rz, qz⟩ := hsp; exact ⟨vz, σz, Hz, Jz.ofTry ok, rz, qz⟩
end
end MX
end
section
set_option Elab.async false
set_option linter.all false
set_option autoImplicit false
set_option maxRecDepth 100000
set_option maxHeartbeats 400000
/-! try: the body's context. -/
namespace MX
open PySem PySem.Spec PyProof.Rows L2
/-- contexts that differ in nothing that the cells' relation looks at -/
structure SameX (X X' : Cx) : Prop where
  N : X'.N = X.N
  env : X'.env = X.env
  fn : X'.fn = X.fn
  s0 : X'.s_0 = X.s_0
  h0 : X'.H_0 = X.H_0
  out : X'.outer = X.outer
  ex : X'.ex = X.ex
theorem SameX.symm {X X' : Cx} (h : SameX X X') : SameX X' X := ⟨h.N.symm, h.env.symm, h.fn.symm, h.s0.symm, h.h0.symm, h.out.symm, h.ex.symm⟩
theorem SameX.tr {X : Cx} {pn : List (Addr × Obj)} {xe : Value → Shared → Prop} : SameX X (X.tr pn xe) := ⟨rfl, rfl, rfl, rfl, rfl, rfl, rfl⟩
theorem SameX.suite {X : Cx} {a : Addr} {pn : List (Addr × Obj)} : SameX X (X.suite a pn) := ⟨rfl, rfl, rfl, rfl, rfl, rfl, rfl⟩
section
variable {W : Wd} {X X' : Cx} {κ : Fm} {σ : L2.St} {st : St} {ρ : Asg} {H : Hp}
theorem CellOk.same {nx n : Nat} {a : Addr} {v : Option D} (h : SameX X X') (z : CellOk W X κ σ nx ρ H n a v) : CellOk W X' κ σ nx ρ H n a v := by
  cases v with
  | none => exact trivial
  | some d =>
    rcases z with ⟨i, x, v, h0, h1, h2, h3, h4, h5, h6⟩ | ⟨h0, u, v, h1, h2, h3, h4, h5, h6⟩
    · exact .inl ⟨i, x, v, h0, by rw [h.N]; exact h1, by rw [h.env]; exact h2, by rw [h.fn]; exact h3, by rw [h.env]; exact h4, h5, h6⟩
    · refine .inr ⟨h0, u, v, by rw [h.s0]; exact h1, h2, h3, by rw [h.h0]; exact h4, ?_, by rw [h.ex]; exact h6⟩
      show a ∉ frs X'.outer
      rw [h.out]
      exact h5
theorem SRel.same (h : SameX X X') (S : SRel W X κ σ st ρ H) : SRel W X' κ σ st ρ H := by
  refine ⟨fun n hn => ?_, S.inj, S.tab, fun i m e => ?_, S.few⟩
  · obtain ⟨ob, g, r⟩ := S.get n hn
    refine ⟨ob, g, ?_⟩
    cases hz : ρ n with
    | mk z b =>
      rw [hz] at r
      cases r with
      | lst e1 e2 => exact .lst e1 e2
      | frz e1 e2 => exact .frz e1 e2
      | ins e1 e2 => exact .ins e1 e2
      | cho h1 h2 => exact .cho h1 h2
      | dice h1 h2 => exact .dice h1 h2
      | scr h1 h2 h3 h4 => exact .scr h1 h2 h3 h4
      | lam e1 e2 e3 e4 e5 e6 e7 k1 k2 e8 => exact .lam e1 e2 e3 e4 e5 e6 e7 k1 k2 e8
      | cel hc => exact .cel (hc.same h)
  · obtain ⟨h1, h2, x, h3, h4, h5, h6⟩ := S.kap i m e
    exact ⟨h1, h2, x, by rw [h.N]; exact h3, by rw [h.env]; exact h4, by rw [h.env]; exact h5, by rw [h.fn]; exact h6⟩
theorem PostS.same {nx : Nat} {D : Ends} {Wx : WX} {x : F} (h : SameX X X') (p : PostS W ⟨X, κ, Wx⟩ nx ρ H D x) : PostS W ⟨X', κ, Wx⟩ nx ρ H D x := by
  cases x with
  | nx _ _ => exact fun ρ' H' σ' y l s => p ρ' H' σ' y l (SRel.same h.symm s)
  | brk _ _ => exact fun ρ' H' σ' y l s => p ρ' H' σ' y l (SRel.same h.symm s)
  | cnt _ _ => exact fun ρ' H' σ' y l s => p ρ' H' σ' y l (SRel.same h.symm s)
  | ret _ _ => exact fun ρ' H' σ' v y s r => p ρ' H' σ' v y (SRel.same h.symm s) r
  | exc _ _ _ => exact fun ρ' H' σ' dd y s r => p ρ' H' σ' dd y (SRel.same h.symm s) r
  | bad => exact p
theorem semS.same {D : Ends} {Wx : WX} {f : Sg → St → F} (h : SameX X X') (z : semS W ⟨X, κ, Wx⟩ f D σ H) : semS W ⟨X', κ, Wx⟩ f D σ H := by
  obtain ⟨σd, st, ρ, l, S, p⟩ := z
  exact ⟨σd, st, ρ, l, SRel.same h S, PostS.same h p⟩
end
theorem XG.tr {W : Wd} {X : Cx} {κ : Fm} {Wx Wx' : WX} {c : CC} {k : Nat} {pn : List (Addr × Obj)} {xe : Value → Shared → Prop} (g : XG W ⟨X, κ, Wx⟩ c k) (tk : Takes (X.tr pn xe) Wx') : XG W ⟨X.tr pn xe, κ, Wx'⟩ c k where
  P := g.P
  w := g.w
  K := g.K
  mg := g.mg
  base := g.base
  N := g.N
  nd := g.nd
  calm := g.calm
  room := g.room
  tk := tk
  vis := g.vis
  gb := g.gb
  cap := g.cap
  loc := g.loc
  gl := g.gl
  cl := g.cl
  at_ := g.at_
  gu := g.gu
  lam := g.lam
theorem XS.tr {X : Cx} {κ : Fm} {Wx Wx' : WX} {c : CC} {pn : List (Addr × Obj)} {xe : Value → Shared → Prop} (s : XS ⟨X, κ, Wx⟩ c) (po : PassesOwn (model X.prog X.w) X.A X.env xe) : XS ⟨X.tr pn xe, κ, Wx'⟩ c where
  hsc := s.hsc
  fnT := s.fnT
  po := po
  ex := s.ex
  fr := s.fr
  stk := s.stk
/-- the body of a try: from the claim in every such context -/
theorem try_body {W : Wd} {X : Cx} {κ : Fm} {c : CC} {k : Nat} {Wx : WX} {b : List Stmt} {f : Sg → St → F} (g : XG W ⟨X, κ, Wx⟩ c k) (s : XS ⟨X, κ, Wx⟩ c) (hb : ∀ (X' : Cx) (Wx' : WX), XG W ⟨X', κ, Wx'⟩ c k → XS ⟨X', κ, Wx'⟩ c → PSs X' b (semS W ⟨X', κ, Wx'⟩ f)) :
    ∀ (Wx' : WX) (pn : List (Addr × Obj)) (xe : Value → Shared → Prop), Takes (X.tr pn xe) Wx' → PassesOwn (model X.prog X.w) X.A X.env xe → PSs (X.tr pn xe) b (semS W ⟨X, κ, Wx'⟩ f) := fun Wx' pn xe tk po =>
  ⟨fun pins st σ H D I z => (hb (X.tr pn xe) Wx' (g.tr tk) (s.tr po)).run pins st σ H D I (semS.same SameX.tr z)⟩
end MX
end
section
set_option Elab.async false
set_option linter.all false
set_option autoImplicit false
set_option maxRecDepth 100000
set_option maxHeartbeats 2000000
/-! An exception class whose __init__ hands a text to super().__init__ and keeps its argument. -/
namespace MX
open PySem PySem.Spec PyProof.Rows L2
/-- {x!r} of data -/
theorem pe_fmtD {X : Cx} {e : Expr} {te : TE} {pos : Pos} (hg : X.A.guards = some []) (hu : X.A.units + 65 < cLine) (he : PE X e te) :
    PE X (.FormattedValue e 114 none pos) (fun σ H Q => te σ H fun x H1 => ∃ p, Dp X.K H1 x p ∧ PyData.showable p = true ∧ PyData.canLay0 p = true ∧ PyData.depth p ≤ 60 ∧ (PyData.shown p).length ≤ sizeLine ∧ Q (.str (PyData.shown p)) H1) := by
  refine ⟨fun pins s σ H Q I h => wpAny_FormattedValue_repr (thn (he.run pins s σ H _ I h) fun u s1 ⟨x, H1, I1, ru, p, hd, h1, h2, h3, h4, q⟩ => ?_)⟩
  have fin : ∀ (s2 : Shared) (tk : Tok), Inv X pins σ H1 s2 → wpAny (model X.prog X.w) X.A (formatField (.str (PyData.shown p) tk) Str.empty) (EP X pins σ Q) X.xe s2 := fun s2 tk I2 =>
    wpAny_formatField_str ⟨.str _, H1, I2, ⟨_, rfl⟩, q⟩ ⟨.str _, H1, I2.tok _, ⟨_, rfl⟩, q⟩ h4
  cases hd with
  | non => cases ru; exact pyReprObj_none (by have z := fin _ s1.toks (I1.tok (s1.toks + 1)); rw [PyData.shown] at z; exact z)
  | bl b =>
    cases ru
    refine pyReprObj_bool ?_
    have z := fin _ s1.toks (I1.tok (s1.toks + 1))
    rw [PyData.shown] at z
    cases b <;> exact z
  | int i =>
    obtain ⟨t, rfl⟩ := ru
    rw [PyData.showable] at h1
    exact pyReprObj_int (of_decide_eq_true h1) (by have z := fin _ s1.toks (I1.tok (s1.toks + 1)); rw [PyData.shown] at z; exact z)
  | str y =>
    obtain ⟨t, rfl⟩ := ru
    refine pyReprObj_str (by have z := fin _ s1.toks (I1.tok (s1.toks + 1)); rw [PyData.shown] at z; exact z) ?_
    rw [PyData.shown] at h4
    exact h4
  | @lst a ys ds e1 e2 =>
    cases ru
    obtain ⟨as, rd⟩ := Dp.reads I1 (.list ds) (.ref a) (.ref a) (.lst e1 e2) rfl
    exact PySem.pyReprObj_of_reads rd h1 (PyData.noDict_hsm (PyData.hasDict_of_canLay _ h2)) hg (by omega) (fun _ _ z => z) (fun h' u tk kk => fin _ u (I1.kept (t' := tk) kk)) h4
  | @tup a ys ds e1 e2 =>
    cases ru
    obtain ⟨as, rd⟩ := Dp.reads I1 (.tuple ds) (.ref a) (.ref a) (.tup e1 e2) rfl
    exact PySem.pyReprObj_of_reads rd h1 (PyData.noDict_hsm (PyData.hasDict_of_canLay _ h2)) hg (by omega) (fun _ _ z => z) (fun h' u tk kk => fin _ u (I1.kept (t' := tk) kk)) h4
/-- the texts that are handed on: a constant, or a constant ahead of or behind {x!r} -/
inductive Txt (x : Str) : Expr → Prop
  | con {m : Str} {j : Nat} {p : Pos} : m.length ≤ 1000 → Txt x (.Constant (.str m) j p)
  | ahead {m : Str} {j : Nat} {p p1 p2 p3 : Pos} : m.length ≤ 1000 → Txt x (.JoinedStr [.FormattedValue (.Name x p1) 114 none p2, .Constant (.str m) j p] p3)
  | behind {m : Str} {j : Nat} {p p1 p2 p3 : Pos} : m.length ≤ 1000 → Txt x (.JoinedStr [.Constant (.str m) j p, .FormattedValue (.Name x p1) 114 none p2] p3)
theorem txt_size {m n : Str} (h : m.length ≤ 1000) (k : n.length ≤ 50000) : (m ++ n).length ≤ sizeLine := by
  have : (m ++ n).length = m.length + n.length := by
    show (Str.append m n).length = _
    unfold Str.append
    show (m.cps ++ n.cps).size = _
    rw [Array.size_append]; rfl
  rw [this, sizeLine_eq]; omega
theorem txt_run {X : Cx} {x : Str} {e : Expr} (t : Txt x e) (hg : X.A.guards = some []) (hu : X.A.units + 65 < cLine) {v : V} {p : PyData} {i : Nat} (hx : X.N[i]? = some x) (hv : Vis X.env.scope x) (n1 : (x == ("__debug__" : Str)) = false) (n2 : (x == ("__classdict__" : Str)) = false)
    (h1 : PyData.showable p = true) (h2 : PyData.canLay0 p = true) (h3 : PyData.depth p ≤ 60) (h4 : (PyData.shown p).length ≤ 50000) : PE X e (fun σ H Q => σ[i]? = some (some v) ∧ Dp X.K H v p ∧ ∀ m : Str, m.length ≤ sizeLine → Q (.str m) H) := by
  have szp : (PyData.shown p).length ≤ sizeLine := by rw [sizeLine_eq]; omega
  have var : ∀ p1 : Pos, PE X (.Name x p1) (tVar i) := fun p1 => pe_var hx hv n1 n2
  have ap0 : ∀ y : Str, Str.empty ++ y = y := fun y => by
    show Str.append _ _ = _
    unfold Str.append Str.empty
    obtain ⟨c⟩ := y
    simp
  cases t with
  | con hm => exact pe_str.imp fun σ H Q ⟨_, _, q⟩ => q _ (by rw [sizeLine_eq]; omega)
  | @ahead mm _ _ _ _ _ hm =>
    refine (pe_joined (.cons (pe_fmtD hg hu (var _)) (.cons pe_str .nil))).imp fun σ H Q ⟨e, d, q⟩ => ?_
    refine ⟨v, e, p, d, h1, h2, h3, szp, _, rfl, by rw [ap0]; exact szp, ?_⟩
    rw [ap0]
    have z : (PyData.shown p ++ mm).length ≤ sizeLine := by
      have := txt_size hm h4
      have c : ∀ a b : Str, (a ++ b).length = a.length + b.length := fun a b => by
        show (Str.append a b).length = _
        unfold Str.append
        show (a.cps ++ b.cps).size = _
        rw [Array.size_append]; rfl
      rw [c] at this ⊢
      omega
    exact ⟨_, rfl, z, q _ z⟩
  | behind hm =>
    refine (pe_joined (.cons pe_str (.cons (pe_fmtD hg hu (var _)) .nil))).imp fun σ H Q ⟨e, d, q⟩ => ?_
    refine ⟨_, rfl, by rw [ap0, sizeLine_eq]; omega, ?_⟩
    rw [ap0]
    have z := txt_size hm h4
    exact ⟨v, e, p, d, h1, h2, h3, szp, _, rfl, z, q _ z⟩
end MX
end
section
set_option Elab.async false
set_option linter.all false
set_option autoImplicit false
set_option maxRecDepth 100000
set_option maxHeartbeats 2000000
/-! raise X(value), X an own class whose __init__ hands a text to super().__init__ and keeps its argument. -/
namespace MX
open PySem PySem.Spec PyProof.Rows L2 PySem.Builtin PySem.Builtin.ObjectAttr
/-- an exception class with such an __init__, as it stands -/
structure ExA where
  B : String
  nI : String
  iI : String
  bm : List Value
  fI : Addr
  cc : Addr
  cda : Addr
  name : Str
  qual : Str
  params : Arguments
  scope : Scope
  dV : Value
  kV : Value
  doc : Value
  pm : Value
  ct : Value
  oc : Value
  an : Option Addr
  od : Option Addr
  osl : Array (Option Value)
  self : Str
  arg : Str
  fld : Str
  p0 : Pos
  p1 : Pos
  p2 : Pos
  p3 : Pos
  p4 : Pos
  p5 : Pos
  p6 : Pos
  p7 : Pos
  p8 : Pos
  txt : Expr
def ExA.body (d : ExA) : List Stmt := [.Expr (.Call (.Attribute (.Call (.Name "super" d.p0) [] [] d.p1) "__init__" d.p2) [d.txt] [] d.p3) d.p4, .Assign [.Attribute (.Name d.self d.p5) d.fld d.p6] (.Name d.arg d.p7) d.p8]
structure ExA.Ok (P : Program) (K : PySem.W.Frag) (mg : Str → Option Value) (C : Addr) (d : ExA) : Prop where
  FB : ExcBaseFacts d.B d.nI d.iI d.bm
  KF : PySem.W.KxsFacts d.B d.iI
  SF : StoreFacts d.B d.bm "object.__setattr__" "object"
  q : PySem.W.excInitIn K C d.bm d.nI = true
  over : PySem.W.excOver K C d.bm = true
  hd : PySem.W.hasDictIn K C = true
  init : PySem.W.findIn K (.ref C) "__init__" = some (some (.ref d.fI))
  isF : PySem.W.isFn K (.ref d.fI) = true
  sa : PySem.W.findIn K (.ref C) "__setattr__" = some (some (.builtin "object.__setattr__"))
  tk : PySem.W.takerIn K C d.fld = some none
  sup : PySem.W.ks_superIn K C C "__init__" = some (some (.builtin d.iI))
  sub : PySem.W.subIn K (.ref C) (.type d.B) = some true
  self_ : PySem.W.mroIn K C (.ref C) = some true
  opq : PySem.W.nsIn K PySem.cStatics "thirdparty.any" = some none
  kp : PySem.W.keepIn K (.ref C) = true
  exC : PySem.W.subIn K (.ref C) (.type "BaseException") = some true
  tyC : PySem.W.typeIn K (.ref C) = some (.type "type")
  lk : K.lookup d.fI = some ⟨d.oc, d.od, .func (PySem.W.ksFn d.name d.qual d.params d.body d.scope d.dV d.kV d.doc d.pm d.an (.ref d.cda) d.ct d.cc), d.osl⟩
  code : PySem.W.codeIn K (.ref d.cda) d.qual = true
  file : ∃ (ccl : Value) (cdd : Option Addr) (vs : Array Value) (ccs : Array (Option Value)) (f : Str) (tf : Tok), K.lookup d.cda = some ⟨ccl, cdd, .fields vs, ccs⟩ ∧ vs[2]? = some (.str f tf) ∧ ((P.main.file : Str) == f) = true
  cell : ∃ (cl : Value) (cld : Option Addr) (csl : Array (Option Value)), K.lookup d.cc = some ⟨cl, cld, .cell (some (.ref C)), csl⟩
  top : (P.main.scope.names.lookup ("super" : Str)).isSome = false
  nosup : mg "super" = none
  dflt : d.dV = .none
  ps : ∃ a0 a1 : Arg, d.params = ⟨[], [a0, a1], none, [], [], none, []⟩ ∧ a0.arg = d.self ∧ a1.arg = d.arg
  ne : d.self ≠ d.arg
  kind : d.scope.kind = .function
  coro : d.scope.isCoroutine = false
  gen : d.scope.isGenerator = false
  noC : ∀ x ∈ d.scope.names, x.2 ≠ .cell
  frs : ∀ x ∈ d.scope.names, x.2 = .free → x.1 = "__class__"
  lS : d.scope.names.lookup d.self = some .local
  lA : d.scope.names.lookup d.arg = some .local
  lG : d.scope.names.lookup ("super" : Str) = some .globalImplicit
  lC : d.scope.names.lookup ("__class__" : Str) = some .free
  nA : nmOk d.arg = true
  nS : nmOk d.self = true
  text : Txt d.arg d.txt
  line : oneLine d.p2 d.p3 = true
  fl : (d.fld == ("__class__" : Str)) = false
theorem store_keep {H : Hp} {a : Addr} {o u : HO} (h : H a = some o) (d : ∀ b v, H b = some v → v = u → b ≠ a) {b : Addr} (q : H b = some u) : b ≠ a := d b u q rfl
section
variable {X : Cx} {pins : List (Addr × Obj)} {σ : L2.St} {H : Hp} {s : Shared} {a C : Addr} {f : Str} {y : V} {u : Value} {E : Value → Shared → Prop} {A : Around} {d : ExA}
/-- self.f = y, the first store on an exception -/
theorem exc_store {Q : Unit → Shared → Prop} (T : d.Ok X.prog X.K X.mg C) (I : Inv X pins σ H s) (he : H a = some (exo a C none)) (ry : RelV y u)
    (h : ∀ (e : Addr) (s2 : Shared), H e = none → e ≠ a → Inv X pins σ (upd (upd H e (exd e [(d.fld, y)])) a (exo a C (some e))) s2 → Q () s2) : wpAny (model X.prog X.w) A (setAttr (.ref a) d.fld u) Q E s := by
  obtain ⟨t1, ho⟩ := exo_at I.hok he
  have Ia : PySem.W.InstAt s.heap a { cls := .ref C, dict := none, data := .fields #[.ref t1, .none, .none, .none, .bool false, .none] } C none := ⟨ho, rfl, rfl, trivial⟩
  obtain ⟨cd, hcd, hhd⟩ := PySem.W.any_some T.hd
  obtain ⟨hp, g, dr, t, os⟩ := s
  refine PySem.W.set_plain I.kIn Ia T.sa (PySem.W.osa_openX (od := none) T.SF I.kIn Ia T.over T.tk fun b => ?_)
  have Lc : PySem.W.Looks (model X.prog X.w) hp (classData C) cd := PySem.W.looks_clsIn I.kIn hcd
  have ax : a ≠ hp.objs.size := Nat.ne_of_lt (Heap.lt_size ho)
  have key : ∀ (h2 : Heap) (tk2 : Tok), h2.Ns1 hp.objs.size (fun n => if n = d.fld then some u else none) → (∀ b o, b ≠ a → hp.get? b = some o → h2.get? b = some o) → h2.get? a = some ({ cls := .ref C, dict := some hp.objs.size, data := .fields #[.ref t1, .none, .none, .none, .bool false, .none] } : Obj) →
      Q () ⟨h2, g, dr, tk2, os⟩ := fun h2 tk2 hn k hx => by
    have nd : H hp.objs.size = none := I.hok.fresh (Nat.le_refl _)
    have low : ∀ {b : Addr} {o : Obj}, hp.get? b = some o → b ≠ hp.objs.size := fun {b o} z => Nat.ne_of_lt (Heap.lt_size z)
    have away : ∀ {b : Addr}, H b = none → b ≠ a := fun {b} z1 z2 => by rw [z2, he] at z1; cases z1
    have put : ∀ {b : Addr}, b ≠ a → b ≠ hp.objs.size → upd (upd H hp.objs.size (exd hp.objs.size [(d.fld, y)])) a (exo a C (some hp.objs.size)) b = H b := fun {b} z1 z2 => by rw [upd_ne z1, upd_ne z2]
    have far : ∀ {b : Addr} {o : HO}, H b = some o → b ≠ hp.objs.size := fun {b o} z => ne_of_none z nd
    refine h hp.objs.size _ nd (Ne.symm ax) (I.un (t' := tk2) ?_ fun b o z => ?_)
    · constructor
      · exact fun b o z n _ _ => k b o (away n) z
      · exact fun b o z n _ _ => ⟨o.slots, k b o (away n) z⟩
      · exact fun b o z n _ => (put (away n) (low z)).trans n
      · intro b o z _
        by_cases hb : b = a
        · subst hb; exact ⟨_, hx⟩
        · exact ⟨o, k b o hb z⟩
      · exact fun b xs z => (put (at_ne he z exo_tup) (far z)).trans z
      · exact fun b o v z => (put (at_ne he z exo_frz) (far z)).trans z
      · exact fun b ps z => ⟨#[], by rw [put (at_ne he z exo_tbl) (far z), z]; simp⟩
    · by_cases hb : b = a
      · subst hb
        rw [upd_same] at z
        cases z
        exact exo_ok hx
      · by_cases hd2 : b = hp.objs.size
        · subst hd2
          rw [upd_ne hb, upd_same] at z
          cases z
          exact exd_ok hn (relO_put (fs := []) ry fun _ => True.intro)
        · rw [put hb hd2] at z
          refine (I.hok b o z).stay (fun c v hc w => k c v ?_ w) (fun c hc => (put (at_ne he hc exo_own) (far hc)).trans hc) fun c xs hc => (put (at_ne he hc exo_tup) (far hc)).trans hc
          rcases hc with rfl | hc
          · exact hb
          · exact at_ne he hc exo_own
  obtain ⟨nm, bs, mro, ns, qn, hd, sn, sb, ab, col, del⟩ := cd
  dsimp only at hhd
  subst hhd
  show wpAny _ _ (storeInOwnDict (.ref a) (.ref C) (.str d.fld _) d.fld u b) _ _ _
  unfold storeInOwnDict ownDictForStores
  repeat (first | with_reducible refine PySem.HandSPX.store_in_new ?_ ?_ | with_reducible refine wpAny_loadPart_at ho ?_ | with_reducible refine Lc.at ?_ | wp_step)
  · exact ⟨_, #[], _, (Heap.get?_update_ne _ _ _ _ ax.symm).trans (Heap.get?_push_at rfl rfl), rfl, fun e z => absurd z (by simp), fun _ => rfl⟩
  · intro h2 tk2 hn sb
    have hx1 := Heap.get?_push_of_some ({ cls := .type "dict", data := .dict #[] } : Obj) ho
    refine key h2 tk2 hn (fun b o hb z => ?_) ((sb.2 a ax).trans (Heap.get?_update_self _ hx1 rfl))
    exact (sb.2 b (Nat.ne_of_lt (Heap.lt_size z))).trans ((Heap.get?_update_ne _ _ _ _ hb).trans (Heap.get?_push_of_some _ z))
end
end MX
end
section
set_option Elab.async false
set_option linter.all false
set_option autoImplicit false
set_option maxRecDepth 100000
set_option maxHeartbeats 2000000
/-! The call of such a class. -/
namespace MX
open PySem PySem.Spec PyProof.Rows L2 PySem.Builtin PySem.Builtin.ObjectAttr
section
variable {X : Cx} {pins : List (Addr × Obj)} {σ : L2.St} {H : Hp} {s : Shared} {a C : Addr} {d : ExA}
/-- the built-in __init__, bound, called: only the record is written -/
theorem bound_init {Q : Value → Shared → Prop} {E : Value → Shared → Prop} {A : Around} {z : Addr} {rest : List Value} (T : d.Ok X.prog X.K X.mg C) (I : Inv X pins σ H s) (he : H a = some (exo a C none)) (hz : s.heap.get? z = some (PySem.W.kxs_mw d.iI a)) (hl : rest.length ≤ sizeLine)
    (h : ∀ s2, Inv X pins σ H s2 → Q .none s2) : wpAny (model X.prog X.w) A (call (.ref z) rest) Q E s := by
  obtain ⟨t1, ho⟩ := exo_at I.hok he
  obtain ⟨nm, N', qn, bs, bm, hdct, sn, sub, ab, col, dd, k0, k1, k2, k3, k5, hC, hT⟩ := PySem.W.excInit_of I.kIn T.q
  obtain ⟨hp, g, dr, t, os⟩ := s
  have eu : upd H a (exo a C none) = H := funext fun b => by
    by_cases hb : b = a
    · subst hb; rw [upd_same, he]
    · exact upd_ne hb
  refine wpAny_call (codeAny_of_tree (show wpAny _ A.in1 (callAny (.ref z) ⟨rest, []⟩) _ _ _ from ?_))
  unfold callAny
  refine wpAny_bind (wpAny_load hz ?_)
  have m1 : (Value.type "method-wrapper" == Value.type "method" || Value.type "method-wrapper" == Value.type "builtin_function_or_method" || Value.type "method-wrapper" == Value.type "method-wrapper") = true := by decide
  simp only [PySem.W.kxs_mw, m1, if_true]
  refine PySem.W.KFB.if_so (by decide) (wpAny_bind (PySem.W.check_bound_init T.FB.toExcCallFacts hC ho rfl (wpAny_bind (wpAny_pure (wpAny_pure ⟨plainId_quiet T.FB.init.plain _, codeAny_builtin T.FB.initEntry ?_⟩)))))
  refine PySem.W.exc_init_tree (cls := .ref C) (t0 := t1) (dv := none) (c2 := .none) (c3 := .none) (b4 := .bool false) ho hl fun h2 k e2 _ => ?_
  have J := I.write (t' := t) (x := a) (e := a) (o := exo a C none) (by rw [he]; exact True.intro) (.inl rfl) k ⟨_, e2⟩ (exo_ok e2)
  rw [eu] at J
  exact h _ J

theorem rd_up {H H' : Hp} (h : ∀ a o, H a = some o → H' a = some o) {a : Addr} {o : HO} (z : Rd H a o) : Rd H' a o := by
  rcases z with z | ⟨b, z⟩
  · exact .inl (h _ _ z)
  · exact .inr ⟨b, h _ _ z⟩
mutual
theorem Dp.up {K : PySem.W.Frag} {H H' : Hp} (h : ∀ a o, H a = some o → H' a = some o) : ∀ {p : PyData} {v : V}, Dp K H v p → Dp K H' v p
  | _, _, .non => .non
  | _, _, .bl b => .bl b
  | _, _, .int i => .int i
  | _, _, .str x => .str x
  | _, _, .lst e r => .lst (e.imp (rd_up h) id) (DpAll.up h r)
  | _, _, .tup e r => .tup (e.imp (rd_up h) id) (DpAll.up h r)
theorem DpAll.up {K : PySem.W.Frag} {H H' : Hp} (h : ∀ a o, H a = some o → H' a = some o) : ∀ {ps : List PyData} {vs : List V}, DpAll K H vs ps → DpAll K H' vs ps
  | _, _, .nil => .nil
  | _, _, .cons a r => .cons (Dp.up h a) (DpAll.up h r)
end
/-- the frame of __init__ -/
theorem exc_frame {k : Nat} {v : V} {u : Value} {p : PyData} {H2 : Hp} {e : Addr} {hp2 h₁ : Heap} {g : Array GenState} {dr : Drawn} {tk tk2 : Nat} {os : OsState} {A1 : Around} {QF : Flow → Shared → Prop} {EX : Value → Shared → Prop}
    (T : d.Ok X.prog X.K X.mg C) (hr : Room (k + 1) A1) (hg : A1.guards = some []) (e0 : Env0 X.prog X.w X.K X.mg X.base A1 X.stack ⟨hp2, g, dr, tk, os⟩ H2) (he : H2 e = some (exo e C none)) (hns : h₁.Ns hp2.objs.size (fun x => [(d.self, Value.ref e), (d.arg, u)].reverse.lookup x))
    (kp : ∀ b o, hp2.get? b = some o → h₁.get? b = some o) (ru : RelV v u) (dp : Dp X.K H2 v p) (h1 : PyData.showable p = true) (h2' : PyData.canLay0 p = true) (h3 : PyData.depth p ≤ 60) (h4 : (PyData.shown p).length ≤ 50000)
    (hq : ∀ (z : Addr) (H3 : Hp) (s3 : Shared), H3 = upd (upd H2 z (exd z [(d.fld, v)])) e (exo e C (some z)) → Un (frs X.stack) [] H2 H3 hp2 s3.heap → HOk X.prog X.w H3 s3.heap → s3.os = os → AllBare s3.gens → H2 z = none → z ≠ e → QF .next s3) :
    _root_.PySem.wpAt (model X.prog X.w) (A1.deeper (PySem.W.ksEnv d.qual d.scope hp2.objs.size d.fI (.ref d.cda) d.cc)) (.func d.body (PySem.W.ksEnv d.qual d.scope hp2.objs.size d.fI (.ref d.cda) d.cc)) (execs d.body (PySem.W.ksEnv d.qual d.scope hp2.objs.size d.fI (.ref d.cda) d.cc)) QF EX ⟨h₁, g, dr, tk2, os⟩ := by
  obtain ⟨a0, a1, hps, hs0, hs1⟩ := T.ps
  let lenv : Env := PySem.W.ksEnv d.qual d.scope hp2.objs.size d.fI (.ref d.cda) d.cc
  let XI : Cx := { prog := X.prog, w := X.w, K := X.K, mg := X.mg, base := X.base, A := A1.deeper lenv, N := [d.self, d.arg], s_0 := ⟨hp2, g, dr, tk, os⟩, H_0 := H2, env := lenv, outer := X.stack, stack := lenv :: X.stack, ex := [], fn := fun _ => false, calm := true, pn := [], xe := EX }
  obtain ⟨cl, cld, csl, hcell⟩ := T.cell
  have cc0 := e0.bs _ _ (e0.mod.kin _ _ hcell)
  have cc1 : h₁.IsCell d.cc (some (.ref C)) := ⟨_, kp _ _ cc0.1, rfl⟩
  have cells : ∀ (x : Str) (c : Addr), lenv.cells.lookup x = some c → x = "__class__" ∧ c = d.cc := fun x c z => by
    have z : ([(("__class__" : Str), d.cc)] : List (Str × Addr)).lookup x = some c := z
    rw [List.lookup_cons] at z
    cases q : x == ("__class__" : Str) with
    | true => rw [q] at z; exact ⟨eq_of_beq q, by cases z; rfl⟩
    | false => rw [q] at z; cases z
  have noA : ∀ b : Addr, b ∉ XI.ex := fun b z => absurd (show b ∈ ([] : List Addr) from z) (by simp)
  have ok : XI.Ok := ⟨e0.mod, T.kind, rfl, rfl, Nat.le_refl _, fun x y c z1 z2 => (cells x c z1).1.trans (cells y c z2).1.symm, fun x hx => by
      have hx : d.scope.names.lookup x = some .cell ∨ d.scope.names.lookup x = some .free := hx
      rcases hx with hx | hx
      · exact absurd rfl (T.noC _ (PySem.mem_of_lookup hx))
      · have z := T.frs _ (PySem.mem_of_lookup hx) rfl
        have z : x = "__class__" := z
        subst z
        exact ⟨d.cc, by show ([(("__class__" : Str), d.cc)] : List (Str × Addr)).lookup _ = _; rw [List.lookup_cons]; simp⟩,
    fun y ca z _ => (nomatch z), fun _ => hr.hd, Around.frames_deeper e0.frames, .inr ⟨rfl, rfl⟩, fun b z => absurd z (noA b), e0.bs, e0.bsz, fun b _ _ => noA b, fun b z => absurd z (noA b), e0.funs, e0.frf⟩
  have look : ∀ (i : Nat) (x : Str) (w : V), XI.N[i]? = some x → ([some (.ref e), some v] : L2.St)[i]? = some (some w) → ∃ u', RelV w u' ∧ [(d.self, Value.ref e), (d.arg, u)].reverse.lookup x = some u' ∧ d.scope.names.lookup x = some .local := fun i x w z1 z2 => by
    have nb : (d.self == d.arg) = false := beq_eq_false_iff_ne.mpr T.ne
    match i with
    | 0 =>
      cases (show some d.self = some x from z1)
      cases (show some (some (V.ref e)) = some (some w) from z2)
      exact ⟨.ref e, rfl, by show ([(d.arg, u), (d.self, Value.ref e)] : List (Str × Value)).lookup d.self = _; rw [List.lookup_cons, nb, List.lookup_cons]; simp, T.lS⟩
    | 1 =>
      cases (show some d.arg = some x from z1)
      cases (show some (some v) = some (some w) from z2)
      exact ⟨u, ru, by show ([(d.arg, u), (d.self, Value.ref e)] : List (Str × Value)).lookup d.arg = _; rw [List.lookup_cons]; simp, T.lA⟩
    | i + 2 => simp at z2
  have I0 : Inv XI [] [some (.ref e), some v] H2 ⟨h₁, g, dr, tk2, os⟩ := ⟨ok, rfl, e0.bare, Un.kept kp, ⟨_, hns, fun i x w z1 z2 _ => by
      obtain ⟨u', y1, y2, y3⟩ := look i x w z1 z2
      exact ⟨u', y1, .inl ⟨y3, y2⟩⟩⟩, fun x c z => by rw [(cells x c z).2]; exact ⟨_, cc1⟩, e0.hok.fresh (Nat.le_refl _), fun x c z => by rw [(cells x c z).2]; exact cc0.2, fun q z => absurd (show q ∈ ([] : List (Addr × Obj)) ++ [] from z) (by simp), e0.hok.kept kp, rfl⟩
  obtain ⟨ccl, cdd, vs, ccs, ff, tf, hco, hvs, hfile⟩ := T.file
  obtain ⟨t1, ho⟩ := exo_at e0.hok he
  have ho1 := kp _ _ ho
  have kin : X.K.In h₁ := I0.kIn
  obtain ⟨cd, hcd, hhd⟩ := PySem.W.any_some T.hd
  have hD : ∃ oD, h₁.get? C = some oD ∧ oD.data = .cls cd := by
    have z := hcd
    unfold PySem.W.clsIn at z
    split at z
    · rename_i w1 w2 cd' w3 w4
      cases z
      exact ⟨_, kin _ _ w4, rfl⟩
    · cases z
  obtain ⟨oD, hD1, hD2⟩ := hD
  have inst : PySem.W.InstAt h₁ e { cls := .ref C, dict := none, data := .fields #[.ref t1, .none, .none, .none, .bool false, .none] } C none := ⟨ho1, rfl, rfl, trivial⟩
  have eC : e ≠ C := PySem.W.ks_ne kin inst hcd
  show _root_.PySem.wpAt (model X.prog X.w) XI.A (.func d.body lenv) (execs d.body lenv) QF EX _
  have plainT : fewArgs [d.txt] = true ∧ starEach [d.txt] lenv = [(false, eval d.txt lenv)] := by
    have z := T.text
    revert z
    generalize d.txt = tx
    intro z
    cases z <;> exact ⟨rfl, rfl⟩
  obtain ⟨few, star⟩ := plainT
  obtain ⟨pl, hpl⟩ : ∃ pl : Sem Bool, eval (.Call (.Attribute (.Call (.Name "super" d.p0) [] [] d.p1) "__init__" d.p2) [d.txt] [] d.p3) lenv = (do
      let ov ← attributeBase (.Call (.Name "super" d.p0) [] [] d.p1) "__init__" lenv (eval (.Call (.Name "super" d.p0) [] [] d.p1) lenv)
      standAt d.p2.atName
      let (f, first) ← holding [ov] (getMethod ov "__init__" pl)
      callWith d.p3 f first (backTo d.p3 (starEach [d.txt] lenv)) []) := by
    have hform : methodCallForm ([d.txt].length + ([] : List Keyword).length) (backTo d.p3 (starEach [d.txt] lenv)) (backToKw d.p3 (keywordEach [] lenv)) = true := few_kw few
    have hpos : methodCallPos true (.Call (.Name "super" d.p0) [] [] d.p1) lenv d.p2 d.p3 = pure d.p3 := by
      have hl' : (d.p2.endLine == d.p3.line) = true := T.line
      unfold methodCallPos
      simp [hl']
    rw [arm_eval_Call]
    unfold methodCall
    rw [hform, hpos]
    exact ⟨_, rfl⟩
  refine PySem.ks_wpAt_execs_cons (PySem.ks_wpAt_Expr_any (PySem.ks_wpAt_MethodCall (pl := pl) ?_ hpl) (by unfold interactive; rw [show lenv.scope.kind = .function from T.kind]; rfl) rfl)
  refine PySem.ks_wpAt_super_base (env := lenv) T.lG T.lC (by decide) rfl (kin _ _ T.lk) rfl (ar := a0) (by show (d.params.posonlyargs ++ d.params.args).head? = _; rw [hps]; rfl) rfl (kin _ _ hco) rfl hvs hfile T.top ?_
  obtain ⟨mb, b1, b2⟩ := e0.mod.blt
  have kb : ∀ b o, X.base.get? b = some o → h₁.get? b = some o := fun b o z => kp _ _ (e0.bs b o z).1
  refine PySem.W.ks_loadName_global T.kind T.lG (Calls.loadGlobal_builtin (env := lenv) (e0.mod.glob.keeps kb) T.nosup (b1.keeps kb) ((b2 _ (by decide)).trans PyProof.Rows.Boot.«super») ⟨rfl, ?_⟩)
  refine wpAny_loadName_free T.kind T.lC rfl cc1 ?_
  rw [hs0]
  obtain ⟨u0, r0, l0, _⟩ := look 0 d.self (.ref e) rfl rfl
  cases (show u0 = Value.ref e from r0)
  refine wpAny_loadName_local T.kind T.lS hns l0 (PySem.ks_wpAny_isType_cls hD1 hD2 ⟨rfl, ?_⟩)
  refine PySem.ks_wpAny_call_super hD1 hD2 ho1 rfl (fun c z => by cases z) (PySem.W.looks_mroIn kin T.self_) fun h2 e2 k2 => ?_
  have kin2 : X.K.In h2 := kin.keeps k2
  have supM := T.sup
  unfold PySem.W.ks_superIn at supM
  rw [hcd] at supM
  have ho2 := k2 _ _ ho1
  have inst2 : PySem.W.InstAt h2 e { cls := .ref C, dict := none, data := .fields #[.ref t1, .none, .none, .none, .bool false, .none] } C none := ⟨ho2, rfl, rfl, trivial⟩
  refine PySem.W.kxs_getMethod T.KF e2 (PySem.W.looks_opaque kin2 T.opq) (l₀ := cd.mro) (fun A Q E s kk q => wpAny_bind ((PySem.W.looks_clsIn kin2 hcd) A _ E s kk (wpAny_pure q))) rfl kin2 supM (inst2.type.andThen (PySem.W.looks_subIn kin2 T.sub)) eC (by decide) ?_
  -- the bound __init__ stands; the text
  have k3 : ∀ b o, h₁.get? b = some o → (h2.push (PySem.W.kxs_mw d.iI e)).get? b = some o := fun b o z => Heap.get?_push_of_some _ (k2 b o z)
  have atM : (h2.push (PySem.W.kxs_mw d.iI e)).get? h2.objs.size = some (PySem.W.kxs_mw d.iI e) := Heap.get?_push_at rfl rfl
  have I1 : Inv XI [] [some (.ref e), some v] H2 ⟨h2, g, dr, tk2, os⟩ := I0.kept (t' := tk2) k2
  have nM : H2 h2.objs.size = none := I1.hok.fresh (Nat.le_refl _)
  have below : ∀ {b : Addr} {o : Obj}, h2.get? b = some o → h2.objs.size ≠ b := fun {b o} z => Nat.ne_of_gt (Heap.lt_size z)
  have Ip : Inv XI [(h2.objs.size, PySem.W.kxs_mw d.iI e)] [some (.ref e), some v] H2 ⟨h2.push (PySem.W.kxs_mw d.iI e), g, dr, tk2 + 1, os⟩ := by
    refine (I0.kept (t' := tk2 + 1) k3).pins_of fun q hq' => ?_
    cases List.mem_singleton.mp hq'
    refine ⟨atM, nM, ?_, fun z => ?_, fun w z => by cases z⟩
    · obtain ⟨o, es, ep, z, _⟩ := hns
      exact below (k2 _ _ z)
    · obtain ⟨_, o, z2, _⟩ := e0.funs.mem z
      exact below (k2 _ _ (kp _ _ z2)) rfl
  have nA := nmOk_ok T.nA
  have nS := nmOk_ok T.nS
  have text := txt_run (X := XI) (i := 1) T.text hg (by have := hr.un; show A1.units + 3 + 65 < _; omega) (v := v) (p := p) rfl (.inl T.lA) nA.1 nA.2.1 h1 h2' h3 h4
  have args := (pa_cons text pa_nil star).run d.p3 _ _ _ _ (fun vs Hx => Hx = H2 ∧ ∃ m : Str, vs = [.str m] ∧ m.length ≤ sizeLine) Ip ⟨rfl, dp, fun m hm => ⟨rfl, m, rfl, hm⟩⟩
  have args : wpAny (model X.prog X.w) XI.A (spliced (backTo d.p3 (starEach [d.txt] lenv))) (AP XI [(h2.objs.size, PySem.W.kxs_mw d.iI e)] [some (.ref e), some v] fun vs Hx => Hx = H2 ∧ ∃ m : Str, vs = [.str m] ∧ m.length ≤ sizeLine) EX ⟨h2.push (PySem.W.kxs_mw d.iI e), g, dr, tk2 + 1, os⟩ := args
  have starB : backTo d.p3 (starEach [d.txt] lenv) = [(false, (backTo d.p3 (starEach [d.txt] lenv)).headD (false, pure .none) |>.2)] := by rw [star]; rfl
  refine PySem.W.kxs_callWith (i := d.iI) (x := e) (by rw [starB]; rfl) ?_
  rw [starB] at args ⊢
  refine Calls.evalArgs_plain (thn args fun us s3 ⟨vs', H3, I3, r3, eH, m, ev, hm⟩ => ?_)
  subst eH ev
  cases r3 with
  | cons ra rb =>
    rename_i ua ub
    cases rb
    have pinned := (I3.pin (h2.objs.size, PySem.W.kxs_mw d.iI e) (List.mem_append_right _ List.mem_cons_self)).1
    refine ⟨pinned, ?_⟩
    refine bound_init (X := XI) T I3 he pinned (by show 1 ≤ sizeLine; rw [sizeLine_eq]; omega) fun s4 I4 => ?_
    show _root_.PySem.wpAt (model X.prog X.w) XI.A (.func d.body lenv) (execs [.Assign [.Attribute (.Name d.self d.p5) d.fld d.p6] (.Name d.arg d.p7) d.p8] lenv) QF EX s4
    refine PySem.ks_wpAt_execs_cons (wpAt_of_wpAny (plainObj_wpAny_Assign_Attribute (thn ((pe_var (X := XI) (i := 1) (x := d.arg) rfl (.inl T.lA) nA.1 nA.2.1).run _ s4 _ H3 (fun w Hw => w = v ∧ Hw = H3) I4 ⟨v, rfl, rfl, rfl⟩) fun u5 s5 ⟨w5, H5, I5, r5, e5, g5⟩ => ?_)))
    subst e5 g5
    refine thn ((pe_var (X := XI) (i := 0) (x := d.self) rfl (.inl T.lS) nS.1 nS.2.1).run _ s5 _ H5 (fun w Hw => w = .ref e ∧ Hw = H5) I5 ⟨.ref e, rfl, rfl, rfl⟩) fun u6 s6 ⟨w6, H6, I6, r6, e6, g6⟩ => ?_
    subst e6 g6
    cases (show u6 = Value.ref e from r6)
    refine exc_store (X := XI) T I6 he r5 fun z s7 hz ne I7 => ?_
    show _root_.PySem.wpAt (model X.prog X.w) XI.A (.func d.body lenv) (execs [] lenv) QF EX s7
    refine wpAt_of_wpAny (wpAny_execs_nil ?_)
    exact hq z _ s7 rfl I7.base I7.hok I7.os I7.bare hz ne

theorem exc_made {k : Nat} {v : V} {u : Value} {p : PyData} {Q : XK} (T : d.Ok X.prog X.K X.mg C) (hr : Room (k + 2) X.A) (hgu : X.A.guards = some []) (e0 : Env0 X.prog X.w X.K X.mg X.base X.A X.stack s H) (I : Inv X pins σ H s) (ru : RelV v u) (dp : Dp X.K H v p)
    (h1 : PyData.showable p = true) (h2 : PyData.canLay0 p = true) (h3 : PyData.depth p ≤ 60) (h4 : (PyData.shown p).length ≤ 50000) (hQ : ∀ e : Addr, H e = none → Q (.ref C) (some e) (upd H e (.xd [(d.fld, v)]))) :
    wpAny (model X.prog X.w) X.A (call (.ref C) [u]) (MkP X pins σ Q) X.xe s := by
  obtain ⟨nm, N', qn, bs, bm, hdct, sn, sub, ab, col, dd, k0, k1, k2, k3, k5, hC, hT⟩ := PySem.W.excInit_of I.kIn T.q
  obtain ⟨a0, a1, hps, hs0, hs1⟩ := T.ps
  obtain ⟨hp, g, dr, tk, os⟩ := s
  have lkI := I.kIn _ _ T.lk
  have ocl : d.oc = .type "function" := by
    have z : ((X.K.lookup d.fI).map (·.cls) == some (.type "function")) = true := T.isF
    rw [T.lk] at z
    simpa using z
  refine wpAny_call (PySem.HandSPX.call_own T.FB hT hC (PySem.W.looks_findIn I.kIn T.init) (fun self => PySem.W.exc_bind lkI ocl self) (by show 1 ≤ sizeLine; rw [sizeLine_eq]; omega) ?_)
  -- the object, not yet initialised
  have up1 : ∀ b o, hp.get? b = some o → ((hp.push (PySem.W.kdv_tup [u])).push (PySem.HandSPX.excO C hp.objs.size)).get? b = some o := fun b o z => Heap.get?_push_of_some _ (Heap.get?_push_of_some _ z)
  have atE : ((hp.push (PySem.W.kdv_tup [u])).push (PySem.HandSPX.excO C hp.objs.size)).get? (hp.objs.size + 1) = some (PySem.HandSPX.excO C hp.objs.size) := by heap_get
  have hn : H (hp.objs.size + 1) = none := I.hok.fresh (Nat.le_succ _)
  generalize hE : hp.objs.size + 1 = e at *
  have geE : hp.objs.size ≤ e := by omega
  generalize hH : (hp.push (PySem.W.kdv_tup [u])).push (PySem.HandSPX.excO C hp.objs.size) = hp2 at *
  have I2 : Inv X pins σ (upd H e (exo e C none)) ⟨hp2, g, dr, tk, os⟩ := I.laid (s := ⟨hp, g, dr, tk, os⟩) (t' := tk) up1 geE (exo_ok atE)
  have env2 : Env0 X.prog X.w X.K X.mg X.base (X.A.under (.builtin "type.__call__" ⟨.ref C :: [u], []⟩)) X.stack ⟨hp2, g, dr, tk, os⟩ (upd H e (exo e C none)) := by
    refine Env0.make ⟨e0.frames, e0.mod, fun b o z => ?_, ?_, e0.funs.of_keeps fun b o z nf => ⟨o, up1 b o z, rfl⟩, fun b z => ?_, I2.hok, I2.bare⟩ C [u] []
    · exact I2.bs b o z
    · have := e0.bsz
      have q1 : e < hp2.objs.size := Heap.lt_size atE
      show X.base.objs.size ≤ hp2.objs.size
      have this : X.base.objs.size ≤ hp.objs.size := this
      omega
    · have z1 := e0.frf b z
      have z2 := (e0.funs.mem z).2
      obtain ⟨o, z3, _⟩ := z2
      rw [upd_ne (fun w => by subst w; exact absurd (Heap.lt_size z3) (by show ¬ _ < hp.objs.size; omega))]
      exact z1
  have hr1 : Room (k + 1) (X.A.under (.builtin "type.__call__" ⟨.ref C :: [u], []⟩)) := Room.make hr C [u] []
  have hg1 : (X.A.under (.builtin "type.__call__" ⟨.ref C :: [u], []⟩)).guards = some [] := by first | exact hgu | simpa [Around.under, Code.guards, Code.isGuard, guardIds, pushGuards] using hgu
  generalize hA : X.A.under (.builtin "type.__call__" ⟨.ref C :: [u], []⟩) = A1 at *
  have bnd : BindsTo (⟨hp2, g, dr, tk, os⟩ : Shared) (PySem.W.ksFn d.name d.qual d.params d.body d.scope d.dV d.kV d.doc d.pm d.an (.ref d.cda) d.ct d.cc) ⟨.ref e :: [u], []⟩ [(d.self, .ref e), (d.arg, u)] := by
    refine .of_eq ?_
    have z := bind_pos (fd := PySem.W.ksFn d.name d.qual d.params d.body d.scope d.dV d.kV d.doc d.pm d.an (.ref d.cda) d.ct d.cc) (as := [a0, a1]) (us := [.ref e, u]) hps T.dflt (by simp [hs0, hs1, T.ne]) rfl
    rw [z]
    simp [hs0, hs1]
  refine PySem.ks_codeAny_call_defAt (fd := PySem.W.ksFn d.name d.qual d.params d.body d.scope d.dV d.kV d.doc d.pm d.an (.ref d.cda) d.ct d.cc) (body := d.body) hr1.depth (I2.kIn _ _ T.lk) rfl I2.nolimit (PySem.W.codeRec_of I2.kIn T.code) rfl bnd T.noC (fun x hx => ?_) (fun h₁ hns kp => ?_) T.coro T.gen T.kind
  · rcases List.mem_cons.mp hx with rfl | hx
    · exact T.lS
    · cases List.mem_singleton.mp hx; exact T.lA
  have dp2 : Dp X.K (upd H e (exo e C none)) v p := Dp.up (fun b o z => by rw [upd_ne (ne_of_none z hn)]; exact z) dp
  refine exc_frame T hr1 hg1 env2 upd_same hns kp ru dp2 h1 h2 h3 h4 fun z H3 s3 eH un hok ho hb hz ne => ⟨rfl, ?_⟩
  subst eH
  obtain ⟨hp3, g3, dr3, tk3, os3⟩ := s3
  have hz1 : H z = none := by rw [upd_ne ne] at hz; exact hz
  have e1 : upd (del (upd (upd (upd H e (exo e C none)) z (exd z [(d.fld, v)])) e (exo e C (some z))) e) z (.xd [(d.fld, v)]) = upd H z (.xd [(d.fld, v)]) := funext fun b => by
    by_cases q1 : b = z
    · subst q1; rw [upd_same, upd_same]
    · rw [upd_ne q1, upd_ne q1]
      by_cases q2 : b = e
      · subst q2; rw [del_same]; exact hn.symm
      · rw [del_ne q2, upd_ne q2, upd_ne q1, upd_ne q2]
  exact mk_end (raises_own T.exC T.tyC) I geE up1 un hok ho hb upd_same (by rw [upd_ne ne, upd_same]) hz1 (by rw [e1]; exact hQ z hz1)
end
end MX
end
section
set_option Elab.async false
set_option linter.all false
set_option autoImplicit false
set_option maxRecDepth 100000
set_option maxHeartbeats 1000000
/-! raise X(value) as a statement. -/
namespace MX
open PySem PySem.Spec PyProof.Rows L2
structure GA (W : Wd) : Prop where
  ex : ∀ c k f, W.G.tab[c]? = some (.cls k) → k.fld = some f → f < W.at_.length ∧ XfC W.K (W.ad c) ∧ PySem.W.findIn W.K (.ref (W.ad c)) (nmAt W.at_ f) = some none ∧ ∃ d : ExA, d.Ok W.P W.K W.mg (W.ad c) ∧ d.fld = nmAt W.at_ f
def oneOf (P : V → Hp → Prop) : List V → Hp → Prop
  | [v], H => P v H
  | _, _ => False
theorem pmk_A {X : Cx} {C : Addr} {d : ExA} {k : Nat} {x : Str} {e : Expr} {te : TE} {p pos : Pos} (T : d.Ok X.prog X.K X.mg C) (hr : Room (k + 2) X.A) (hgu : X.A.guards = some []) (hg : Gl X x) (gC : X.mg x = some (.ref C)) (hs : isStar e = false) (hdb : (x == ("__debug__" : Str)) = false) (he : PE X e te) :
    PMk X (.Call (.Name x p) [e] [] pos) (fun σ H Q => te σ H fun v H1 => ∃ q, Dp X.K H1 v q ∧ PyData.showable q = true ∧ PyData.canLay0 q = true ∧ PyData.depth q ≤ 60 ∧ (PyData.shown q).length ≤ 50000 ∧ ∀ a : Addr, H1 a = none → Q (.ref C) (some a) (upd H1 a (.xd [(d.fld, v)]))) := by
  intro pins s σ H Q I h
  have one : starEach [e] X.env = [(false, eval e X.env)] := by cases e <;> first | rfl | cases hs
  have ha : PA X [e] (tCons te tNil) := pa_cons he pa_nil one
  refine wpAny_Call_Name_kw (ld_glob I hg gC ?_ hdb)
  refine PySem.W.callWith_K (h₀ := X.base) I.ok.mod.kin T.kp (thn (ha.run pos pins s σ H (oneOf fun v H1 => ∃ q, Dp X.K H1 v q ∧ PyData.showable q = true ∧ PyData.canLay0 q = true ∧ PyData.depth q ≤ 60 ∧ (PyData.shown q).length ≤ 50000 ∧ ∀ a : Addr, H1 a = none → Q (.ref C) (some a) (upd H1 a (.xd [(d.fld, v)]))) I h) fun us s1 ⟨vs, H1, I1, r1, z⟩ => ?_) (by rw [one]; rfl) rfl
  match vs, r1, z with
  | [v], .cons ru .nil, ⟨q, dp, h1, h2, h3, h4, hq⟩ => exact ⟨I1.kIn, exc_made T hr hgu I1.env0 I1 ru dp h1 h2 h3 h4 hq⟩
  | [], _, z => exact False.elim z
  | _ :: _ :: _, _, z => exact False.elim z
section
variable {W : Wd} {J : Jx} {c : CC} {k : Nat}
theorem s_raiA (Fg : GF W) (X : GA W) (g : XG W J c (k + 1)) {x : Str} {e : Expr} {fe : Sg → St → R D} {q : Nat} {p pos pos' : Pos} (hx : c.glob x = some q) (hs : isStar e = false) (he : PE J.X e (sem W J (rD W) fe)) :
    PS J.X (.Raise (some (.Call (.Name x p) [e] [] pos')) none pos) (semS W J fun σd st => match W.G.tab[q]? with
      | some (.cls k) => match k.fld with
        | some f => F.to (fe σd st) fun d st => match reprD 20 d with
          | some s => cond (Nat.ble s.length 50000) (.exc q [(f, d)] st) .bad
          | none => .bad
        | none => .bad
      | _ => .bad) := by
  obtain ⟨h1, h2, h3⟩ := glob_ok hx
  obtain ⟨n1, _, _⟩ := nmOk_ok h3
  rw [g.gl] at h2
  refine ⟨fun pins s σ H D I ⟨σd, st, ρ, l, S, z⟩ => ?_⟩
  have z : PostS W J st.nx ρ H D (match W.G.tab[q]? with
      | some (.cls k) => (match k.fld with
        | some f => F.to (fe σd st) fun d st => match reprD 20 d with
          | some s => cond (Nat.ble s.length 50000) (F.exc q [(f, d)] st) F.bad
          | none => F.bad
        | none => F.bad)
      | _ => F.bad) := z
  split at z
  · rename_i kk e1
    split at z
    · rename_i f e2
      obtain ⟨hf, _, _, d, T, ef⟩ := X.ex q kk f e1 e2
      have gm := Fg.cls x q kk h2 e1
      rw [← g.P, ← g.K, ← g.mg] at T
      refine (ps_raise g.calm g.tk (pmk_A (k := 2 * k) (p := p) (pos := pos') T (g.room.mono (by omega)) g.gu (g.gb x h1) (by rw [g.mg]; exact gm) hs n1 he)).run pins s σ H D I ?_
      refine ⟨σd, st, ρ, l, S, (PostS.to (rl := rD W) z).mono fun v H1 ⟨dv, st1, ρ1, x1, S1, r1, p1⟩ => ?_⟩
      have p1 : PostS W J st1.nx ρ1 H1 D (match reprD 20 dv with
        | some s => cond (Nat.ble s.length 50000) (F.exc q [(f, dv)] st1) F.bad
        | none => F.bad) := p1
      split at p1
      · rename_i sx er
        obtain ⟨hb, p1⟩ := condS p1
        obtain ⟨py, t1, t2, t3, t4, t5⟩ := rep_TP (st := st1) 20 dv sx er
        refine ⟨py, ?_, t3, t2, by omega, ?_, fun a ha => ?_⟩
        · rw [g.K]; exact TP.dp S1 t1 r1
        · rw [t5]
          show (mkS sx).length ≤ _
          have : (mkS sx).length = sx.length := str_size sx
          rw [this]
          exact Nat.le_of_ble_eq_true hb
        · obtain ⟨x2, S2⟩ := S1.lay (o := .xd [(d.fld, v)]) ha
          rw [ef] at x2 S2 ⊢
          exact p1 ρ1 _ σ (some a) x2 S2 ⟨a, v, rfl, upd_same, RD.mono x2 r1⟩
      · exact p1.elim
    · exact z.elim
  · exact z.elim
end
end MX
end
section
set_option Elab.async false
set_option linter.all false
set_option autoImplicit false
set_option maxRecDepth 100000
set_option maxHeartbeats 1000000
/-! try: the clauses. -/
namespace MX
open PySem PySem.Spec PyProof.Rows L2
/-- which class a clause takes -/
structure GT (W : Wd) : Prop where
  exm : ∀ c k, isExcC W.G c = true → isExcC W.G k = true → PySem.W.exmOne W.K (.ref (W.ad c)) (.ref (W.ad k)) = some (excIs W.G c k)
/-- the reading of a clause's suite -/
def hTs (W : Wd) (o : Option (Nat × Nat)) (txt : List Nat) : Addr → Value → Option Addr → TS := fun a cls dd D σ H => match o with
  | none => D.rt (.str (mkS txt)) H
  | some (i, f) => ∃ (σ0 : L2.St) (c : Nat) (e : Addr) (fs : List (Str × V)) (v : V) (p : PyData), σ = σ0.set i (some (.ref a)) ∧ cls = .ref (W.ad c) ∧ hasFld W.G c f = true ∧ dd = some e ∧ H e = some (.xd fs) ∧ fs.lookup (nmAt W.at_ f) = some v ∧ Dp W.K H v p ∧
      PyData.showable p = true ∧ PyData.canLay0 p = true ∧ PyData.depth p ≤ 60 ∧ (PyData.shown p).length ≤ 50000 ∧ txt.length ≤ 1000 ∧ D.rt (.str (mkS txt ++ PyData.shown p)) H
def claOf (W : Wd) : (Nat × Option (Nat × Nat) × List Nat) → Cla
  | (k, o, txt) => (.ref (W.ad k), o.map (·.1), hTs W o txt)
theorem hasFld_ok {G : Gb} {c f : Nat} (h : hasFld G c f = true) : ∃ k, G.tab[c]? = some (.cls k) ∧ k.fld = some f := by
  unfold hasFld at h
  split at h
  · rename_i k e
    split at h
    · rename_i g e2
      exact ⟨k, e, by rw [e2, Nat.eq_of_beq_eq_true h]⟩
    · cases h
  · cases h
theorem isExcC_ok {G : Gb} {c : Nat} (h : isExcC G c = true) : ∃ k, G.tab[c]? = some (.cls k) := by
  unfold isExcC at h
  split at h
  · exact ⟨_, by assumption⟩
  · cases h
section
variable {W : Wd} {X : Cx} {κ : Fm} {Wx : WX} {c : CC} {k m : Nat}
/-- what is wished of an exception of the body -/
theorem wish_of (T : GT W) (hK : X.K = W.K) (A : GA W) {En : Ends} {q : Nat} {fs : List (Nat × MX.D)} {st : St} {nx : Nat} {ρ ρ' : Asg} {H H' : Hp} {σ' : L2.St} {dd : Option Addr} (hq : isExcC W.G q = true) (x : Ext nx ρ H st.nx ρ' H') (S : SRel W X κ σ' st ρ' H') (er : ExcR W st.nx ρ' H' fs dd) :
    ∀ hs : List (Nat × Option (Nat × Nat) × List Nat), (hs.all fun h => isExcC W.G h.1) = true → PostS W ⟨X, κ, Wx⟩ nx ρ H En (handle W.G q fs st hs) → wMix X.K Wx En (hs.map (claOf W)) (.ref (W.ad q)) dd σ' H'
  | [], _, p => p ρ' H' σ' dd x S er
  | (k, o, txt) :: hs, ha, p => by
    rw [List.all_cons, Bool.and_eq_true] at ha
    refine ⟨excIs W.G q k, by rw [hK]; exact T.exm q k hq ha.1, fun e a na => ?_, fun e => ?_⟩
    · have p : PostS W ⟨X, κ, Wx⟩ nx ρ H En (cond (excIs W.G q k) (match (generalizing := false) o with
        | none => F.ret (.str txt) st
        | some (_, f) => cond (hasFld W.G q f && Nat.ble txt.length 1000) (match (generalizing := false) lookF f fs with
          | some d => (match (generalizing := false) reprD 20 d with
            | some s => cond (Nat.ble s.length 50000) (F.ret (.str (txt ++ s)) st) F.bad
            | none => F.bad)
          | none => F.bad) F.bad) (handle W.G q fs st hs)) := p
      rw [e] at p
      cases o with
      | none =>
        have p : PostS W ⟨X, κ, Wx⟩ nx ρ H En (F.ret (.str txt) st) := p
        exact p ρ' H' σ' _ x S (.str txt)
      | some o =>
        obtain ⟨i, f⟩ := o
        have p : PostS W ⟨X, κ, Wx⟩ nx ρ H En (cond (hasFld W.G q f && Nat.ble txt.length 1000) (match (generalizing := false) lookF f fs with
          | some d => (match (generalizing := false) reprD 20 d with
            | some s => cond (Nat.ble s.length 50000) (F.ret (.str (txt ++ s)) st) F.bad
            | none => F.bad)
          | none => F.bad) F.bad) := p
        obtain ⟨hb, p⟩ := condS p
        rw [Bool.and_eq_true] at hb
        cases e1 : lookF f fs with
        | none => rw [e1] at p; exact p.elim
        | some d =>
          rw [e1] at p
          simp only at p
          cases e2 : reprD 20 d with
          | none => rw [e2] at p; exact p.elim
          | some sx =>
            rw [e2] at p
            obtain ⟨hl, pf⟩ := condS p
            match fs, er, e1 with
            | [(f', d')], ⟨dx, v, ed, hx, rv⟩, e1 =>
              have e1 : cond (Nat.beq f f') (some d') none = some d := e1
              cases hf : Nat.beq f f' with
              | false => rw [hf] at e1; cases e1
              | true =>
                rw [hf] at e1
                have e1 : some d' = some d := e1
                cases e1
                have := Nat.eq_of_beq_eq_true hf
                subst this
                obtain ⟨py, t1, t2, t3, t4, t5⟩ := rep_TP (st := st) 20 d sx e2
                have sz : (PyData.shown py).length ≤ 50000 := by
                  rw [t5]
                  have : (mkS sx).length = sx.length := str_size sx
                  rw [this]; exact Nat.le_of_ble_eq_true hl
                refine ⟨σ', q, dx, _, v, py, rfl, rfl, hb.1, ed, hx, by simp [List.lookup], TP.dp (J := ⟨X, κ, Wx⟩) S t1 rv, t3, t2, by omega, sz, Nat.le_of_ble_eq_true hb.2, ?_⟩
                rw [t5, app_S]
                exact pf ρ' H' σ' _ x S (.str _)
            | [], _, e1 => cases e1
            | _ :: _ :: _, er, _ => exact er.elim
    · have p : PostS W ⟨X, κ, Wx⟩ nx ρ H En (cond (excIs W.G q k) _ (handle W.G q fs st hs)) := p
      rw [e] at p
      exact wish_of T hK A hq x S er hs ha.2 p
/-- the clauses as they are written -/
theorem clas_of (A : GA W) (F : GF W) (g : XG W ⟨X, κ, Wx⟩ c k) (Sx : XS ⟨X, κ, Wx⟩ c) : ∀ {hs : List ExceptHandler} {ihs : List (Nat × Option (Nat × Nat) × List Nat)}, hs.mapM (cH c) = some ihs → (ihs.all fun h => isExcC W.G h.1) = true → Clas X hs (ihs.map (claOf W))
  | [], ihs, h, _ => by
    rw [List.mapM_nil] at h
    cases h
    exact .nil
  | h0 :: hs, ihs, h, ha => by
    rw [List.mapM_cons] at h
    obtain ⟨h1, e1, h⟩ := bsome h
    obtain ⟨r1, e2, h⟩ := bsome h
    cases h
    rw [List.all_cons, Bool.and_eq_true] at ha
    have tail := clas_of A F g Sx e2 ha.2
    have names : ∀ {x : Str} {q : Nat}, c.glob x = some q → isExcC W.G q = true → Names X x (.ref (W.ad q)) := fun {x q} hx hq => by
      obtain ⟨z1, z2, z3⟩ := glob_ok hx
      obtain ⟨n1, _, _⟩ := nmOk_ok z3
      rw [g.gl] at z2
      obtain ⟨kk, hk⟩ := isExcC_ok hq
      exact ⟨g.gb x z1, n1, .inl (by have := g.mg; rw [show X.mg = W.mg from this]; exact F.cls x q kk z2 hk)⟩
    unfold cH at e1
    split at e1
    · rename_i x px s j pc pr ph
      obtain ⟨q, hq, e1⟩ := bsome e1
      cases e1
      refine .bare (names hq ha.1) (fun a oe cls d pn z hf => ?_) tail
      refine ⟨fun pins st σ H D I h => (pss_cons (ps_ret pe_str) pss_nil).run pins st σ H D I ?_⟩
      have h : D.rt (.str (mkS s.cps.toList)) H := h
      have e : mkS s.cps.toList = s := by unfold mkS; simp
      rw [e] at h
      exact h
    · rename_i x px en s j pc f pf en2 pe at_ pa pcall pb pr ph
      split at e1
      · rename_i hh
        obtain ⟨hr, hblt, he, hloc⟩ := hh
        subst hr he
        obtain ⟨q, hq, e1⟩ := bsome e1
        obtain ⟨i, hi, e1⟩ := bsome e1
        obtain ⟨fi, hfi, e1⟩ := bsome e1
        cases e1
        obtain ⟨i1, i2, i3⟩ := slotL_ok hi
        obtain ⟨n1, n2, _⟩ := nmOk_ok i3
        obtain ⟨b1, b2, b3, b4⟩ := blt_ok hblt
        rw [g.at_] at hfi
        obtain ⟨hfl, rfl⟩ := at_of hfi
        have hN : X.N[i]? = some en := by rw [show X.N = c.N from g.N]; exact i2
        have hl : X.env.kindOf en = some .local := by show X.env.scope.names.lookup en = _; rw [Sx.hsc]; exact hloc
        refine .named (names hq ha.1) hN hl (fun a oe cls d pn z hf => ?_) tail
        refine ⟨fun pins st σ H D I h => ?_⟩
        obtain ⟨σ0, cc, e, fs, v, p, eσ, ec, hfld, ed, hx, hlk, dp, p1, p2, p3, p4, hlen, hrt⟩ := h
        subst eσ ec ed
        obtain ⟨kk, k1, k2⟩ := hasFld_ok hfld
        obtain ⟨_, T, no, _⟩ := A.ex cc kk fi k1 k2
        have hK : X.K = W.K := g.K
        rw [← hK] at T no
        have b2' := b2
        rw [g.gl] at b2'
        have mgr : X.mg "repr" = none := by rw [show X.mg = W.mg from g.mg]; exact F.blt "repr" _ PyProof.Rows.boot_repr b4 b2'
        have fld := pe_xf (X := X) (pn := pn) (pos := pa) T no z hf (pe_var (X := X.suite a ((a, oe) :: pn)) (pos := pe) (i := i) hN (.inl hl) n1 n2) rfl
        have hil : i < σ0.length := by
          have := I.len
          rw [List.length_set] at this
          rw [this]
          exact (List.getElem?_eq_some_iff.mp hN).1
        have unt : (X.suite a ((a, oe) :: pn)).A.units + 65 < cLine := g.units
        have rp := pe_callB (X := X.suite a ((a, oe) :: pn)) (pos := pcall) (p := pf) (call_reprD (X := X.suite a ((a, oe) :: pn)) g.gu unt) (g.gb "repr" b1) mgr PyProof.Rows.boot_repr (pa_cons fld pa_nil)
        refine (pss_cons (ps_ret (pos := pr) (pe_op (pos := pb) op_add_str (pe_str (x := s) (j := j) (pos := pc)) rp)) pss_nil).run pins st _ H D I ?_
        refine ⟨.ref a, List.getElem?_set_self hil, rfl, rfl, e, fs, v, rfl, hx, hlk, v, p, rfl, by rw [show (X.suite a ((a, oe) :: pn)).K = W.K from hK]; exact dp, p1, p2, p3, by rw [sizeLine_eq]; omega, s, _, rfl, rfl, ?_, ?_⟩
        · have : s.length = s.cps.toList.length := by show s.cps.size = _; simp
          rw [sizeLine_eq, this]; omega
        · have e : mkS s.cps.toList = s := by unfold mkS; simp
          rw [e] at hrt
          exact hrt
      · cases e1
    · cases e1
end
end MX
end
section
set_option Elab.async false
set_option linter.all false
set_option autoImplicit false
set_option maxRecDepth 100000
set_option maxHeartbeats 1000000
/-! All statements. -/
namespace MX
open PySem PySem.Spec PyProof.Rows L2
theorem s_try {W : Wd} {X : Cx} {κ : Fm} {Wx : WX} {c : CC} {k : Nat} (A : GA W) (F : GF W) (T : GT W) (g : XG W ⟨X, κ, Wx⟩ c k) (Sx : XS ⟨X, κ, Wx⟩ c) {b : List Stmt} {hs : List ExceptHandler} {ihs : List (Nat × Option (Nat × Nat) × List Nat)} {fb : Sg → St → MX.F} {pos : Pos} (hm : hs.mapM (cH c) = some ihs)
    (hb : ∀ (X' : Cx) (Wx' : WX), XG W ⟨X', κ, Wx'⟩ c k → XS ⟨X', κ, Wx'⟩ c → PSs X' b (semS W ⟨X', κ, Wx'⟩ fb)) :
    PS X (.Try b hs [] [] pos) (semS W ⟨X, κ, Wx⟩ fun σd st => cond (!ihs.isEmpty && ihs.all fun h => isExcC W.G h.1) (match fb σd st with
      | .exc c fs st => cond (isExcC W.G c) (handle W.G c fs st ihs) .bad
      | x => x) .bad) := by
  refine ⟨fun pins s σ H D I ⟨σd, st, ρ, l, S, p⟩ => ?_⟩
  obtain ⟨hc, p⟩ := condS p
  rw [Bool.and_eq_true] at hc
  have hl := (mapM_get hm).1
  cases hs with
  | nil =>
    have : ihs = [] := by cases ihs with
      | nil => rfl
      | cons _ _ => cases hl
    rw [this] at hc
    exact absurd hc.1 (by simp)
  | cons h0 hds =>
    refine (ps_try_mix (tb := fun W' => semS W ⟨X, κ, W'⟩ fb) Sx.stk Sx.fr g.ndX g.tk (try_body g Sx hb) (clas_of A F g Sx hm hc.2)).run pins s σ H D I ⟨σd, st, ρ, l, S, ?_⟩
    have p : PostS W ⟨X, κ, Wx⟩ st.nx ρ H D (match fb σd st with
      | .exc c fs st => cond (isExcC W.G c) (handle W.G c fs st ihs) .bad
      | x => x) := p
    cases e : fb σd st with
    | nx _ _ => rw [e] at p; exact p
    | brk _ _ => rw [e] at p; exact p
    | cnt _ _ => rw [e] at p; exact p
    | ret _ _ => rw [e] at p; exact p
    | bad => rw [e] at p; exact p
    | exc q fs st' =>
      rw [e] at p
      obtain ⟨hq, p⟩ := condS p
      exact fun ρ' H' σ' dd x S' er => wish_of T g.K A hq x S' er ihs hc.2 p
/-- what is known of the compiled statements of fuel n -/
structure PZ (W : Wd) (m k n : Nat) (J : Jx) (c : CC) : Prop where
  S : ∀ s is, cS n c s = some is → ∀ q, PS J.X s (semS W J fun σd st => stS W.G (evF W.G k (evs W.G m k) q) is σd J.κ.κ st)
  SS : ∀ b ib, cSs n c b = some ib → ∀ q, PSs J.X b (semS W J fun σd st => (evF W.G k (evs W.G m k) q).ss ib σd J.κ.κ st)
section
variable {W : Wd} {J : Jx} {c : CC} {m k n : Nat}
theorem pss_bad {b : List Stmt} : PSs J.X b (semS W J fun _ _ => .bad) := ⟨fun _ _ _ _ _ _ ⟨_, _, _, _, _, p⟩ => p.elim⟩
theorem pz_zero : PZ W m k 0 J c where
  S := fun _ _ h => nomatch h
  SS := fun _ _ h => nomatch h
variable (B : BodyOk W m k) (X : ExprOk W m k) (Fo : FnsOk W) (F : GF W) (C : GC W) (Ge : GE W) (A : GA W) (Gt : GT W) (g : XG W J c (k + 1)) (Sx : XS J c) (ih : ∀ J c, XG W J c (k + 1) → XS J c → PZ W m k n J c)
include B X Fo F C Ge A Gt g Sx ih
theorem pz_SS : ∀ b ib, cSs (n + 1) c b = some ib → ∀ q, PSs J.X b (semS W J fun σd st => (evF W.G k (evs W.G m k) q).ss ib σd J.κ.κ st) := by
  intro b ib h q
  cases q with
  | zero => exact pss_bad
  | succ q =>
    unfold cSs at h
    split at h
    · cases h; exact ss_nil g
    · obtain ⟨is, hs, h⟩ := bsome h
      obtain ⟨ir, hr, h⟩ := bsome h
      cases h
      exact ss_cons g ((ih J c g Sx).S _ is hs q) ((ih J c g Sx).SS _ ir hr q)
theorem tg_of {tg : Expr} {t : MX.T} (h : tgOf c tg = some t) : PG J.X tg (rTg W J t) := by
  rcases tgOf_ok h with ⟨x, p, i, rfl, rfl, e⟩ | ⟨es, kk, p, is, rfl, rfl, e⟩
  · exact g_nm g e
  · exact g_tp g e
theorem pz_set {t e : Expr} {tgt : Tg} {ie : E} {pos : Pos} (ht : cTg n c t = some tgt) (he : cE n c e = some ie) (q : Nat) : PS J.X (.Assign [t] e pos) (semS W J fun σd st => stS W.G (evF W.G k (evs W.G m k) q) (.set tgt ie) σd J.κ.κ st) := by
  have P := px_all B X Fo F C n J c g
  cases t with
  | Name x p =>
    have ht : (c.slotL x).map Tg.nm = some tgt := ht
    cases ex : c.slotL x with
    | none => rw [ex] at ht; cases ht
    | some i =>
      rw [ex] at ht
      cases ht
      cases hc : isComp e with
      | false => exact s_set g ex (sw_plain hc) (P.E e ie he q)
      | true =>
        cases e with
        | ListComp elt gens sc lp =>
          cases n with
          | zero => cases he
          | succ n =>
            have he0 := he
            have hgen : ∃ tg it ifs, gens = [⟨tg, it, ifs, 0⟩] := by
              unfold cE at he
              split at he
              all_goals first
                | (cases he; done)
                | skip
              all_goals rename_i hh
              all_goals cases hh
              exact ⟨_, _, _, rfl⟩
            obtain ⟨tg, it, ifs, rfl⟩ := hgen
            have hsw : ∀ (hk : J.X.env.scope.kind = .function), swapsWith (.ListComp elt [⟨tg, it, ifs, 0⟩] sc lp) (some (.Name x p)) pos.line J.X.env = pure (swLc c sc x p lp) := fun hk => by
              have hb : J.X.env.blockKind = .function := by unfold Env.blockKind; rw [hk]; rfl
              have hn : J.X.env.kindOf x = c.sc.names.lookup x := by show J.X.env.scope.names.lookup x = _; rw [Sx.hsc]
              unfold swLc swapsWith
              simp only [hb, hn]
              rfl
            have PE0 := P.E _ ie he0 q
            cases hw : swLc c sc x p lp with
            | false =>
              refine ⟨fun pins s σ H D I h => ?_⟩
              have z := hsw I.ok.kind
              rw [hw] at z
              exact (s_set g ex z PE0).run pins s σ H D I h
            | true =>
              obtain ⟨iit, ielt, t, iifs, rfl, hb, hset, hI, hg, hsub, hT, hE⟩ := lc_parts B X Fo F C g (fun J c g => px_all B X Fo F C n J c g) he0
              have hl : c.sc.names.lookup x = some .local := by
                unfold swLc at hw
                simp only [Bool.and_eq_true, beq_iff_eq] at hw
                exact hw.1.1
              refine ⟨fun pins s σ H D I h => ?_⟩
              have z := hsw I.ok.kind
              rw [hw] at z
              cases q with
              | zero =>
                obtain ⟨_, _, _, _, _, p⟩ := h
                exact p.elim
              | succ q =>
                exact (s_setLc g hb (hI q) hg hT hE hsub hset (lcg := fun q d i σ l st => (evF W.G k (evs W.G m k) q).lcg ielt t d iifs i σ l st) (fun _ _ _ _ _ => rfl) (fun q d i σ l st => lcg_turn W.G k (evs W.G m k) ielt t iifs q d i σ l st) ex (by rw [Sx.hsc]; exact hl) z q).run pins s σ H D I h
        | SetComp _ _ _ _ =>
          cases n with
          | zero => cases he
          | succ n => unfold cE at he; cases he
        | DictComp _ _ _ _ _ =>
          cases n with
          | zero => cases he
          | succ n => unfold cE at he; cases he
        | _ => cases hc
  | Attribute o f p =>
    have ht : (if (!recvOk o) = true then none else (do return Tg.at (← cE n c o) (← ixOf f c.at_ 0))) = some tgt := ht
    split at ht
    · cases ht
    · obtain ⟨io, ho, ht⟩ := bsome ht
      obtain ⟨i, hi, ht⟩ := bsome ht
      cases ht
      exact s_setA g C hi (P.E o io ho q) (P.E e ie he q)
  | Subscript o i p =>
    have ht : (if isSlice i = true then none else (do return Tg.ix (← cE n c o) (← cE n c i))) = some tgt := ht
    split at ht
    · cases ht
    · rename_i hs
      obtain ⟨io, ho, ht⟩ := bsome ht
      obtain ⟨ii, hi, ht⟩ := bsome ht
      cases ht
      exact s_setI g (by simpa using hs) (P.E o io ho q) (P.E i ii hi q) (P.E e ie he q)
  | _ => cases ht
theorem pz_tup {ts : List Expr} {e : Expr} {tgs : List Tg} {ie : E} {kk : Nat} {tp pos : Pos} (hok : tupOk c ts e = true) (hts : ts.mapM (cTg n c) = some tgs) (he : cE n c e = some ie) (q : Nat) :
    PS J.X (.Assign [.Tuple ts kk tp] e pos) (semS W J fun σd st => stS W.G (evF W.G k (evs W.G m k) q) (.tup tgs ie) σd J.κ.κ st) := by
  have P := px_all B X Fo F C n J c g
  by_cases ht : ∃ vs k2 p2, e = .Tuple vs k2 p2
  · obtain ⟨vs, k2, p2, rfl⟩ := ht
    have hok : (match swS c ts vs with
      | some none => true
      | some (some _) => match (generalizing := false) ts, vs with
        | [.Name x _, .Name y _], [_, _] => c.sc.names.lookup x == some .local && c.sc.names.lookup y == some .local && !(c.slotL x == c.slotL y)
        | _, _ => false
      | none => false) = true := hok
    cases hsw : swS c ts vs with
    | none => rw [hsw] at hok; cases hok
    | some o =>
      cases o with
      | none =>
        refine ⟨fun pins s σ H D I h => ?_⟩
        exact (s_tup C g P (kk := kk) (tp := tp) (pos := pos) hts he (sw_eq Sx I.ok.kind hsw) q).run pins s σ H D I h
      | some names =>
        rw [hsw] at hok
        simp only at hok
        split at hok
        · rename_i x px y py a b hok0
          simp only [Bool.and_eq_true, beq_iff_eq, Bool.not_eq_true', beq_eq_false_iff_ne, ne_eq] at hok
          obtain ⟨⟨lx, ly⟩, hne⟩ := hok
          rw [List.mapM_cons] at hts
          obtain ⟨t1, e1, hts⟩ := bsome hts
          obtain ⟨r1, e2, hts⟩ := bsome hts
          cases hts
          rw [List.mapM_cons] at e2
          obtain ⟨t2, e3, e2⟩ := bsome e2
          obtain ⟨r2, e4, e2⟩ := bsome e2
          rw [List.mapM_nil] at e4
          cases e4
          cases e2
          have e1 : (c.slotL x).map Tg.nm = some t1 := e1
          have e3 : (c.slotL y).map Tg.nm = some t2 := e3
          cases s1 : c.slotL x with
          | none => rw [s1] at e1; cases e1
          | some i =>
            cases s2 : c.slotL y with
            | none => rw [s2] at e3; cases e3
            | some j =>
              rw [s1] at e1
              rw [s2] at e3
              cases e1
              cases e3
              have hij : i ≠ j := fun z => hne (by rw [s1, s2, z])
              have hnm : names = [x, y] := by
                unfold swS at hsw
                split at hsw
                · cases hsw
                split at hsw
                · cases hsw
                simp only at hsw
                split at hsw
                · cases hsw
                split at hsw
                · cases hsw
                split at hsw
                · cases hsw
                rename_i q1 _ _
                have hsw := Option.some.inj (Option.some.inj hsw)
                rw [← hsw]
                have dec : ∀ (p r : Prop) [Decidable p] [Decidable r], ¬(((List.filterMap id [if p then some x else none, if r then some y else none]).length != 2 || ((List.filterMap id [if p then some x else none, if r then some y else none]).eraseDups.length != (List.filterMap id [if p then some x else none, if r then some y else none]).length)) = true) → List.filterMap id [if p then some x else none, if r then some y else none] = [x, y] := fun p r _ _ h => by
                  by_cases hp : p <;> by_cases hr : r <;> simp [hp, hr] at h ⊢
                exact dec _ _ q1
              subst hnm
              cases n with
              | zero => cases he
              | succ n =>
                unfold cE at he
                obtain ⟨ies, hes, he⟩ := bsome he
                cases he
                refine ⟨fun pins s σ H D I h => ?_⟩
                cases q with
                | zero =>
                  obtain ⟨_, _, _, _, _, p⟩ := h
                  exact p.elim
                | succ q =>
                  refine (s_par (fs := fun σd st => (evF W.G k (evs W.G m k) q).l ies σd J.κ.κ st) (kk := kk) (tp := tp) (pos := pos) g Sx s1 s2 lx ly hij ((px_all B X Fo F C n J c g).L [a, b] ies hes q) (sw_eq Sx I.ok.kind hsw)).run pins s σ H D I ?_
                  obtain ⟨σd, st, ρ, l, S, p⟩ := h
                  refine ⟨σd, st, ρ, l, S, ?_⟩
                  have p : PostS W J st.nx ρ H D (MX.F.to (((evF W.G k (evs W.G m k) q).l ies σd J.κ.κ st).bind fun ds st => cond (Nat.ble ds.length 100000) (R.ok (MX.D.tup ds) st) R.bad) fun d st => match d with
                    | .tup ds => cond (Nat.beq ds.length 2) (stStores W.G (evF W.G k (evs W.G m k) (q + 1)) [.nm i, .nm j] ds σd J.κ.κ st) .bad
                    | _ => .bad) := p
                  have e : ∀ (r : R MX.D) (f g : MX.D → St → MX.F), (∀ d st, f d st = g d st) → MX.F.to r f = MX.F.to r g := fun r f g h => by
                    cases r <;> first | rfl | exact h _ _
                  rw [e _ _ _ fun d st => ?_] at p
                  · exact p
                  · match d with
                    | .tup [d, e] => rfl
                    | .tup [] => rfl
                    | .tup [_] => rfl
                    | .tup (_ :: _ :: _ :: _) => rfl
                    | .non => rfl
                    | .bl _ => rfl
                    | .int _ => rfl
                    | .str _ => rfl
                    | .loc _ => rfl
                    | .fn _ => rfl
                    | .any => rfl
                    | .cho _ _ => rfl
        · cases hok
  · exact s_tup C g P (kk := kk) (tp := tp) (pos := pos) hts he (sw_not fun vs a b z => ht ⟨vs, a, b, z⟩) q
theorem pz_S : ∀ s is, cS (n + 1) c s = some is → ∀ q, PS J.X s (semS W J fun σd st => stS W.G (evF W.G k (evs W.G m k) q) is σd J.κ.κ st) := by
  intro s is h q
  have P := px_all B X Fo F C n J c g
  have I := ih J c g Sx
  cases s with
  | Expr e p =>
    unfold cS at h
    simp only at h
    split at h
    · cases h
    · rename_i hc
      obtain ⟨ie, he, h⟩ := bsome h
      cases h
      exact s_exp g (by simpa using hc) (P.E e ie he q)
  | Assign ts e p =>
    unfold cS at h
    split at h
    all_goals first
      | (cases h; done)
      | skip
    all_goals rename_i hh
    all_goals cases hh
    · split at h
      · cases h
      · rename_i hk
        obtain ⟨tgs, h1, h⟩ := bsome h
        obtain ⟨ie, h2, h⟩ := bsome h
        cases h
        exact pz_tup B X Fo F C Ge A Gt g Sx ih (by simpa using hk) h1 h2 q
    · obtain ⟨tgt, h1, h⟩ := bsome h
      obtain ⟨ie, h2, h⟩ := bsome h
      cases h
      exact pz_set B X Fo F C Ge A Gt g Sx ih h1 h2 q
  | If t a b p =>
    unfold cS at h
    obtain ⟨it, h1, h⟩ := bsome h
    obtain ⟨ia, h2, h⟩ := bsome h
    obtain ⟨ib, h3, h⟩ := bsome h
    cases h
    exact s_if g (P.T t it h1 q) (I.SS a ia h2 q) (I.SS b ib h3 q)
  | While t b els p =>
    unfold cS at h
    split at h
    all_goals first
      | (cases h; done)
      | skip
    all_goals rename_i hh
    all_goals cases hh
    obtain ⟨it, h1, h⟩ := bsome h
    obtain ⟨ib, h2, h⟩ := bsome h
    cases h
    exact s_whl Sx (ft := fun q σd st => (evF W.G k (evs W.G m k) q).t it σd J.κ.κ st) (fb := fun q σd st => (evF W.G k (evs W.G m k) q).ss ib σd J.κ.κ st) (whl := fun q σd st => (evF W.G k (evs W.G m k) q).whl it ib σd J.κ.κ st) (P.T t it h1) (I.SS b ib h2) (fun _ _ => rfl) (fun q σd st => by
      show stWhl (evF W.G k (evs W.G m k) q) it ib σd J.κ.κ st = _
      unfold stWhl turnEnd
      rfl) q
  | For tg it b els p =>
    unfold cS at h
    split at h
    all_goals first
      | (cases h; done)
      | skip
    all_goals rename_i hh
    all_goals cases hh
    obtain ⟨iit, h1, h⟩ := bsome h
    split at h
    · rename_i hok
      obtain ⟨t, h2, h⟩ := bsome h
      obtain ⟨ib, h3, h⟩ := bsome h
      cases h
      obtain ⟨hset, hI⟩ := P.I _ iit h1 _ hok
      exact s_for g Sx (fb := fun q σd st => (evF W.G k (evs W.G m k) q).ss ib σd J.κ.κ st) (fo := fun q d i σd st => (evF W.G k (evs W.G m k) q).forg t d ib i σd J.κ.κ st) (hI q) (tg_of B X Fo F C Ge A Gt g Sx ih h2) (I.SS _ ib h3) (notSet hset) (fun _ _ _ _ => rfl) (fun q d i σd st => by
        show stForg (evF W.G k (evs W.G m k) q) t d ib i σd J.κ.κ st = _
        unfold stForg turnEnd
        cases nextI 3 d i st with
        | none => rfl
        | some o =>
          cases o with
          | none => rfl
          | some e =>
            simp only
            cases store1 t e σd J.κ.κ st with
            | none => rfl
            | some r => rfl) q
    · cases h
  | Return e p =>
    unfold cS at h
    cases e with
    | none => cases h; exact s_retN g
    | some e =>
      obtain ⟨ie, h1, h⟩ := bsome h
      cases h
      exact s_ret g (P.E e ie h1 q)
  | Break p => unfold cS at h; cases h; exact s_brk g
  | Continue p => unfold cS at h; cases h; exact s_cnt g
  | Pass p => unfold cS at h; cases h; exact s_pas g
  | Raise e cause p =>
    unfold cS at h
    split at h
    all_goals first
      | (cases h; done)
      | skip
    all_goals rename_i hh
    all_goals cases hh
    · obtain ⟨ix, h1, h⟩ := bsome h
      cases h
      exact s_rai F Ge g h1
    · split at h
      · cases h
      · rename_i hs
        obtain ⟨ix, h1, h⟩ := bsome h
        obtain ⟨ie, h2, h⟩ := bsome h
        cases h
        exact s_raiA F A g h1 (by simpa using hs) (P.E _ ie h2 q)
  | Try b hs els fin p =>
    unfold cS at h
    split at h
    all_goals first
      | (cases h; done)
      | skip
    all_goals rename_i hh
    all_goals cases hh
    obtain ⟨ib, h1, h⟩ := bsome h
    obtain ⟨ihs, h2, h⟩ := bsome h
    cases h
    obtain ⟨X0, κ, Wx⟩ := J
    exact s_try A F Gt g Sx (fb := fun σd st => (evF W.G k (evs W.G m k) q).ss ib σd κ.κ st) h2 fun X' Wx' g' Sx' => (ih ⟨X', κ, Wx'⟩ c g' Sx').SS b ib h1 q
  | _ => unfold cS at h; cases h
end
theorem pz_all {W : Wd} {m k : Nat} (B : BodyOk W m k) (X : ExprOk W m k) (Fo : FnsOk W) (F : GF W) (C : GC W) (Ge : GE W) (A : GA W) (Gt : GT W) : ∀ (n : Nat) (J : Jx) (c : CC), XG W J c (k + 1) → XS J c → PZ W m k n J c
  | 0, _, _, _, _ => pz_zero
  | n + 1, J, c, g, Sx => ⟨pz_S B X Fo F C Ge A Gt g Sx (pz_all B X Fo F C Ge A Gt n), pz_SS B X Fo F C Ge A Gt g Sx (pz_all B X Fo F C Ge A Gt n)⟩
/-- a frame of the next depth -/
theorem bodyOk_succ {W : Wd} {m k : Nat} (B : BodyOk W m k) (X : ExprOk W m k) (Fo : FnsOk W) (F : GF W) (C : GC W) (Ge : GE W) (A : GA W) (Gt : GT W) : BodyOk W m (k + 1) := fun f u d X' κ E hf ok g Sx =>
  (pz_all B X Fo F C Ge A Gt 60 _ _ g Sx).SS d.body u.body ok.body m
/-- the interpreter speaks true, at every depth -/
theorem sound {W : Wd} {m : Nat} (Fo : FnsOk W) (F : GF W) (C : GC W) (Ge : GE W) (A : GA W) (Gt : GT W) : ∀ k : Nat, BodyOk W m k ∧ ExprOk W m k
  | 0 => ⟨fun f u d X' κ E hf ok g Sx => pss_bad (J := ⟨X', κ, fun cls dd _ H => E cls dd H⟩), fun J c g n e ir h => pe_bad (J := J)⟩
  | k + 1 => ⟨bodyOk_succ (sound Fo F C Ge A Gt k).1 (sound Fo F C Ge A Gt k).2 Fo F C Ge A Gt, exprOk_succ (sound Fo F C Ge A Gt k).1 (sound Fo F C Ge A Gt k).2 Fo F C⟩
end MX
end
section
set_option linter.all false
namespace MX
open PySem
inductive En where
  | fn (st : Nat) (N : List Str) (cells : List Nat) (dfl : List D := []) | me (st j : Nat) (N : List Str) (cells : List Nat) (dfl : List D := []) | cl (st : Nat) (c : Cls) | va (d : D)
def stAt (P : Program) (i : Nat) : Stmt := P.main.body.getD i (.Pass ⟨0, 0, 0, 0⟩)
def meAt (P : Program) (i j : Nat) : Stmt := match stAt P i with
  | .ClassDef _ _ _ b _ _ _ _ _ _ _ => b.getD j (.Pass ⟨0, 0, 0, 0⟩)
  | s => s
def cFn (gl : List (Str × Nat)) (clsl : List Nat) (att : List Str) (s : Stmt) (N : List Str) (cells : List Nat) (dfl : List D) : Option Fun :=
  match s with
  | .FunctionDef _ a b [] none [] sc none _ _ =>
    match a with
    | ⟨[], as, none, [], [], none, _⟩ => do
      let c : CC := ⟨N, sc, gl, clsl, att, !cells.isEmpty⟩
      return ⟨as.length, N.length, cells, ← cSs 60 c b, dfl, .pl⟩
    | _ => none
  | _ => none
def cEn (P : Program) (gl : List (Str × Nat)) (clsl : List Nat) (att : List Str) : En → Option GI
  | .fn i N cs ds => (cFn gl clsl att (stAt P i) N cs ds).map .fn
  | .me i j N cs ds => (cFn gl clsl att (meAt P i j) N cs ds).map .fn
  | .cl _ c => some (.cls c)
  | .va d => some (.val d)
end MX
end
section
set_option linter.all false
set_option autoImplicit false
set_option maxRecDepth 100000
set_option maxHeartbeats 1000000
/-! Arguments by place, the last parameters by their defaults. -/
namespace MX
open PySem PySem.Spec PyProof.Rows L2
/-- what the defaults add -/
def fillD (sl : List (Str × Value)) : List (Str × Value) → List (Str × Value)
  | [] => sl
  | p :: r => fillD (if (sl.lookup p.1).isNone = true then sl ++ [(p.1, p.2)] else sl) r
theorem fill_run : ∀ (l sl : List (Str × Value)), (forIn l sl fun (x : Str × Value) (r : List (Str × Value)) => if (r.lookup x.1).isNone = true then (pure (ForInStep.yield (r ++ [(x.1, x.2)])) : Sem (ForInStep (List (Str × Value)))) else pure (ForInStep.yield r)) = pure (fillD sl l)
  | [], sl => rfl
  | p :: l, sl => by
    rw [List.forIn_cons]
    unfold fillD
    by_cases h : (sl.lookup p.1).isNone = true
    · rw [if_pos h, if_pos h, pure_bind]
      exact fill_run l _
    · rw [if_neg h, if_neg h, pure_bind]
      exact fill_run l _
theorem fill_has : ∀ (l sl : List (Str × Value)), (∀ p ∈ l, (sl.lookup p.1).isNone = false) → fillD sl l = sl
  | [], _, _ => rfl
  | p :: l, sl, h => by
    unfold fillD
    rw [if_neg (by rw [h p List.mem_cons_self]; exact Bool.false_ne_true)]
    exact fill_has l sl fun q hq => h q (List.mem_cons_of_mem _ hq)
theorem look_none : ∀ {l : List (Str × Value)} {x : Str}, x ∉ l.map (·.1) → l.lookup x = none
  | [], _, _ => rfl
  | (a, b) :: l, x, h => by
    rw [List.map_cons, List.mem_cons, not_or] at h
    have e : (x == a) = false := beq_eq_false_iff_ne.mpr h.1
    rw [List.lookup_cons, e]
    exact look_none h.2
theorem fill_new : ∀ (l sl : List (Str × Value)), ((sl ++ l).map (·.1)).Nodup → fillD sl l = sl ++ l
  | [], sl, _ => by unfold fillD; rw [List.append_nil]
  | p :: l, sl, h => by
    unfold fillD
    have hn : p.1 ∉ sl.map (·.1) := fun z => by
      rw [List.map_append, List.nodup_append] at h
      exact h.2.2 _ z _ (List.mem_map.mpr ⟨p, List.mem_cons_self, rfl⟩) rfl
    rw [if_pos (by rw [look_none hn]; rfl), fill_new l _ (by rw [List.append_assoc]; exact h), List.append_assoc]
    rfl
theorem fill_all {A B1 B2 : List Str} {us i1 i2 : List Value} (nd : (A ++ (B1 ++ B2)).Nodup) (h1 : us.length = (A ++ B1).length) (h2 : i1.length = B1.length) (h3 : i2.length = B2.length) :
    fillD ((A ++ B1).zip us) (B1.zip i1 ++ B2.zip i2) = (A ++ (B1 ++ B2)).zip (us ++ i2) := by
  have app : ∀ (l m sl : List (Str × Value)), fillD sl (l ++ m) = fillD (fillD sl l) m := by
    intro l
    induction l with
    | nil => intro m sl; rfl
    | cons p l ih => intro m sl; exact ih m _
  rw [app, fill_has _ _ fun p hp => zip_look h1 (List.mem_append_right _ (List.of_mem_zip hp).1), fill_new]
  · rw [← List.append_assoc, List.zip_append h1.symm]
  · rw [List.map_append, List.map_fst_zip (by omega), List.map_fst_zip (by omega), List.append_assoc]
    exact nd
theorem bind_dfl {fd : FuncData} {as : List Arg} {de : List Expr} (hp : fd.params = ⟨[], as, none, [], [], none, de⟩) (nd : (as.map (·.arg)).Nodup) {us its : List Value} (hl : us.length ≤ (as.map (·.arg)).length) (hk : its.length ≤ (as.map (·.arg)).length) (hg : (as.map (·.arg)).length ≤ us.length + its.length) :
    ∃ k : Option (Array Value) → Sem (List (Str × Value)), bindArgs fd ⟨us, []⟩ = seqItems? fd.defaults >>= k ∧ ∀ o : Option (Array Value), (o.getD #[]).toList = its → k o = pure ((as.map (·.arg)).zip (us ++ its.drop (its.length - ((as.map (·.arg)).length - us.length)))) := by
  generalize hn : as.map (·.arg) = names at *
  unfold bindArgs
  rw [hp]
  simp only [List.map_nil, List.nil_append, List.append_nil, List.forIn_nil, pure_bind, List.length_nil, Nat.sub_zero, hn]
  refine ⟨_, rfl, fun o ho => ?_⟩
  · simp only [ho]
    rw [if_neg (by simp; omega)]
    have d0 : its.drop (its.length - names.length) = its := by rw [show its.length - names.length = 0 by omega]; rfl
    rw [d0]
    -- names and values in parts
    have dec : ∃ A B1 B2 i1 i2, names = A ++ (B1 ++ B2) ∧ its = i1 ++ i2 ∧ A.length = names.length - its.length ∧ us.length = (A ++ B1).length ∧ i1.length = B1.length ∧ i2.length = B2.length := by
      refine ⟨names.take (names.length - its.length), (names.drop (names.length - its.length)).take (us.length - (names.length - its.length)), (names.drop (names.length - its.length)).drop (us.length - (names.length - its.length)), its.take (us.length - (names.length - its.length)), its.drop (us.length - (names.length - its.length)), ?_, ?_, ?_, ?_, ?_, ?_⟩
      · rw [List.take_append_drop, List.take_append_drop]
      · rw [List.take_append_drop]
      all_goals simp only [List.length_append, List.length_take, List.length_drop]
      all_goals omega
    obtain ⟨A, B1, B2, i1, i2, e1, e2, l1, l2, l3, l4⟩ := dec
    have eA : names.take (names.length - its.length) = A := by rw [← l1, e1, List.take_left]
    have eB : names.drop (names.length - its.length) = B1 ++ B2 := by rw [← l1, e1, List.drop_left]
    have eZ : names.zip us = (A ++ B1).zip us := by
      have z := List.zip_append (r₁ := B2) (r₂ := ([] : List Value)) l2.symm
      rw [List.append_nil, List.zip_nil_right, List.append_nil] at z
      rw [← z, e1, List.append_assoc]
    have e6 : its.drop (its.length - (names.length - us.length)) = i2 := by
      have : its.length - (names.length - us.length) = i1.length := by
        rw [e2, e1]
        simp only [List.length_append] at l2 ⊢
        omega
      rw [this, e2, List.drop_left]
    have e7 : (names.drop (names.length - its.length)).zip its = B1.zip i1 ++ B2.zip i2 := by rw [eB, e2, List.zip_append l3.symm]
    have nd' : (A ++ (B1 ++ B2)).Nodup := by rw [← e1]; exact nd
    have miss : List.filter (fun n => (List.lookup n (names.zip us)).isNone) (names.take (names.length - its.length)) = [] := by
      rw [List.filter_eq_nil_iff, eA]
      intro x hx
      rw [eZ, zip_look l2 (List.mem_append_left _ hx)]
      exact Bool.false_ne_true
    rw [miss]
    simp only [List.isEmpty_nil, Bool.not_true, Bool.false_eq_true, if_false]
    rw [fill_run, e7, eZ, fill_all nd' l2 l3 l4, pure_bind, e6, ← e1]
    have e8 := zip_fm nd (us := us ++ i2) (by rw [List.length_append, l2, l4, e1]; simp only [List.length_append]; omega)
    rw [e8]
end MX
end
section
set_option Elab.async false
set_option linter.all false
set_option autoImplicit false
set_option maxRecDepth 100000
set_option maxHeartbeats 1000000
/-! The facts of a law's text, by one look at the heap behind the top. -/
namespace MX
open PySem PySem.Spec PyProof.Rows L2
/-- the built-in exceptions above own ones with an own __init__ -/
inductive BK where
  | idx | ari | ovf | look | val
/-- a law's text and its tables -/
structure Law where
  P : Program
  ens : List En
  gl : List (Str × Nat)
  cl : List Nat
  at_ : List Str
  /-- exception classes with an own __init__: the built-in above them -/
  exk : List (Nat × BK)
def Law.cls (L : Law) (i : Nat) : Str := match stAt L.P i with
  | .ClassDef n .. => n
  | _ => Str.empty
def fnName (s : Stmt) : Str := match s with
  | .FunctionDef n .. => n
  | _ => Str.empty
def Law.stm (L : Law) : En → Stmt
  | .fn i _ _ _ => stAt L.P i
  | .me i j _ _ _ => meAt L.P i j
  | .cl i _ => stAt L.P i
  | .va _ => .Pass ⟨0, 0, 0, 0⟩
/-- where a def stands -/
def Law.pt (L : Law) : En → Str × Option Str
  | .fn i _ _ _ => (fnName (stAt L.P i), none)
  | .me i j _ _ _ => (L.cls i, some (fnName (meAt L.P i j)))
  | .cl i _ => (L.cls i, none)
  | .va _ => (Str.empty, none)
def Law.qual (L : Law) : En → Str
  | .fn i _ _ _ => fnName (stAt L.P i)
  | .me i j _ _ _ => L.cls i ++ ("." : Str) ++ fnName (meAt L.P i j)
  | _ => Str.empty
/-- the name of a global -/
def Law.gname (L : Law) (g : Nat) : Str := (L.gl.getD g (Str.empty, 0)).1
def adOf (L : Law) (K : PySem.W.Frag) (e : En) : Addr := match e with
  | .va _ => 0
  | e => He.fAd K (L.pt e)
/-- what is seen of a def -/
def obFn (L : Law) (K : PySem.W.Frag) : En → He.FnW
  | .fn i N cs ds => He.fnW K (L.pt (.fn i N cs ds))
  | .me i j N cs ds => He.fnW K (L.pt (.me i j N cs ds))
  | _ => none
def vaFn (L : Law) : En → He.FnW
  | .fn i N cs ds => some (fnName (stAt L.P i), L.qual (.fn i N cs ds), defArgs (stAt L.P i), .stmts (defBody (stAt L.P i)), defScope (stAt L.P i), mainGlobals, [], builtinsNs)
  | .me i j N cs ds => some (fnName (meAt L.P i j), L.qual (.me i j N cs ds), defArgs (meAt L.P i j), .stmts (defBody (meAt L.P i j)), defScope (meAt L.P i j), mainGlobals, [], builtinsNs)
  | _ => none
/-! ### values -/
mutual
def relD (K : PySem.W.Frag) : Nat → D → Value → Bool
  | 0, _, _ => false
  | n + 1, d, u => match d with
    | .non => (match u with | .none => true | _ => false)
    | .bl b => (match u with | .bool c => b == c | _ => false)
    | .int i => (match u with | .int j _ => decide (i = j) | _ => false)
    | .str s => (match u with | .str y _ => decide (s = y.cps.toList) | _ => false)
    | .tup ds => (match u with
      | .ref a => (match K.lookup a with
        | some ⟨.type t, _, .seq its _, _⟩ => decide (t = "tuple") && (decide (its.size ≤ sizeLine) && relDs K n ds its.toList)
        | _ => false)
      | _ => false)
    | _ => false
def relDs (K : PySem.W.Frag) : Nat → List D → List Value → Bool
  | 0, _, _ => false
  | n + 1, ds, us => match ds, us with
    | [], [] => true
    | d :: ds, u :: us => relD K n d u && relDs K n ds us
    | _, _ => false
end
mutual
theorem relD_ok {K : PySem.W.Frag} {ad : Nat → Addr} : ∀ (n : Nat) (d : D) (u : Value), relD K n d u = true → ∃ v : V, L2.RelV v u ∧ ∀ nx ρ H, RD K ad nx ρ H d v
  | 0, _, _, h => by cases h
  | n + 1, d, u, h => by
    unfold relD at h
    cases d with
    | non => cases u <;> first | (cases h; done) | exact ⟨.non, rfl, fun _ _ _ => .non⟩
    | bl b => cases u <;> first | (cases h; done) | (rename_i c; have e : b = c := eq_of_beq h; subst e; exact ⟨.bl b, rfl, fun _ _ _ => .bl b⟩)
    | int i => cases u <;> first | (cases h; done) | (rename_i j t; have e : i = j := of_decide_eq_true h; subst e; exact ⟨.int i, ⟨t, rfl⟩, fun _ _ _ => .int i⟩)
    | str s =>
      cases u <;> first
        | (cases h; done)
        | (rename_i y t
           have e : s = y.cps.toList := of_decide_eq_true h
           refine ⟨.str y, ⟨t, rfl⟩, fun nx ρ H => ?_⟩
           have z := RD.str (K := K) (ad := ad) (nx := nx) (ρ := ρ) (H := H) s
           have e2 : (⟨s.toArray⟩ : Str) = y := by first | (rw [e]; done) | (rw [e]; simp)
           rw [e2] at z
           exact z)
    | tup ds =>
      cases u with
      | ref a =>
        simp only at h
        split at h
        · rename_i t od its k sl e
          simp only [Bool.and_eq_true, decide_eq_true_eq] at h
          obtain ⟨h1, h2, h3⟩ := h
          obtain ⟨vs, k1, k2⟩ := relDs_ok (ad := ad) n ds its.toList h3
          exact ⟨.ref a, rfl, fun nx ρ H => .tup (.inr ⟨_, its, k, e, by rw [h1], rfl, h2, k1⟩) (k2 nx ρ H)⟩
        · cases h
      | _ => cases h
    | _ => cases h
theorem relDs_ok {K : PySem.W.Frag} {ad : Nat → Addr} : ∀ (n : Nat) (ds : List D) (us : List Value), relDs K n ds us = true → ∃ vs : List V, Vals vs us ∧ ∀ nx ρ H, RDs K ad nx ρ H ds vs
  | 0, _, _, h => by cases h
  | n + 1, [], [], _ => ⟨[], .nil, fun _ _ _ => .nil⟩
  | n + 1, [], _ :: _, h => by cases h
  | n + 1, _ :: _, [], h => by cases h
  | n + 1, d :: ds, u :: us, h => by
    have h : (relD K n d u && relDs K n ds us) = true := h
    rw [Bool.and_eq_true] at h
    obtain ⟨v, a1, a2⟩ := relD_ok (ad := ad) n d u h.1
    obtain ⟨vs, b1, b2⟩ := relDs_ok (ad := ad) n ds us h.2
    exact ⟨v :: vs, .cons a1 b1, fun nx ρ H => .cons (a2 nx ρ H) (b2 nx ρ H)⟩
end
/-- a def's defaults -/
def dfOk (K : PySem.W.Frag) (ds : List D) : Value → Bool
  | .none => ds.isEmpty
  | .ref T => match K.lookup T with
    | some ⟨_, _, .seq its _, _⟩ => relDs K 9 ds its.toList
    | _ => false
  | _ => false
/-- a def's object: the code is known, its defaults too -/
def okFn (L : Law) (K : PySem.W.Frag) (ds : List D) (a : Addr) (q : Str) : Bool := PySem.W.keepIn K (.ref a) && match K.lookup a with
  | some ⟨_, _, .func fd, _⟩ => PySem.W.codeIn K fd.code q && dfOk K ds fd.defaults
  | _ => false
theorem ob_fn {K : PySem.W.Frag} {p : Str × Option Str} {n q : Str} {a : Arguments} {b : List Stmt} {sc : Scope} (e : He.fnW K p = some (n, q, a, .stmts b, sc, mainGlobals, [], builtinsNs)) {L : Law} {ds : List D} (c : okFn L K ds (He.fAd K p) q = true) :
    ∃ oc od osl dV kV doc pm an cdv ct, K.lookup (He.fAd K p) = some ⟨oc, od, .func (PySem.W.fnOf n q a b sc dV kV doc pm an cdv ct), osl⟩ ∧ dfOk K ds dV = true ∧ PySem.W.codeIn K cdv q = true ∧ PySem.W.keepIn K (.ref (He.fAd K p)) = true := by
  unfold okFn at c
  rw [Bool.and_eq_true] at c
  obtain ⟨kp, c⟩ := c
  unfold He.fnW at e
  cases z : K.lookup (He.fAd K p) with
  | none => rw [z] at e; cases e
  | some o =>
    obtain ⟨oc, od, dt, osl⟩ := o
    rw [z] at e c
    cases dt with
    | func fd =>
      obtain ⟨n1, n2, n3, n4, n5, n6, n7, n8, n9, n10, n11, n12, n13, n14, n15⟩ := fd
      have e : (some (n1, n2, n3, n4, n5, n6, n7, n15) : He.FnW) = some (n, q, a, .stmts b, sc, mainGlobals, [], builtinsNs) := e
      simp only [Option.some.injEq, Prod.mk.injEq] at e
      obtain ⟨rfl, rfl, rfl, rfl, rfl, rfl, rfl, rfl⟩ := e
      have c : (PySem.W.codeIn K n13 n2 && dfOk K ds n8) = true := c
      rw [Bool.and_eq_true] at c
      obtain ⟨c1, c2⟩ := c
      exact ⟨oc, od, osl, n8, n9, n10, n11, n12, n13, n14, rfl, c2, c1, kp⟩
    | _ => cases e

theorem dfl_ok {K : PySem.W.Frag} {ad : Nat → Addr} {ds : List D} {dV : Value} (h : dfOk K ds dV = true) : ∃ (dvs : List V) (dus : List Value), Vals dvs dus ∧ (∀ nx ρ H, RDs K ad nx ρ H ds dvs) ∧
    ∀ (M : Model) (hp : Heap), K.In hp → ∀ {α : Type} (k : Option (Array Value) → Sem α) (r : α), (∀ o : Option (Array Value), (o.getD #[]).toList = dus → k o = pure r) → PySem.W.Looks M hp (seqItems? dV >>= k) r := by
  unfold dfOk at h
  split at h
  · cases ds with
    | nil => exact ⟨[], [], .nil, fun _ _ _ => .nil, fun M hp X α k r e => PySem.W.Looks.of_pure (by show (pure none >>= k) = _; rw [pure_bind]; exact e none rfl)⟩
    | cons _ _ => cases h
  · split at h
    · rename_i T t od its n sl e
      obtain ⟨vs, h1, h2⟩ := relDs_ok (ad := ad) 9 ds its.toList h
      exact ⟨vs, its.toList, h1, h2, fun M hp X α k r q => looks_items X e rfl (PySem.W.Looks.of_pure (q (some its) rfl))⟩
    · cases h
  · cases h
/-! ### tables of code objects -/
def codeOf (K : PySem.W.Frag) (a : Addr) : Addr := match K.lookup a with
  | some ⟨_, _, .func fd, _⟩ => (match fd.code with
    | .ref c => c
    | _ => 0)
  | _ => 0
def tabOf (K : PySem.W.Frag) (c : Addr) : Addr := match K.lookup c with
  | some ⟨_, _, .fields vs, _⟩ => (match (vs[11]? : Option Value) with
    | some (.ref P) => P
    | _ => 0)
  | _ => 0
def hdB (K : PySem.W.Frag) (a : Addr) : Bool := match K.lookup a with
  | some ⟨_, _, .func fd, _⟩ => (match fd.code with
    | .ref c => (match K.lookup c with
      | some ⟨.type t, _, .fields vs, _⟩ => decide (t = "code") && ((match (vs[11]? : Option Value) with
          | some (.ref P) => decide (c ≠ P) && (K.lookup P).isNone
          | _ => false) && ((match vs.getD 18 .none with
          | .str _ _ => true
          | _ => false) && ((match vs.getD 7 .none with
          | .int _ _ => true
          | _ => false) && ((match vs.getD 9 .none with
          | .bool _ => true
          | _ => false) && (match vs.getD 10 .none with
          | .int _ _ => true
          | _ => false)))))
      | _ => false)
    | _ => false)
  | _ => false
theorem hd_ok {K : PySem.W.Frag} {a : Addr} (h : hdB K a = true) : (∃ oc od fd osl, K.lookup a = some ⟨oc, od, .func fd, osl⟩ ∧ fd.code = .ref (codeOf K a)) ∧ K.lookup (tabOf K (codeOf K a)) = none ∧ ∀ hp : Heap, K.In hp → PySem.W.CodeHd hp (codeOf K a) (tabOf K (codeOf K a)) := by
  unfold hdB at h
  split at h
  · rename_i oc od fd osl e1
    split at h
    · rename_i c e2
      split at h
      · rename_i t od2 vs osl2 e3
        have ec : codeOf K a = c := by unfold codeOf; rw [e1]; simp only [e2]
        rw [ec]
        simp only [Bool.and_eq_true, decide_eq_true_eq] at h
        obtain ⟨ht, h11, h18, h7, h9, h10⟩ := h
        split at h11
        · rename_i P e4
          simp only [Bool.and_eq_true, decide_eq_true_eq, Option.isNone_iff_eq_none] at h11
          have et : tabOf K c = P := by unfold tabOf; rw [e3]; simp only [e4]
          rw [et]
          refine ⟨⟨oc, od, fd, osl, e1, e2⟩, h11.2, fun hp X => ?_⟩
          split at h18
          · rename_i f tf e5
            split at h7
            · rename_i fl tg e6
              split at h9
              · rename_i b e7
                split at h10
                · rename_i tx tt e8
                  refine ⟨_, vs, f, tf, fl, tg, b, tx, tt, X _ _ e3, by rw [ht], rfl, e4, ?_, e5, e6, e7, e8, h11.1⟩
                  rw [Array.getD_eq_getD_getElem?, e4]; rfl
                · cases h10
              · cases h9
            · cases h7
          · cases h18
        · cases h11
      · cases h
    · cases h
  · cases h
def isLam : En → Bool
  | .fn _ _ cs _ => !cs.isEmpty
  | .me _ _ _ cs _ => !cs.isEmpty
  | _ => false
def Law.lams (L : Law) : List En := L.ens.filter isLam
def lamQ (q : Str) : Str := (envOfC q ⟨.function, [], false, false, []⟩ 0 0 .none).qual ++ "<lambda>"
def tabsOf (L : Law) (K : PySem.W.Frag) : List (Addr × Str) := L.lams.map fun e => (tabOf K (codeOf K (He.fAd K (L.pt e))), lamQ (L.qual e))
end MX
end
section
set_option Elab.async false
set_option linter.all false
set_option autoImplicit false
set_option maxRecDepth 100000
set_option maxHeartbeats 1000000
/-! The world of a law; its defs and its global names. -/
namespace MX
open PySem PySem.Spec PyProof.Rows L2
def adN (L : Law) (K : PySem.W.Frag) (g : Nat) : Addr := match L.ens[g]? with
  | some e => adOf L K e
  | none => 0
def Law.W (L : Law) (G : Gb) (w : World) (K : PySem.W.Frag) (mg : Str → Option Value) (base : Heap) (g : Nat := 0) : Wd := ⟨L.P, w, K, mg, base, G, adN L K, L.gl, L.cl, L.at_, tabsOf L K, g⟩
/-! ### the text alone -/
def stFn (s : Stmt) (N : List Str) (cs : List Nat) (ds : List D) : Bool := match defArgs s with
  | ⟨[], as, none, [], [], none, _⟩ => Nat.ble ds.length as.length && C8.scC N (as.map (·.arg)) (defScope s) && (decide cs.Nodup && cs.all fun i => match N[i]? with
    | some x => decide ((defScope s).names.lookup x = some .cell)
    | none => false)
  | _ => false
def stEn (L : Law) : En → Bool
  | .fn i N cs ds => stFn (stAt L.P i) N cs ds
  | .me i j N cs ds => stFn (meAt L.P i j) N cs ds
  | _ => true
/-- the def called by its body -/
def GI.pl : GI → GI
  | .fn u => .fn { u with kd := .pl }
  | x => x
theorem FnD.Ok.kd {W : Wd} {f : Nat} {u : Fun} {d : FnD} (h : d.Ok W f { u with kd := .pl }) : d.Ok W f u := ⟨h.lk, h.hcd, h.S, h.np, h.ns, h.body, h.cnd, h.cel, h.bind, h.dval, h.drd, h.lam⟩
/-- all that is asked of the text -/
structure Law.Text (L : Law) (G : Gb) : Prop where
  comp : L.ens.map (cEn L.P L.gl L.cl L.at_) = G.tab.map fun x => some x.pl
  st : (L.ens.all (stEn L)) = true
  nd : decide (L.at_.Nodup) = true
/-! ### the heap -/
def okEn (L : Law) (K : PySem.W.Frag) : En → Bool
  | .fn i N cs ds => okFn L K ds (He.fAd K (L.pt (.fn i N cs ds))) (L.qual (.fn i N cs ds))
  | .me i j N cs ds => okFn L K ds (He.fAd K (L.pt (.me i j N cs ds))) (L.qual (.me i j N cs ds))
  | _ => true
def okGl (L : Law) (K : PySem.W.Frag) (p : Str × Nat) : Bool := match L.ens[p.2]? with
  | some (.va d) => (match PySem.W.nsIn K mainGlobals p.1 with
    | some (some u) => relD K 9 d u
    | _ => false)
  | some e => He.eqO (PySem.W.nsIn K mainGlobals p.1) (some (some (.ref (adOf L K e))))
  | none => false
def okKeys (L : Law) (K : PySem.W.Frag) : Bool := match K.lookup mainGlobals with
  | some ⟨_, _, .dict es _, _⟩ => es.toList.all fun e => match e.key with
    | .str y _ => under y || (L.gl.lookup y).isSome
    | _ => false
  | _ => false
structure Law.Defs (L : Law) (K : PySem.W.Frag) : Prop where
  ob : L.ens.map (obFn L K) = L.ens.map (vaFn L)
  ok : (L.ens.all (okEn L K)) = true
  gl : (L.gl.all (okGl L K)) = true
  keys : okKeys L K = true
  lam : (L.lams.all fun e => hdB K (He.fAd K (L.pt e))) = true
  tnd : decide (((tabsOf L K).map (·.1)).Nodup) = true
theorem cFn_ok {gl : List (Str × Nat)} {clsl : List Nat} {att : List Str} {s : Stmt} {N : List Str} {cs : List Nat} {ds : List D} {u : Fun} (h : cFn gl clsl att s N cs ds = some u) :
    ∃ as de, defArgs s = ⟨[], as, none, [], [], none, de⟩ ∧ u.dfl = ds ∧ u.np = as.length ∧ u.ns = N.length ∧ u.cells = cs ∧ cSs 60 ⟨N, defScope s, gl, clsl, att, !cs.isEmpty⟩ (defBody s) = some u.body := by
  unfold cFn at h
  split at h
  · split at h
    · rename_i as de
      obtain ⟨b, hb, h⟩ := bsome h
      cases h
      exact ⟨as, de, rfl, rfl, rfl, rfl, rfl, hb⟩
    · cases h
  · cases h
theorem look_ens {L : Law} {G : Gb} (T : L.Text G) {g : Nat} {it : GI} (h : G.tab[g]? = some it) : ∃ e, L.ens[g]? = some e ∧ cEn L.P L.gl L.cl L.at_ e = some it.pl ∧ e ∈ L.ens := by
  have z := congrArg (fun l => l[g]?) T.comp
  simp only [List.getElem?_map, h] at z
  cases q : L.ens[g]? with
  | none => rw [q] at z; cases z
  | some e =>
    rw [q] at z
    exact ⟨e, rfl, Option.some.inj z, List.mem_of_getElem? q⟩
theorem ob_at {L : Law} {K : PySem.W.Frag} (D : L.Defs K) {e : En} (h : e ∈ L.ens) : obFn L K e = vaFn L e := by
  obtain ⟨i, hi⟩ := List.getElem?_of_mem h
  have z := congrArg (fun l => l[i]?) D.ob
  simp only [List.getElem?_map, hi] at z
  exact Option.some.inj z
section
variable {L : Law} {G : Gb} {K : PySem.W.Frag} {mg : Str → Option Value} {base : Heap} {w : World} {gg : Nat}
theorem lam_of {q : Str} {sc : Scope} {l a : Addr} {cdv : Value} : (envOfC q sc l a cdv).qual ++ "<lambda>" = lamQ q := rfl
theorem mk_fn (T : L.Text G) (D : L.Defs K) (TB : ∀ e ∈ L.lams, LamX.TabB base mg (codeOf K (He.fAd K (L.pt e))) (tabOf K (codeOf K (He.fAd K (L.pt e))))) {g : Nat} {u : Fun} {e : En} {s : Stmt} {N : List Str} {cs : List Nat} {ds : List MX.D} (hg : L.ens[g]? = some e)
    (he : e ∈ L.ens) (ea : adN L K g = He.fAd K (L.pt e)) (ev : vaFn L e = some (fnName s, L.qual e, defArgs s, .stmts (defBody s), defScope s, mainGlobals, [], builtinsNs)) (eo : obFn L K e = He.fnW K (L.pt e)) (ok : okFn L K ds (He.fAd K (L.pt e)) (L.qual e) = true)
    (st : stFn s N cs ds = true) (hl : cs.isEmpty = false → e ∈ L.lams) (hu : cFn L.gl L.cl L.at_ s N cs ds = some u) : (∃ d : FnD, d.Ok (L.W G w K mg base gg) g u) ∧ PySem.W.keepIn K (.ref (adN L K g)) = true := by
  obtain ⟨as, de, ha, n0, n1, n2, n3, hb⟩ := cFn_ok hu
  have eo' : He.fnW K (L.pt e) = some (fnName s, L.qual e, defArgs s, .stmts (defBody s), defScope s, mainGlobals, [], builtinsNs) := by rw [← eo, ob_at D he, ev]
  obtain ⟨oc, od, osl, dV, kV, doc, pm, an, cdv, ct, lk, hdf, hcd, kp⟩ := ob_fn eo' ok
  obtain ⟨dvs, dus, d1, d2, d3⟩ := dfl_ok (ad := adN L K) hdf
  unfold stFn at st
  rw [ha] at st
  simp only [Bool.and_eq_true, decide_eq_true_eq, List.all_eq_true] at st
  obtain ⟨⟨s0, s1⟩, s2, s3⟩ := st
  have s0 := Nat.le_of_ble_eq_true s0
  have S := C8.fnScope_by s1
  have nd : (as.map (·.arg)).Nodup := by
    have z := S.pre
    rw [← z]
    exact List.Sublist.nodup (List.take_sublist _ _) S.nd
  rw [ea]
  refine ⟨⟨⟨fnName s, L.qual e, defArgs s, defBody s, defScope s, dV, kV, doc, pm, cdv, ct, oc, an, od, osl, N, as.map (·.arg), dus, dvs⟩, ?_⟩, kp⟩
  refine ⟨by show K.lookup (adN L K g) = _; rw [ea]; exact lk, hcd, S, by rw [List.length_map, n1], n2.symm, ?_, by rw [n3]; exact s2, fun i hi => ?_, fun s' us X hl hg => ?_, d1, fun nx ρ H => by rw [n0]; exact d2 nx ρ H, fun hc => ?_⟩
  · show cSs 60 ⟨N, defScope s, L.gl, L.cl, L.at_, !u.cells.isEmpty⟩ (defBody s) = _
    rw [n3]; exact hb
  · rw [n3] at hi
    have z := s3 i hi
    split at z
    · rename_i x ex
      exact ⟨x, ex, of_decide_eq_true z⟩
    · cases z
  · have lk : dus.length ≤ (as.map (·.arg)).length := by
      rw [List.length_map, ← d1.length, ← (d2 0 (fun _ => (none, 0)) (fun _ => none)).length]; exact s0
    obtain ⟨kk, e1, e2⟩ := bind_dfl (fd := PySem.W.fnOf (fnName s) (L.qual e) (defArgs s) (defBody s) (defScope s) dV kV doc pm an cdv ct) (by exact ha) nd hl lk hg
    refine BindsTo.of_looks fun M => ?_
    show PySem.W.Looks M s'.heap (bindArgs (PySem.W.fnOf (fnName s) (L.qual e) (defArgs s) (defBody s) (defScope s) dV kV doc pm an cdv ct) ⟨us, []⟩) _
    rw [e1]
    exact d3 M s'.heap X kk _ e2
  · rw [n3] at hc
    have hm := hl hc
    have z := List.all_eq_true.mp D.lam e hm
    obtain ⟨⟨oc2, od2, fd2, osl2, y1, y2⟩, _, _⟩ := hd_ok z
    rw [lk] at y1
    have ecd : cdv = .ref (codeOf K (He.fAd K (L.pt e))) := by cases y1; exact y2
    refine ⟨_, tabOf K (codeOf K (He.fAd K (L.pt e))), ecd, TB e hm, ?_, fun p hp e1 => ?_⟩
    · exact List.mem_map.mpr ⟨e, hm, rfl⟩
    · obtain ⟨e2, h2, rfl⟩ := List.mem_map.mp hp
      have nd2 := of_decide_eq_true D.tnd
      have same : ∀ (l : List (Addr × Str)) (p q : Addr × Str), (l.map (·.1)).Nodup → p ∈ l → q ∈ l → p.1 = q.1 → p = q := by
        intro l
        induction l with
        | nil => intro p q _ hp; cases hp
        | cons a l ih =>
          intro p q nd hp hq h
          rw [List.map_cons, List.nodup_cons] at nd
          rcases List.mem_cons.mp hp with rfl | hp' <;> rcases List.mem_cons.mp hq with rfl | hq'
          · rfl
          · exact absurd (List.mem_map.mpr ⟨q, hq', h.symm⟩) nd.1
          · exact absurd (List.mem_map.mpr ⟨p, hp', h⟩) nd.1
          · exact ih p q nd.2 hp' hq' h
      have z := same (tabsOf L K) _ (tabOf K (codeOf K (He.fAd K (L.pt e))), lamQ (L.qual e)) nd2 hp (List.mem_map.mpr ⟨e, hm, rfl⟩) e1
      exact congrArg (·.2) z
theorem fns_ok (T : L.Text G) (D : L.Defs K) (TB : ∀ e ∈ L.lams, LamX.TabB base mg (codeOf K (He.fAd K (L.pt e))) (tabOf K (codeOf K (He.fAd K (L.pt e)))))  (OV : ∀ f u n, G.tab[f]? = some (.fn u) → u.kd = .ov n → OvC (L.W G w K mg base gg) f n) : FnsOk (L.W G w K mg base gg) := by
  have key : ∀ g u, G.tab[g]? = some (.fn u) → (∃ d : FnD, d.Ok (L.W G w K mg base gg) g u) ∧ PySem.W.keepIn K (.ref (adN L K g)) = true := fun g u h => by
    obtain ⟨e, hg, hc, he⟩ := look_ens T h
    suffices z : (∃ d : FnD, d.Ok (L.W G w K mg base gg) g { u with kd := .pl }) ∧ PySem.W.keepIn K (.ref (adN L K g)) = true from ⟨z.1.elim fun d hd => ⟨d, hd.kd⟩, z.2⟩
    have hc : cEn L.P L.gl L.cl L.at_ e = some (.fn { u with kd := .pl }) := hc
    generalize ({ u with kd := .pl } : Fun) = u at *
    have ho := List.all_eq_true.mp D.ok e he
    have hs := List.all_eq_true.mp T.st e he
    have ea : ∀ e', e = e' → (∀ d, e' ≠ .va d) → adN L K g = He.fAd K (L.pt e') := fun e' q n => by
      unfold adN
      rw [hg, q]
      cases e' <;> first | rfl | exact absurd rfl (n _)
    cases e with
    | fn i N cs ds =>
      have hc : (cFn L.gl L.cl L.at_ (stAt L.P i) N cs ds).map GI.fn = some (.fn u) := hc
      cases q : cFn L.gl L.cl L.at_ (stAt L.P i) N cs ds with
      | none => rw [q] at hc; cases hc
      | some u' =>
        rw [q] at hc
        cases hc
        exact mk_fn T D TB hg he (ea _ rfl fun d z => nomatch z) rfl rfl ho hs (fun z => List.mem_filter.mpr ⟨he, by show (!cs.isEmpty) = true; rw [z]; rfl⟩) q
    | me i j N cs ds =>
      have hc : (cFn L.gl L.cl L.at_ (meAt L.P i j) N cs ds).map GI.fn = some (.fn u) := hc
      cases q : cFn L.gl L.cl L.at_ (meAt L.P i j) N cs ds with
      | none => rw [q] at hc; cases hc
      | some u' =>
        rw [q] at hc
        cases hc
        exact mk_fn T D TB hg he (ea _ rfl fun d z => nomatch z) rfl rfl ho hs (fun z => List.mem_filter.mpr ⟨he, by show (!cs.isEmpty) = true; rw [z]; rfl⟩) q
    | cl _ _ => cases hc
    | va _ => cases hc
  exact ⟨fun f u h => (key f u h).1, fun f u h => (key f u h).2, OV⟩
end
end MX
end
section
set_option Elab.async false
set_option linter.all false
set_option autoImplicit false
set_option maxRecDepth 100000
set_option maxHeartbeats 1000000
/-! Global names, classes, exceptions. -/
namespace MX
open PySem PySem.Spec PyProof.Rows L2
section
variable {L : Law} {G : Gb} {K : PySem.W.Frag} {mg : Str → Option Value} {base h : Heap} {w : World} {gg : Nat}
theorem mem_lookup {α β : Type} [BEq α] [LawfulBEq α] : ∀ {l : List (α × β)} {x : α} {y : β}, l.lookup x = some y → (x, y) ∈ l
  | [], _, _, h => by cases h
  | (a, b) :: l, x, y, h => by
    rw [List.lookup_cons] at h
    cases e : x == a with
    | true => rw [e] at h; cases h; rw [eq_of_beq e]; exact List.mem_cons_self
    | false => rw [e] at h; exact List.mem_cons_of_mem _ (mem_lookup h)
theorem gf_ok (T : L.Text G) (D : L.Defs K) (X : K.In h) (Gn : h.Ns mainGlobals mg) : GF (L.W G w K mg base gg) := by
  have gl : ∀ x g, L.gl.lookup x = some g → okGl L K (x, g) = true := fun x g e => List.all_eq_true.mp D.gl _ (mem_lookup e)
  have obj : ∀ x g e, L.gl.lookup x = some g → L.ens[g]? = some e → (∀ d, e ≠ .va d) → mg x = some (.ref (adN L K g)) := fun x g e h1 h2 h3 => by
    have z := gl x g h1
    unfold okGl at z
    rw [h2] at z
    have ea : adN L K g = adOf L K e := by unfold adN; rw [h2]
    cases e with
    | va d => exact absurd rfl (h3 d)
    | _ => exact PySem.W.mg_of X Gn (by rw [ea]; exact He.eqO_ok z)
  refine ⟨fun x g f h1 h2 => ?_, fun x g d h1 h2 => ?_, fun x g k h1 h2 => ?_, fun x u hu hx h1 => ?_⟩
  · obtain ⟨e, e1, e2, e3⟩ := look_ens T h2
    have nv : ∀ d, e ≠ .va d := fun d q => by subst q; cases e2
    refine ⟨obj x g e h1 e1 nv, ?_⟩
    have ho := List.all_eq_true.mp D.ok e e3
    have ea : adN L K g = adOf L K e := by unfold adN; rw [e1]
    show PySem.W.keepIn K (.ref (adN L K g)) = true
    rw [ea]
    cases e with
    | fn i N cs ds => exact (Bool.and_eq_true_iff.mp ho).1
    | me i j N cs ds => exact (Bool.and_eq_true_iff.mp ho).1
    | cl _ _ => cases e2
    | va _ => cases e2
  · obtain ⟨e, e1, e2, _⟩ := look_ens T h2
    have z := gl x g h1
    unfold okGl at z
    rw [e1] at z
    cases e with
    | va d' =>
      have e2 : some (GI.val d') = some (GI.val d) := e2
      cases e2
      simp only at z
      split at z
      · rename_i u q
        obtain ⟨v, r1, r2⟩ := relD_ok (ad := adN L K) 9 d u z
        exact ⟨u, v, PySem.W.mg_of X Gn q, r1, r2⟩
      · cases z
    | fn i N cs ds =>
      have e2 : (cFn L.gl L.cl L.at_ (stAt L.P i) N cs ds).map GI.fn = some (.val d) := e2
      cases q : cFn L.gl L.cl L.at_ (stAt L.P i) N cs ds <;> rw [q] at e2 <;> cases e2
    | me i j N cs ds =>
      have e2 : (cFn L.gl L.cl L.at_ (meAt L.P i j) N cs ds).map GI.fn = some (.val d) := e2
      cases q : cFn L.gl L.cl L.at_ (meAt L.P i j) N cs ds <;> rw [q] at e2 <;> cases e2
    | cl _ _ => cases e2
  · obtain ⟨e, e1, e2, _⟩ := look_ens T h2
    exact obj x g e h1 e1 fun d q => by subst q; cases e2
  · refine PySem.W.mg_none_of X Gn ?_
    have z := D.keys
    unfold okKeys at z
    unfold PySem.W.nsIn
    split at z
    · rename_i c d es n sl e
      rw [e]
      simp only
      have no : es.toList.find? (·.key.isStr x) = none := by
        rw [List.find?_eq_none]
        intro q hq
        have z1 := List.all_eq_true.mp z q hq
        intro hs
        obtain ⟨hh, kk, vv⟩ := q
        have z1 : (match (generalizing := false) kk with | .str y _ => under y || (L.gl.lookup y).isSome | _ => false) = true := z1
        cases kk with
        | str y t =>
          have hs : (y == x) = true := by
            have hs' : (Value.str y t).isStr x = true := hs
            simpa [Value.isStr] using hs'
          have := eq_of_beq hs
          subst this
          have h1' : L.gl.lookup y = none := h1
          simp only [Bool.or_eq_true] at z1
          rcases z1 with z1 | z1
          · rw [hx] at z1; cases z1
          · rw [h1'] at z1; cases z1
        | _ => cases z1
      rw [no]
      have nr : es.toList.any (·.refKey) = false := by
        rw [List.any_eq_false]
        intro q hq hr
        have z1 := List.all_eq_true.mp z q hq
        obtain ⟨hh, kk, vv⟩ := q
        have z1 : (match (generalizing := false) kk with | .str y _ => under y || (L.gl.lookup y).isSome | _ => false) = true := z1
        have hr : (match (generalizing := false) kk with | .ref _ => true | _ => false) = true := hr
        cases kk <;> first | (cases z1; done) | (cases hr; done)
      rw [nr]
      rfl
    · cases z
end
end MX
end
section
set_option Elab.async false
set_option linter.all false
set_option autoImplicit false
set_option maxRecDepth 100000
set_option maxHeartbeats 1000000
/-! Classes, exceptions. -/
namespace MX
open PySem PySem.Spec PyProof.Rows L2
def tyNames : List String := ["int", "bool", "tuple", "str", "list"]
def okCl (L : Law) (K : PySem.W.Frag) (C : Addr) (k : MX.Cls) : Bool :=
  PySem.W.plainGet K C Str.empty && (PySem.W.hasDictIn K C && (PySem.W.plainOver K C && (He.eqO (PySem.W.findIn K (.ref C) "__setattr__") (some (some (.builtin "object.__setattr__"))) &&
  ((match k.init with
    | some f => PySem.W.makesIn K C && (He.eqO (PySem.W.findIn K (.ref C) "__init__") (some (some (.ref (adN L K f)))) && (PySem.W.isFn K (.ref (adN L K f)) && PySem.W.keepIn K (.ref C)))
    | none => true) &&
  (((List.range L.at_.length).all fun f => (lookM f k.meths).isSome || He.eqO (PySem.W.findIn K (.ref C) (nmAt L.at_ f)) (some none)) &&
  ((k.meths.all fun p => He.eqO (PySem.W.findIn K (.ref C) (nmAt L.at_ p.1)) (some (some (.ref (adN L K p.2)))) && (PySem.W.isFn K (.ref (adN L K p.2)) && PySem.W.keepIn K (.ref (adN L K p.2)))) &&
  (He.eqO (PySem.W.findIn K (.ref C) "__class__") (some (some (.builtin "object.__class__"))) && (He.eqO (PySem.W.specialIn K (.builtin "object.__class__") "__get__") (some (some (.builtin "getset_descriptor.__get__"))) &&
  (decide (PySem.W.takesIn K (.builtin "object.__class__") = some true) && (decide (PySem.W.mroIn K C (.type "object") = some true) &&
  ((tyNames.all fun t => decide (PySem.W.kitOne K (.ref C) (.type t) = some false)) && (("NoneType" :: tyNames).all fun t => decide (PySem.W.kitOne K (.type t) (.ref C) = some false)))))))))))))
theorem lookM_mem {m f : Nat} : ∀ {l : List (Nat × Nat)}, lookM m l = some f → (m, f) ∈ l
  | [], h => by cases h
  | (g, d) :: r, h => by
    have h : cond (Nat.beq m g) (some d) (lookM m r) = some f := h
    cases e : Nat.beq m g with
    | true => rw [e] at h; cases h; rw [Nat.eq_of_beq_eq_true e]; exact List.mem_cons_self
    | false => rw [e] at h; exact List.mem_cons_of_mem _ (lookM_mem h)
def okClE (L : Law) (G : Gb) (K : PySem.W.Frag) (p : En × Nat) : Bool := match p.1 with
  | .cl _ k => !k.init.isSome || okCl L K (adN L K p.2) k
  | _ => true
/-- plain own classes, two by two -/
def okTwo (L : Law) (K : PySem.W.Frag) : Bool := (L.ens.zipIdx).all fun p => (L.ens.zipIdx).all fun q => match p.1, q.1 with
  | .cl _ k, .cl _ l => !(k.init.isSome && l.init.isSome) || decide (PySem.W.kitOne K (.ref (adN L K p.2)) (.ref (adN L K q.2)) = some (Nat.beq p.2 q.2))
  | _, _ => true
def okIsC (L : Law) : Bool := L.cl.all fun g => match L.ens[g]? with
  | some (.cl _ _) => true
  | _ => false
section
variable {L : Law} {G : Gb} {K : PySem.W.Frag} {mg : Str → Option Value} {base h : Heap} {w : World} {gg : Nat}
theorem ens_cl (T : L.Text G) {g : Nat} {k : MX.Cls} (h : G.tab[g]? = some (.cls k)) : ∃ i, L.ens[g]? = some (.cl i k) := by
  obtain ⟨e, e1, e2, _⟩ := look_ens T h
  cases e with
  | cl i k' => have e2 : some (GI.cls k') = some (GI.cls k) := e2; cases e2; exact ⟨i, e1⟩
  | va _ => cases e2
  | fn i N cs ds =>
    have e2 : (cFn L.gl L.cl L.at_ (stAt L.P i) N cs ds).map GI.fn = some (.cls k) := e2
    cases q : cFn L.gl L.cl L.at_ (stAt L.P i) N cs ds <;> rw [q] at e2 <;> cases e2
  | me i j N cs ds =>
    have e2 : (cFn L.gl L.cl L.at_ (meAt L.P i j) N cs ds).map GI.fn = some (.cls k) := e2
    cases q : cFn L.gl L.cl L.at_ (meAt L.P i j) N cs ds <;> rw [q] at e2 <;> cases e2
theorem tab_cl (T : L.Text G) {g i : Nat} {k : MX.Cls} (h : L.ens[g]? = some (.cl i k)) : G.tab[g]? = some (.cls k) := by
  have z := congrArg (fun l => l[g]?) T.comp
  simp only [List.getElem?_map, h] at z
  cases q : G.tab[g]? with
  | none => rw [q] at z; cases z
  | some it =>
    rw [q] at z
    have z : some (GI.cls k) = some it.pl := Option.some.inj z
    cases it with
    | cls k' =>
      have z : some (GI.cls k) = some (GI.cls k') := z
      cases z
      rfl
    | fn u =>
      have z : some (GI.cls k) = some (GI.fn { u with kd := .pl }) := z
      cases z
    | val d =>
      have z : some (GI.cls k) = some (GI.val d) := z
      cases z
theorem zip_mem {g : Nat} {e : En} (h : L.ens[g]? = some e) : (e, g) ∈ L.ens.zipIdx := by
  rw [List.mem_zipIdx_iff_getElem?]
  exact h
theorem gc_ok (T : L.Text G) (h1 : ((L.ens.zipIdx).all (okClE L G K)) = true) (h2 : okTwo L K = true) (h3 : okIsC L = true) : GC (L.W G w K mg base gg) := by
  refine ⟨fun c k e hi => ?_, fun c d hc hd => ?_, of_decide_eq_true T.nd, fun g hg => ?_⟩
  · obtain ⟨i, e1⟩ := ens_cl T e
    have z := List.all_eq_true.mp h1 _ (zip_mem e1)
    have z : (!k.init.isSome || okCl L K (adN L K c) k) = true := z
    rw [hi] at z
    have z : okCl L K (adN L K c) k = true := by simpa using z
    unfold okCl at z
    simp only [Bool.and_eq_true, decide_eq_true_eq, List.all_eq_true] at z
    obtain ⟨a1, a2, a3, a4, a5, a6, a7, a8, a9, a10, a11, a12, a13⟩ := z
    refine ⟨⟨a1, a2, a3, He.eqO_ok a4⟩, fun f hf => ?_, fun f hf hn => ?_, fun m f hm => ?_, He.eqO_ok a8, He.eqO_ok a9, a10, a11, a12, a13⟩
    · rw [hf] at a5
      simp only [Bool.and_eq_true] at a5
      exact ⟨a5.1, He.eqO_ok a5.2.1, a5.2.2.1, a5.2.2.2⟩
    · have z := a6 f (List.mem_range.mpr hf)
      rw [hn] at z
      have z : He.eqO (PySem.W.findIn K (.ref (adN L K c)) (nmAt L.at_ f)) (some none) = true := by simpa using z
      exact He.eqO_ok z
    · have z := a7 (m, f) (lookM_mem hm)
      simp only [Bool.and_eq_true] at z
      exact ⟨He.eqO_ok z.1, z.2.1, z.2.2⟩
  · unfold ownC at hc hd
    have hc : (match G.tab[c]? with | some (.cls k) => k.init.isSome | _ => false) = true := hc
    have hd : (match G.tab[d]? with | some (.cls k) => k.init.isSome | _ => false) = true := hd
    split at hc
    · rename_i k e1
      split at hd
      · rename_i l e2
        obtain ⟨i, e3⟩ := ens_cl T e1
        obtain ⟨j, e4⟩ := ens_cl T e2
        unfold okTwo at h2
        have z := List.all_eq_true.mp (List.all_eq_true.mp h2 _ (zip_mem e3)) _ (zip_mem e4)
        have z : (!(k.init.isSome && l.init.isSome) || decide (PySem.W.kitOne K (.ref (adN L K c)) (.ref (adN L K d)) = some (Nat.beq c d))) = true := z
        rw [hc, hd] at z
        have z : PySem.W.kitOne K (.ref (adN L K c)) (.ref (adN L K d)) = some (Nat.beq c d) := by simpa using z
        exact z
      · cases hd
    · cases hc
  · have hg : L.cl.contains g = true := hg
    have hg : g ∈ L.cl := by simpa using hg
    have z := List.all_eq_true.mp h3 g hg
    have z : (match L.ens[g]? with | some (.cl _ _) => true | _ => false) = true := z
    split at z
    · rename_i i k e
      exact ⟨k, tab_cl T e⟩
    · cases z
end
/-! ### exceptions -/
def okExN (K : PySem.W.Frag) (C : Addr) : Bool := PySem.W.excIn K C He.veBase "ValueError.__new__" && (PySem.W.keepIn K (.ref C) && (decide (PySem.W.subIn K (.ref C) (.type "BaseException") = some true) && decide (PySem.W.typeIn K (.ref C) = some (.type "type"))))
def okExE (L : Law) (K : PySem.W.Frag) (p : En × Nat) : Bool := match p.1 with
  | .cl _ k => !(k.init.isNone && k.fld.isNone) || okExN K (adN L K p.2)
  | _ => true
def okPairs (L : Law) (G : Gb) (K : PySem.W.Frag) : Bool := (L.ens.zipIdx).all fun p => (L.ens.zipIdx).all fun q => match p.1, q.1 with
  | .cl _ k, .cl _ l => !(k.init.isNone && l.init.isNone) || decide (PySem.W.exmOne K (.ref (adN L K p.2)) (.ref (adN L K q.2)) = some (excIs G p.2 q.2))
  | _, _ => true
section
variable {L : Law} {G : Gb} {K : PySem.W.Frag} {mg : Str → Option Value} {base h : Heap} {w : World} {gg : Nat}
theorem ge_ok (T : L.Text G) (h1 : ((L.ens.zipIdx).all (okExE L K)) = true) : GE (L.W G w K mg base gg) := by
  refine ⟨fun c k e hf hi => ?_⟩
  obtain ⟨i, e1⟩ := ens_cl T e
  have z := List.all_eq_true.mp h1 _ (zip_mem e1)
  have z : (!(k.init.isNone && k.fld.isNone) || okExN K (adN L K c)) = true := z
  rw [hf, hi] at z
  have z : okExN K (adN L K c) = true := by simpa using z
  unfold okExN at z
  simp only [Bool.and_eq_true, decide_eq_true_eq] at z
  exact ⟨⟨_, _, _, _, PySem.F.excBase_ValueError, z.1⟩, z.2.1, fun X _ _ hK => raises_own (by rw [hK]; exact z.2.2.1) (by rw [hK]; exact z.2.2.2)⟩
theorem gt_ok (T : L.Text G) (h1 : okPairs L G K = true) : GT (L.W G w K mg base gg) := by
  refine ⟨fun c d hc hd => ?_⟩
  unfold isExcC at hc hd
  have hc : (match G.tab[c]? with | some (.cls k) => k.init.isNone | _ => false) = true := hc
  have hd : (match G.tab[d]? with | some (.cls k) => k.init.isNone | _ => false) = true := hd
  split at hc
  · rename_i k e1
    split at hd
    · rename_i l e2
      obtain ⟨i, e3⟩ := ens_cl T e1
      obtain ⟨j, e4⟩ := ens_cl T e2
      unfold okPairs at h1
      have z := List.all_eq_true.mp (List.all_eq_true.mp h1 _ (zip_mem e3)) _ (zip_mem e4)
      have z : (!(k.init.isNone && l.init.isNone) || decide (PySem.W.exmOne K (.ref (adN L K c)) (.ref (adN L K d)) = some (excIs G c d))) = true := z
      rw [hc, hd] at z
      have z : PySem.W.exmOne K (.ref (adN L K c)) (.ref (adN L K d)) = some (excIs G c d) := by simpa using z
      exact z
    · cases hd
  · cases hc
end
end MX
end
section
set_option Elab.async false
set_option linter.all false
set_option autoImplicit false
set_option maxRecDepth 100000
set_option maxHeartbeats 1000000
/-! Exceptions with an own __init__. -/
namespace MX
open PySem PySem.Spec PyProof.Rows L2
def BK.B : BK → String
  | .idx => "IndexError" | .ari => "ArithmeticError" | .ovf => "OverflowError" | .look => "LookupError" | .val => "ValueError"
def BK.nI : BK → String
  | .idx => "IndexError.__new__" | .ari => "ArithmeticError.__new__" | .ovf => "OverflowError.__new__" | .look => "LookupError.__new__" | .val => "ValueError.__new__"
def BK.iI : BK → String
  | .idx => "IndexError.__init__" | .ari => "ArithmeticError.__init__" | .ovf => "OverflowError.__init__" | .look => "LookupError.__init__" | .val => "ValueError.__init__"
def BK.bm : BK → List Value
  | .idx => [.type "IndexError", .type "LookupError", .type "Exception", .type "BaseException", .type "object"]
  | .ari => [.type "ArithmeticError", .type "Exception", .type "BaseException", .type "object"]
  | .ovf => [.type "OverflowError", .type "ArithmeticError", .type "Exception", .type "BaseException", .type "object"]
  | .look => [.type "LookupError", .type "Exception", .type "BaseException", .type "object"]
  | .val => [.type "ValueError", .type "Exception", .type "BaseException", .type "object"]
theorem BK.base : ∀ b : BK, ExcBaseFacts b.B b.nI b.iI b.bm
  | .idx => PySem.F.excBase_IndexError | .ari => PySem.F.excBase_ArithmeticError | .ovf => PySem.F.excBase_OverflowError | .look => PySem.F.excBase_LookupError | .val => PySem.F.excBase_ValueError
theorem BK.kxs : ∀ b : BK, PySem.W.KxsFacts b.B b.iI
  | .idx => PySem.W.kxs_IndexError | .ari => PySem.W.kxs_ArithmeticError | .ovf => PySem.W.kxs_OverflowError | .look => PySem.W.kxs_LookupError | .val => PySem.W.kxs_ValueError
theorem BK.store : ∀ b : BK, StoreFacts b.B b.bm "object.__setattr__" "object"
  | .idx => PySem.F.store_IndexError | .ari => PySem.F.store_ArithmeticError | .ovf => PySem.F.store_OverflowError | .look => PySem.F.store_LookupError | .val => PySem.F.store_ValueError
/-- such an __init__ in the text -/
structure ExT where
  a0 : Arg
  a1 : Arg
  self : Str
  arg : Str
  fld : Str
  p0 : Pos
  p1 : Pos
  p2 : Pos
  p3 : Pos
  p4 : Pos
  p5 : Pos
  p6 : Pos
  p7 : Pos
  p8 : Pos
  txt : Expr
  su : Str
  ini : Str
def ExT.body (d : ExT) : List Stmt := [.Expr (.Call (.Attribute (.Call (.Name d.su d.p0) [] [] d.p1) d.ini d.p2) [d.txt] [] d.p3) d.p4, .Assign [.Attribute (.Name d.self d.p5) d.fld d.p6] (.Name d.arg d.p7) d.p8]
def exT (s : Stmt) : Option ExT := match defArgs s with
  | ⟨[], [a0, a1], none, [], [], none, []⟩ => match defBody s with
    | [.Expr (.Call (.Attribute (.Call (.Name su p0) [] [] p1) ini p2) [txt] [] p3) p4, .Assign [.Attribute (.Name sf p5) fld p6] (.Name ag p7) p8] => some ⟨a0, a1, sf, ag, fld, p0, p1, p2, p3, p4, p5, p6, p7, p8, txt, su, ini⟩
    | _ => none
  | _ => none
theorem exT_ok {s : Stmt} {t : ExT} (h : exT s = some t) : defArgs s = ⟨[], [t.a0, t.a1], none, [], [], none, []⟩ ∧ defBody s = t.body := by
  unfold exT at h
  split at h
  · rename_i a0 a1 e1
    split at h
    · rename_i e2
      cases h
      exact ⟨e1, e2⟩
    · cases h
  · cases h
def txtB (x : Str) : Expr → Bool
  | .Constant (.str m) _ _ => decide (m.length ≤ 1000)
  | .JoinedStr [.FormattedValue (.Name y _) 114 none _, .Constant (.str m) _ _] _ => decide (y = x) && decide (m.length ≤ 1000)
  | .JoinedStr [.Constant (.str m) _ _, .FormattedValue (.Name y _) 114 none _] _ => decide (y = x) && decide (m.length ≤ 1000)
  | _ => false
theorem txtB_ok {x : Str} {e : Expr} (h : txtB x e = true) : Txt x e := by
  unfold txtB at h
  split at h
  · exact .con (of_decide_eq_true h)
  · rw [Bool.and_eq_true] at h
    have := of_decide_eq_true h.1
    subst this
    exact .ahead (of_decide_eq_true h.2)
  · rw [Bool.and_eq_true] at h
    have := of_decide_eq_true h.1
    subst this
    exact .behind (of_decide_eq_true h.2)
  · cases h
/-- the text alone -/
def exS (P : Program) (f : Str) (s : Stmt) : Bool := match exT s with
  | some t => decide (t.su = "super") && (decide (t.ini = "__init__") && (decide (t.fld = f) && (decide (t.self ≠ t.arg) && (decide (t.a0.arg = t.self) && (decide (t.a1.arg = t.arg) && (decide ((defScope s).kind = .function) && (!(defScope s).isCoroutine && (!(defScope s).isGenerator &&
    (((defScope s).names.all fun x => !decide (x.2 = .cell)) && (((defScope s).names.all fun x => !decide (x.2 = .free) || decide (x.1 = "__class__")) && (decide ((defScope s).names.lookup t.self = some .local) && (decide ((defScope s).names.lookup t.arg = some .local) &&
    (decide ((defScope s).names.lookup ("super" : Str) = some .globalImplicit) && (decide ((defScope s).names.lookup ("__class__" : Str) = some .free) && (nmOk t.arg && (nmOk t.self && (txtB t.arg t.txt && (oneLine t.p2 t.p3 && (!(t.fld == ("__class__" : Str)) && !(P.main.scope.names.lookup ("super" : Str)).isSome)))))))))))))))))))
  | none => false
/-- the __init__ of a class of the text -/
def iniOf (s : Stmt) : Stmt := match s with
  | .ClassDef _ _ _ b _ _ _ _ _ _ _ => (b.find? fun
    | .FunctionDef .. => true
    | _ => false).getD (.Pass ⟨0, 0, 0, 0⟩)
  | s => s
abbrev ExW : Type := Option (Str × Str × Arguments × FuncBody × Scope × Addr × List Str × Addr)
def exW (K : PySem.W.Frag) (C : Addr) : ExW := match K.lookup (He.ma K C "__init__") with
  | some ⟨_, _, .func fd, _⟩ => some (fd.name, fd.qualname, fd.params, fd.body, fd.scope, fd.globals, fd.closure.map (·.1), fd.builtins)
  | _ => none
def exV (n q : Str) (s : Stmt) : ExW := some (n, q, defArgs s, .stmts (defBody s), defScope s, mainGlobals, ["__class__"], builtinsNs)
def exK (P : Program) (K : PySem.W.Frag) (C : Addr) (q f : Str) (b : BK) : Bool := PySem.W.excInitIn K C b.bm b.nI && (PySem.W.excOver K C b.bm && (PySem.W.hasDictIn K C && (He.eqO (PySem.W.findIn K (.ref C) "__init__") (some (some (.ref (He.ma K C "__init__")))) &&
  (PySem.W.isFn K (.ref (He.ma K C "__init__")) && (He.eqO (PySem.W.findIn K (.ref C) "__setattr__") (some (some (.builtin "object.__setattr__"))) && (He.eqO (PySem.W.takerIn K C f) (some none) && (He.eqO (PySem.W.ks_superIn K C C "__init__") (some (some (.builtin b.iI))) &&
  (decide (PySem.W.subIn K (.ref C) (.type b.B) = some true) && (decide (PySem.W.mroIn K C (.ref C) = some true) && (He.eqO (PySem.W.nsIn K PySem.cStatics "thirdparty.any") (some none) && (PySem.W.keepIn K (.ref C) && (decide (PySem.W.subIn K (.ref C) (.type "BaseException") = some true) &&
  (decide (PySem.W.typeIn K (.ref C) = some (.type "type")) && (He.eqO (PySem.W.findIn K (.ref C) f) (some none) && (xfB K C && (He.eqO (PySem.W.nsIn K mainGlobals "super") (some none) && match K.lookup (He.ma K C "__init__") with
  | some ⟨_, _, .func fd, _⟩ => (match fd.defaults with | .none => true | _ => false) && (PySem.W.codeIn K fd.code q && ((match fd.closure with
      | [(_, c)] => (match K.lookup c with
        | some ⟨_, _, .cell (some (.ref a)), _⟩ => Nat.beq a C
        | _ => false)
      | _ => false) && (match fd.code with
      | .ref cd => (match K.lookup cd with
        | some ⟨_, _, .fields vs, _⟩ => (match (vs[2]? : Option Value) with
          | some (.str g _) => (P.main.file : Str) == g
          | _ => false)
        | _ => false)
      | _ => false)))
  | _ => false))))))))))))))))
theorem exA_ok {P : Program} {K : PySem.W.Frag} {h : Heap} {mg : Str → Option Value} {C : Addr} {n q f : Str} {b : BK} {s : Stmt} (X : K.In h) (Gn : h.Ns mainGlobals mg) (h1 : exS P f s = true) (h2 : exK P K C q f b = true) (h3 : exW K C = exV n q s) :
    XfC K C ∧ PySem.W.findIn K (.ref C) f = some none ∧ ∃ d : ExA, d.Ok P K mg C ∧ d.fld = f := by
  unfold exS at h1
  split at h1
  · rename_i t ht
    obtain ⟨t1, t2⟩ := exT_ok ht
    simp only [Bool.and_eq_true, decide_eq_true_eq, Bool.not_eq_true', List.all_eq_true, Bool.or_eq_true, decide_eq_false_iff_not] at h1
    obtain ⟨a1, a2, a3, a4, a5, a6, a7, a8, a9, a10, a11, a12, a13, a14, a15, a16, a17, a18, a19, a20, a21⟩ := h1
    unfold exK at h2
    rw [Bool.and_eq_true, Bool.and_eq_true, Bool.and_eq_true, Bool.and_eq_true, Bool.and_eq_true, Bool.and_eq_true, Bool.and_eq_true, Bool.and_eq_true, Bool.and_eq_true, Bool.and_eq_true, Bool.and_eq_true, Bool.and_eq_true, Bool.and_eq_true, Bool.and_eq_true, Bool.and_eq_true, Bool.and_eq_true, Bool.and_eq_true] at h2
    obtain ⟨b1, b2, b3, b4, b5, b6, b7, b8, b9, b10, b11, b12, b13, b14, b15, b16, b17, b18⟩ := h2
    refine ⟨xfB_ok b16, He.eqO_ok b15, ?_⟩
    unfold exW at h3
    split at b18
    · rename_i oc od fd osl e
      rw [e] at h3
      obtain ⟨n1, n2, n3, n4, n5, n6, n7, n8, n9, n10, n11, n12, n13, n14, n15⟩ := fd
      have h3 : (some (n1, n2, n3, n4, n5, n6, n7.map (·.1), n15) : ExW) = exV n q s := h3
      unfold exV at h3
      simp only [Option.some.injEq, Prod.mk.injEq] at h3
      obtain ⟨rfl, rfl, rfl, rfl, rfl, rfl, hcl, rfl⟩ := h3
      have b18 : ((match (generalizing := false) n8 with | .none => true | _ => false) && (PySem.W.codeIn K n13 n2 && ((match (generalizing := false) n7 with
        | [(_, c)] => (match K.lookup c with
          | some ⟨_, _, .cell (some (.ref a)), _⟩ => Nat.beq a C
          | _ => false)
        | _ => false) && (match (generalizing := false) n13 with
        | .ref cd => (match K.lookup cd with
          | some ⟨_, _, .fields vs, _⟩ => (match (vs[2]? : Option Value) with
            | some (.str g _) => (P.main.file : Str) == g
            | _ => false)
          | _ => false)
        | _ => false)))) = true := b18
      rw [Bool.and_eq_true, Bool.and_eq_true, Bool.and_eq_true] at b18
      obtain ⟨c1, c2, c3, c4⟩ := b18
      match n7, hcl with
      | [(y, c)], hcl =>
        have ey : y = "__class__" := by simpa using hcl
        subst ey
        have c3 : (match K.lookup c with
          | some ⟨_, _, .cell (some (.ref a)), _⟩ => Nat.beq a C
          | _ => false) = true := c3
        split at c3
        · rename_i w1 w2 a w3 e4
          have ea := Nat.eq_of_beq_eq_true c3
          subst ea
          cases n13 with
          | ref cd =>
            have c4 : (match K.lookup cd with
              | some ⟨_, _, .fields vs, _⟩ => (match (vs[2]? : Option Value) with
                | some (.str g _) => (P.main.file : Str) == g
                | _ => false)
              | _ => false) = true := c4
            split at c4
            · rename_i x1 x2 vs x3 e5
              split at c4
              · rename_i g tg e6
                cases n8 with
                | none =>
                  refine ⟨⟨b.B, b.nI, b.iI, b.bm, He.ma K a "__init__", c, cd, n1, n2, defArgs s, defScope s, .none, n9, n10, n11, n14, oc, n12, od, osl, t.self, t.arg, t.fld, t.p0, t.p1, t.p2, t.p3, t.p4, t.p5, t.p6, t.p7, t.p8, t.txt⟩, ?_, a3⟩
                  refine ⟨b.base, b.kxs, b.store, b1, b2, b3, He.eqO_ok b4, b5, He.eqO_ok b6, by rw [a3]; exact He.eqO_ok b7, He.eqO_ok b8, of_decide_eq_true b9, of_decide_eq_true b10, He.eqO_ok b11, b12, of_decide_eq_true b13, of_decide_eq_true b14, ?_, c2, ⟨_, _, _, _, _, _, e5, e6, c4⟩, ⟨_, _, _, e4⟩, a21, PySem.W.mg_none_of X Gn (He.eqO_ok b17), rfl, ⟨t.a0, t.a1, t1, a5, a6⟩, a4, a7, a8, a9, a10, ?_, a12, a13, a14, a15, a16, a17, txtB_ok a18, a19, a20⟩
                  · rw [e]
                    rw [t2]
                    unfold ExT.body
                    rw [a1, a2]
                    rfl
                  · intro x hx hf
                    rcases a11 x hx with z | z
                    · exact absurd hf z
                    · exact z
                | _ => cases c1
              · cases c4
            · cases c4
          | _ => cases c4
        · cases c3
      | [], hcl => exact absurd (congrArg List.length hcl) (by simp)
      | _ :: _ :: _, hcl => exact absurd (congrArg List.length hcl) (by simp)
    · cases b18
  · cases h1
/-- the classes of that make -/
def exkOk (L : Law) : Bool := (L.ens.zipIdx).all fun p => match p.1 with
  | .cl _ k => (match k.fld with
    | some f => decide (f < L.at_.length) && (L.exk.lookup p.2).isSome
    | none => true)
  | _ => true
def ExE (L : Law) (K : PySem.W.Frag) (p : Nat × BK) : ExW := exW K (adN L K p.1)
def initStm (L : Law) (g : Nat) : Stmt := match L.ens[g]? with
  | some (.cl i _) => iniOf (stAt L.P i)
  | _ => .Pass ⟨0, 0, 0, 0⟩
def fldOf (L : Law) (g : Nat) : Str := match L.ens[g]? with
  | some (.cl _ k) => nmAt L.at_ (k.fld.getD 0)
  | _ => Str.empty
def clsOf (L : Law) (g : Nat) : Str := match L.ens[g]? with
  | some (.cl i _) => L.cls i
  | _ => Str.empty
def exQ (L : Law) (g : Nat) : Str := clsOf L g ++ (".__init__" : Str)
structure Law.Exs (L : Law) (K : PySem.W.Frag) : Prop where
  all : exkOk L = true
  st : (L.exk.all fun p => exS L.P (fldOf L p.1) (initStm L p.1)) = true
  ok : (L.exk.all fun p => exK L.P K (adN L K p.1) (exQ L p.1) (fldOf L p.1) p.2) = true
  ob : L.exk.map (ExE L K) = L.exk.map fun p => exV "__init__" (exQ L p.1) (initStm L p.1)
theorem ga_ok {L : Law} {G : Gb} {K : PySem.W.Frag} {mg : Str → Option Value} {base h : Heap} {w : World} {gg : Nat} (T : L.Text G) (E : L.Exs K) (X : K.In h) (Gn : h.Ns mainGlobals mg) : GA (L.W G w K mg base gg) := by
  refine ⟨fun c k f e hf => ?_⟩
  obtain ⟨i, e1⟩ := ens_cl T e
  have z := List.all_eq_true.mp E.all _ (zip_mem e1)
  have z : (match k.fld with
    | some f => decide (f < L.at_.length) && (L.exk.lookup c).isSome
    | none => true) = true := z
  rw [hf] at z
  simp only [Bool.and_eq_true, decide_eq_true_eq] at z
  obtain ⟨z1, z2⟩ := z
  obtain ⟨b, hb⟩ := Option.isSome_iff_exists.mp z2
  have hm := mem_lookup hb
  have e2 : fldOf L c = nmAt L.at_ f := by unfold fldOf; rw [e1]; simp [hf]
  have s1 := List.all_eq_true.mp E.st _ hm
  have s2 := List.all_eq_true.mp E.ok _ hm
  have s3 : ExE L K (c, b) = exV "__init__" (exQ L c) (initStm L c) := by
    obtain ⟨j, hj⟩ := List.getElem?_of_mem hm
    have q := congrArg (fun l => l[j]?) E.ob
    simp only [List.getElem?_map, hj] at q
    exact Option.some.inj q
  have s1 : exS L.P (fldOf L c) (initStm L c) = true := s1
  have s2 : exK L.P K (adN L K c) (exQ L c) (fldOf L c) b = true := s2
  rw [e2] at s1 s2
  exact ⟨z1, exA_ok (P := L.P) X Gn s1 s2 s3⟩
end MX
end
section
set_option Elab.async false
set_option linter.all false
set_option autoImplicit false
set_option maxRecDepth 100000
set_option maxHeartbeats 1000000
/-! The look at the heap behind the top. -/
namespace MX
open PySem PySem.Spec PyProof.Rows L2
def refsX (o : Obj) : List Addr := match o.data with
  | .seq its _ => its.toList.flatMap He.refV
  | .dict es _ => es.toList.flatMap fun e => He.refV e.val
  | .func fd => He.refV fd.code ++ (He.refV fd.defaults ++ fd.closure.map (·.2))
  | .cls cd => [cd.ns]
  | _ => []
def stepX (g : Addr → Option Obj) (as : List Addr) : List Addr := as.flatMap fun a => match g a with
  | some o => refsX o
  | none => []
def keepX (g : Addr → Option Obj) (a : Addr) : Bool := match g a with
  | some o => (match o.cls with
    | .none => (match o.data with
      | .dict _ _ => true
      | _ => false)
    | .type t => !decide (t = "list")
    | _ => true)
  | none => false
def asX (g : Addr → Option Obj) : List Addr :=
  let l1 := stepX g [mainGlobals]
  let l2 := stepX g l1
  let l3 := stepX g l2
  let l4 := stepX g l3
  (mainGlobals :: PySem.cStatics :: (l1 ++ (l2 ++ (l3 ++ l4)))).filter (keepX g)
def isTab : Option Obj → Bool
  | some ⟨.none, none, .fields vs, sl⟩ => vs.toList.isEmpty && sl.toList.isEmpty
  | _ => false
theorem isTab_ok {o : Option Obj} (h : isTab o = true) : o = some { cls := .none, data := .fields #[] } := by
  unfold isTab at h
  split at h
  · rename_i vs sl
    simp only [Bool.and_eq_true, List.isEmpty_iff] at h
    have e1 : vs = #[] := by cases vs; simpa using h.1
    have e2 : sl = #[] := by cases sl; simpa using h.2
    rw [e1, e2]
  · cases h
def noList (K : PySem.W.Frag) : Bool := K.all fun p => match p.2.cls with
  | .type t => !decide (t = "list")
  | _ => true
def lookB (L : Law) (G : Gb) (g : Addr → Option Obj) (K : PySem.W.Frag) : Bool :=
  L.ens.all (okEn L K) && (L.gl.all (okGl L K) && (okKeys L K && ((L.lams.all fun e => hdB K (He.fAd K (L.pt e))) && (decide (((tabsOf L K).map (·.1)).Nodup) &&
  ((L.ens.zipIdx).all (okClE L G K) && (okTwo L K && ((L.ens.zipIdx).all (okExE L K) && (okPairs L G K && ((L.exk.all fun p => exK L.P K (adN L K p.1) (exQ L p.1) (fldOf L p.1) p.2) &&
  ((L.lams.all fun e => isTab (g (tabOf K (codeOf K (He.fAd K (L.pt e)))))) && noList K))))))))))
abbrev AlX : Type := Bool × List He.FnW × List ExW
def obX (L : Law) (G : Gb) (g : Addr → Option Obj) (K : PySem.W.Frag) : AlX := (lookB L G g K, L.ens.map (obFn L K), L.exk.map (ExE L K))
def vaX (L : Law) : AlX := (true, L.ens.map (vaFn L), L.exk.map fun p => exV "__init__" (exQ L p.1) (initStm L p.1))
def obXG (L : Law) (G : Gb) (g : Addr → Option Obj) : AlX := obX L G g (He.frG g (asX g))
/-- what is known behind the top -/
structure SaysX (L : Law) (G : Gb) (h : Heap) (K : PySem.W.Frag) : Prop where
  X : K.In h
  d : L.Defs K
  cl : ((L.ens.zipIdx).all (okClE L G K)) = true
  two : okTwo L K = true
  exn : ((L.ens.zipIdx).all (okExE L K)) = true
  pr : okPairs L G K = true
  exk : (L.exk.all fun p => exK L.P K (adN L K p.1) (exQ L p.1) (fldOf L p.1) p.2) = true
  exo : L.exk.map (ExE L K) = L.exk.map fun p => exV "__init__" (exQ L p.1) (initStm L p.1)
  tab : ∀ e ∈ L.lams, h.get? (tabOf K (codeOf K (He.fAd K (L.pt e)))) = some { cls := .none, data := .fields #[] }
  nol : noList K = true
theorem says_of {L : Law} {G : Gb} {h : Heap} {K : PySem.W.Frag} (X : K.In h) (e : obX L G h.get? K = vaX L) : SaysX L G h K := by
  have e1 : lookB L G h.get? K = true := congrArg (·.1) e
  have e2 : L.ens.map (obFn L K) = L.ens.map (vaFn L) := congrArg (·.2.1) e
  have e3 : L.exk.map (ExE L K) = L.exk.map fun p => exV "__init__" (exQ L p.1) (initStm L p.1) := congrArg (·.2.2) e
  unfold lookB at e1
  rw [Bool.and_eq_true, Bool.and_eq_true, Bool.and_eq_true, Bool.and_eq_true, Bool.and_eq_true, Bool.and_eq_true, Bool.and_eq_true, Bool.and_eq_true, Bool.and_eq_true, Bool.and_eq_true, Bool.and_eq_true] at e1
  obtain ⟨a1, a2, a3, a4, a5, a6, a7, a8, a9, a10, a11, a12⟩ := e1
  exact ⟨X, ⟨e2, a1, a2, a3, a4, a5⟩, a6, a7, a8, a9, a10, e3, fun e he => isTab_ok (List.all_eq_true.mp a11 e he), a12⟩
def hookX (L : Law) (G : Gb) : PySem.W.Hook where
  α := AlX
  obs := fun s => obXG L G s.heap.get?
  val := fun _ => vaX L
  says := fun _ h => ∃ K : PySem.W.Frag, SaysX L G h K
  of := fun _ _ e => ⟨_, says_of He.frG_in e⟩
  keeps := fun _ _ _ ⟨K, c⟩ k => ⟨K, PySem.W.Frag.In.keeps c.X k, c.d, c.cl, c.two, c.exn, c.pr, c.exk, c.exo, fun e he => k _ _ (c.tab e he), c.nol⟩
def obsX (L : Law) (G : Gb) (s : PySem.W.SharedT) : AlX := obXG L G (HandSHeadRun.getT s)
theorem obsX_eq (L : Law) (G : Gb) (s : PySem.W.SharedT) : obsX L G s = (hookX L G).obs s.abs := by
  have e : HandSHeadRun.getT s = s.abs.heap.get? := funext fun a => HandSHeadRun.getT_eq s a
  unfold obsX
  rw [e]
  rfl
end MX
end
section
set_option Elab.async false
set_option linter.all false
set_option autoImplicit false
set_option maxRecDepth 100000
set_option maxHeartbeats 2000000
/-! The end: the law's call from the top, where no guard is held. -/
namespace MX
open PySem PySem.Spec PyProof.Rows L2 LamX
section
variable {P : Program} {w : World} {K : PySem.W.Frag} {mg mb : Str → Option Value} {CX : CXT} {fa a : Addr} {cs : List (Addr × Addr)} {s : Shared} {vs : List Value} {ns : List Int}
/-- the abstract heap at the top: the script, the tables -/
def topH (a : Addr) (o : Obj) (ns : List Int) (T : List Addr) : Hp := fun b => if b = a then some (.frz o (.lst (ns.map V.int))) else if b ∈ T then some (.tbl #[]) else none
theorem topH_a {o : Obj} {T : List Addr} : topH a o ns T a = some (.frz o (.lst (ns.map V.int))) := if_pos rfl
theorem topH_t {o : Obj} {T : List Addr} {b : Addr} (h : b ≠ a) (m : b ∈ T) : topH a o ns T b = some (.tbl #[]) := (if_neg h).trans (if_pos m)
theorem topH_n {o : Obj} {T : List Addr} {b : Addr} (h : b ≠ a) (m : b ∉ T) : topH a o ns T b = none := (if_neg h).trans (if_neg m)
theorem law_callG (KX : K.In s.heap) (hns : s.heap.Ns mainGlobals mg) (hb : s.heap.Ns builtinsNs mb) (hbb : ∀ x : Str, x ≠ "__name__" → mb x = bootBuiltins x) (hlim : s.heap.NoLimit) (hg : s.gens = #[])
    (hT : ∀ p ∈ cs, s.heap.get? p.2 = some { cls := .none, data := .fields #[] }) (nT : ∀ p ∈ cs, K.lookup p.2 = none) (C : ∀ p ∈ cs, PySem.W.CodeHd s.heap p.1 p.2)
    (hbm : ∃ (bm : Addr) (ob : Obj), mg "__builtins__" = some (.ref bm) ∧ bm ≠ builtinsNs ∧ s.heap.get? bm = some ob ∧ ob.cls = .type "module" ∧ ob.dict = some builtinsNs ∧ ob.data = .plain)
    (ha : s.heap.get? a = some { cls := .type "list", data := .seq vs.toArray }) (hi : IntsAre vs ns) (hl : ns.length ≤ sizeLine) (nK : K.lookup a = none)
    (F : ∀ (base : Heap) (H : Hp), K.In base → base.Ns mainGlobals mg → (∀ p ∈ cs, TabB base mg p.1 p.2) → (∀ p ∈ cs, H p.2 = some (.tbl #[])) → (∃ o, H a = some (.frz o (.lst (ns.map V.int)))) → Env0 P w K mg base callerA [] s H →
      codeAny (model P w) callerA (.call (.ref fa) ⟨[.ref a], []⟩) (CR CX [] P w H s (fun v _ => v = .bl true) fun _ _ _ => False) s)
    (hCX : ∀ H e s', CX [] H s (fun _ _ _ => False) e s' → False) :
    codeAny (model P w) callerA (.call (.ref fa) ⟨[.ref a], []⟩) (fun r s' => r = .ok (.ret (.bool true)) ∧ OldK s.heap s'.heap ∧ s'.os = s.os ∧ AllBare s'.gens) s := by
  have rv := vals_ints hi
  have isT : ∀ b ∈ cs.map (·.2), s.heap.get? b = some { cls := .none, data := .fields #[] } := fun b m => by
    obtain ⟨p, hp, e⟩ := List.mem_map.mp m
    rw [← e]
    exact hT p hp
  have aT : a ∉ cs.map (·.2) := fun m => by
    have q := isT a m
    rw [ha] at q
    have d : Data.seq vs.toArray _ = Data.fields #[] := congrArg Obj.data (Option.some.inj q)
    cases d
  have inT : ∀ p ∈ cs, p.2 ∈ cs.map (·.2) := fun p hp => List.mem_map.mpr ⟨p, hp, rfl⟩
  have neT : ∀ p ∈ cs, p.2 ≠ a := fun p hp z => aT (by rw [← z]; exact inT p hp)
  generalize hO : ({ cls := .type "list", data := .seq vs.toArray } : Obj) = O at ha
  have dO : ∃ n, O.data = .seq vs.toArray n := ⟨_, by rw [← hO]⟩
  generalize hH : topH a O ns (cs.map (·.2)) = H
  have H1 : H a = some (.frz O (.lst (ns.map V.int))) := by rw [← hH]; exact topH_a
  have H2 : ∀ p ∈ cs, H p.2 = some (.tbl #[]) := fun p hp => by rw [← hH]; exact topH_t (neT p hp) (inT p hp)
  have H3 : ∀ b, b ≠ a → b ∉ cs.map (·.2) → H b = none := fun b h m => by rw [← hH]; exact topH_n h m
  have hok : HOk P w H s.heap := fun b u z => by
    by_cases h : b = a
    · subst h
      rw [H1] at z
      cases z
      exact ⟨ha, by rw [List.length_map]; exact hl, vs, _, rv, by rw [ha, ← hO]⟩
    · by_cases m : b ∈ cs.map (·.2)
      · obtain ⟨p, hp, e⟩ := List.mem_map.mp m
        subst e
        rw [H2 p hp] at z
        cases z
        exact hT p hp
      · rw [H3 b h m] at z
        cases z
  -- what is neither script nor table is seen as it is
  have free : ∀ {b : Addr} {o : Obj}, s.heap.get? b = some o → (∀ us n, o.data ≠ .seq us n) → o.data ≠ .fields #[] → H b = none := fun {b o} e n1 n2 => by
    refine H3 b (fun z => ?_) fun m => ?_
    · rw [z, ha] at e
      cases e
      exact dO.elim fun n z => n1 _ _ z
    · rw [isT b m] at e
      cases e
      exact n2 rfl
  have dict : ∀ {b : Addr} {o : Obj} {es : Array DictEntry} {n : Nat}, s.heap.get? b = some o → o.data = .dict es n → H b = none := fun {b o es n} e d =>
    free e (fun us n z => by rw [d] at z; cases z) fun z => by rw [d] at z; cases z
  have seen : ∀ {b : Addr} {o : Obj}, s.heap.get? b = some o → H b = none → (hidT s.heap H).get? b = some o := fun e n => hidT_get e n
  have nsOf : ∀ {b : Addr} {m : Str → Option Value}, s.heap.Ns b m → (hidT s.heap H).Ns b m := fun {b m} ⟨o, es, ep, e, d, r⟩ => ⟨o, es, ep, seen e (dict e d), d, r⟩
  have Kb : K.In (hidT s.heap H) := fun b o e => seen (KX b o e) (H3 b (fun z => by rw [z, nK] at e; cases e) fun m => by
    obtain ⟨p, hp, z⟩ := List.mem_map.mp m
    rw [← z, nT p hp] at e
    cases e)
  have M : L2.Mod K mg (hidT s.heap H) := ⟨Kb, nsOf hns, ⟨mb, nsOf hb, hbb⟩, let ⟨mc, h1, h2⟩ := hlim; ⟨mc, nsOf h1, h2⟩⟩
  have TB : ∀ p ∈ cs, TabB (hidT s.heap H) mg p.1 p.2 := fun p hp => by
    have tp := hT p hp
    obtain ⟨og, eg, ng, gE, gD, _⟩ := hns
    refine ⟨?_, ?_, fun z => by rw [z, tp] at gE; cases gE; cases gD⟩
    · obtain ⟨o, us, file, tf, flags, tg, inF, text, tt, e1, r1, r2, r3, rest⟩ := C p hp
      exact ⟨o, us, file, tf, flags, tg, inF, text, tt, seen e1 (free e1 (fun us n z => by rw [r2] at z; cases z) fun z => by rw [r2] at z; cases z; simp at r3), r1, r2, r3, rest⟩
    · obtain ⟨bm, ob, b1, b2, b3, b4, b5, b6⟩ := hbm
      refine ⟨bm, ob, b1, b2, fun q => ?_, fun q => ?_, seen b3 (free b3 (fun us n z => by rw [b6] at z; cases z) fun z => by rw [b6] at z; cases z), b4, b5, b6⟩
      · rw [q, gE] at b3
        cases b3
        rw [gD] at b6
        cases b6
      · rw [q, tp] at b3
        cases b3
        cases b6
  have e0 : Env0 P w K mg (hidT s.heap H) callerA [] s H := ⟨rfl, M, fun b o e => of_hidT e, Nat.le_of_eq (hidT_size _ _), trivial, fun b hb => absurd (show b ∈ ([] : List Addr) from hb) List.not_mem_nil, hok, .of_eq hg⟩
  refine codeAny_mono (F _ H Kb (nsOf hns) TB H2 ⟨O, H1⟩ e0) fun r s' h => ?_
  match r, h with
  | .error e, h => exact (hCX H e s' h).elim
  | .ok .next, h => exact False.elim h
  | .ok .brk, h => exact False.elim h
  | .ok .cont, h => exact False.elim h
  | .ok (.ret u), h =>
    obtain ⟨v, H', os, bare, un, hok', r', q⟩ := h
    have q : v = .bl true := q
    subst q
    obtain rfl : u = Value.bool true := r'
    have key : ∀ b o, b ∉ cs.map (·.2) → s.heap.get? b = some o → s'.heap.get? b = some o := fun b o m e => by
      by_cases h : b = a
      · subst h
        obtain ⟨e2, _⟩ := hok' b _ (un.frzs b O _ H1)
        rw [ha] at e
        cases e
        exact e2
      · exact un.keep b o e (H3 b h m) (fun z => absurd (show b ∈ ([] : List Addr) from z) List.not_mem_nil) List.not_mem_nil
    have grown : ∀ p ∈ cs, ∃ more : Array Value, s'.heap.get? p.2 = some { cls := .none, data := .fields more } := fun p hp => by
      obtain ⟨more, z⟩ := un.tbls p.2 #[] (H2 p hp)
      exact ⟨_, hok' p.2 _ z⟩
    refine ⟨rfl, ⟨fun b o e => ?_, fun b o e => ?_⟩, os, bare⟩
    · by_cases m : b ∈ cs.map (·.2)
      · obtain ⟨p, hp, z⟩ := List.mem_map.mp m
        obtain ⟨more, hm⟩ := grown p hp
        rw [← z] at e ⊢
        rw [hT p hp] at e
        cases e
        exact .inr (.inl ⟨((C p hp).tab (hT p hp)).isCodeTable, rfl, #[], more, rfl, by rw [Array.empty_append]; exact hm⟩)
      · exact .inl (key b o m e)
    · by_cases m : b ∈ cs.map (·.2)
      · obtain ⟨p, hp, z⟩ := List.mem_map.mp m
        obtain ⟨more, hm⟩ := grown p hp
        rw [← z]
        exact ⟨_, hm⟩
      · exact ⟨o, key b o m e⟩
end
end MX
end
section
set_option linter.all false
set_option maxRecDepth 100000
set_option maxHeartbeats 400000
namespace MX
section
variable (G : Gb) (rc : Evs) (k q : Nat) {σ : Sg} {κ : List (Nat × Nat)} {st : St}
theorem ev_e (e : E) : (evF G k rc (q + 1)).e e σ κ st = stE G (evF G k rc q) e σ κ st := rfl
theorem ev_t (e : E) : (evF G k rc (q + 1)).t e σ κ st = stT (evF G k rc q) e σ κ st := rfl
theorem ev_l (e : List E) : (evF G k rc (q + 1)).l e σ κ st = stL (evF G k rc q) e σ κ st := rfl
theorem ev_ss (e : List S) : (evF G k rc (q + 1)).ss e σ κ st = stSs G (evF G k rc q) e σ κ st := rfl
def stD (x y z : Int) : St := ⟨.nd (some (.lst [.int x, .int y, .int z])) .nil .nil, 1⟩
theorem stD_get (x y z : Int) : (stD x y z).get 0 = some (.lst [.int x, .int y, .int z]) := rfl
variable {x y z n one two : Int} {a b c : Option D}
theorem sub0 : (evF G k rc (q + 2)).e (.sub (.var 0) (.int 0)) (some (.loc 0) :: σ) κ (stD x y z) = .ok (.int x) (stD x y z) := by
  rfl
theorem sub1 : (evF G k rc (q + 2)).e (.sub (.var 0) (.int 1)) (some (.loc 0) :: σ) κ (stD x y z) = .ok (.int y) (stD x y z) := by
  rfl
theorem sub2 : (evF G k rc (q + 2)).e (.sub (.var 0) (.int 2)) (some (.loc 0) :: σ) κ (stD x y z) = .ok (.int z) (stD x y z) := by
  rfl
theorem op_of {o : Op2} {a b : E} {i j : D} {st' st'' : St} (h1 : (evF G k rc q).e a σ κ st = .ok i st') (h2 : (evF G k rc q).e b σ κ st' = .ok j st'') : (evF G k rc (q + 1)).e (.op o a b) σ κ st = binop o i j st'' := by
  show stOp (evF G k rc q) o a b σ κ st = _
  unfold stOp
  rw [h1]
  show ((evF G k rc q).e b σ κ st').bind _ = _
  rw [h2]
  rfl
theorem mul_of {i j : Int} (h : Nat.ble (i.natAbs.log2 + j.natAbs.log2) 900000 = true) : binop .mul (.int i) (.int j) st = .ok (.int (i * j)) st := by
  show cond (Nat.ble (i.natAbs.log2 + j.natAbs.log2) 900000) _ _ = _
  rw [h]; rfl
theorem add_of {i j : Int} : binop .add (.int i) (.int j) st = .ok (.int (i + j)) st := rfl
theorem mod_of {i j : Int} (h : decide (0 < j) = true) : binop .mod (.int i) (.int j) st = .ok (.int (i % j)) st := by
  show cond (decide (0 < j)) _ _ = _
  rw [h]; rfl
theorem div_of {i j : Int} (h : decide (0 < j) = true) (h2 : Nat.ble j.natAbs.log2 8000 = true) : binop .fdiv (.int i) (.int j) st = .ok (.int (i / j)) st := by
  show cond (decide (0 < j) && Nat.ble j.natAbs.log2 8000) _ _ = _
  rw [h, h2]; rfl
theorem set_of {i : Nat} {e : E} {b : List S} {d : D} {st' : St} (h : (evF G k rc q).e e σ [] st = .ok d st') : (evF G k rc (q + 1)).ss (.set (.nm i) e :: b) σ [] st = (evF G k rc q).ss b (σ.set i (some d)) [] st' := by
  show (F.to ((evF G k rc q).e e σ [] st) fun d st => stStore G (evF G k rc q) (.nm i) d σ [] st).seq _ = _
  rw [h]
  rfl
theorem ret_of {e : E} {b : List S} {d : D} {st' : St} (h : (evF G k rc q).e e σ [] st = .ok d st') : (evF G k rc (q + 1)).ss (.ret e :: b) σ [] st = .ret d st' := by
  show (F.to ((evF G k rc q).e e σ [] st) fun d st => F.ret d st).seq _ = _
  rw [h]
  rfl
theorem var_of {i : Nat} {j : Int} (h : σ[i]? = some (some (.int j))) : (evF G k rc (q + 1)).e (.var i) σ κ st = .ok (.int j) st := by
  show slot σ i st = _
  unfold slot
  rw [h]
  rfl
theorem int_of {j : Int} : (evF G k rc (q + 1)).e (.int j) σ κ st = .ok (.int j) st := rfl
theorem bint_var {i : Nat} {j : Int} {st' : St} (h : (evF G k rc q).e (.var i) σ κ st = .ok (.int j) st') : (evF G k rc (q + 2)).e (.bi .int [.var i]) σ κ st = .ok (.int j) st' := by
  show R.bind (R.bind ((evF G k rc q).e (.var i) σ κ st) fun d st => R.bind ((evF G k rc (q + 1 - 1)).l [] σ κ st) fun ds st => .ok (d :: ds) st) (bltn G .int) = _
  rw [h]
  cases q with
  | zero => cases h
  | succ q => rfl
theorem bint_op {o : Op2} {a b : E} {j : Int} {st' : St} (h : (evF G k rc q).e (.op o a b) σ κ st = .ok (.int j) st') : (evF G k rc (q + 2)).e (.bi .int [.op o a b]) σ κ st = .ok (.int j) st' := by
  show R.bind (R.bind ((evF G k rc q).e (.op o a b) σ κ st) fun d st => R.bind ((evF G k rc (q + 1 - 1)).l [] σ κ st) fun ds st => .ok (d :: ds) st) (bltn G .int) = _
  rw [h]
  cases q with
  | zero => cases h
  | succ q => rfl
theorem ifs_of {c : E} {a b r : List S} {t : Bool} {st' : St} (h : (evF G k rc q).t c σ κ st = .ok t st') : (evF G k rc (q + 1)).ss (.ifs c a b :: r) σ κ st = (cond t ((evF G k rc q).ss a σ κ st') ((evF G k rc q).ss b σ κ st')).seq fun σ st => (evF G k rc q).ss r σ κ st := by
  show (F.to ((evF G k rc q).t c σ κ st) fun t st => cond t ((evF G k rc q).ss a σ κ st) ((evF G k rc q).ss b σ κ st)).seq _ = _
  rw [h]
  rfl
theorem setD0 {e : E} {b : List S} {v : Int} {σ : Sg} (h : (evF G k rc (q + 1)).e e (some (.loc 0) :: σ) [] (stD x y z) = .ok (.int v) (stD x y z)) : (evF G k rc (q + 2)).ss (.set (.ix (.var 0) (.int 0)) e :: b) (some (.loc 0) :: σ) [] (stD x y z) = (evF G k rc (q + 1)).ss b (some (.loc 0) :: σ) [] (stD v y z) := by
  show (F.to ((evF G k rc (q + 1)).e e (some (.loc 0) :: σ) [] (stD x y z)) fun d st => stStore G (evF G k rc (q + 1)) (.ix (.var 0) (.int 0)) d (some (.loc 0) :: σ) [] st).seq _ = _
  rw [h]
  rfl
theorem setD2 {e : E} {b : List S} {v : Int} {σ : Sg} (h : (evF G k rc (q + 1)).e e (some (.loc 0) :: σ) [] (stD x y z) = .ok (.int v) (stD x y z)) : (evF G k rc (q + 2)).ss (.set (.ix (.var 0) (.int 2)) e :: b) (some (.loc 0) :: σ) [] (stD x y z) = (evF G k rc (q + 1)).ss b (some (.loc 0) :: σ) [] (stD x y v) := by
  show (F.to ((evF G k rc (q + 1)).e e (some (.loc 0) :: σ) [] (stD x y z)) fun d st => stStore G (evF G k rc (q + 1)) (.ix (.var 0) (.int 2)) d (some (.loc 0) :: σ) [] st).seq _ = _
  rw [h]
  rfl
/-! ### the dice's roll -/
def rollB : List S := [.ifs (.cmp .gt (.sub (.var 0) (.int 0)) (.int 0))
    [.set (.nm 2) (.op .mod (.sub (.var 0) (.int 0)) (.var 1)), .set (.ix (.var 0) (.int 0)) (.op .fdiv (.sub (.var 0) (.int 0)) (.var 1)), .ret (.bi .int [.var 2])] [],
  .set (.ix (.var 0) (.int 2)) (.op .add (.sub (.var 0) (.int 2)) (.int 1)),
  .set (.nm 3) (.op .mod (.op .add (.sub (.var 0) (.int 1)) (.op .mul (.int 49979687) (.sub (.var 0) (.int 2)))) (.int 2305843009213693951)),
  .set (.nm 4) (.op .add (.op .mul (.op .mod (.op .add (.op .mul (.var 3) (.var 3)) (.op .mul (.int 131) (.sub (.var 0) (.int 2)))) (.int 2305843009213693921)) (.int 32452843)) (.var 3)),
  .ret (.op .mod (.bi .int [.op .fdiv (.var 4) (.int 65587)]) (.var 1))]
theorem roll_t : (evF G k rc (q + 4)).t (.cmp .gt (.sub (.var 0) (.int 0)) (.int 0)) (some (.loc 0) :: σ) κ (stD x y z) = .ok (decide (0 < x)) (stD x y z) := rfl
def roll1 (y z : Int) : Int := (y + 49979687 * z) % 2305843009213693951
def roll2 (y z : Int) : Int := (roll1 y z * roll1 y z + 131 * z) % 2305843009213693921 * 32452843 + roll1 y z
theorem roll_run (hn : decide (0 < n) = true) (hb : Nat.ble n.natAbs.log2 8000 = true) (hz : Nat.ble ((49979687 : Int).natAbs.log2 + (z + 1).natAbs.log2) 900000 = true) (hz2 : Nat.ble ((131 : Int).natAbs.log2 + (z + 1).natAbs.log2) 900000 = true)
    (h1 : Nat.ble ((roll1 y (z + 1)).natAbs.log2 + (roll1 y (z + 1)).natAbs.log2) 900000 = true)
    (h2 : Nat.ble (((roll1 y (z + 1) * roll1 y (z + 1) + 131 * (z + 1)) % 2305843009213693921).natAbs.log2 + (32452843 : Int).natAbs.log2) 900000 = true) :
    (evF G k rc (q + 20)).ss rollB [some (.loc 0), some (.int n), none, none, none] [] (stD x y z) = cond (decide (0 < x)) (.ret (.int (x % n)) (stD (x / n) y z)) (.ret (.int (roll2 y (z + 1) / 65587 % n)) (stD x y (z + 1))) := by
  unfold rollB
  rw [ifs_of G rc k (q + 19) (roll_t G rc k (q + 15))]
  cases decide (0 < x) with
  | true =>
    show F.seq ((evF G k rc (q + 19)).ss _ _ _ _) _ = _
    rw [set_of G rc k (q + 18) ((op_of G rc k (q + 17) (sub0 G rc k (q + 15)) rfl).trans (mod_of hn)), List.set, List.set, List.set]
    rw [setD0 G rc k (q + 16) ((op_of G rc k (q + 16) (sub0 G rc k (q + 14)) rfl).trans (div_of hn hb))]
    rw [ret_of G rc k (q + 16) (bint_var G rc k (q + 14) rfl)]
    rfl
  | false =>
    show (evF G k rc (q + 19)).ss _ _ _ _ = _
    rw [setD2 G rc k (q + 17) ((op_of G rc k (q + 17) (sub2 G rc k (q + 15)) rfl).trans add_of)]
    rw [set_of G rc k (q + 17) ((op_of G rc k (q + 16) ((op_of G rc k (q + 15) (sub1 G rc k (q + 13)) ((op_of G rc k (q + 14) rfl (sub2 G rc k (q + 12))).trans (mul_of hz))).trans add_of) rfl).trans (mod_of rfl)), List.set, List.set, List.set, List.set]
    show (evF G k rc (q + 17)).ss _ [some (.loc 0), some (.int n), none, some (.int (roll1 y (z + 1))), none] [] (stD x y (z + 1)) = _
    have e3 : (evF G k rc (q + 12)).e (.op .mul (.var 3) (.var 3)) [some (.loc 0), some (.int n), none, some (.int (roll1 y (z + 1))), none] [] (stD x y (z + 1)) = .ok (.int (roll1 y (z + 1) * roll1 y (z + 1))) (stD x y (z + 1)) := (op_of G rc k (q + 11) (var_of G rc k (q + 10) rfl) (var_of G rc k (q + 10) rfl)).trans (mul_of h1)
    have e4 : (evF G k rc (q + 12)).e (.op .mul (.int 131) (.sub (.var 0) (.int 2))) [some (.loc 0), some (.int n), none, some (.int (roll1 y (z + 1))), none] [] (stD x y (z + 1)) = .ok (.int (131 * (z + 1))) (stD x y (z + 1)) := (op_of G rc k (q + 11) rfl (sub2 G rc k (q + 9))).trans (mul_of hz2)
    have e5 := (op_of (o := .add) G rc k (q + 12) e3 e4).trans add_of
    have e6 := (op_of (o := .mod) G rc k (q + 13) (b := .int 2305843009213693921) e5 (int_of G rc k (q + 12))).trans (mod_of rfl)
    have e7 := (op_of (o := .mul) G rc k (q + 14) (b := .int 32452843) e6 (int_of G rc k (q + 13))).trans (mul_of h2)
    have e8 := (op_of (o := .add) G rc k (q + 15) (b := .var 3) e7 (var_of G rc k (q + 14) (j := roll1 y (z + 1)) rfl)).trans add_of
    rw [set_of G rc k (q + 16) e8, List.set, List.set, List.set, List.set, List.set]
    show (evF G k rc (q + 16)).ss _ [some (.loc 0), some (.int n), none, some (.int (roll1 y (z + 1))), some (.int (roll2 y (z + 1)))] [] (stD x y (z + 1)) = _
    have f1 : (evF G k rc (q + 12)).e (.op .fdiv (.var 4) (.int 65587)) [some (.loc 0), some (.int n), none, some (.int (roll1 y (z + 1))), some (.int (roll2 y (z + 1)))] [] (stD x y (z + 1)) = .ok (.int (roll2 y (z + 1) / 65587)) (stD x y (z + 1)) := (op_of G rc k (q + 11) (var_of G rc k (q + 10) rfl) (int_of G rc k (q + 10))).trans (div_of rfl rfl)
    have f2 := bint_op G rc k (q + 12) f1
    have f3 := (op_of (o := .mod) G rc k (q + 14) (b := .var 1) f2 (var_of G rc k (q + 13) (j := n) rfl)).trans (mod_of hn)
    rw [ret_of G rc k (q + 15) f3]
    rfl
end
end MX
end
section
set_option Elab.async false
set_option linter.all false
set_option autoImplicit false
set_option maxRecDepth 100000
set_option maxHeartbeats 1000000
/-! The reading of the dice's roll: an open choice. -/
namespace MX
open PySem PySem.Spec PyProof.Rows L2
theorem lg {i : Int} {k : Nat} (h0 : 0 ≤ i) (h : i < 2 ^ k) : i.natAbs.log2 ≤ k := by
  by_cases e : i.natAbs = 0
  · rw [e]; simp
  · refine Nat.le_of_lt ((Nat.log2_lt e).mpr ?_)
    have z : ((i.natAbs : Nat) : Int) < ((2 ^ k : Nat) : Int) := by
      rw [Int.natAbs_of_nonneg h0, Int.natCast_pow]
      exact h
    exact Int.ofNat_lt.mp z
theorem ble_of {a b : Nat} (h : a ≤ b) : Nat.ble a b = true := Nat.ble_eq.mpr h
theorem roll1_in (y z : Int) : 0 ≤ roll1 y z ∧ roll1 y z < 2 ^ 61 := by
  unfold roll1
  constructor
  · exact Int.emod_nonneg _ (by decide)
  · exact Int.lt_trans (Int.emod_lt_of_pos _ (by decide)) (by decide)
theorem roll_any (G : Gb) (rc : Evs) (k : Nat) {x y z n : Int} {T : Nat} (h : DiceI T x y z) (hT : T < 1000000) (h0 : 0 < n) (h1 : n ≤ 1000) :
    ∃ (i x' z' : Int), (evF G k rc 20).ss rollB [some (.loc 0), some (.int n), none, none, none] [] (stD x y z) = .ret (.int i) (stD x' y z') ∧ 0 ≤ i ∧ i < n ∧ DiceI (T + 1) x' y z' := by
  obtain ⟨d1, d2, d3, d4, d5⟩ := h
  have hn : decide (0 < n) = true := decide_eq_true h0
  have l1 := lg (i := n) (k := 10) (by omega) (by omega)
  have l2 := lg (i := z + 1) (k := 20) (by omega) (by omega)
  obtain ⟨a1, a2⟩ := roll1_in y (z + 1)
  have l3 := lg a1 a2
  have b1 : 0 ≤ (roll1 y (z + 1) * roll1 y (z + 1) + 131 * (z + 1)) % 2305843009213693921 := Int.emod_nonneg _ (by decide)
  have b2 : (roll1 y (z + 1) * roll1 y (z + 1) + 131 * (z + 1)) % 2305843009213693921 < 2 ^ 61 := Int.lt_trans (Int.emod_lt_of_pos _ (by decide)) (by decide)
  have l4 := lg b1 b2
  have c1 : (49979687 : Int).natAbs.log2 = 25 := by decide
  have c2 : (131 : Int).natAbs.log2 = 7 := by decide
  have c3 : (32452843 : Int).natAbs.log2 = 24 := by decide
  have r := roll_run G rc k 0 (x := x) (y := y) (z := z) hn (ble_of (by omega)) (ble_of (by omega)) (ble_of (by omega)) (ble_of (by omega)) (ble_of (by omega))
  cases hx : decide (0 < x) with
  | true =>
    rw [hx] at r
    exact ⟨_, _, _, r, Int.emod_nonneg _ (by omega), Int.emod_lt_of_pos _ h0, d1, d2, d3, by omega, by omega⟩
  | false =>
    rw [hx] at r
    exact ⟨_, _, _, r, Int.emod_nonneg _ (by omega), Int.emod_lt_of_pos _ h0, d1, d2, by omega, by omega, by omega⟩
/-! ### stores -/
section
variable {W : Wd} {X : Cx} {κ : Fm} {σ : L2.St} {st st' : St} {ρ ρ' : Asg} {H H' : Hp} {ob : Ob} {a b : Addr}
theorem SRel.newN (s : SRel W X κ σ st ρ H) (hn : st'.nx = st.nx + 1) (hl : st.nx ≤ 1000000) (hg : ∀ m, st'.get m = if m = st.nx then some ob else st.get m)
    (hr : RO W X κ σ (st.nx + 1) (ρ.put st.nx (none, b)) H st.nx ob (none, b)) : Ext st.nx ρ H st'.nx (ρ.put st.nx (none, b)) H ∧ SRel W X κ σ st' (ρ.put st.nx (none, b)) H := by
  have x : Ext st.nx ρ H st'.nx (ρ.put st.nx (none, b)) H := {
    le := by omega
    old := fun n h => put_ne (Nat.ne_of_lt h)
    new := fun n a k1 k2 k3 => by
      have e : n = st.nx := by omega
      subst e
      rw [put_same] at k3
      cases k3
    thr := fun b u q => ⟨u, q⟩
    fix := fun b u q _ => q
    frm := fun b u q _ _ => q }
  refine ⟨x, ⟨fun n h => ?_, fun m n a k1 k2 e1 e2 => ?_, s.tab, fun i m e => ?_, by omega⟩⟩
  · by_cases e : n = st.nx
    · subst e
      exact ⟨ob, by rw [hg, if_pos rfl], by rw [put_same, hn]; exact hr⟩
    · obtain ⟨ob', g, r⟩ := s.get n (by omega)
      refine ⟨ob', by rw [hg, if_neg e]; exact g, ?_⟩
      rw [put_ne e]
      exact r.mono x fun a o' _ q => q
  · by_cases em : m = st.nx
    · rw [em, put_same] at e1; cases e1
    · by_cases en : n = st.nx
      · rw [en, put_same] at e2; cases e2
      · rw [put_ne em] at e1
        rw [put_ne en] at e2
        exact s.inj m n a (by omega) (by omega) e1 e2
  · obtain ⟨h1, h2, y, h3⟩ := s.kap i m e
    have ne : m ≠ st.nx := by omega
    exact ⟨by omega, by rw [put_ne ne]; exact h2, y, by rw [put_ne ne]; exact h3⟩
theorem RO.noTbl {n : Nat} {z : Option Addr × Addr} {o : HO} (h : RO W X κ σ st.nx ρ H n ob z) (e : z.1 = some a) (q : H a = some o) : NoTbl o := by
  cases h with
  | lst h _ => cases e; rw [h] at q; cases q; trivial
  | frz h _ => cases e; rw [h] at q; cases q; trivial
  | ins h _ => cases e; rw [h] at q; cases q; trivial
  | cel h => cases e
  | cho _ _ => cases e
  | dice h _ => cases e; rw [h] at q; cases q; trivial
  | scr h _ _ _ =>
    cases e
    rcases h with h | ⟨b, h⟩ <;> (rw [h] at q; cases q; trivial)
  | lam h _ => cases e; rw [h] at q; cases q; trivial
/-- one object of another store was changed in a run of its own -/
theorem SRel.graft {d nx' : Nat} {ρ0 : Asg} (s : SRel W X κ σ st ρ H) (hd : d < st.nx) (ha : (ρ d).1 = some a) (h0 : (ρ0 0).1 = some a) (x : Ext 1 ρ0 H nx' ρ' H') (T : LamX.Tabs W.T H')
    (hr : RO W X κ σ st.nx ρ H' d ob (ρ d)) : Ext st.nx ρ H st.nx ρ H' ∧ SRel W X κ σ (st.set d ob) ρ H' := by
  have few := s.few
  have no : ∀ b, b ≠ a → ∀ n, n < 1 → (ρ0 n).1 ≠ some b := fun b hb n hn z => by
    have : n = 0 := by omega
    subst this
    rw [h0] at z
    cases z
    exact hb rfl
  have y : Ext st.nx ρ H st.nx ρ H' := {
    le := Nat.le_refl _
    old := fun _ _ => rfl
    new := fun n _ h1 h2 => absurd h2 (Nat.not_lt.mpr h1)
    thr := x.thr
    fix := x.fix
    frm := fun b o q k t => x.frm b o q (no b fun z => by subst z; exact k d hd ha) t }
  refine ⟨y, ⟨fun n hn => ?_, s.inj, T, s.kap, few⟩⟩
  by_cases e : n = d
  · subst e
    exact ⟨ob, by rw [St.get_set (by omega), if_pos rfl], hr⟩
  · obtain ⟨ob', g, r⟩ := s.get n hn
    refine ⟨ob', by rw [St.get_set (by omega), if_neg e]; exact g, r.mono y fun b o hb q => ?_⟩
    exact x.frm b o q (no b fun z => e (s.inj n d a hn hd (by rw [← z]; exact hb) ha)) (r.noTbl hb q)
end
/-! ### the roll -/
def intsTo (n : Nat) : List D := (List.range n).map fun (i : Nat) => D.int (i : Int)
theorem intsTo_get {n i : Nat} (h : i < n) : (intsTo n)[i]? = some (.int i) := by
  unfold intsTo
  rw [List.getElem?_map, List.getElem?_range h]; rfl
/-- the roll of dice: an open choice -/
def rollO (k : Nat) (ds : List D) (st : St) : R D := match ds with
  | [.loc d, .int n] => match st.get d with
    | some (.dice t) => cond (Nat.blt 0 k && (decide (0 < n) && (decide (n ≤ 1000) && Nat.blt t 900000)))
      ((alloc (.cho n.toNat none) (st.set d (.dice (t + 1)))).bind fun x st => match x with
        | .loc p => .ok (.cho p (intsTo n.toNat)) st
        | _ => .bad) .bad
    | _ => .bad
  | _ => .bad
def Wd.to (W : Wd) (G : Gb) (g : Nat) : Wd := { W with G := G, g := g }
theorem roll_ov {W : Wd} {G0 : Gb} {f n0 : Nat} (hg : W.g ≤ 100000) (Fo : FnsOk (W.to G0 W.g)) (B : ∀ k, BodyOk (W.to G0 W.g) 20 k) {kd : Kd} (hf : G0.tab[f]? = some (.fn ⟨2, 5, [], rollB, [], kd⟩))
    (ho : ∀ k ds st, W.G.ov k n0 ds st = rollO k ds st) : OvC W f n0 := by
  intro J pins σ H s st ρ ds vs us Q A' k I kin hr hgu e0 S rs r p
  rw [ho] at p
  unfold rollO at p
  split at p
  · rename_i d n
    split at p
    · rename_i t g
      obtain ⟨hc, pp⟩ := cond_post p
      simp only [Bool.and_eq_true, decide_eq_true_eq] at hc
      obtain ⟨c1, c2, c3, c4⟩ := hc
      have c1 : 0 < k := Nat.le_of_ble_eq_true c1
      have c4 : t < 900000 := Nat.le_of_ble_eq_true c4
      obtain ⟨k', rfl⟩ : ∃ k', k = k' + 1 := ⟨k - 1, by omega⟩
      cases rs with
      | cons r1 rs =>
      cases rs with
      | cons r2 rs =>
      cases rs
      cases r2
      cases r1 with
      | @loc _ a hd ha =>
        obtain ⟨ob, g', ro⟩ := S.get d hd
        rw [g] at g'
        cases g'
        cases hz : ρ d with
        | mk z b =>
          rw [hz] at ro ha
          have ha : z = some a := ha
          subst ha
          cases ro with
          | @dice _ _ _ x y z e1 e2 =>
            obtain ⟨i, x', z', q1, q2, q3, q4⟩ := roll_any G0 (evs G0 20 k') k' e2 (by omega) c2 c3
            obtain ⟨fd, ok⟩ := Fo.ok f _ hf
            have S0 : SRel (W.to G0 W.g) J.X ⟨[], fun _ _ => False⟩ σ (stD x y z) (fun _ => (some a, 0)) H := by
              refine ⟨fun m hm => ?_, fun m n _ h1 h2 _ _ => ?_, S.tab, (fun i m e => nomatch e), (by show 1 ≤ 1000001; decide)⟩
              · have : m = 0 := Nat.lt_one_iff.mp hm
                subst this
                exact ⟨_, rfl, .lst e1 (.cons (.int x) (.cons (.int y) (.cons (.int z) .nil)))⟩
              · have h1 : m < 1 := h1
                have h2 : n < 1 := h2
                omega
            refine callP (W := W.to G0 W.g) (J := ⟨J.X, ⟨[], fun _ _ => False⟩, J.Wx⟩) (ρ := fun _ => (some a, 0)) (ds := [.loc 0, .int n]) (st := stD x y z) (m := 20) (k := k' + 1) (B _) hf ok I kin hr hgu e0 S0 (.cons (.loc (by show 0 < 1; decide) rfl) (.cons (.int n) .nil)) r ?_
            have run : stCallP G0 (evs G0 20 (k' + 1)) f [.loc 0, .int n] (stD x y z) = .ok (.int i) (stD x' y z') := by
              unfold stCallP
              rw [hf]
              show endF [] ((evF G0 k' (evs G0 20 k') 20).ss rollB [some (.loc 0), some (.int n), none, none, none] [] (stD x y z)) = _
              rw [q1]
              rfl
            show Post (W.to G0 W.g) _ σ 1 (fun _ => (some a, 0)) H _ Q (stCallP G0 (evs G0 20 (k' + 1)) f [.loc 0, .int n] (stD x y z))
            rw [run]
            intro ρ' H' v xe S' rv
            cases rv
            obtain ⟨ob', g2, ro2⟩ := S'.get 0 (by show 0 < 1; decide)
            have g2 : some (Ob.lst [.int x', .int y, .int z']) = some ob' := g2
            cases g2
            rw [xe.old 0 (by decide)] at ro2
            cases ro2 with
            | lst f1 f2 =>
              cases f2 with
              | cons u1 f2 =>
              cases f2 with
              | cons u2 f2 =>
              cases f2 with
              | cons u3 f2 =>
              cases f2
              cases u1; cases u2; cases u3
              have q5 : DiceI (t + 1 + W.g) x' y z' := by rw [show t + 1 + W.g = t + W.g + 1 by omega]; exact q4
              have hdz : (ρ d).1 = some a := by rw [hz]
              obtain ⟨y1, S1⟩ := S.graft hd hdz (ρ0 := fun _ => (some a, 0)) rfl xe S'.tab (ob := .dice (t + 1)) (by rw [hz]; exact .dice f1 q5)
              rcases alloc_cases (.cho n.toNat none) (st.set d (.dice (t + 1))) with e | ⟨st', e, h1, h2, h3⟩
              · rw [e] at pp; exact pp.elim
              · rw [e] at pp
                have p : Post W J σ st.nx ρ H (rD W) Q (.ok (.cho st.nx (intsTo n.toNat)) st') := pp
                have lt : i.toNat < n.toNat := by omega
                obtain ⟨y2, S2⟩ := S1.newN (b := i.toNat) h1 h2 h3 (.cho lt (fun i e => nomatch e))
                refine p _ H' _ (y1.trans y2) S2 ?_
                have h1 : st'.nx = st.nx + 1 := h1
                refine .cho (by omega) (d := .int i) ?_ (.int i)
                have e5 : ((ρ.put (st.set d (.dice (t + 1))).nx (none, i.toNat)) st.nx) = (none, i.toNat) := put_same
                rw [e5, intsTo_get (by omega)]
                congr 2
                omega
    · exact p.elim
  · exact p.elim
end MX
end
section
set_option Elab.async false
set_option linter.all false
set_option autoImplicit false
set_option maxRecDepth 100000
set_option maxHeartbeats 1000000
/-! A def of dice and of fixed data: one run in a store of its own stands for all its calls. -/
namespace MX
open PySem PySem.Spec PyProof.Rows L2
mutual
/-- data of no place -/
def closD : Nat → D → Bool
  | 0, _ => false
  | n + 1, d => match d with
    | .non | .bl _ | .int _ | .str _ => true
    | .tup xs => closL n xs
    | _ => false
def closL : Nat → List D → Bool
  | 0, _ => false
  | n + 1, ds => match ds with
    | [] => true
    | x :: xs => closD n x && closL n xs
end
theorem clos_rel {K : PySem.W.Frag} {ad : Nat → Addr} {nx nx' : Nat} {ρ ρ' : Asg} {H : Hp} : ∀ (n : Nat), (∀ (d : D) (v : V), closD n d = true → RD K ad nx ρ H d v → RD K ad nx' ρ' H d v) ∧ (∀ (ds : List D) (vs : List V), closL n ds = true → RDs K ad nx ρ H ds vs → RDs K ad nx' ρ' H ds vs) := by
  intro n
  induction n with
  | zero => exact ⟨fun _ _ h _ => (nomatch h), fun _ _ h _ => (nomatch h)⟩
  | succ n ih =>
    refine ⟨fun d v h r => ?_, fun ds vs h r => ?_⟩
    · cases r with
      | non => exact .non
      | bl b => exact .bl b
      | int i => exact .int i
      | str s => exact .str s
      | tup h1 h2 => exact .tup h1 (ih.2 _ _ h h2)
      | _ => cases h
    · cases r with
      | nil => exact .nil
      | cons h1 h2 =>
        have h : (closD n _ && closL n _) = true := h
        rw [Bool.and_eq_true] at h
        exact .cons (ih.1 _ _ h.1 h1) (ih.2 _ _ h.2 h2)
def stDice : St := ⟨.nd (some (.dice 0)) .nil .nil, 1⟩
/-- what is seen of the run -/
def okRun (v : D) (t1 : Nat) : R D → Bool
  | .ok d st => samD 2 v d && match st.get 0 with
    | some (.dice t) => Nat.beq t t1 && Nat.blt 0 st.nx
    | _ => false
  | _ => false
/-- the reading of the def -/
def frameO (k0 : Nat) (ws : List D) (v : D) (t1 : Nat) (k : Nat) (ds : List D) (st : St) : R D := match ds with
  | .loc d :: as => match st.get d with
    | some (.dice t) => cond (Nat.ble k0 k && (samL 50 as ws && Nat.ble t 100000)) (.ok v (st.set d (.dice (t + t1)))) .bad
    | _ => .bad
  | _ => .bad
theorem frame_ov {W : Wd} {G0 : Gb} {f n0 m k0 t1 : Nat} {u : Fun} {ws : List D} {v : D} (hg : W.g = 0) (Fo : ∀ g, g ≤ 100000 → FnsOk (W.to G0 g)) (B : ∀ g, g ≤ 100000 → BodyOk (W.to G0 g) m k0) (hf : G0.tab[f]? = some (.fn u))
    (hw : closL 50 ws = true) (hv : flatD v = true) (run : okRun v t1 (stCallP G0 (evs G0 m k0) f (.loc 0 :: ws) stDice) = true) (ho : ∀ k ds st, W.G.ov k n0 ds st = frameO k0 ws v t1 k ds st) : OvC W f n0 := by
  intro J pins σ H s st ρ ds vs us Q A' k I kin hr hgu e0 S rs r p
  rw [ho] at p
  unfold frameO at p
  split at p
  · rename_i d as
    split at p
    · rename_i t g
      obtain ⟨hc, pp⟩ := cond_post p
      rw [Bool.and_eq_true, Bool.and_eq_true] at hc
      obtain ⟨c1, c2, c3⟩ := hc
      have c1 := Nat.le_of_ble_eq_true c1
      have c3 := Nat.le_of_ble_eq_true c3
      have c2 := samL_ok _ _ _ c2
      subst c2
      cases rs with
      | cons r1 rs =>
      cases r1 with
      | @loc _ a hd ha =>
        obtain ⟨ob, g', ro⟩ := S.get d hd
        rw [g] at g'
        cases g'
        cases hz : ρ d with
        | mk z b =>
          rw [hz] at ro ha
          have ha : z = some a := ha
          subst ha
          cases ro with
          | @dice _ _ _ x y z e1 e2 =>
            rw [hg] at e2
            obtain ⟨fd, ok⟩ := (Fo t c3).ok f _ hf
            have S0 : SRel (W.to G0 t) J.X ⟨[], fun _ _ => False⟩ σ stDice (fun _ => (some a, 0)) H := by
              refine ⟨fun m hm => ?_, fun m n _ h1 h2 _ _ => ?_, S.tab, (fun i m e => nomatch e), (by show 1 ≤ 1000001; decide)⟩
              · have : m = 0 := Nat.lt_one_iff.mp hm
                subst this
                exact ⟨_, rfl, .dice e1 (by show DiceI (0 + t) x y z; rw [Nat.zero_add]; exact e2)⟩
              · have h1 : m < 1 := h1
                have h2 : n < 1 := h2
                omega
            refine callP (W := W.to G0 t) (J := ⟨J.X, ⟨[], fun _ _ => False⟩, J.Wx⟩) (ρ := fun _ => (some a, 0)) (ds := .loc 0 :: as) (st := stDice) (m := m) (k := k0) (B t c3) hf ok I kin (hr.mono (by omega)) hgu e0 S0
              (.cons (.loc (by show 0 < 1; decide) rfl) ((clos_rel 50).2 _ _ hw rs)) r ?_
            show Post (W.to G0 t) _ σ 1 (fun _ => (some a, 0)) H _ Q (stCallP G0 (evs G0 m k0) f (.loc 0 :: as) stDice)
            cases er : stCallP G0 (evs G0 m k0) f (.loc 0 :: as) stDice with
            | bad => rw [er] at run; cases run
            | exc _ _ _ => rw [er] at run; cases run
            | ok v' st' =>
              rw [er] at run
              have run : (samD 2 v v' && match st'.get 0 with
                | some (.dice t) => Nat.beq t t1 && Nat.blt 0 st'.nx
                | _ => false) = true := run
              rw [Bool.and_eq_true] at run
              obtain ⟨w1, w2⟩ := run
              have w1 := samD_ok _ _ _ w1
              subst w1
              split at w2
              · rename_i t' g3
                rw [Bool.and_eq_true] at w2
                have w3 := Nat.eq_of_beq_eq_true w2.1
                subst w3
                intro ρ' H' u' xe S' rv
                obtain ⟨ob', g2, ro2⟩ := S'.get 0 (Nat.le_of_ble_eq_true w2.2)
                rw [g3] at g2
                cases g2
                rw [xe.old 0 (by decide)] at ro2
                cases ro2 with
                | @dice _ _ _ x' y' z' f1 f2 =>
                  have q5 : DiceI (t + t' + W.g) x' y' z' := by
                    rw [hg]
                    rw [show t + t' + 0 = t' + t by omega]
                    exact f2
                  have hdz : (ρ d).1 = some a := by rw [hz]
                  obtain ⟨y1, S1⟩ := S.graft hd hdz (ρ0 := fun _ => (some a, 0)) rfl xe S'.tab (ob := .dice (t + t')) (by rw [hz]; exact .dice f1 q5)
                  exact pp ρ H' u' y1 S1 (flat_any (W := W) hv (show W.RD st'.nx ρ' H' v u' from rv))
              · cases w2
    · exact p.elim
  · exact p.elim
end MX
end
section
set_option Elab.async false
set_option linter.all false
set_option autoImplicit false
set_option maxRecDepth 100000
set_option maxHeartbeats 1000000
/-! The dice for a place of the script: one run with letters. -/
namespace MX
def diceB : List S := [
  .set (.nm 2) (.ite (.cmp .lt (.var 1) (.bi .len [.var 0])) (.bi .int [.sub (.var 0) (.var 1)]) (.op .add (.op .mul (.int 131) (.var 1)) (.int 37))),
  .set (.nm 3) (.op .mod (.bi .int [.bi .abs [.var 2]]) (.op .pow (.op .pow (.int 10) (.int 53)) (.int 6))),
  .set (.nm 4) (.op .add (.op .add (.op .add (.op .mul (.op .mod (.var 3) (.int 2305843009213693907)) (.int 73)) (.op .mul (.int 619) (.var 1))) (.op .mul (.int 41) (.bi .int [.cmp .lt (.var 2) (.int 0)]))) (.int 17)),
  .ret (.lst [.bi .max [.int 0, .op .sub (.var 3) (.op .pow (.int 10) (.int 16))], .var 4, .int 0])]
section
variable (G : Gb) (rc : Evs) (k q : Nat) {σ : Sg} {κ : List (Nat × Nat)} {st : St} {xs : List D} {i c x y z : Int}
theorem bi1_of {b : BF} {e : E} {d : D} {st' : St} (hs : ∀ (r : Evs), stL r [e] σ κ st = (r.e e σ κ st).bind fun d st => (r.l [] σ κ st).bind fun ds st => .ok (d :: ds) st) (h : (evF G k rc q).e e σ κ st = .ok d st') : (evF G k rc (q + 2)).e (.bi b [e]) σ κ st = bltn G b [d] st' := by
  show R.bind (stL (evF G k rc q) [e] σ κ st) (bltn G b) = _
  rw [hs, h]
  cases q with
  | zero => cases h
  | succ q => rfl
theorem pow_of {i j : Int} (h : (decide (0 ≤ j) && decide (j ≤ 1000) && Nat.ble i.natAbs.log2 1000) = true) : binop .pow (.int i) (.int j) st = .ok (.int (i ^ j.toNat)) st := by
  show cond (decide (0 ≤ j) && decide (j ≤ 1000) && Nat.ble i.natAbs.log2 1000) _ _ = _
  rw [h]; rfl
theorem sub_of {i j : Int} : binop .sub (.int i) (.int j) st = .ok (.int (i - j)) st := rfl
theorem vloc_of {i p : Nat} (h : σ[i]? = some (some (.loc p))) : (evF G k rc (q + 1)).e (.var i) σ κ st = .ok (.loc p) st := by
  show slot σ i st = _
  unfold slot
  rw [h]
  rfl
theorem len_of (hx : seqOf st (.loc 0) = some xs) : bltn G .len [.loc 0] st = .ok (.int xs.length) st := by
  show (match seqOf st (.loc 0) with | some xs => R.ok (D.int xs.length) st | none => _) = _
  rw [hx]
theorem cmp_of {o : Cm} {a b : E} {i j : D} {st' st'' : St} (h1 : (evF G k rc q).e a σ κ st = .ok i st') (h2 : (evF G k rc q).e b σ κ st' = .ok j st'') : (evF G k rc (q + 1)).e (.cmp o a b) σ κ st = cmpop o i j st'' := by
  show stCmp (evF G k rc q) o a b σ κ st = _
  unfold stCmp
  rw [h1]
  show ((evF G k rc q).e b σ κ st').bind _ = _
  rw [h2]
  rfl
theorem max_of {i j : Int} : bltn G .max [.int i, .int j] st = .ok (.int (if j > i then j else i)) st := rfl
theorem lt_of {i j : Int} : cmpop .lt (.int i) (.int j) st = .ok (.bl (decide (i < j))) st := rfl
theorem tt_cmp {o : Cm} {a b : E} {t : Bool} {st' : St} (h : (evF G k rc q).e (.cmp o a b) σ κ st = .ok (.bl t) st') : (evF G k rc (q + 1)).t (.cmp o a b) σ κ st = .ok t st' := by
  show R.bind ((evF G k rc q).e (.cmp o a b) σ κ st) _ = _
  rw [h]
  rfl
theorem ite_of {c a b : E} {t : Bool} {st' : St} (h : (evF G k rc q).t c σ κ st = .ok t st') : (evF G k rc (q + 1)).e (.ite c a b) σ κ st = cond t ((evF G k rc q).e a σ κ st') ((evF G k rc q).e b σ κ st') := by
  show R.bind ((evF G k rc q).t c σ κ st) _ = _
  rw [h]
  rfl
theorem ix_of {a b : E} {i : Int} {j : Nat} {st' : St} (h1 : (evF G k rc q).e a σ κ st = .ok (.loc 0) st) (h2 : (evF G k rc q).e b σ κ st = .ok (.int i) st) (hx : seqOf st (.loc 0) = some xs) (hj : normIx xs.length i = some j) (hc : xs[j]? = some (.int c)) :
    (evF G k rc (q + 1)).e (.sub a b) σ κ st = .ok (.int c) st := by
  show R.bind ((evF G k rc q).e a σ κ st) _ = _
  rw [h1]
  show R.bind ((evF G k rc q).e b σ κ st) _ = _
  rw [h2]
  show (match seqOf st (.loc 0) with | some xs => (match normIx xs.length i with | some j => R.of (xs[j]?.map (nrm st)) st | none => .bad) | none => .bad) = _
  rw [hx]
  show (match normIx xs.length i with | some j => R.of (xs[j]?.map (nrm st)) st | none => .bad) = _
  rw [hj]
  show R.of (xs[j]?.map (nrm st)) st = _
  rw [hc]
  rfl
theorem l_nil : (evF G k rc (q + 1)).l [] σ κ st = .ok [] st := rfl
theorem l_cons {e : E} {es : List E} {d : D} {ds : List D} (hs : ∀ (r : Evs), stL r (e :: es) σ κ st = (r.e e σ κ st).bind fun d st => (r.l es σ κ st).bind fun ds st => .ok (d :: ds) st) (h1 : (evF G k rc q).e e σ κ st = .ok d st) (h2 : (evF G k rc q).l es σ κ st = .ok ds st) : (evF G k rc (q + 1)).l (e :: es) σ κ st = .ok (d :: ds) st := by
  show stL (evF G k rc q) (e :: es) σ κ st = _
  rw [hs, h1]
  show R.bind ((evF G k rc q).l es σ κ st) _ = _
  rw [h2]
  rfl
theorem bi_of {b : BF} {es : List E} {ds : List D} (h : (evF G k rc q).l es σ κ st = .ok ds st) : (evF G k rc (q + 1)).e (.bi b es) σ κ st = bltn G b ds st := by
  show R.bind ((evF G k rc q).l es σ κ st) (bltn G b) = _
  rw [h]
  rfl
theorem lst3_of {es : List E} {b : List S} {x y z : D} (h : (evF G k rc q).l es σ κ st = .ok [x, y, z] st) : (evF G k rc (q + 2)).ss (.ret (.lst es) :: b) σ κ st = F.to (alloc (.lst [x, y, z]) st) fun d st => .ret d st := by
  show F.seq (F.to (R.bind ((evF G k rc q).l es σ κ st) _) _) _ = _
  rw [h]
  show F.seq (F.to (alloc (.lst [x, y, z]) st) fun d st => F.ret d st) _ = _
  cases alloc (.lst [x, y, z]) st <;> rfl
/-- the cell of a place -/
def cellD (xs : List D) (i : Int) : Int := if i < xs.length then (match xs[i.toNat]? with | some (.int c) => c | _ => 0) else 131 * i + 37
def grt (c : Int) : Int := (if c < 0 then -c else c) % (10 ^ 53) ^ 6
def seedD (i c : Int) : Int := grt c % 2305843009213693907 * 73 + 619 * i + 41 * (if decide (c < 0) then 1 else 0) + 17
theorem cell_run (hx : seqOf st (.loc 0) = some xs) (hi : ∀ d ∈ xs, ∃ c, d = .int c) (h0 : 0 ≤ i) (h1 : i ≤ 1000) (l : Nat.ble ((131 : Int).natAbs.log2 + i.natAbs.log2) 900000 = true) :
    (evF G k rc (q + 10)).e (.ite (.cmp .lt (.var 1) (.bi .len [.var 0])) (.bi .int [.sub (.var 0) (.var 1)]) (.op .add (.op .mul (.int 131) (.var 1)) (.int 37))) [some (.loc 0), some (.int i), none, none, none] κ st = .ok (.int (cellD xs i)) st := by
  have e1 := (bi1_of G rc k (q + 5) (b := .len) (κ := κ) (st := st) (σ := [some (.loc 0), some (.int i), none, none, none]) (fun _ => rfl) (vloc_of G rc k (q + 4) (i := 0) (p := 0) rfl)).trans (len_of G hx)
  have e2 := (cmp_of G rc k (q + 7) (o := .lt) (var_of G rc k (q + 6) (i := 1) (j := i) rfl) e1).trans lt_of
  rw [ite_of G rc k (q + 9) (tt_cmp G rc k (q + 8) e2)]
  unfold cellD
  by_cases h : i < xs.length
  · rw [if_pos h, decide_eq_true h]
    have hl : i.toNat < xs.length := by omega
    obtain ⟨c, hc⟩ := hi _ (List.getElem_mem hl)
    have ec : xs[i.toNat]? = some (.int c) := by rw [List.getElem?_eq_getElem hl, hc]
    rw [ec]
    have hn : normIx xs.length i = some i.toNat := by unfold normIx; rw [if_pos h0, if_pos h]
    exact (bi1_of G rc k (q + 7) (b := .int) (fun _ => rfl) (ix_of G rc k (q + 6) (st' := st) (vloc_of G rc k (q + 5) rfl) (var_of G rc k (q + 5) rfl) hx hn ec)).trans rfl
  · rw [if_neg h, decide_eq_false h]
    exact (op_of G rc k (q + 8) ((op_of G rc k (q + 7) (int_of G rc k (q + 6)) (var_of G rc k (q + 6) (j := i) rfl)).trans (mul_of l)) (int_of G rc k (q + 7))).trans add_of
theorem grt_in (c : Int) : 0 ≤ grt c ∧ grt c < (10 ^ 53) ^ 6 := ⟨Int.emod_nonneg _ (by decide), Int.emod_lt_of_pos _ (by decide)⟩
theorem dice_run (hx : seqOf st (.loc 0) = some xs) (hi : ∀ d ∈ xs, ∃ c, d = .int c) (h0 : 0 ≤ i) (h1 : i ≤ 1000) :
    ∃ (x y : Int), (evF G k rc 20).ss diceB [some (.loc 0), some (.int i), none, none, none] [] st = F.to (alloc (.lst [.int x, .int y, .int 0]) st) (fun d st => .ret d st) ∧ 0 ≤ y ∧ y < 2 ^ 80 := by
  have l0 := lg (i := i) (k := 10) h0 (by omega)
  have c1 : (131 : Int).natAbs.log2 = 7 := by decide
  have c2 : (73 : Int).natAbs.log2 = 6 := by decide
  have c3 : (619 : Int).natAbs.log2 = 9 := by decide
  have c4 : (41 : Int).natAbs.log2 = 5 := by decide
  generalize hc : cellD xs i = c
  obtain ⟨g1, g2⟩ := grt_in c
  have m1 : 0 ≤ grt c % 2305843009213693907 := Int.emod_nonneg _ (by decide)
  have m2 : grt c % 2305843009213693907 < 2305843009213693907 := Int.emod_lt_of_pos _ (by decide)
  have l1 := lg (i := grt c % 2305843009213693907) (k := 61) m1 (by omega)
  refine ⟨if grt c - 10 ^ 16 > 0 then grt c - 10 ^ 16 else 0, seedD i c, ?_, ?_, ?_⟩
  · unfold diceB
    have e1 := cell_run G rc k 9 (κ := []) hx hi h0 h1 (ble_of (by omega))
    rw [hc] at e1
    rw [set_of G rc k 19 e1, List.set, List.set, List.set]
    have p1 : (evF G k rc 17).e (.op .pow (.op .pow (.int 10) (.int 53)) (.int 6)) [some (.loc 0), some (.int i), some (.int c), none, none] [] st = .ok (.int ((10 ^ 53) ^ 6)) st :=
      (op_of G rc k 16 ((op_of G rc k 15 (int_of G rc k 14) (int_of G rc k 14)).trans (pow_of rfl)) (int_of G rc k 15)).trans (pow_of (by decide))
    have p2 : (evF G k rc 17).e (.bi .int [.bi .abs [.var 2]]) [some (.loc 0), some (.int i), some (.int c), none, none] [] st = .ok (.int (if c < 0 then -c else c)) st :=
      (bi1_of G rc k 15 (b := .int) (fun _ => rfl) ((bi1_of G rc k 13 (b := .abs) (fun _ => rfl) (var_of G rc k 12 (i := 2) (j := c) rfl)).trans rfl)).trans rfl
    have p3 := (op_of (o := .mod) G rc k 17 p2 p1).trans (mod_of (by decide))
    rw [set_of G rc k 18 p3, List.set, List.set, List.set, List.set]
    show (evF G k rc 18).ss _ [some (.loc 0), some (.int i), some (.int c), some (.int (grt c)), none] [] st = _
    have s1 : (evF G k rc 14).e (.op .mul (.op .mod (.var 3) (.int 2305843009213693907)) (.int 73)) [some (.loc 0), some (.int i), some (.int c), some (.int (grt c)), none] [] st = .ok (.int (grt c % 2305843009213693907 * 73)) st :=
      (op_of G rc k 13 ((op_of G rc k 12 (var_of G rc k 11 (j := grt c) rfl) (int_of G rc k 11)).trans (mod_of rfl)) (int_of G rc k 12)).trans (mul_of (ble_of (by omega)))
    have s2 : (evF G k rc 14).e (.op .mul (.int 619) (.var 1)) [some (.loc 0), some (.int i), some (.int c), some (.int (grt c)), none] [] st = .ok (.int (619 * i)) st :=
      (op_of G rc k 13 (int_of G rc k 12) (var_of G rc k 12 (j := i) rfl)).trans (mul_of (ble_of (by omega)))
    have s3 : (evF G k rc 14).e (.bi .int [.cmp .lt (.var 2) (.int 0)]) [some (.loc 0), some (.int i), some (.int c), some (.int (grt c)), none] [] st = .ok (.int (if decide (c < 0) then 1 else 0)) st :=
      (bi1_of G rc k 12 (b := .int) (fun _ => rfl) ((cmp_of G rc k 11 (var_of G rc k 10 (j := c) rfl) (int_of G rc k 10)).trans lt_of)).trans rfl
    have l2 : Nat.ble ((41 : Int).natAbs.log2 + (if decide (c < 0) then (1 : Int) else 0).natAbs.log2) 900000 = true := by
      by_cases h : c < 0
      · rw [decide_eq_true h]; decide
      · rw [decide_eq_false h]; decide
    have s4 := (op_of (o := .mul) G rc k 14 (int_of G rc k 13 (j := 41)) s3).trans (mul_of l2)
    have s5 := (op_of (o := .add) G rc k 14 s1 s2).trans add_of
    have s6 := (op_of (o := .add) G rc k 15 s5 s4).trans add_of
    have s7 := (op_of (o := .add) G rc k 16 s6 (int_of G rc k 15 (j := 17))).trans add_of
    rw [set_of G rc k 17 s7, List.set, List.set, List.set, List.set, List.set]
    show (evF G k rc 17).ss _ [some (.loc 0), some (.int i), some (.int c), some (.int (grt c)), some (.int (seedD i c))] [] st = _
    have r1 : (evF G k rc 10).e (.op .pow (.int 10) (.int 16)) [some (.loc 0), some (.int i), some (.int c), some (.int (grt c)), some (.int (seedD i c))] [] st = .ok (.int (10 ^ 16)) st :=
      (op_of G rc k 9 (int_of G rc k 8) (int_of G rc k 8)).trans (pow_of rfl)
    have r2 : (evF G k rc 11).e (.op .sub (.var 3) (.op .pow (.int 10) (.int 16))) [some (.loc 0), some (.int i), some (.int c), some (.int (grt c)), some (.int (seedD i c))] [] st = .ok (.int (grt c - 10 ^ 16)) st :=
      (op_of G rc k 10 (var_of G rc k 9 (j := grt c) rfl) r1).trans sub_of
    generalize grt c - 10 ^ 16 = e at r2 ⊢
    have r3 : (evF G k rc 13).l [.int 0, .op .sub (.var 3) (.op .pow (.int 10) (.int 16))] [some (.loc 0), some (.int i), some (.int c), some (.int (grt c)), some (.int (seedD i c))] [] st = .ok [.int 0, .int e] st :=
      l_cons G rc k 12 (fun _ => rfl) (int_of G rc k 11) (l_cons G rc k 11 (fun _ => rfl) r2 (l_nil G rc k 10))
    have r4 := (bi_of G rc k 13 (b := .max) r3).trans (max_of G)
    have r5 : (evF G k rc 14).e (.var 4) [some (.loc 0), some (.int i), some (.int c), some (.int (grt c)), some (.int (seedD i c))] [] st = .ok (.int (seedD i c)) st := var_of G rc k 13 rfl
    generalize seedD i c = sd at r4 r5 ⊢
    generalize grt c = gr at r4 r5 ⊢
    exact lst3_of G rc k 15 (l_cons G rc k 14 (fun _ => rfl) r4 (l_cons G rc k 13 (fun _ => rfl) (var_of G rc k 12 (i := 4) (j := sd) rfl) (l_cons G rc k 12 (e := .int 0) (fun _ => rfl) (int_of G rc k 11) (l_nil G rc k 11))))
  · unfold seedD
    by_cases h : c < 0
    · rw [decide_eq_true h]; simp only [if_true]; omega
    · rw [decide_eq_false h]; simp only [Bool.false_eq_true, if_false]; omega
  · unfold seedD
    by_cases h : c < 0
    · rw [decide_eq_true h]; simp only [if_true]; omega
    · rw [decide_eq_false h]; simp only [Bool.false_eq_true, if_false]; omega
end
end MX
end
section
set_option Elab.async false
set_option linter.all false
set_option autoImplicit false
set_option maxRecDepth 100000
set_option maxHeartbeats 1000000
/-! The reading of the making of dice. -/
namespace MX
open PySem PySem.Spec PyProof.Rows L2
theorem ints_rel {K : PySem.W.Frag} {ad : Nat → Addr} {nx : Nat} {ρ : Asg} {H : Hp} : ∀ (ns : List Int), RDs K ad nx ρ H (ns.map D.int) (ns.map V.int)
  | [] => .nil
  | n :: ns => .cons (.int n) (ints_rel ns)
theorem ints_fun {K : PySem.W.Frag} {ad : Nat → Addr} {nx : Nat} {ρ : Asg} {H : Hp} : ∀ (ns : List Int) (vs : List V), RDs K ad nx ρ H (ns.map D.int) vs → vs = ns.map V.int
  | [], _, .nil => rfl
  | n :: ns, _, .cons h r => by
    cases h
    rw [ints_fun ns _ r]
    rfl
def stX (ob : Ob) : St := ⟨.nd (some ob) .nil .nil, 1⟩
/-- the making of dice -/
def diceO (k : Nat) (ds : List D) (st : St) : R D := match ds with
  | [.loc s, .int i] => match st.get s with
    | some (.scr _) => cond (Nat.blt 0 k && (decide (0 ≤ i) && decide (i ≤ 1000))) (alloc (.dice 0) st) .bad
    | _ => .bad
  | _ => .bad
section
variable {W : Wd} {X : Cx} {κ : Fm} {σ : L2.St} {st st' : St} {ρ ρ' : Asg} {H H' : Hp} {ob : Ob} {a q : Addr}
/-- an object was made in a run in a store of its own, and nothing else was changed -/
theorem SRel.made {d nx' : Nat} {ρ0 : Asg} (s : SRel W X κ σ st ρ H) (hd : d < st.nx) (ha : (ρ d).1 = some a) (h0 : (ρ0 0).1 = some a) (x : Ext 1 ρ0 H nx' ρ' H') (T : LamX.Tabs W.T H') (hq : H q = none) (hk : H' a = H a)
    (hn : st'.nx = st.nx + 1) (hl : st.nx ≤ 1000000) (hg : ∀ m, st'.get m = if m = st.nx then some ob else st.get m)
    (hr : RO W X κ σ (st.nx + 1) (ρ.put st.nx (some q, 0)) H' st.nx ob (some q, 0)) : Ext st.nx ρ H st'.nx (ρ.put st.nx (some q, 0)) H' ∧ SRel W X κ σ st' (ρ.put st.nx (some q, 0)) H' := by
  have keep : ∀ b o, H b = some o → NoTbl o → H' b = some o := fun b o e t => by
    by_cases hb : b = a
    · subst hb; rw [hk]; exact e
    · refine x.frm b o e (fun n hn z => ?_) t
      have : n = 0 := by omega
      subst this
      rw [h0] at z
      cases z
      exact hb rfl
  have y : Ext st.nx ρ H st'.nx (ρ.put st.nx (some q, 0)) H' := {
    le := by omega
    old := fun n h => put_ne (Nat.ne_of_lt h)
    new := fun n b h1 h2 h3 => by
      have e : n = st.nx := by omega
      subst e
      rw [put_same] at h3
      cases h3
      exact hq
    thr := x.thr
    fix := x.fix
    frm := fun b o e _ t => keep b o e t }
  refine ⟨y, ⟨fun n h => ?_, fun m n b h1 h2 e1 e2 => ?_, T, fun i m e => ?_, by omega⟩⟩
  · by_cases e : n = st.nx
    · subst e
      exact ⟨ob, by rw [hg, if_pos rfl], by rw [put_same, hn]; exact hr⟩
    · obtain ⟨ob', g, r⟩ := s.get n (by omega)
      refine ⟨ob', by rw [hg, if_neg e]; exact g, ?_⟩
      rw [put_ne e]
      exact r.mono y fun b o hb e => keep b o e (r.noTbl hb e)
  · by_cases em : m = st.nx <;> by_cases en : n = st.nx
    · rw [em, en]
    · rw [em, put_same] at e1
      rw [put_ne en] at e2
      cases e1
      obtain ⟨u, z⟩ := s.there (by omega) e2
      rw [hq] at z; cases z
    · rw [en, put_same] at e2
      rw [put_ne em] at e1
      cases e2
      obtain ⟨u, z⟩ := s.there (by omega) e1
      rw [hq] at z; cases z
    · rw [put_ne em] at e1
      rw [put_ne en] at e2
      exact s.inj m n b (by omega) (by omega) e1 e2
  · obtain ⟨h1, h2, y, h3⟩ := s.kap i m e
    have ne : m ≠ st.nx := by omega
    exact ⟨by omega, by rw [put_ne ne]; exact h2, y, by rw [put_ne ne]; exact h3⟩
end
theorem dice_ov {W : Wd} {G0 : Gb} {f n0 : Nat} (hg : W.g ≤ 100000) (Fo : FnsOk (W.to G0 W.g)) (B : ∀ k, BodyOk (W.to G0 W.g) 20 k) {kd : Kd} (hf : G0.tab[f]? = some (.fn ⟨2, 5, [], diceB, [], kd⟩))
    (ho : ∀ k ds st, W.G.ov k n0 ds st = diceO k ds st) : OvC W f n0 := by
  intro J pins σ H s st ρ ds vs us Q A' k I kin hr hgu e0 S rs r p
  rw [ho] at p
  unfold diceO at p
  split at p
  · rename_i d i
    split at p
    · rename_i t g
      obtain ⟨hc, pp⟩ := cond_post p
      simp only [Bool.and_eq_true, decide_eq_true_eq] at hc
      obtain ⟨c1, c2, c3⟩ := hc
      have c1 : 0 < k := Nat.le_of_ble_eq_true c1
      obtain ⟨k', hk'⟩ : ∃ k', k = k' + 1 := ⟨k - 1, by omega⟩
      subst hk'
      cases rs with
      | cons r1 rs =>
      cases rs with
      | cons r2 rs =>
      cases rs
      cases r2
      cases r1 with
      | @loc _ a hd ha =>
        obtain ⟨ob, g', ro⟩ := S.get d hd
        rw [g] at g'
        cases g'
        cases hz : ρ d with
        | mk z b =>
          rw [hz] at ro ha
          have ha : z = some a := ha
          subst ha
          cases ro with
          | @scr _ _ _ ns e1 e2 e3 e4 =>
            have hdz : (ρ d).1 = some a := by rw [hz]
            -- one run, whichever the object is
            have main : ∀ (ob : Ob), seqOf (stX ob) (.loc 0) = some (ns.map D.int) → RO (W.to G0 W.g) J.X ⟨[], fun _ _ => False⟩ σ 1 (fun _ => (some a, 0)) H 0 ob (some a, 0) →
                (∀ (ρ' : Asg) (H' : Hp) (nx' : Nat), Ext 1 (fun _ => (some a, 0)) H nx' ρ' H' → RO (W.to G0 W.g) J.X ⟨[], fun _ _ => False⟩ σ nx' ρ' H' 0 ob (some a, 0) → H' a = H a) →
                codeAny (model W.P W.w) A' (.call (.ref (W.ad f)) ⟨us, []⟩) (CR (L2.CX W.P W.w) J.X.stack W.P W.w H s Q fun cls dd H' => J.Wx cls dd σ H') s := fun ob hx hro hsame => by
              obtain ⟨fd, ok⟩ := Fo.ok f _ hf
              obtain ⟨x, y, q1, q2, q3⟩ := dice_run G0 (evs G0 20 k') k' (st := stX ob) (i := i) hx (fun d hd => by
                obtain ⟨c, _, e⟩ := List.mem_map.mp hd
                exact ⟨c, e.symm⟩) c2 c3
              have S0 : SRel (W.to G0 W.g) J.X ⟨[], fun _ _ => False⟩ σ (stX ob) (fun _ => (some a, 0)) H := by
                refine ⟨fun m hm => ?_, fun m n _ h1 h2 _ _ => ?_, S.tab, (fun i m e => nomatch e), (by show 1 ≤ 1000001; decide)⟩
                · have : m = 0 := Nat.lt_one_iff.mp hm
                  subst this
                  exact ⟨ob, rfl, hro⟩
                · have h1 : m < 1 := h1
                  have h2 : n < 1 := h2
                  omega
              refine callP (W := W.to G0 W.g) (J := ⟨J.X, ⟨[], fun _ _ => False⟩, J.Wx⟩) (ρ := fun _ => (some a, 0)) (ds := [.loc 0, .int i]) (st := stX ob) (m := 20) (k := k' + 1) (B _) hf ok I kin hr hgu e0 S0 (.cons (.loc (by show 0 < 1; decide) rfl) (.cons (.int i) .nil)) r ?_
              have al : alloc (.lst [.int x, .int y, .int 0]) (stX ob) = .ok (.loc 1) ⟨Tr.set (.lst [.int x, .int y, .int 0]) 30 (stX ob).t 1, 2⟩ := rfl
              generalize hst2 : (⟨Tr.set (.lst [.int x, .int y, .int 0]) 30 (stX ob).t 1, 2⟩ : St) = st2 at al
              obtain ⟨hn2, hg2⟩ : st2.nx = 2 ∧ ∀ m, st2.get m = if m = 1 then some (.lst [.int x, .int y, .int 0]) else (stX ob).get m := by
                rcases alloc_cases (.lst [.int x, .int y, .int 0]) (stX ob) with e | ⟨st3, e, h1, h2, h3⟩
                · rw [al] at e; cases e
                · rw [al] at e; cases e; exact ⟨h1, h3⟩
              have run : stCallP G0 (evs G0 20 (k' + 1)) f [.loc 0, .int i] (stX ob) = .ok (.loc 1) st2 := by
                unfold stCallP
                rw [hf]
                show endF [] ((evF G0 k' (evs G0 20 k') 20).ss diceB [some (.loc 0), some (.int i), none, none, none] [] (stX ob)) = _
                rw [q1, al]
                rfl
              show Post (W.to G0 W.g) _ σ 1 (fun _ => (some a, 0)) H _ Q (stCallP G0 (evs G0 20 (k' + 1)) f [.loc 0, .int i] (stX ob))
              rw [run]
              intro ρ' H' v xe S' rv
              cases rv with
              | @loc _ qa hlt hq =>
              obtain ⟨ob1, g1, ro1⟩ := S'.get 0 (by rw [hn2]; decide)
              rw [hg2, if_neg (by decide)] at g1
              have g1 : some ob = some ob1 := g1
              cases g1
              rw [xe.old 0 (by decide)] at ro1
              have ka := hsame ρ' H' _ xe ro1
              have hnq : H qa = none := xe.new 1 qa (by decide) (by rw [hn2]; decide) hq
              obtain ⟨ob2, g2, ro2⟩ := S'.get 1 (by rw [hn2]; decide)
              rw [hg2, if_pos rfl] at g2
              cases g2
              cases hz2 : ρ' 1 with
              | mk z2 b2 =>
                rw [hz2] at ro2 hq
                have hq : z2 = some qa := hq
                subst hq
                cases ro2 with
                | lst f1 f2 =>
                  cases f2 with
                  | cons u1 f2 =>
                  cases f2 with
                  | cons u2 f2 =>
                  cases f2 with
                  | cons u3 f2 =>
                  cases f2
                  cases u1; cases u2; cases u3
                  rcases alloc_cases (.dice 0) st with e | ⟨st', e, h1, h2, h3⟩
                  · rw [e] at pp; exact pp.elim
                  · rw [e] at pp
                    have di : DiceI (0 + W.g) x y 0 := ⟨q2, q3, Int.le_refl _, by omega, by omega⟩
                    obtain ⟨y2, S2⟩ := S.made (ρ0 := fun _ => (some a, 0)) hd hdz rfl xe S'.tab hnq ka h1 h2 h3 (.dice f1 di)
                    exact pp _ H' _ y2 S2 (.loc (by omega) (by rw [put_same]))
            rcases e1 with e1 | ⟨bb, e1⟩
            · refine main (.lst (ns.map D.int)) rfl (.lst e1 (ints_rel ns)) fun ρ' H' nx' xe ro => ?_
              cases ro with
              | lst f1 f2 => rw [f1, e1, ints_fun ns _ f2]
            · refine main (.frz (ns.map D.int)) rfl (.frz e1 (ints_rel ns)) fun ρ' H' nx' xe ro => ?_
              rw [e1]
              exact xe.fix _ _ e1 trivial
    · exact p.elim
  · exact p.elim
end MX
end
section
set_option Elab.async false
set_option linter.all false
set_option autoImplicit false
set_option maxRecDepth 100000
set_option maxHeartbeats 1000000
/-! The three worlds of a law: all by the bodies; the roll as a choice; a def of dice by one run. -/
namespace MX
open PySem PySem.Spec PyProof.Rows L2
theorem pl_pl (x : GI) : x.pl.pl = x.pl := by cases x <;> rfl
/-- all by the bodies -/
def Gb.plain (G : Gb) : Gb := ⟨G.tab.map GI.pl, fun _ _ _ _ => .bad⟩
theorem text_plain {L : Law} {G : Gb} (T : L.Text G) : L.Text G.plain := ⟨by
  have e : (G.plain.tab.map fun x => some x.pl) = G.tab.map fun x => some x.pl := by
    show (G.tab.map GI.pl).map _ = _
    rw [List.map_map]
    exact List.map_congr_left fun x _ => congrArg some (pl_pl x)
  rw [e]
  exact T.comp, T.st, T.nd⟩
theorem plain_kd {G : Gb} {f : Nat} {u : Fun} (h : G.plain.tab[f]? = some (.fn u)) : u.kd = .pl := by
  have h : (G.tab.map GI.pl)[f]? = some (.fn u) := h
  rw [List.getElem?_map] at h
  cases e : G.tab[f]? with
  | none => rw [e] at h; cases h
  | some x =>
    rw [e] at h
    cases x with
    | fn v => cases h; rfl
    | cls _ => cases h
    | val _ => cases h
theorem tab_pl {L : Law} {G G' : Gb} (T : L.Text G) (T' : L.Text G') (f : Nat) : (G.tab[f]?).map GI.pl = (G'.tab[f]?).map GI.pl := by
  have z := congrArg (fun l => l[f]?) (T.comp.symm.trans T'.comp)
  simp only [List.getElem?_map] at z
  cases e : G.tab[f]? with
  | none =>
    cases e' : G'.tab[f]? with
    | none => rfl
    | some y => rw [e, e'] at z; cases z
  | some x =>
    cases e' : G'.tab[f]? with
    | none => rw [e, e'] at z; cases z
    | some y =>
      rw [e, e'] at z
      have z : some (some x.pl) = some (some y.pl) := z
      exact Option.some.inj z
theorem exc_same {L : Law} {G G' : Gb} (T : L.Text G) (T' : L.Text G') (c k : Nat) : excIs G c k = excIs G' c k := by
  have z := tab_pl T T' c
  unfold excIs
  cases e : G.tab[c]? with
  | none =>
    cases e' : G'.tab[c]? with
    | none => rfl
    | some y => rw [e, e'] at z; cases z
  | some x =>
    cases e' : G'.tab[c]? with
    | none => rw [e, e'] at z; cases z
    | some y =>
      rw [e, e'] at z
      have z : some x.pl = some y.pl := z
      cases x <;> cases y <;> first | rfl | (cases z; rfl) | (have z := Option.some.inj z; cases z; done)
theorem pairs_same {L : Law} {G G' : Gb} {K : PySem.W.Frag} (T : L.Text G) (T' : L.Text G') : okPairs L G K = okPairs L G' K := by
  unfold okPairs
  have e : excIs G = excIs G' := funext fun c => funext fun k => exc_same T T' c k
  rw [e]
/-- all the facts of a world but the readings -/
structure Facts (L : Law) (K : PySem.W.Frag) (mg : Str → Option Value) (base : Heap) : Prop where
  d : L.Defs K
  cl : ∀ G, ((L.ens.zipIdx).all (okClE L G K)) = true
  two : okTwo L K = true
  isc : okIsC L = true
  exn : ((L.ens.zipIdx).all (okExE L K)) = true
  exs : L.Exs K
  pr : ∃ G, L.Text G ∧ okPairs L G K = true
  X : K.In base
  Gn : base.Ns mainGlobals mg
  TB : ∀ e ∈ L.lams, LamX.TabB base mg (codeOf K (He.fAd K (L.pt e))) (tabOf K (codeOf K (He.fAd K (L.pt e))))
section
variable {L : Law} {G : Gb} {K : PySem.W.Frag} {mg : Str → Option Value} {base : Heap} {w : World}
theorem Facts.sound (F : Facts L K mg base) (T : L.Text G) (gg m : Nat) (OV : ∀ f u n, G.tab[f]? = some (.fn u) → u.kd = .ov n → OvC (L.W G w K mg base gg) f n) (k : Nat) : FnsOk (L.W G w K mg base gg) ∧ BodyOk (L.W G w K mg base gg) m k := by
  have Fo := fns_ok (w := w) T F.d F.TB OV
  obtain ⟨G', T', pr⟩ := F.pr
  exact ⟨Fo, (MX.sound Fo (gf_ok T F.d F.X F.Gn) (gc_ok T (F.cl G) F.two F.isc) (ge_ok T F.exn) (ga_ok T F.exs F.X F.Gn) (gt_ok T (by rw [pairs_same T T']; exact pr)) k).1⟩
/-- the roll's index, its reading's number; all others by the body or by forks -/
structure RollG (G : Gb) (f : Nat) : Prop where
  tab : G.tab[f]? = some (.fn ⟨2, 5, [], rollB, [], .ov 0⟩)
  one : ∀ g u n, G.tab[g]? = some (.fn u) → u.kd = .ov n → g = f ∧ n = 0
  ov : ∀ k ds st, G.ov k 0 ds st = rollO k ds st
theorem plain_at {f : Nat} {u : Fun} (h : G.tab[f]? = some (.fn u)) : G.plain.tab[f]? = some (.fn { u with kd := .pl }) := by
  show (G.tab.map GI.pl)[f]? = _
  rw [List.getElem?_map, h]
  rfl
theorem Facts.roll (F : Facts L K mg base) (T : L.Text G) {f : Nat} (R : RollG G f) {g : Nat} (hg : g ≤ 100000) (m k : Nat) : FnsOk (L.W G w K mg base g) ∧ BodyOk (L.W G w K mg base g) m k := by
  refine F.sound T g m (fun f' u n h e => ?_) k
  obtain ⟨rfl, rfl⟩ := R.one f' u n h e
  have P := fun k => F.sound (w := w) (text_plain T) g 20 (fun f u n h e => by rw [plain_kd h] at e; cases e) k
  exact roll_ov (W := L.W G w K mg base g) (G0 := G.plain) hg (P 0).1 (fun k => (P k).2) (plain_at R.tab) R.ov
/-- the world of the law itself: a def of dice by one run, the making of dice -/
structure LawG (GC GB : Gb) (fr fd ff : Nat) (m k0 t1 : Nat) (u : Fun) (ws : List D) : Prop where
  roll : RollG GB fr
  dice : GC.tab[fd]? = some (.fn ⟨2, 5, [], diceB, [], .ov 2⟩)
  odice : ∀ k ds st, GC.ov k 2 ds st = diceO k ds st
  right : GB.tab[ff]? = some (.fn u)
  oright : ∀ k ds st, GC.ov k 1 ds st = frameO k0 ws (.bl true) t1 k ds st
  clos : closL 50 ws = true
  run : okRun (.bl true) t1 (stCallP GB (evs GB m k0) ff (.loc 0 :: ws) stDice) = true
  two : ∀ g u n, GC.tab[g]? = some (.fn u) → u.kd = .ov n → (g = fd ∧ n = 2) ∨ (g = ff ∧ n = 1)
theorem Facts.law (F : Facts L K mg base) {GC GB : Gb} (T : L.Text GC) (TB : L.Text GB) {fr fd ff m k0 t1 : Nat} {u : Fun} {ws : List D} (R : LawG GC GB fr fd ff m k0 t1 u ws) (m' k : Nat) : FnsOk (L.W GC w K mg base 0) ∧ BodyOk (L.W GC w K mg base 0) m' k := by
  refine F.sound T 0 m' (fun f u' n h e => ?_) k
  rcases R.two f u' n h e with ⟨rfl, rfl⟩ | ⟨rfl, rfl⟩
  · have P := fun k => F.sound (w := w) (text_plain T) 0 20 (fun f u n h e => by rw [plain_kd h] at e; cases e) k
    exact dice_ov (W := L.W GC w K mg base 0) (G0 := GC.plain) (Nat.zero_le _) (P 0).1 (fun k => (P k).2) (plain_at R.dice) R.odice
  · exact frame_ov (W := L.W GC w K mg base 0) (G0 := GB) rfl (fun g hg => (F.roll (w := w) TB R.roll hg 0 0).1) (fun g hg => (F.roll (w := w) TB R.roll hg m k0).2) R.right R.clos rfl R.run R.oright
end
end MX
end
section
set_option Elab.async false
set_option linter.all false
set_option autoImplicit false
set_option maxRecDepth 100000
set_option maxHeartbeats 2000000
/-! A law over a finite menu: from the run of its text to the walk. -/
namespace MX
open PySem PySem.Spec PyProof.Rows L2
def okLaw : F → Bool
  | .ret (.bl true) _ => true
  | _ => false
theorem okLaw_ok {x : F} (h : okLaw x = true) : ∃ st, x = .ret (.bl true) st := by
  unfold okLaw at h
  split at h
  · exact ⟨_, rfl⟩
  · cases h
theorem law_run {W : Wd} {m k f : Nat} {u : Fun} {a : Addr} {ns : List Int} {s : Shared} {H : Hp} {o : Obj} (B : BodyOk W m k) (Fo : FnsOk W) (hf : W.G.tab[f]? = some (.fn u)) (h1 : u.np = 1) (h2 : u.cells = []) (kin : W.K.In s.heap) (hr : Room (2 * k + 1) callerA)
    (e0 : Env0 W.P W.w W.K W.mg W.base callerA [] s H) (hT : ∀ p ∈ W.T, H p.1 = some (.tbl #[])) (ha : H a = some (.frz o (.lst (ns.map V.int)))) (hl : ns.length ≤ 63) (hb : ∀ z ∈ ns, Builtin.Int.intBits z ≤ 1048576)
    (run : okLaw ((evs W.G m k).ss u.body (some (.loc 0) :: List.replicate (u.ns - 1) none) [] (stX (.scr ns.length))) = true) :
    codeAny (model W.P W.w) callerA (.call (.ref (W.ad f)) ⟨[.ref a], []⟩) (CR (L2.CX W.P W.w) [] W.P W.w H s (fun v _ => v = .bl true) fun _ _ _ => False) s := by
  obtain ⟨d, ok⟩ := Fo.ok f u hf
  have npl := ok.np
  have zb := ok.bind s [.ref a] kin (by show 1 ≤ d.ps.length; omega) (by show d.ps.length ≤ 1 + _; omega)
  have e1 : d.dus.length - (d.ps.length - ([Value.ref a] : List Value).length) = d.dus.length := by
    have : d.ps.length - ([Value.ref a] : List Value).length = 0 := by show d.ps.length - 1 = 0; omega
    rw [this, Nat.sub_zero]
  rw [e1, List.drop_length, List.append_nil] at zb
  refine LamX.run_ofS (N := d.N) (ps := d.ps) (us := [.ref a]) (vs := [.ref a]) (k := 2 * k) ok.lk ok.hcd ok.S hr e0 zb (.cons rfl .nil) (by show 1 = d.ps.length; omega) fun hr' => ?_
  have S1 : SRel W (cxOf (L2.CX W.P W.w) W.P W.w W.K W.mg W.base d.N d.qual d.scope (W.ad f) d.cdv callerA [] s H fun _ _ _ => False) ⟨[], fun _ _ => False⟩ (L2.start d.N [.ref a]) (stX (.scr ns.length)) (fun _ => (some a, 0)) H := by
    refine ⟨fun m hm => ?_, fun m n _ h1 h2 _ _ => ?_, fun p hp => LamX.TabS.nil (hT p hp), (fun i m e => nomatch e), (by show 1 ≤ 1000001; decide)⟩
    · have : m = 0 := Nat.lt_one_iff.mp hm
      subst this
      exact ⟨_, rfl, .scr (.inr ⟨o, ha⟩) rfl hl hb⟩
    · have h1 : m < 1 := h1
      have h2 : n < 1 := h2
      omega
  have L0 : LRel W (([D.loc 0]).map some ++ List.replicate (u.ns - u.np) none) (L2.start d.N [.ref a]) (stX (.scr ns.length)).nx (fun _ => (some a, 0)) H :=
    start_rel (st := stX (.scr ns.length)) (.cons (.loc (by show 0 < 1; decide) rfl) .nil) (by rw [h1]; rfl) ok.ns
  have G' : XG W ⟨cxOf (L2.CX W.P W.w) W.P W.w W.K W.mg W.base d.N d.qual d.scope (W.ad f) d.cdv callerA [] s H (fun _ _ _ => False), ⟨[], fun _ _ => False⟩, fun _ _ _ _ => False⟩ (d.cc W u) k := {
    P := rfl
    w := rfl
    K := rfl
    mg := rfl
    base := rfl
    N := rfl
    nd := ok.S.nd
    calm := rfl
    room := hr'
    tk := takes_of rfl rfl rfl rfl
    vis := fun x h => h
    gb := fun x h => h
    cap := fun x h => h
    loc := fun x h => ⟨h, .inl rfl⟩
    gl := rfl
    cl := rfl
    at_ := rfl
    gu := rfl
    lam := fun h => ok.lam (by
      have h : (!u.cells.isEmpty) = true := h
      simpa using h) }
  refine ⟨_, B f u d _ ⟨[], fun _ _ => False⟩ (fun _ _ _ => False) hf ok G' ⟨rfl, fun _ => rfl, passes_of rfl, rfl, rfl, rfl⟩, _, stX (.scr ns.length), fun _ => (some a, 0), L0, S1, ?_⟩
  rw [h1]
  obtain ⟨st', e⟩ := okLaw_ok run
  show PostS W _ 1 (fun _ => (some a, 0)) H _ ((evs W.G m k).ss u.body (some (.loc 0) :: List.replicate (u.ns - 1) none) [] (stX (.scr ns.length)))
  rw [e]
  intro ρ' H' σ' v _ _ rv
  cases rv
  rfl
theorem noList_ok {K : PySem.W.Frag} (h : noList K = true) {a : Addr} {o : Obj} (e : K.lookup a = some o) : o.cls ≠ .type "list" := fun z => by
  have q := List.all_eq_true.mp h (a, o) (mem_lookup e)
  have q : (match o.cls with | .type t => !decide (t = "list") | _ => true) = true := q
  rw [z] at q
  simp at q
theorem walk_law {L : Law} {l : PySem.W.OpenLaw} {q : Program} {loose : List Str} {XP : (Str → Option Value) → Heap → Prop} {YP : World → Heap → Prop} {d : DefRec} {G1 GC GB : Gb} {fr fd ff m k0 t1 : Nat} {u : Fun} {ws : List D} {li m' k : Nat} {ul : Fun}
    (hn : l.most = some 63) (hdf : d.params.defaults = []) (hp : l.prog = L.P) (hY : ∀ w h, YP w h → ∃ K, SaysX L G1 h K) (T1 : L.Text G1) (TC : L.Text GC) (TB : L.Text GB) (hisc : okIsC L = true) (hx1 : exkOk L = true) (hx2 : (L.exk.all fun p => exS L.P (fldOf L p.1) (initStm L p.1)) = true)
    (R : LawG GC GB fr fd ff m k0 t1 u ws) (hli : L.gl.lookup d.name = some li) (htl : GC.tab[li]? = some (.fn ul)) (h1 : ul.np = 1) (h2 : ul.cells = []) (hr : Room (2 * k + 1) callerA)
    (run : ∀ n, n ≤ 63 → okLaw ((evs GC m' k).ss ul.body (some (.loc 0) :: List.replicate (ul.ns - 1) none) [] (stX (.scr n))) = true) :
    PySem.W.WalkO q loose XP YP l.row.toRowW d [] (fun f vs => PySem.call f vs) := by
  refine Att.attach_callB hn hdf fun w s₀ s₁ mg mb fa o pm cd doc a vs ns G Y ho hd hcd hmg hobj hints hlen hbits hg => ?_
  obtain ⟨K, c⟩ := hY w _ Y
  have gf := gf_ok (w := w) (gg := 0) (base := s₁.heap) TC c.d c.X G.T.g
  have hfa : mg d.name = some (.ref (adN L K li)) := (gf.fn d.name li ul hli htl).1
  rw [hmg] at hfa
  cases hfa
  have nK : K.lookup a = none := by
    cases e : K.lookup a with
    | none => rfl
    | some ob =>
      have z := c.X a ob e
      rw [hobj] at z
      cases z
      have zz := noList_ok c.nol e
      exact absurd rfl zz
  have hd' : ∀ e ∈ L.lams, _ := fun e he => hd_ok (List.all_eq_true.mp c.d.lam e he)
  rw [hp]
  refine law_callG (CX := L2.CX L.P w) (cs := L.lams.map fun e => (codeOf K (He.fAd K (L.pt e)), tabOf K (codeOf K (He.fAd K (L.pt e))))) c.X G.T.g G.T.b G.T.builtins G.T.nolimit hg (fun p hp => ?_) (fun p hp => ?_) (fun p hp => ?_) G.T.bmain hobj hints
    (Nat.le_trans hlen (by decide)) nK (fun base H Kb nb TBs H2 ⟨o, H1⟩ e0 => ?_) (fun H e s' h => h.elim fun _ h => h.elim fun _ h => h.elim fun _ h => h.elim fun _ h => h.elim fun _ h => h.2.2.2.2.2.2.2)
  · obtain ⟨e, he, rfl⟩ := List.mem_map.mp hp
    exact c.tab e he
  · obtain ⟨e, he, rfl⟩ := List.mem_map.mp hp
    exact (hd' e he).2.1
  · obtain ⟨e, he, rfl⟩ := List.mem_map.mp hp
    exact (hd' e he).2.2 _ c.X
  · have F : Facts L K mg base := ⟨c.d, fun _ => c.cl, c.two, hisc, c.exn, ⟨hx1, hx2, c.exk, c.exo⟩, ⟨G1, T1, c.pr⟩, Kb, nb, fun e he => TBs _ (List.mem_map.mpr ⟨e, he, rfl⟩)⟩
    have P := F.law (w := w) TC TB R m' k
    refine law_run (W := L.W GC w K mg base 0) (m := m') P.2 P.1 htl h1 h2 c.X hr e0 (fun p hp => ?_) H1 hlen hbits (run ns.length hlen)
    obtain ⟨e, he, rfl⟩ := List.mem_map.mp hp
    exact H2 _ (List.mem_map.mpr ⟨e, he, rfl⟩)
end MX
end
section
set_option linter.all false
set_option maxRecDepth 100000
namespace MX
open PySem
def q (s : String) (n : Nat) : Str × Nat := (Str.ofString s, n)
abbrev P86 := PySem.Challenge.pw_makesmore_k86_errors_of_wages_and_passin
def gl : List (Str × Nat) := [q "MakeError" 0, q "InvalidFraction" 1, q "InvalidRow" 2, q "InvalidTable" 3, q "InvalidOperation" 4, q "InvalidCount" 5, q "Refused" 6, q "NOUGHT" 7, q "ONE" 8, q "MAX_COUNT" 9, q "is_integer" 10, q "common_divisor" 11, q "is_number" 12, q "reduced" 13, q "require_count" 14, q "added" 15, q "multiplied" 16, q "opposite" 17, q "divided" 18, q "is_plain_row" 19, q "is_plain_table" 20, q "first_index" 21, q "rest_row" 22, q "unit_row" 23, q "unit_table" 24, q "is_rest" 25, q "sum_of_rows" 26, q "times_row" 27, q "less_times" 28, q "difference_of" 29, q "product_of" 30, q "led_row" 31, q "led_told" 32, q "columns_of" 33, q "table_behind" 34, q "rest_by" 35, q "sums_of" 36, q "solved_by" 37, q "BAR" 38, q "FALLS" 39, q "LEAST" 40, q "common_multiple" 41, q "whole" 42, q "Board" 43, q "solve" 44, q "MIX" 45, q "WORTHS_sides" 46, q "are_from_nought" 47, q "are_above_nought" 48, q "does_reach" 49, q "is_plain_mix" 50, q "mix_of" 51, q "is_paper_shape" 52, q "lean_of" 53, q "require_rate" 54, q "require_amounts" 55, q "MAX_WIDTH" 56, q "is_plain_uses" 57, q "require_uses" 58, q "part_of" 59, q "are_indices" 60, q "WORTHS_makes" 61, q "AMOUNTS" 62, q "gap_of" 63, q "pivots_of" 64, q "does_make" 65, q "makes_of" 66, q "require_makes" 67, q "are_worths" 68, q "are_amounts" 69, q "is_makes_of" 70, q "require_work" 71, q "require_paid" 72, q "values_of" 73, q "paid_of" 74, q "paid_table" 75, q "worth_of_basket" 76, q "surplus" 77, q "wage_bound" 78, q "can_pay" 79, q "pay_paper" 80, q "is_pay_paper" 81, q "pay_for" 82, q "require_kept" 83, q "passing_of" 84, q "passed_needs" 85, q "require_passing" 86, q "folded_of" 87, q "folded" 88, q "folded_work" 89, q "_law_dice" 90, q "_law_roll" 91, q "_law_pick" 92, q "_law_word" 93, q "_law_right" 94, q "law" 95]
def clsl : List Nat := [0, 1, 2, 3, 4, 5, 6, 43]
def att : List Str := (["given", "reason", "own_unit", "own_price", "own_lack", "fall", "clear", "own_many", "own_wide", "own_bottom", "own_scales", "own_lines", "own_marks", "turned_line", "told", "worths", "leaving", "turn", "step", "is_sooner"] : List String).map Str.ofString
def ens : List En := [
  .cl 1 ⟨none, [], none, [0]⟩,
  .cl 2 ⟨none, [], none, [1, 0]⟩,
  .cl 3 ⟨none, [], none, [2, 0]⟩,
  .cl 4 ⟨none, [], none, [3, 0]⟩,
  .cl 5 ⟨none, [], none, [4, 0]⟩,
  .cl 6 ⟨none, [], (some 0), [5]⟩,
  .cl 7 ⟨none, [], (some 1), [6]⟩,
  .va (D.tup [(D.int 0), (D.int 1)]),
  .va (D.tup [(D.int 1), (D.int 1)]),
  .va (D.int 60),
  .fn 12 ["value"] [],
  .fn 13 ["one", "other"] [],
  .fn 14 ["value", "one"] [],
  .fn 15 ["top", "bottom", "divisor"] [],
  .fn 16 ["value", "least", "most"] [] [.int 0, .int 60],
  .fn 17 ["one", "other"] [],
  .fn 18 ["one", "other"] [],
  .fn 19 ["one"] [],
  .fn 20 ["one", "other"] [],
  .fn 22 ["width", "value", "one"] [],
  .fn 23 ["height", "width", "value", "row"] [],
  .fn 24 ["row", "index", "one"] [],
  .fn 25 ["width"] [],
  .fn 26 ["width", "index", "place"] [],
  .fn 27 ["width", "index"] [],
  .fn 28 ["row"] [],
  .fn 29 ["one", "other", "left", "right"] [],
  .fn 30 ["number", "row", "one"] [],
  .fn 31 ["row", "number", "other"] [],
  .fn 32 ["one", "other"] [],
  .fn 33 ["one", "other", "found", "left", "right"] [],
  .fn 34 ["table", "row", "line"] [],
  .fn 35 ["width", "table", "told", "found", "number", "line"] [],
  .fn 36 ["table", "width", "line", "index"] [],
  .fn 37 ["one", "other", "width", "line"] [],
  .fn 38 ["lot", "row", "other", "number"] [],
  .fn 39 ["width", "rows", "row", "many", "lot", "place", "line", "left", "index", "one"] [],
  .fn 40 ["table", "width", "wish"] [],
  .va (D.str [98, 97, 114]),
  .va (D.str [102, 97, 108, 108, 115]),
  .va (D.str [108, 101, 97, 115, 116]),
  .fn 45 ["numbers", "found", "one"] [],
  .fn 46 ["number", "scale"] [],
  .cl 47 ⟨(some 96), [(13, 97), (17, 98), (16, 99), (19, 100), (5, 101), (6, 102), (14, 103), (18, 104), (15, 105)], none, [43]⟩,
  .fn 48 ["table", "wish", "price", "board", "index"] [],
  .va (D.str [109, 105, 120]),
  .va (D.str [119, 111, 114, 116, 104, 115]),
  .fn 52 ["row", "number"] [],
  .fn 53 ["row", "number"] [],
  .fn 54 ["one", "other"] [],
  .fn 55 ["width", "value"] [],
  .fn 56 ["table", "wish", "paper"] [],
  .fn 57 ["value"] [],
  .fn 58 ["table", "width", "paper", "row"] [],
  .fn 60 ["rate"] [],
  .fn 61 ["width", "row"] [],
  .va (D.int 12),
  .fn 64 ["width", "value", "row"] [],
  .fn 65 ["width", "table"] [],
  .fn 66 ["table", "indices", "other", "one"] [],
  .fn 67 ["width", "value", "one", "other"] [],
  .va (D.str [119, 111, 114, 116, 104, 115]),
  .va (D.str [97, 109, 111, 117, 110, 116, 115]),
  .fn 71 ["table", "unit", "row"] [],
  .fn 72 ["table", "rows", "found", "index", "lead", "at", "number"] [],
  .fn 73 ["table"] [],
  .fn 74 ["table", "width", "paper", "row", "unit"] [],
  .fn 75 ["table"] [],
  .fn 76 ["width", "table", "row"] [],
  .fn 77 ["width", "table", "row"] [],
  .fn 78 ["width", "table", "value"] [],
  .fn 80 ["width", "work"] [],
  .fn 81 ["width", "table", "work", "basket"] [],
  .fn 82 ["table", "work"] [],
  .fn 83 ["table", "work", "basket", "row", "one"] [],
  .fn 84 ["width", "table", "work", "basket"] [],
  .fn 85 ["table", "work", "basket"] [],
  .fn 86 ["width", "table", "work", "basket"] [],
  .fn 87 ["width", "table", "work", "basket", "worth"] [],
  .fn 88 ["width", "table", "work", "basket", "rate", "row"] [],
  .fn 89 ["width", "table", "work", "basket"] [],
  .fn 90 ["width", "table", "work", "basket", "value"] [],
  .fn 91 ["width", "table", "work", "basket", "demand"] [],
  .fn 92 ["width", "indices"] [],
  .fn 93 ["width", "indices", "index"] [],
  .fn 94 ["table", "indices", "passing", "part", "columns", "at", "one"] [],
  .fn 95 ["table", "indices"] [],
  .fn 96 ["table", "indices", "passing", "many", "own", "beside", "one", "at", "passed", "row", "more"] [],
  .fn 97 ["width", "table", "indices"] [],
  .fn 98 ["width", "table", "work", "indices", "own", "index", "passed", "at"] [],
  .fn 100 ["script", "spot", "cell", "great", "seed"] [],
  .fn 101 ["dice", "total", "found", "one", "two"] [],
  .fn 102 ["dice", "things"] [],
  .fn 103 ["call", "error"] [],
  .fn 104 ["dice", "table", "poor", "one", "nought", "odd", "bad", "work", "basket", "rate", "lot", "first", "ones", "no", "call", "calls", "each", "due"] [1, 2, 4, 5, 6, 7, 8, 9, 10, 12, 14],
  .fn 105 ["script", "one", "nought", "half", "table", "poor", "spot", "dice", "turn"] [],
  .me 47 0 ["self", "table", "wish", "price", "index", "goal", "numbers", "row", "scale", "one", "spare", "place", "line", "lacks", "mark", "two"] [],
  .me 47 1 ["self", "line", "index", "chosen", "lead", "number", "one", "two"] [],
  .me 47 2 ["self", "place", "index", "chosen", "at", "line"] [],
  .me 47 3 ["self", "index", "found", "place", "line"] [],
  .me 47 4 ["self", "place", "other", "index", "one", "two", "left", "right"] [],
  .me 47 5 ["self", "is_lack", "costs", "falling", "index", "place"] [],
  .me 47 6 ["self", "place", "mark", "line", "index", "at", "one"] [],
  .me 47 7 ["self", "found", "mark", "line"] [],
  .me 47 8 ["self", "index", "found", "mark", "line"] [],
  .me 47 9 ["self", "costs", "unit", "spare", "one", "scale"] []]

end MX
end
section
set_option linter.all false
set_option maxRecDepth 1000000
set_option maxHeartbeats 4000000
namespace MX
def tabB86 : List GI :=
[GI.cls { init := none, meths := [], fld := none, ups := [0] },
 GI.cls { init := none, meths := [], fld := none, ups := [1, 0] },
 GI.cls { init := none, meths := [], fld := none, ups := [2, 0] },
 GI.cls { init := none, meths := [], fld := none, ups := [3, 0] },
 GI.cls { init := none, meths := [], fld := none, ups := [4, 0] },
 GI.cls { init := none, meths := [], fld := some 0, ups := [5] },
 GI.cls { init := none, meths := [], fld := some 1, ups := [6] },
 GI.val (D.tup [D.int 0, D.int 1]),
 GI.val (D.tup [D.int 1, D.int 1]),
 GI.val (D.int 60),
 GI.fn
   { np := 1,
     ns := 1,
     cells := [],
     body := [S.ret (E.and (E.isi (E.var 0) (BT.int)) (E.not (E.isi (E.var 0) (BT.bool))))],
     dfl := [],
     kd := Kd.pl },
 GI.fn
   { np := 2,
     ns := 2,
     cells := [],
     body := [S.tup
                [Tg.nm 0, Tg.nm 1]
                (E.tup [E.bi (BF.abs) [E.var 0], E.bi (BF.abs) [E.var 1]]),
              S.whl
                (E.cmp (Cm.gt) (E.var 1) (E.int 0))
                [S.tup
                   [Tg.nm 0, Tg.nm 1]
                   (E.tup [E.var 1, E.op (Op2.mod) (E.var 0) (E.var 1)])],
              S.ret (E.var 0)],
     dfl := [],
     kd := Kd.pl },
 GI.fn
   { np := 1,
     ns := 2,
     cells := [],
     body := [S.ifs
                (E.or
                  (E.not (E.isi (E.var 0) (BT.tuple)))
                  (E.or
                    (E.cmp (Cm.ne) (E.bi (BF.len) [E.var 0]) (E.int 2))
                    (E.not
                      (E.bi (BF.all) [E.lc (E.call 10 [E.var 1]) (T.nm 1) (E.var 0) [] [1]]))))
                [S.ret (E.bl false)]
                [],
              S.ret
                (E.and
                  (E.cmp (Cm.ge) (E.sub (E.var 0) (E.int 1)) (E.int 1))
                  (E.cmp
                    (Cm.eq)
                    (E.call 11 [E.sub (E.var 0) (E.int 0), E.sub (E.var 0) (E.int 1)])
                    (E.int 1)))],
     dfl := [],
     kd := Kd.pl },
 GI.fn
   { np := 2,
     ns := 3,
     cells := [],
     body := [S.ifs
                (E.cmp (Cm.lt) (E.var 1) (E.int 0))
                [S.tup
                   [Tg.nm 0, Tg.nm 1]
                   (E.tup
                     [E.op (Op2.sub) (E.int 0) (E.var 0), E.op (Op2.sub) (E.int 0) (E.var 1)])]
                [],
              S.set (Tg.nm 2) (E.call 11 [E.var 0, E.var 1]),
              S.ret
                (E.tup
                  [E.op (Op2.fdiv) (E.var 0) (E.var 2), E.op (Op2.fdiv) (E.var 1) (E.var 2)])],
     dfl := [],
     kd := Kd.pl },
 GI.fn
   { np := 3,
     ns := 3,
     cells := [],
     body := [S.ifs
                (E.or
                  (E.not (E.call 10 [E.var 0]))
                  (E.not (E.chain (Cm.le) (Cm.le) (E.var 1) (E.var 0) (E.var 2))))
                [S.raiA 5 (E.var 0)]
                []],
     dfl := [D.int 0, D.int 60],
     kd := Kd.pl },
 GI.fn
   { np := 2,
     ns := 2,
     cells := [],
     body := [S.ifs
                (E.chain
                  (Cm.eq)
                  (Cm.eq)
                  (E.sub (E.var 0) (E.int 1))
                  (E.sub (E.var 1) (E.int 1))
                  (E.int 1))
                [S.ret
                   (E.tup
                     [E.op (Op2.add) (E.sub (E.var 0) (E.int 0)) (E.sub (E.var 1) (E.int 0)),
                      E.int 1])]
                [],
              S.ret
                (E.call
                  13
                  [E.op
                     (Op2.add)
                     (E.op (Op2.mul) (E.sub (E.var 0) (E.int 0)) (E.sub (E.var 1) (E.int 1)))
                     (E.op (Op2.mul) (E.sub (E.var 1) (E.int 0)) (E.sub (E.var 0) (E.int 1))),
                   E.op (Op2.mul) (E.sub (E.var 0) (E.int 1)) (E.sub (E.var 1) (E.int 1))])],
     dfl := [],
     kd := Kd.pl },
 GI.fn
   { np := 2,
     ns := 2,
     cells := [],
     body := [S.ifs
                (E.chain
                  (Cm.eq)
                  (Cm.eq)
                  (E.sub (E.var 0) (E.int 1))
                  (E.sub (E.var 1) (E.int 1))
                  (E.int 1))
                [S.ret
                   (E.tup
                     [E.op (Op2.mul) (E.sub (E.var 0) (E.int 0)) (E.sub (E.var 1) (E.int 0)),
                      E.int 1])]
                [],
              S.ret
                (E.call
                  13
                  [E.op (Op2.mul) (E.sub (E.var 0) (E.int 0)) (E.sub (E.var 1) (E.int 0)),
                   E.op (Op2.mul) (E.sub (E.var 0) (E.int 1)) (E.sub (E.var 1) (E.int 1))])],
     dfl := [],
     kd := Kd.pl },
 GI.fn
   { np := 1,
     ns := 1,
     cells := [],
     body := [S.ret
                (E.tup
                  [E.op (Op2.sub) (E.int 0) (E.sub (E.var 0) (E.int 0)),
                   E.sub (E.var 0) (E.int 1)])],
     dfl := [],
     kd := Kd.pl },
 GI.fn
   { np := 2,
     ns := 2,
     cells := [],
     body := [S.ret
                (E.call
                  13
                  [E.op (Op2.mul) (E.sub (E.var 0) (E.int 0)) (E.sub (E.var 1) (E.int 1)),
                   E.op (Op2.mul) (E.sub (E.var 0) (E.int 1)) (E.sub (E.var 1) (E.int 0))])],
     dfl := [],
     kd := Kd.pl },
 GI.fn
   { np := 2,
     ns := 3,
     cells := [],
     body := [S.ret
                (E.and
                  (E.isi (E.var 1) (BT.tuple))
                  (E.and
                    (E.cmp (Cm.eq) (E.bi (BF.len) [E.var 1]) (E.var 0))
                    (E.bi (BF.all) [E.lc (E.call 12 [E.var 2]) (T.nm 2) (E.var 1) [] [2]])))],
     dfl := [],
     kd := Kd.pl },
 GI.fn
   { np := 3,
     ns := 4,
     cells := [],
     body := [S.ret
                (E.and
                  (E.isi (E.var 2) (BT.tuple))
                  (E.and
                    (E.cmp (Cm.eq) (E.bi (BF.len) [E.var 2]) (E.var 0))
                    (E.bi
                      (BF.all)
                      [E.lc (E.call 19 [E.var 1, E.var 3]) (T.nm 3) (E.var 2) [] [3]])))],
     dfl := [],
     kd := Kd.pl },
 GI.fn
   { np := 1,
     ns := 3,
     cells := [],
     body := [S.for
                (T.tp [1, 2])
                (E.enu (E.var 0))
                [S.ifs (E.cmp (Cm.ne) (E.var 2) (E.glo 7)) [S.ret (E.var 1)] []],
              S.ret (E.non)],
     dfl := [],
     kd := Kd.pl },
 GI.fn
   { np := 1,
     ns := 1,
     cells := [],
     body := [S.ret (E.op (Op2.mul) (E.tup [E.glo 7]) (E.var 0))],
     dfl := [],
     kd := Kd.pl },
 GI.fn
   { np := 2,
     ns := 3,
     cells := [],
     body := [S.ret
                (E.bi
                  (BF.tuple)
                  [E.lc
                     (E.ite (E.cmp (Cm.eq) (E.var 2) (E.var 1)) (E.glo 8) (E.glo 7))
                     (T.nm 2)
                     (E.rng1 (E.var 0))
                     []
                     [2]])],
     dfl := [],
     kd := Kd.pl },
 GI.fn
   { np := 1,
     ns := 2,
     cells := [],
     body := [S.ret
                (E.bi
                  (BF.tuple)
                  [E.lc (E.call 23 [E.var 0, E.var 1]) (T.nm 1) (E.rng1 (E.var 0)) [] [1]])],
     dfl := [],
     kd := Kd.pl },
 GI.fn
   { np := 1,
     ns := 1,
     cells := [],
     body := [S.ret (E.cmp (Cm.is) (E.call 21 [E.var 0]) (E.non))],
     dfl := [],
     kd := Kd.pl },
 GI.fn
   { np := 2,
     ns := 4,
     cells := [],
     body := [S.ret
                (E.bi
                  (BF.tuple)
                  [E.lc
                     (E.call 15 [E.var 2, E.var 3])
                     (T.tp [2, 3])
                     (E.zip (E.var 0) (E.var 1))
                     []
                     [2, 3]])],
     dfl := [],
     kd := Kd.pl },
 GI.fn
   { np := 2,
     ns := 3,
     cells := [],
     body := [S.ret
                (E.bi
                  (BF.tuple)
                  [E.lc
                     (E.ite
                       (E.cmp (Cm.ne) (E.var 2) (E.glo 7))
                       (E.call 16 [E.var 0, E.var 2])
                       (E.glo 7))
                     (T.nm 2)
                     (E.var 1)
                     []
                     [2]])],
     dfl := [],
     kd := Kd.pl },
 GI.fn
   { np := 3,
     ns := 3,
     cells := [],
     body := [S.ret (E.call 26 [E.var 0, E.call 27 [E.call 17 [E.var 1], E.var 2]])],
     dfl := [],
     kd := Kd.pl },
 GI.fn
   { np := 2,
     ns := 2,
     cells := [],
     body := [S.ret (E.call 28 [E.var 0, E.glo 8, E.var 1])],
     dfl := [],
     kd := Kd.pl },
 GI.fn
   { np := 2,
     ns := 5,
     cells := [],
     body := [S.set (Tg.nm 2) (E.glo 7),
              S.for
                (T.tp [3, 4])
                (E.zip (E.var 0) (E.var 1))
                [S.ifs
                   (E.and
                     (E.cmp (Cm.ne) (E.var 3) (E.glo 7))
                     (E.cmp (Cm.ne) (E.var 4) (E.glo 7)))
                   [S.set (Tg.nm 2) (E.call 15 [E.var 2, E.call 16 [E.var 3, E.var 4]])]
                   []],
              S.ret (E.var 2)],
     dfl := [],
     kd := Kd.pl },
 GI.fn
   { np := 2,
     ns := 3,
     cells := [],
     body := [S.ret
                (E.bi
                  (BF.tuple)
                  [E.lc (E.call 30 [E.var 1, E.var 2]) (T.nm 2) (E.var 0) [] [2]])],
     dfl := [],
     kd := Kd.pl },
 GI.fn
   { np := 3,
     ns := 6,
     cells := [],
     body := [S.set (Tg.nm 3) (E.call 22 [E.var 0]),
              S.for
                (T.tp [4, 5])
                (E.zip (E.var 2) (E.var 1))
                [S.ifs
                   (E.cmp (Cm.ne) (E.var 4) (E.glo 7))
                   [S.set (Tg.nm 3) (E.call 26 [E.var 3, E.call 27 [E.var 4, E.var 5]])]
                   []],
              S.ret (E.var 3)],
     dfl := [],
     kd := Kd.pl },
 GI.fn
   { np := 2,
     ns := 4,
     cells := [],
     body := [S.ret
                (E.bi
                  (BF.tuple)
                  [E.lc
                     (E.bi
                       (BF.tuple)
                       [E.lc (E.sub (E.var 2) (E.var 3)) (T.nm 2) (E.var 0) [] [2]])
                     (T.nm 3)
                     (E.rng1 (E.var 1))
                     []
                     [3]])],
     dfl := [],
     kd := Kd.pl },
 GI.fn
   { np := 3,
     ns := 4,
     cells := [],
     body := [S.ret
                (E.bi
                  (BF.tuple)
                  [E.lc (E.call 32 [E.var 2, E.var 1, E.var 3]) (T.nm 3) (E.var 0) [] [3]])],
     dfl := [],
     kd := Kd.pl },
 GI.fn
   { np := 2,
     ns := 4,
     cells := [],
     body := [S.for
                (T.nm 2)
                (E.var 0)
                [S.set (Tg.nm 3) (E.sub (E.var 1) (E.call 21 [E.var 2])),
                 S.ifs
                   (E.cmp (Cm.ne) (E.var 3) (E.glo 7))
                   [S.set (Tg.nm 1) (E.call 28 [E.var 1, E.var 3, E.var 2])]
                   []],
              S.ret (E.var 1)],
     dfl := [],
     kd := Kd.pl },
 GI.fn
   { np := 3,
     ns := 10,
     cells := [],
     body := [S.tup [Tg.nm 3, Tg.nm 4] (E.tup [E.bi (BF.len) [E.var 1], E.tup []]),
              S.for
                (T.tp [5, 6])
                (E.enu (E.var 1))
                [S.set
                   (Tg.nm 7)
                   (E.call
                     35
                     [E.var 4, E.op (Op2.add) (E.var 6) (E.call 23 [E.var 3, E.var 5])]),
                 S.set (Tg.nm 8) (E.call 21 [E.var 7]),
                 S.ifs
                   (E.cmp (Cm.lt) (E.var 8) (E.var 0))
                   [S.set
                      (Tg.nm 7)
                      (E.call 27 [E.call 18 [E.glo 8, E.sub (E.var 7) (E.var 8)], E.var 7]),
                    S.set (Tg.nm 4) (E.tup [E.star (E.var 4), E.var 7])]
                   []],
              S.set
                (Tg.nm 7)
                (E.call 35 [E.var 4, E.op (Op2.add) (E.var 2) (E.call 22 [E.var 3])]),
              S.ifs
                (E.not (E.call 25 [E.slc (E.var 7) none (some (E.var 0))]))
                [S.ret (E.non)]
                [],
              S.ret
                (E.bi
                  (BF.tuple)
                  [E.lc
                     (E.call 17 [E.var 9])
                     (T.nm 9)
                     (E.slc (E.var 7) (some (E.var 0)) none)
                     []
                     [9]])],
     dfl := [],
     kd := Kd.pl },
 GI.fn
   { np := 3,
     ns := 3,
     cells := [],
     body := [S.ret
                (E.call 36 [E.bi (BF.len) [E.var 0], E.call 33 [E.var 0, E.var 1], E.var 2])],
     dfl := [],
     kd := Kd.pl },
 GI.val (D.str [98, 97, 114]),
 GI.val (D.str [102, 97, 108, 108, 115]),
 GI.val (D.str [108, 101, 97, 115, 116]),
 GI.fn
   { np := 1,
     ns := 3,
     cells := [],
     body := [S.set (Tg.nm 1) (E.int 1),
              S.for
                (T.nm 2)
                (E.var 0)
                [S.set
                   (Tg.nm 1)
                   (E.op
                     (Op2.mul)
                     (E.op (Op2.fdiv) (E.var 1) (E.call 11 [E.var 1, E.var 2]))
                     (E.var 2))],
              S.ret (E.var 1)],
     dfl := [],
     kd := Kd.pl },
 GI.fn
   { np := 2,
     ns := 2,
     cells := [],
     body := [S.ret
                (E.op
                  (Op2.mul)
                  (E.sub (E.var 0) (E.int 0))
                  (E.op (Op2.fdiv) (E.var 1) (E.sub (E.var 0) (E.int 1))))],
     dfl := [],
     kd := Kd.pl },
 GI.cls
   { init := some 96,
     meths := [(13, 97), (17, 98), (16, 99), (19, 100), (5, 101), (6, 102), (14, 103), (18, 104), (15, 105)],
     fld := none,
     ups := [43] },
 GI.fn
   { np := 3,
     ns := 5,
     cells := [],
     body := [S.set (Tg.nm 3) (E.mk 43 [E.var 0, E.var 1, E.var 2]),
              S.exp (E.meth (E.var 3) 5 [E.bl true]),
              S.ifs
                (E.cmp (Cm.ne) (E.sub (E.attr (E.var 3) 4) (E.neg (E.int 1))) (E.int 0))
                [S.ret (E.tup [E.glo 38, E.meth (E.var 3) 15 [E.attr (E.var 3) 4, E.int 1]])]
                [],
              S.exp (E.meth (E.var 3) 6 []),
              S.set (Tg.nm 4) (E.meth (E.var 3) 5 [E.bl false]),
              S.ifs
                (E.cmp (Cm.isn) (E.var 4) (E.non))
                [S.ret
                   (E.tup [E.glo 39, E.meth (E.var 3) 14 [], E.meth (E.var 3) 18 [E.var 4]])]
                [],
              S.ret
                (E.tup
                  [E.glo 40,
                   E.meth (E.var 3) 14 [],
                   E.meth (E.var 3) 15 [E.attr (E.var 3) 3, E.attr (E.var 3) 2]])],
     dfl := [],
     kd := Kd.pl },
 GI.val (D.str [109, 105, 120]),
 GI.val (D.str [119, 111, 114, 116, 104, 115]),
 GI.fn
   { np := 1,
     ns := 2,
     cells := [],
     body := [S.ret
                (E.bi
                  (BF.all)
                  [E.lc
                     (E.cmp (Cm.ge) (E.sub (E.var 1) (E.int 0)) (E.int 0))
                     (T.nm 1)
                     (E.var 0)
                     []
                     [1]])],
     dfl := [],
     kd := Kd.pl },
 GI.fn
   { np := 1,
     ns := 2,
     cells := [],
     body := [S.ret
                (E.bi
                  (BF.all)
                  [E.lc
                     (E.cmp (Cm.gt) (E.sub (E.var 1) (E.int 0)) (E.int 0))
                     (T.nm 1)
                     (E.var 0)
                     []
                     [1]])],
     dfl := [],
     kd := Kd.pl },
 GI.fn
   { np := 2,
     ns := 2,
     cells := [],
     body := [S.ret (E.call 47 [E.call 29 [E.var 0, E.var 1]])],
     dfl := [],
     kd := Kd.pl },
 GI.fn
   { np := 2,
     ns := 2,
     cells := [],
     body := [S.ret (E.and (E.call 19 [E.var 0, E.var 1]) (E.call 47 [E.var 1]))],
     dfl := [],
     kd := Kd.pl },
 GI.fn
   { np := 2,
     ns := 3,
     cells := [],
     body := [S.set
                (Tg.nm 2)
                (E.call 44 [E.var 0, E.var 1, E.call 22 [E.bi (BF.len) [E.var 0]]]),
              S.ret
                (E.ite
                  (E.cmp (Cm.eq) (E.sub (E.var 2) (E.int 0)) (E.glo 38))
                  (E.var 2)
                  (E.tup [E.glo 45, E.sub (E.var 2) (E.int 1)]))],
     dfl := [],
     kd := Kd.pl },
 GI.fn
   { np := 1,
     ns := 1,
     cells := [],
     body := [S.ret
                (E.and
                  (E.isi (E.var 0) (BT.tuple))
                  (E.and
                    (E.cmp (Cm.eq) (E.bi (BF.len) [E.var 0]) (E.int 2))
                    (E.isi (E.sub (E.var 0) (E.int 0)) (BT.str))))],
     dfl := [],
     kd := Kd.pl },
 GI.fn
   { np := 2,
     ns := 4,
     cells := [],
     body := [S.set
                (Tg.nm 2)
                (E.call
                  51
                  [E.bi
                     (BF.tuple)
                     [E.lc
                        (E.op (Op2.add) (E.var 3) (E.tup [E.glo 8]))
                        (T.nm 3)
                        (E.var 0)
                        []
                        [3]],
                   E.op (Op2.add) (E.call 22 [E.var 1]) (E.tup [E.glo 8])]),
              S.ifs
                (E.cmp (Cm.eq) (E.sub (E.var 2) (E.int 0)) (E.glo 45))
                [S.ret (E.var 2)]
                [],
              S.ret
                (E.tup [E.glo 46, E.slc (E.sub (E.var 2) (E.int 1)) none (some (E.var 1))])],
     dfl := [],
     kd := Kd.pl },
 GI.fn
   { np := 1,
     ns := 1,
     cells := [],
     body := [S.ifs
                (E.or
                  (E.not (E.call 12 [E.var 0]))
                  (E.cmp (Cm.lt) (E.sub (E.var 0) (E.int 0)) (E.int 0)))
                [S.rai 1]
                []],
     dfl := [],
     kd := Kd.pl },
 GI.fn
   { np := 2,
     ns := 2,
     cells := [],
     body := [S.ifs (E.not (E.call 50 [E.var 0, E.var 1])) [S.rai 2] []],
     dfl := [],
     kd := Kd.pl },
 GI.val (D.int 12),
 GI.fn
   { np := 2,
     ns := 3,
     cells := [],
     body := [S.ret
                (E.and
                  (E.call 20 [E.var 0, E.var 0, E.var 1])
                  (E.bi (BF.all) [E.lc (E.call 47 [E.var 2]) (T.nm 2) (E.var 1) [] [2]]))],
     dfl := [],
     kd := Kd.pl },
 GI.fn
   { np := 2,
     ns := 2,
     cells := [],
     body := [S.exp (E.call 14 [E.var 0, E.int 1, E.glo 56]),
              S.ifs (E.not (E.call 57 [E.var 0, E.var 1])) [S.rai 3] []],
     dfl := [],
     kd := Kd.pl },
 GI.fn
   { np := 2,
     ns := 4,
     cells := [],
     body := [S.ret
                (E.bi
                  (BF.tuple)
                  [E.lc
                     (E.bi
                       (BF.tuple)
                       [E.lc
                          (E.sub (E.sub (E.var 0) (E.var 3)) (E.var 2))
                          (T.nm 2)
                          (E.var 1)
                          []
                          [2]])
                     (T.nm 3)
                     (E.var 1)
                     []
                     [3]])],
     dfl := [],
     kd := Kd.pl },
 GI.fn
   { np := 2,
     ns := 4,
     cells := [],
     body := [S.ifs
                (E.or
                  (E.not (E.isi (E.var 1) (BT.tuple)))
                  (E.or
                    (E.cmp (Cm.eq) (E.var 1) (E.tup []))
                    (E.not
                      (E.bi
                        (BF.all)
                        [E.lc
                           (E.and
                             (E.call 10 [E.var 2])
                             (E.chain (Cm.le) (Cm.lt) (E.int 0) (E.var 2) (E.var 0)))
                           (T.nm 2)
                           (E.var 1)
                           []
                           [2]]))))
                [S.ret (E.bl false)]
                [],
              S.ret
                (E.bi
                  (BF.all)
                  [E.lc
                     (E.cmp (Cm.lt) (E.var 2) (E.var 3))
                     (T.tp [2, 3])
                     (E.zip (E.var 1) (E.slc (E.var 1) (some (E.int 1)) none))
                     []
                     [2, 3]])],
     dfl := [],
     kd := Kd.pl },
 GI.val (D.str [119, 111, 114, 116, 104, 115]),
 GI.val (D.str [97, 109, 111, 117, 110, 116, 115]),
 GI.fn
   { np := 1,
     ns := 3,
     cells := [],
     body := [S.ret
                (E.bi
                  (BF.tuple)
                  [E.lc
                     (E.call 29 [E.var 1, E.var 2])
                     (T.tp [1, 2])
                     (E.zip (E.call 24 [E.bi (BF.len) [E.var 0]]) (E.var 0))
                     []
                     [1, 2]])],
     dfl := [],
     kd := Kd.pl },
 GI.fn
   { np := 1,
     ns := 7,
     cells := [],
     body := [S.tup
                [Tg.nm 1, Tg.nm 2]
                (E.tup [E.bi (BF.list) [E.call 63 [E.var 0]], E.lst []]),
              S.for
                (T.nm 3)
                (E.rng1 (E.bi (BF.len) [E.var 0]))
                [S.set (Tg.nm 4) (E.sub (E.sub (E.var 1) (E.var 3)) (E.var 3)),
                 S.exp (E.bm (E.var 2) (BM.append) [E.var 4]),
                 S.ifs
                   (E.cmp (Cm.le) (E.sub (E.var 4) (E.int 0)) (E.int 0))
                   [S.ret (E.var 2)]
                   [],
                 S.for
                   (T.nm 5)
                   (E.rng2 (E.op (Op2.add) (E.var 3) (E.int 1)) (E.bi (BF.len) [E.var 0]))
                   [S.set
                      (Tg.nm 6)
                      (E.call 18 [E.sub (E.sub (E.var 1) (E.var 5)) (E.var 3), E.var 4]),
                    S.ifs
                      (E.cmp (Cm.ne) (E.sub (E.var 6) (E.int 0)) (E.int 0))
                      [S.set
                         (Tg.ix (E.var 1) (E.var 5))
                         (E.call
                           28
                           [E.sub (E.var 1) (E.var 5), E.var 6, E.sub (E.var 1) (E.var 3)])]
                      []]],
              S.ret (E.var 2)],
     dfl := [],
     kd := Kd.pl },
 GI.fn
   { np := 1,
     ns := 1,
     cells := [],
     body := [S.ret
                (E.ite
                  (E.cmp (Cm.ne) (E.var 0) (E.tup []))
                  (E.cmp
                    (Cm.gt)
                    (E.sub (E.sub (E.call 64 [E.var 0]) (E.neg (E.int 1))) (E.int 0))
                    (E.int 0))
                  (E.bl true))],
     dfl := [],
     kd := Kd.pl },
 GI.fn
   { np := 1,
     ns := 5,
     cells := [],
     body := [S.set (Tg.nm 1) (E.bi (BF.len) [E.var 0]),
              S.set
                (Tg.nm 2)
                (E.call
                  53
                  [E.bi
                     (BF.tuple)
                     [E.lc
                        (E.call 29 [E.var 3, E.var 4])
                        (T.tp [3, 4])
                        (E.zip (E.var 0) (E.call 24 [E.var 1]))
                        []
                        [3, 4]],
                   E.var 1]),
              S.ret
                (E.tup
                  [E.ite
                     (E.cmp (Cm.eq) (E.sub (E.var 2) (E.int 0)) (E.glo 61))
                     (E.glo 61)
                     (E.glo 62),
                   E.sub (E.var 2) (E.int 1)])],
     dfl := [],
     kd := Kd.pl },
 GI.fn
   { np := 1,
     ns := 1,
     cells := [],
     body := [S.ifs (E.not (E.call 65 [E.var 0])) [S.raiA 6 (E.tup [E.glo 62])] []],
     dfl := [],
     kd := Kd.pl },
 GI.fn
   { np := 3,
     ns := 3,
     cells := [],
     body := [S.ifs
                (E.or (E.not (E.call 50 [E.var 0, E.var 2])) (E.not (E.call 48 [E.var 2])))
                [S.ret (E.bl false)]
                [],
              S.ret (E.call 48 [E.call 29 [E.var 2, E.call 31 [E.var 1, E.var 2]]])],
     dfl := [],
     kd := Kd.pl },
 GI.fn
   { np := 3,
     ns := 3,
     cells := [],
     body := [S.ifs
                (E.or (E.not (E.call 50 [E.var 0, E.var 2])) (E.call 25 [E.var 2]))
                [S.ret (E.bl false)]
                [],
              S.ret (E.call 49 [E.call 32 [E.var 0, E.var 1, E.var 2], E.var 2])],
     dfl := [],
     kd := Kd.pl },
 GI.fn
   { np := 3,
     ns := 3,
     cells := [],
     body := [S.ifs (E.not (E.call 52 [E.var 2])) [S.ret (E.bl false)] [],
              S.ifs
                (E.cmp (Cm.eq) (E.sub (E.var 2) (E.int 0)) (E.glo 61))
                [S.ret (E.call 68 [E.var 0, E.var 1, E.sub (E.var 2) (E.int 1)])]
                [],
              S.ret
                (E.and
                  (E.cmp (Cm.eq) (E.sub (E.var 2) (E.int 0)) (E.glo 62))
                  (E.call 69 [E.var 0, E.var 1, E.sub (E.var 2) (E.int 1)]))],
     dfl := [],
     kd := Kd.pl },
 GI.fn
   { np := 2,
     ns := 2,
     cells := [],
     body := [S.ifs
                (E.or (E.not (E.call 19 [E.var 0, E.var 1])) (E.not (E.call 48 [E.var 1])))
                [S.rai 2]
                []],
     dfl := [],
     kd := Kd.pl },
 GI.fn
   { np := 4,
     ns := 4,
     cells := [],
     body := [S.exp (E.call 58 [E.var 0, E.var 1]),
              S.exp (E.call 71 [E.var 0, E.var 2]),
              S.exp (E.call 55 [E.var 0, E.var 3])],
     dfl := [],
     kd := Kd.pl },
 GI.fn
   { np := 2,
     ns := 2,
     cells := [],
     body := [S.ret (E.call 37 [E.call 63 [E.var 0], E.bi (BF.len) [E.var 0], E.var 1])],
     dfl := [],
     kd := Kd.pl },
 GI.fn
   { np := 3,
     ns := 5,
     cells := [],
     body := [S.ret
                (E.bi
                  (BF.tuple)
                  [E.lc
                     (E.call 26 [E.var 3, E.call 27 [E.var 4, E.var 2]])
                     (T.tp [3, 4])
                     (E.zip (E.var 0) (E.var 1))
                     []
                     [3, 4]])],
     dfl := [],
     kd := Kd.pl },
 GI.fn
   { np := 4,
     ns := 4,
     cells := [],
     body := [S.exp (E.call 72 [E.var 0, E.var 1, E.var 2, E.var 3]),
              S.ret (E.call 74 [E.var 1, E.var 2, E.var 3])],
     dfl := [],
     kd := Kd.pl },
 GI.fn
   { np := 3,
     ns := 3,
     cells := [],
     body := [S.ret (E.call 30 [E.var 2, E.call 73 [E.var 0, E.var 1]])],
     dfl := [],
     kd := Kd.pl },
 GI.fn
   { np := 4,
     ns := 4,
     cells := [],
     body := [S.exp (E.call 72 [E.var 0, E.var 1, E.var 2, E.var 3]),
              S.exp (E.call 67 [E.var 1]),
              S.ret (E.call 15 [E.glo 8, E.call 17 [E.call 76 [E.var 1, E.var 2, E.var 3]]])],
     dfl := [],
     kd := Kd.pl },
 GI.fn
   { np := 4,
     ns := 5,
     cells := [],
     body := [S.exp (E.call 72 [E.var 0, E.var 1, E.var 2, E.var 3]),
              S.exp (E.call 67 [E.var 1]),
              S.set (Tg.nm 4) (E.call 76 [E.var 1, E.var 2, E.var 3]),
              S.ret
                (E.ite
                  (E.cmp (Cm.eq) (E.var 4) (E.glo 7))
                  (E.non)
                  (E.call 18 [E.glo 8, E.var 4]))],
     dfl := [],
     kd := Kd.pl },
 GI.fn
   { np := 5,
     ns := 6,
     cells := [],
     body := [S.exp (E.call 72 [E.var 0, E.var 1, E.var 2, E.var 3]),
              S.exp (E.call 54 [E.var 4]),
              S.exp (E.call 67 [E.var 1]),
              S.ret
                (E.call
                  65
                  [E.bi
                     (BF.tuple)
                     [E.lc
                        (E.call 27 [E.call 15 [E.glo 8, E.var 4], E.var 5])
                        (T.nm 5)
                        (E.call 74 [E.var 1, E.var 2, E.var 3])
                        []
                        [5]]])],
     dfl := [],
     kd := Kd.pl },
 GI.fn
   { np := 4,
     ns := 4,
     cells := [],
     body := [S.exp (E.call 72 [E.var 0, E.var 1, E.var 2, E.var 3]),
              S.exp (E.call 67 [E.var 1]),
              S.ret (E.call 66 [E.call 74 [E.var 1, E.var 2, E.var 3]])],
     dfl := [],
     kd := Kd.pl },
 GI.fn
   { np := 5,
     ns := 5,
     cells := [],
     body := [S.exp (E.call 72 [E.var 0, E.var 1, E.var 2, E.var 3]),
              S.exp (E.call 67 [E.var 1]),
              S.ret (E.call 70 [E.var 0, E.call 74 [E.var 1, E.var 2, E.var 3], E.var 4])],
     dfl := [],
     kd := Kd.pl },
 GI.fn
   { np := 5,
     ns := 5,
     cells := [],
     body := [S.exp (E.call 72 [E.var 0, E.var 1, E.var 2, E.var 3]),
              S.exp (E.call 55 [E.var 0, E.var 4]),
              S.exp (E.call 67 [E.var 1]),
              S.ret (E.call 27 [E.call 30 [E.var 4, E.call 73 [E.var 1, E.var 2]], E.var 3])],
     dfl := [],
     kd := Kd.pl },
 GI.fn
   { np := 2,
     ns := 2,
     cells := [],
     body := [S.ifs (E.not (E.call 60 [E.var 0, E.var 1])) [S.rai 4] []],
     dfl := [],
     kd := Kd.pl },
 GI.fn
   { np := 2,
     ns := 3,
     cells := [],
     body := [S.ret
                (E.bi
                  (BF.tuple)
                  [E.lc
                     (E.var 2)
                     (T.nm 2)
                     (E.rng1 (E.var 0))
                     [E.cmp (Cm.nin) (E.var 2) (E.var 1)]
                     [2]])],
     dfl := [],
     kd := Kd.pl },
 GI.fn
   { np := 2,
     ns := 7,
     cells := [],
     body := [S.set (Tg.nm 2) (E.call 84 [E.bi (BF.len) [E.var 0], E.var 1]),
              S.set (Tg.nm 3) (E.call 63 [E.call 59 [E.var 0, E.var 2]]),
              S.set (Tg.nm 4) (E.call 33 [E.var 3, E.bi (BF.len) [E.var 2]]),
              S.ret
                (E.bi
                  (BF.tuple)
                  [E.lc
                     (E.call
                       37
                       [E.var 4,
                        E.bi (BF.len) [E.var 2],
                        E.bi
                          (BF.tuple)
                          [E.lc
                             (E.sub (E.sub (E.var 0) (E.var 6)) (E.var 5))
                             (T.nm 5)
                             (E.var 2)
                             []
                             [5]]])
                     (T.nm 6)
                     (E.var 1)
                     []
                     [6]])],
     dfl := [],
     kd := Kd.pl },
 GI.fn
   { np := 2,
     ns := 2,
     cells := [],
     body := [S.exp
                (E.call
                  67
                  [E.call 59 [E.var 0, E.call 84 [E.bi (BF.len) [E.var 0], E.var 1]]])],
     dfl := [],
     kd := Kd.pl },
 GI.fn
   { np := 2,
     ns := 11,
     cells := [],
     body := [S.tup
                [Tg.nm 2, Tg.nm 3]
                (E.tup
                  [E.call 84 [E.bi (BF.len) [E.var 0], E.var 1], E.bi (BF.len) [E.var 1]]),
              S.set (Tg.nm 4) (E.call 59 [E.var 0, E.var 1]),
              S.set
                (Tg.nm 5)
                (E.bi
                  (BF.tuple)
                  [E.lc
                     (E.bi
                       (BF.tuple)
                       [E.lc
                          (E.sub (E.sub (E.var 0) (E.var 7)) (E.var 6))
                          (T.nm 6)
                          (E.var 1)
                          []
                          [6]])
                     (T.nm 7)
                     (E.var 2)
                     []
                     [7]]),
              S.set (Tg.nm 8) (E.call 34 [E.call 85 [E.var 0, E.var 1], E.var 5, E.var 3]),
              S.ret
                (E.bi
                  (BF.tuple)
                  [E.lc
                     (E.call 26 [E.var 9, E.var 10])
                     (T.tp [9, 10])
                     (E.zip (E.var 4) (E.var 8))
                     []
                     [9, 10]])],
     dfl := [],
     kd := Kd.pl },
 GI.fn
   { np := 3,
     ns := 3,
     cells := [],
     body := [S.exp (E.call 58 [E.var 0, E.var 1]),
              S.exp (E.call 83 [E.var 0, E.var 2]),
              S.exp (E.call 86 [E.var 1, E.var 2]),
              S.ret (E.call 87 [E.var 1, E.var 2])],
     dfl := [],
     kd := Kd.pl },
 GI.fn
   { np := 4,
     ns := 8,
     cells := [],
     body := [S.exp (E.call 58 [E.var 0, E.var 1]),
              S.exp (E.call 71 [E.var 0, E.var 2]),
              S.exp (E.call 83 [E.var 0, E.var 3]),
              S.exp (E.call 86 [E.var 1, E.var 3]),
              S.set
                (Tg.nm 4)
                (E.bi (BF.tuple) [E.lc (E.sub (E.var 2) (E.var 5)) (T.nm 5) (E.var 3) [] [5]]),
              S.set
                (Tg.nm 6)
                (E.call
                  31
                  [E.call 85 [E.var 1, E.var 3],
                   E.bi
                     (BF.tuple)
                     [E.lc
                        (E.sub (E.var 2) (E.var 7))
                        (T.nm 7)
                        (E.call 84 [E.var 0, E.var 3])
                        []
                        [7]]]),
              S.ret (E.call 26 [E.var 4, E.var 6])],
     dfl := [],
     kd := Kd.pl },
 GI.fn
   { np := 2,
     ns := 5,
     cells := [],
     body := [S.set
                (Tg.nm 2)
                (E.ite
                  (E.cmp (Cm.lt) (E.var 1) (E.bi (BF.len) [E.var 0]))
                  (E.bi (BF.int) [E.sub (E.var 0) (E.var 1)])
                  (E.op (Op2.add) (E.op (Op2.mul) (E.int 131) (E.var 1)) (E.int 37))),
              S.set
                (Tg.nm 3)
                (E.op
                  (Op2.mod)
                  (E.bi (BF.int) [E.bi (BF.abs) [E.var 2]])
                  (E.op (Op2.pow) (E.op (Op2.pow) (E.int 10) (E.int 53)) (E.int 6))),
              S.set
                (Tg.nm 4)
                (E.op
                  (Op2.add)
                  (E.op
                    (Op2.add)
                    (E.op
                      (Op2.add)
                      (E.op
                        (Op2.mul)
                        (E.op (Op2.mod) (E.var 3) (E.int 2305843009213693907))
                        (E.int 73))
                      (E.op (Op2.mul) (E.int 619) (E.var 1)))
                    (E.op
                      (Op2.mul)
                      (E.int 41)
                      (E.bi (BF.int) [E.cmp (Cm.lt) (E.var 2) (E.int 0)])))
                  (E.int 17)),
              S.ret
                (E.lst
                  [E.bi
                     (BF.max)
                     [E.int 0, E.op (Op2.sub) (E.var 3) (E.op (Op2.pow) (E.int 10) (E.int 16))],
                   E.var 4,
                   E.int 0])],
     dfl := [],
     kd := Kd.pl },
 GI.fn
   { np := 2,
     ns := 5,
     cells := [],
     body := [S.ifs
                (E.cmp (Cm.gt) (E.sub (E.var 0) (E.int 0)) (E.int 0))
                [S.set (Tg.nm 2) (E.op (Op2.mod) (E.sub (E.var 0) (E.int 0)) (E.var 1)),
                 S.set
                   (Tg.ix (E.var 0) (E.int 0))
                   (E.op (Op2.fdiv) (E.sub (E.var 0) (E.int 0)) (E.var 1)),
                 S.ret (E.bi (BF.int) [E.var 2])]
                [],
              S.set
                (Tg.ix (E.var 0) (E.int 2))
                (E.op (Op2.add) (E.sub (E.var 0) (E.int 2)) (E.int 1)),
              S.set
                (Tg.nm 3)
                (E.op
                  (Op2.mod)
                  (E.op
                    (Op2.add)
                    (E.sub (E.var 0) (E.int 1))
                    (E.op (Op2.mul) (E.int 49979687) (E.sub (E.var 0) (E.int 2))))
                  (E.int 2305843009213693951)),
              S.set
                (Tg.nm 4)
                (E.op
                  (Op2.add)
                  (E.op
                    (Op2.mul)
                    (E.op
                      (Op2.mod)
                      (E.op
                        (Op2.add)
                        (E.op (Op2.mul) (E.var 3) (E.var 3))
                        (E.op (Op2.mul) (E.int 131) (E.sub (E.var 0) (E.int 2))))
                      (E.int 2305843009213693921))
                    (E.int 32452843))
                  (E.var 3)),
              S.ret
                (E.op
                  (Op2.mod)
                  (E.bi (BF.int) [E.op (Op2.fdiv) (E.var 4) (E.int 65587)])
                  (E.var 1))],
     dfl := [],
     kd := Kd.ov 0 },
 GI.fn
   { np := 2,
     ns := 2,
     cells := [],
     body := [S.ret (E.sub (E.var 1) (E.call 91 [E.var 0, E.bi (BF.len) [E.var 1]]))],
     dfl := [],
     kd := Kd.pl },
 GI.fn
   { np := 1,
     ns := 2,
     cells := [],
     body := [S.try
                [S.exp (E.callv 0 [])]
                [(3, none, [116, 97, 98, 108, 101]),
                 (2, none, [114, 111, 119]),
                 (1, none, [110, 117, 109, 98, 101, 114]),
                 (4, none, [111, 112, 101, 114, 97, 116, 105, 111, 110]),
                 (5, some (1, 0), [99, 111, 117, 110, 116, 32]),
                 (6, some (1, 1), [114, 101, 102, 117, 115, 101, 100, 32])],
              S.ret (E.str [102, 105, 110, 101])],
     dfl := [],
     kd := Kd.fork },
 GI.fn
   { np := 3,
     ns := 18,
     cells := [1, 2, 4, 5, 6, 7, 8, 9, 10, 12, 14],
     body := [S.tup
                [Tg.nm 3, Tg.nm 4]
                (E.tup [E.tup [E.int 1, E.int 1], E.tup [E.int 0, E.int 1]]),
              S.set
                (Tg.nm 5)
                (E.call
                  92
                  [E.var 0,
                   E.lst
                     [E.non,
                      E.int 0,
                      E.neg (E.int 1),
                      E.int 13,
                      E.bl true,
                      E.str [49],
                      E.op (Op2.pow) (E.int 10) (E.int 20)]]),
              S.set
                (Tg.nm 6)
                (E.call
                  92
                  [E.var 0,
                   E.lst
                     [E.non,
                      E.tup [],
                      E.tup [E.tup [E.var 3]],
                      E.lst [E.tup [E.var 3, E.var 4], E.tup [E.var 4, E.var 3]],
                      E.tup
                        [E.tup [E.var 3, E.var 4],
                         E.tup [E.var 4, E.tup [E.neg (E.int 1), E.int 1]]],
                      E.tup [E.tup [E.var 3, E.var 4], E.tup [E.var 3]],
                      E.str [116, 97, 98, 108, 101],
                      E.tup [E.tup [E.var 3, E.int 1], E.tup [E.var 3, E.var 3]],
                      E.tup [E.var 3, E.var 3]]]),
              S.set
                (Tg.nm 7)
                (E.call
                  92
                  [E.var 0,
                   E.lst
                     [E.non,
                      E.tup [],
                      E.tup [E.var 3],
                      E.lst [E.var 3, E.var 3],
                      E.tup [E.var 3, E.var 4],
                      E.tup [E.var 3, E.tup [E.int 2, E.int 2]],
                      E.tup [E.var 3, E.tup [E.neg (E.int 1), E.int 1]],
                      E.op (Op2.mul) (E.tup [E.var 3]) (E.int 3),
                      E.str [119, 111, 114, 107]]]),
              S.set
                (Tg.nm 8)
                (E.call
                  92
                  [E.var 0,
                   E.lst
                     [E.non,
                      E.tup [],
                      E.tup [E.var 3],
                      E.lst [E.var 3, E.var 3],
                      E.tup [E.var 3, E.int 1],
                      E.tup [E.var 3, E.tup [E.int 2, E.int 2]],
                      E.tup [E.var 3, E.tup [E.neg (E.int 1), E.int 1]],
                      E.op (Op2.mul) (E.tup [E.var 3]) (E.int 3),
                      E.str [114, 111, 119]]]),
              S.set
                (Tg.nm 9)
                (E.call
                  92
                  [E.var 0,
                   E.lst
                     [E.non,
                      E.int 0,
                      E.tup [E.neg (E.int 1), E.int 2],
                      E.tup [E.int 2, E.int 4],
                      E.str [49],
                      E.lst [E.int 1, E.int 1],
                      E.tup [E.int 1, E.int 0],
                      E.bl true]]),
              S.set
                (Tg.nm 10)
                (E.call
                  92
                  [E.var 0,
                   E.lst
                     [E.non,
                      E.tup [],
                      E.lst [E.int 0],
                      E.tup [E.int 1, E.int 0],
                      E.tup [E.int 0, E.int 0],
                      E.tup [E.int 2],
                      E.tup [E.neg (E.int 1)],
                      E.tup [E.bl true],
                      E.tup [E.str [48]],
                      E.int 0,
                      E.tup [E.int 0, E.int 1, E.int 2]]]),
              S.tup
                [Tg.nm 11, Tg.nm 12, Tg.nm 13]
                (E.tup
                  [E.op (Op2.add) (E.str [99, 111, 117, 110, 116, 32]) (E.bi (BF.repr) [E.var 5]),
                   E.tup [E.var 3, E.var 3],
                   E.str
                     [114, 101, 102, 117, 115, 101, 100, 32, 40, 39, 97, 109, 111, 117, 110, 116, 115, 39, 44, 41]]),
              S.for
                (T.nm 14)
                (E.tup
                  [E.glo 77,
                   E.glo 78,
                   E.glo 80,
                   E.lam 4 (E.call 81 [E.var 0, E.var 1, E.var 2, E.var 3, E.non]) []])
                [S.set
                   (Tg.nm 15)
                   (E.lst
                     [E.lam 0 (E.callv 2 [E.var 3, E.var 0, E.var 4, E.var 1]) [6, 8, 14, 5, 7],
                      E.lam 0 (E.callv 2 [E.int 2, E.var 0, E.var 3, E.var 1]) [6, 8, 14, 7],
                      E.lam 0 (E.callv 1 [E.int 2, E.var 2, E.var 3, E.var 0]) [8, 14, 2, 7],
                      E.lam 0 (E.callv 1 [E.int 2, E.var 3, E.var 2, E.var 0]) [8, 14, 12, 2],
                      E.lam 0 (E.callv 0 [E.int 2, E.var 2, E.var 1, E.var 1]) [14, 12, 2],
                      E.lam
                        0
                        (E.callv 0 [E.int 2, E.var 3, E.var 2, E.tup [E.var 1, E.var 1]])
                        [14, 4, 12, 1]]),
                 S.ifs
                   (E.cmp
                     (Cm.ne)
                     (E.lc (E.call 93 [E.var 16]) (T.nm 16) (E.var 15) [] [16])
                     (E.lst
                       [E.var 11,
                        E.str [116, 97, 98, 108, 101],
                        E.str [114, 111, 119],
                        E.str [114, 111, 119],
                        E.var 13,
                        E.str [102, 105, 110, 101]]))
                   [S.ret (E.bl false)]
                   []],
              S.set
                (Tg.nm 15)
                (E.lst
                  [E.lam 0 (E.call 75 [E.var 2, E.var 0, E.var 3, E.var 1]) [6, 8, 5, 7],
                   E.lam 0 (E.call 75 [E.int 2, E.var 0, E.var 2, E.var 1]) [6, 8, 7],
                   E.lam 0 (E.call 75 [E.int 2, E.var 1, E.var 2, E.var 0]) [8, 2, 7],
                   E.lam 0 (E.call 75 [E.int 2, E.var 2, E.var 1, E.var 0]) [8, 12, 2],
                   E.lam 0 (E.call 75 [E.int 2, E.var 1, E.var 0, E.var 0]) [12, 2],
                   E.lam
                     0
                     (E.call 79 [E.var 2, E.var 0, E.var 4, E.var 1, E.var 3])
                     [6, 8, 5, 9, 7],
                   E.lam 0 (E.call 79 [E.int 2, E.var 1, E.var 3, E.var 0, E.var 2]) [8, 2, 9, 7],
                   E.lam 0 (E.call 79 [E.int 2, E.var 2, E.var 1, E.var 0, E.var 3]) [8, 12, 2, 9],
                   E.lam 0 (E.call 79 [E.int 2, E.var 1, E.var 0, E.var 0, E.var 2]) [12, 2, 9],
                   E.lam 0 (E.call 79 [E.int 2, E.var 2, E.var 1, E.var 1, E.var 0]) [4, 12, 2],
                   E.lam 0 (E.call 79 [E.int 2, E.var 2, E.var 1, E.var 1, E.var 0]) [4, 12, 1],
                   E.lam 0 (E.call 82 [E.int 2, E.var 2, E.var 1, E.var 0, E.var 0]) [8, 12, 2],
                   E.lam 0 (E.call 82 [E.int 2, E.var 2, E.var 1, E.var 1, E.var 0]) [8, 12, 2],
                   E.lam 0 (E.call 82 [E.int 2, E.var 1, E.var 0, E.var 0, E.var 0]) [12, 2],
                   E.lam 0 (E.call 82 [E.int 2, E.var 1, E.var 0, E.var 0, E.var 0]) [12, 1]]),
              S.set
                (Tg.nm 17)
                (E.lst
                  [E.var 11,
                   E.str [116, 97, 98, 108, 101],
                   E.str [114, 111, 119],
                   E.str [114, 111, 119],
                   E.str [102, 105, 110, 101],
                   E.var 11,
                   E.str [114, 111, 119],
                   E.str [114, 111, 119],
                   E.str [110, 117, 109, 98, 101, 114],
                   E.var 13,
                   E.str [102, 105, 110, 101],
                   E.str [114, 111, 119],
                   E.str [114, 111, 119],
                   E.var 13,
                   E.str [102, 105, 110, 101]]),
              S.ifs
                (E.cmp
                  (Cm.ne)
                  (E.lc (E.call 93 [E.var 14]) (T.nm 14) (E.var 15) [] [14])
                  (E.var 17))
                [S.ret (E.bl false)]
                [],
              S.set
                (Tg.nm 15)
                (E.lst
                  [E.lam 0 (E.call 88 [E.var 2, E.var 0, E.var 1]) [6, 10, 5],
                   E.lam 0 (E.call 88 [E.int 2, E.var 0, E.var 1]) [6, 10],
                   E.lam 0 (E.call 88 [E.int 2, E.var 1, E.var 0]) [10, 2],
                   E.lam 0 (E.call 88 [E.int 2, E.var 0, E.tup [E.int 1]]) [2],
                   E.lam 0 (E.call 88 [E.int 2, E.var 0, E.tup [E.int 0, E.int 1]]) [2],
                   E.lam 0 (E.call 88 [E.int 2, E.var 0, E.tup [E.int 1]]) [1],
                   E.lam 0 (E.call 89 [E.var 2, E.var 0, E.var 3, E.var 1]) [6, 10, 5, 7],
                   E.lam 0 (E.call 89 [E.int 2, E.var 0, E.var 2, E.var 1]) [6, 10, 7],
                   E.lam 0 (E.call 89 [E.int 2, E.var 1, E.var 2, E.var 0]) [10, 2, 7],
                   E.lam 0 (E.call 89 [E.int 2, E.var 2, E.var 1, E.var 0]) [10, 12, 2],
                   E.lam 0 (E.call 89 [E.int 2, E.var 1, E.var 0, E.tup [E.int 1]]) [12, 2],
                   E.lam
                     0
                     (E.call 89 [E.int 2, E.var 1, E.var 0, E.tup [E.int 0, E.int 1]])
                     [12, 2],
                   E.lam 0 (E.call 89 [E.int 2, E.var 1, E.var 0, E.tup [E.int 0]]) [12, 1]]),
              S.set
                (Tg.nm 17)
                (E.lst
                  [E.var 11,
                   E.str [116, 97, 98, 108, 101],
                   E.str [111, 112, 101, 114, 97, 116, 105, 111, 110],
                   E.var 13,
                   E.str [102, 105, 110, 101],
                   E.str [102, 105, 110, 101],
                   E.var 11,
                   E.str [116, 97, 98, 108, 101],
                   E.str [114, 111, 119],
                   E.str [111, 112, 101, 114, 97, 116, 105, 111, 110],
                   E.var 13,
                   E.str [102, 105, 110, 101],
                   E.str [102, 105, 110, 101]]),
              S.ret
                (E.cmp
                  (Cm.eq)
                  (E.lc (E.call 93 [E.var 14]) (T.nm 14) (E.var 15) [] [14])
                  (E.var 17))],
     dfl := [],
     kd := Kd.pl },
 GI.fn
   { np := 1,
     ns := 9,
     cells := [],
     body := [S.tup
                [Tg.nm 1, Tg.nm 2, Tg.nm 3]
                (E.tup
                  [E.tup [E.int 1, E.int 1],
                   E.tup [E.int 0, E.int 1],
                   E.tup [E.int 1, E.int 2]]),
              S.tup
                [Tg.nm 4, Tg.nm 5]
                (E.tup
                  [E.tup
                     [E.tup [E.var 3, E.var 2], E.tup [E.tup [E.int 1, E.int 4], E.var 3]],
                   E.tup [E.tup [E.var 1, E.var 2], E.tup [E.var 2, E.var 3]]]),
              S.for
                (T.nm 6)
                (E.rng1
                  (E.bi
                    (BF.max)
                    [E.int 1, E.bi (BF.min) [E.int 5, E.bi (BF.len) [E.var 0]]]))
                [S.set (Tg.nm 7) (E.call 90 [E.var 0, E.var 6]),
                 S.for
                   (T.nm 8)
                   (E.rng1 (E.int 4))
                   [S.ifs
                      (E.not (E.call 94 [E.var 7, E.var 4, E.var 5]))
                      [S.ret (E.bl false)]
                      []]],
              S.ret
                (E.cmp
                  (Cm.eq)
                  (E.var 4)
                  (E.tup
                    [E.tup [E.var 3, E.var 2], E.tup [E.tup [E.int 1, E.int 4], E.var 3]]))],
     dfl := [],
     kd := Kd.pl },
 GI.fn
   { np := 4,
     ns := 16,
     cells := [],
     body := [S.tup
                [Tg.at (E.var 0) 7, Tg.at (E.var 0) 8]
                (E.tup
                  [E.bi (BF.len) [E.var 1],
                   E.op (Op2.add) (E.bi (BF.len) [E.var 1]) (E.bi (BF.len) [E.var 2])]),
              S.tup
                [Tg.at (E.var 0) 9, Tg.at (E.var 0) 10, Tg.at (E.var 0) 11, Tg.at (E.var 0) 12]
                (E.tup [E.int 1, E.lst [], E.lst [], E.lst []]),
              S.for
                (T.tp [4, 5])
                (E.enu (E.var 2))
                [S.set (Tg.nm 6) (E.lc (E.sub (E.var 7) (E.var 4)) (T.nm 7) (E.var 1) [] [7]),
                 S.set
                   (Tg.nm 8)
                   (E.call
                     41
                     [E.lc
                        (E.sub (E.var 9) (E.int 1))
                        (T.nm 9)
                        (E.tup [E.star (E.var 6), E.var 5])
                        []
                        [9]]),
                 S.set
                   (Tg.nm 10)
                   (E.lc
                     (E.op
                       (Op2.sub)
                       (E.int 0)
                       (E.bi (BF.int) [E.cmp (Cm.eq) (E.var 11) (E.var 4)]))
                     (T.nm 11)
                     (E.rng1 (E.bi (BF.len) [E.var 2]))
                     []
                     [11]),
                 S.set
                   (Tg.nm 12)
                   (E.op
                     (Op2.add)
                     (E.op
                       (Op2.add)
                       (E.lc (E.call 42 [E.var 9, E.var 8]) (T.nm 9) (E.var 6) [] [9])
                       (E.var 10))
                     (E.lst [E.call 42 [E.var 5, E.var 8]])),
                 S.set
                   (Tg.nm 13)
                   (E.cmp (Cm.gt) (E.sub (E.var 12) (E.neg (E.int 1))) (E.int 0)),
                 S.exp (E.bm (E.attr (E.var 0) 10) (BM.append) [E.var 8]),
                 S.exp
                   (E.bm
                     (E.attr (E.var 0) 11)
                     (BM.append)
                     [E.ite
                        (E.var 13)
                        (E.var 12)
                        (E.lc (E.op (Op2.sub) (E.int 0) (E.var 9)) (T.nm 9) (E.var 12) [] [9])]),
                 S.exp
                   (E.bm
                     (E.attr (E.var 0) 12)
                     (BM.append)
                     [E.ite
                        (E.var 13)
                        (E.op (Op2.add) (E.attr (E.var 0) 8) (E.var 4))
                        (E.op (Op2.add) (E.attr (E.var 0) 7) (E.var 4))])],
              S.set
                (Tg.at (E.var 0) 2)
                (E.call 41 [E.lc (E.sub (E.var 9) (E.int 1)) (T.nm 9) (E.var 3) [] [9]]),
              S.set
                (Tg.at (E.var 0) 3)
                (E.op
                  (Op2.add)
                  (E.lc (E.call 42 [E.var 9, E.attr (E.var 0) 2]) (T.nm 9) (E.var 3) [] [9])
                  (E.op
                    (Op2.mul)
                    (E.lst [E.int 0])
                    (E.op (Op2.add) (E.bi (BF.len) [E.var 2]) (E.int 1)))),
              S.set
                (Tg.at (E.var 0) 4)
                (E.op
                  (Op2.mul)
                  (E.lst [E.int 0])
                  (E.op (Op2.add) (E.attr (E.var 0) 8) (E.int 1))),
              S.for
                (T.tp [12, 14])
                (E.zip (E.attr (E.var 0) 11) (E.attr (E.var 0) 12))
                [S.ifs
                   (E.cmp (Cm.ge) (E.var 14) (E.attr (E.var 0) 8))
                   [S.set
                      (Tg.at (E.var 0) 4)
                      (E.lc
                        (E.op (Op2.sub) (E.var 9) (E.var 15))
                        (T.tp [9, 15])
                        (E.zip (E.attr (E.var 0) 4) (E.var 12))
                        []
                        [9, 15])]
                   []]],
     dfl := [],
     kd := Kd.pl },
 GI.fn
   { np := 4,
     ns := 8,
     cells := [],
     body := [S.tup
                [Tg.nm 4, Tg.nm 5]
                (E.tup [E.sub (E.var 3) (E.var 2), E.sub (E.var 1) (E.var 2)]),
              S.ret
                (E.lc
                  (E.op
                    (Op2.fdiv)
                    (E.op
                      (Op2.sub)
                      (E.op (Op2.mul) (E.var 6) (E.var 4))
                      (E.op (Op2.mul) (E.var 5) (E.var 7)))
                    (E.attr (E.var 0) 9))
                  (T.tp [6, 7])
                  (E.zip (E.var 1) (E.var 3))
                  []
                  [6, 7])],
     dfl := [],
     kd := Kd.pl },
 GI.fn
   { np := 3,
     ns := 6,
     cells := [],
     body := [S.set (Tg.nm 3) (E.sub (E.attr (E.var 0) 11) (E.var 1)),
              S.for
                (T.tp [4, 5])
                (E.enu (E.bi (BF.list) [E.attr (E.var 0) 11]))
                [S.ifs
                   (E.cmp (Cm.ne) (E.var 4) (E.var 1))
                   [S.set
                      (Tg.ix (E.attr (E.var 0) 11) (E.var 4))
                      (E.meth (E.var 0) 13 [E.var 5, E.var 2, E.var 3])]
                   []],
              S.set
                (Tg.at (E.var 0) 3)
                (E.meth (E.var 0) 13 [E.attr (E.var 0) 3, E.var 2, E.var 3]),
              S.set
                (Tg.at (E.var 0) 4)
                (E.meth (E.var 0) 13 [E.attr (E.var 0) 4, E.var 2, E.var 3]),
              S.tup
                [Tg.ix (E.attr (E.var 0) 12) (E.var 1), Tg.at (E.var 0) 9]
                (E.tup [E.var 2, E.sub (E.var 3) (E.var 2)])],
     dfl := [],
     kd := Kd.pl },
 GI.fn
   { np := 2,
     ns := 5,
     cells := [],
     body := [S.set (Tg.nm 2) (E.non),
              S.for
                (T.tp [3, 4])
                (E.enu (E.attr (E.var 0) 11))
                [S.ifs
                   (E.and
                     (E.cmp (Cm.gt) (E.sub (E.var 4) (E.var 1)) (E.int 0))
                     (E.or
                       (E.cmp (Cm.is) (E.var 2) (E.non))
                       (E.meth (E.var 0) 19 [E.var 3, E.var 2, E.var 1])))
                   [S.set (Tg.nm 2) (E.var 3)]
                   []],
              S.ret (E.var 2)],
     dfl := [],
     kd := Kd.pl },
 GI.fn
   { np := 4,
     ns := 8,
     cells := [],
     body := [S.tup
                [Tg.nm 4, Tg.nm 5]
                (E.tup
                  [E.sub (E.attr (E.var 0) 11) (E.var 1),
                   E.sub (E.attr (E.var 0) 11) (E.var 2)]),
              S.tup
                [Tg.nm 6, Tg.nm 7]
                (E.tup
                  [E.op
                     (Op2.mul)
                     (E.sub (E.var 4) (E.neg (E.int 1)))
                     (E.sub (E.var 5) (E.var 3)),
                   E.op
                     (Op2.mul)
                     (E.sub (E.var 5) (E.neg (E.int 1)))
                     (E.sub (E.var 4) (E.var 3))]),
              S.ret
                (E.or
                  (E.cmp (Cm.lt) (E.var 6) (E.var 7))
                  (E.and
                    (E.cmp (Cm.eq) (E.var 6) (E.var 7))
                    (E.cmp
                      (Cm.lt)
                      (E.sub (E.attr (E.var 0) 12) (E.var 1))
                      (E.sub (E.attr (E.var 0) 12) (E.var 2)))))],
     dfl := [],
     kd := Kd.pl },
 GI.fn
   { np := 2,
     ns := 6,
     cells := [],
     body := [S.whl
                (E.bl true)
                [S.set (Tg.nm 2) (E.ite (E.var 1) (E.attr (E.var 0) 4) (E.attr (E.var 0) 3)),
                 S.set
                   (Tg.nm 3)
                   (E.lc
                     (E.var 4)
                     (T.nm 4)
                     (E.rng1 (E.attr (E.var 0) 8))
                     [E.cmp (Cm.lt) (E.sub (E.var 2) (E.var 4)) (E.int 0)]
                     [4]),
                 S.ifs (E.cmp (Cm.eq) (E.var 3) (E.lst [])) [S.ret (E.non)] [],
                 S.set (Tg.nm 5) (E.meth (E.var 0) 16 [E.sub (E.var 3) (E.int 0)]),
                 S.ifs
                   (E.cmp (Cm.is) (E.var 5) (E.non))
                   [S.ret (E.sub (E.var 3) (E.int 0))]
                   [],
                 S.exp (E.meth (E.var 0) 17 [E.var 5, E.sub (E.var 3) (E.int 0)])]],
     dfl := [],
     kd := Kd.pl },
 GI.fn
   { np := 1,
     ns := 7,
     cells := [],
     body := [S.for
                (T.tp [1, 2])
                (E.enu (E.bi (BF.list) [E.attr (E.var 0) 12]))
                [S.ifs
                   (E.cmp (Cm.ge) (E.var 2) (E.attr (E.var 0) 8))
                   [S.set (Tg.nm 3) (E.sub (E.attr (E.var 0) 11) (E.var 1)),
                    S.set
                      (Tg.nm 4)
                      (E.sub
                        (E.lc
                          (E.var 5)
                          (T.nm 5)
                          (E.rng1 (E.attr (E.var 0) 8))
                          [E.cmp (Cm.ne) (E.sub (E.var 3) (E.var 5)) (E.int 0)]
                          [5])
                        (E.int 0)),
                    S.ifs
                      (E.cmp (Cm.lt) (E.sub (E.var 3) (E.var 4)) (E.int 0))
                      [S.set
                         (Tg.ix (E.attr (E.var 0) 11) (E.var 1))
                         (E.lc (E.op (Op2.sub) (E.int 0) (E.var 6)) (T.nm 6) (E.var 3) [] [6])]
                      [],
                    S.exp (E.meth (E.var 0) 17 [E.var 1, E.var 4])]
                   []]],
     dfl := [],
     kd := Kd.pl },
 GI.fn
   { np := 1,
     ns := 4,
     cells := [],
     body := [S.set
                (Tg.nm 1)
                (E.op (Op2.mul) (E.lst [E.tup [E.int 0, E.int 1]]) (E.attr (E.var 0) 7)),
              S.for
                (T.tp [2, 3])
                (E.zip (E.attr (E.var 0) 12) (E.attr (E.var 0) 11))
                [S.ifs
                   (E.cmp (Cm.lt) (E.var 2) (E.attr (E.var 0) 7))
                   [S.set
                      (Tg.ix (E.var 1) (E.var 2))
                      (E.call 13 [E.sub (E.var 3) (E.neg (E.int 1)), E.attr (E.var 0) 9])]
                   []],
              S.ret (E.bi (BF.tuple) [E.var 1])],
     dfl := [],
     kd := Kd.pl },
 GI.fn
   { np := 2,
     ns := 5,
     cells := [],
     body := [S.set
                (Tg.nm 2)
                (E.op (Op2.mul) (E.lst [E.tup [E.int 0, E.int 1]]) (E.attr (E.var 0) 7)),
              S.ifs
                (E.cmp (Cm.lt) (E.var 1) (E.attr (E.var 0) 7))
                [S.set (Tg.ix (E.var 2) (E.var 1)) (E.tup [E.int 1, E.int 1])]
                [],
              S.for
                (T.tp [3, 4])
                (E.zip (E.attr (E.var 0) 12) (E.attr (E.var 0) 11))
                [S.ifs
                   (E.cmp (Cm.lt) (E.var 3) (E.attr (E.var 0) 7))
                   [S.set
                      (Tg.ix (E.var 2) (E.var 3))
                      (E.call
                        13
                        [E.op (Op2.sub) (E.int 0) (E.sub (E.var 4) (E.var 1)),
                         E.attr (E.var 0) 9])]
                   []],
              S.ret (E.bi (BF.tuple) [E.var 2])],
     dfl := [],
     kd := Kd.pl },
 GI.fn
   { np := 3,
     ns := 6,
     cells := [],
     body := [S.set
                (Tg.nm 3)
                (E.slc (E.var 1) (some (E.attr (E.var 0) 7)) (some (E.attr (E.var 0) 8))),
              S.ret
                (E.bi
                  (BF.tuple)
                  [E.lc
                     (E.call
                       13
                       [E.op (Op2.mul) (E.var 4) (E.var 5),
                        E.op (Op2.mul) (E.attr (E.var 0) 9) (E.var 2)])
                     (T.tp [4, 5])
                     (E.zip (E.var 3) (E.attr (E.var 0) 10))
                     []
                     [4, 5]])],
     dfl := [],
     kd := Kd.pl }]
end MX
end
section
set_option linter.all false
set_option maxRecDepth 100000
set_option maxHeartbeats 400000
/-! The interpreter once more, for the kernel: plain recursors with closed arms, kept by syntax. Equal to the other. Own work (printed by fastgen.py from Fast.tpl). -/
namespace MX
noncomputable section
def ifB {α : Type} (b : Bool) (x y : α) : α := @Bool.rec (fun _ => α) y x b
theorem ifB_eq {α : Type} (b : Bool) (x y : α) : ifB b x y = cond b x y := by cases b <;> rfl
def R.bd {α β : Type} (r : R α) (f : α → St → R β) : R β := @R.rec α (fun _ => R β) f (fun c fs st => .exc c fs st) .bad r
theorem R.bd_eq {α β : Type} (r : R α) (f : α → St → R β) : r.bd f = r.bind f := by cases r <;> rfl
def oB {α β : Type} (o : Option α) (n : β) (f : α → β) : β := @Option.rec α (fun _ => β) n f o
def nth {α : Type} (xs : List α) : Nat → Option α := @List.rec α (fun _ => Nat → Option α) (fun _ => none) (fun x _ ih n => @Nat.rec (fun _ => Option α) (some x) (fun m _ => ih m) n) xs
theorem nth_eq {α : Type} : ∀ (xs : List α) (n : Nat), nth xs n = xs[n]?
  | [], n => by simp [nth]
  | x :: xs, 0 => by rw [List.getElem?_cons_zero]; rfl
  | x :: xs, n + 1 => by
    rw [List.getElem?_cons_succ, ← nth_eq xs n]; rfl
def setL {α : Type} (xs : List α) (a : α) : Nat → List α := @List.rec α (fun _ => Nat → List α) (fun _ => []) (fun x r ih n => @Nat.rec (fun _ => List α) (a :: r) (fun m _ => x :: ih m) n) xs
theorem setL_eq {α : Type} (a : α) : ∀ (xs : List α) (n : Nat), setL xs a n = xs.set n a
  | [], n => by simp [setL]
  | x :: xs, 0 => by rw [List.set_cons_zero]; rfl
  | x :: xs, n + 1 => by
    rw [List.set_cons_succ, ← setL_eq a xs n]; rfl
def app {α : Type} (xs ys : List α) : List α := @List.rec α (fun _ => List α) ys (fun x _ ih => x :: ih) xs
theorem app_eq {α : Type} : ∀ (xs ys : List α), app xs ys = xs ++ ys
  | [], ys => rfl
  | x :: xs, ys => by
    rw [List.cons_append, ← app_eq xs ys]; rfl
def lenL {α : Type} (xs : List α) : Nat := @List.rec α (fun _ => Nat) 0 (fun _ _ ih => Nat.succ ih) xs
theorem lenL_eq {α : Type} : ∀ (xs : List α), lenL xs = xs.length
  | [] => rfl
  | x :: xs => by
    rw [List.length_cons, ← lenL_eq xs]; rfl
def allL {α : Type} (f : α → Bool) (xs : List α) : Bool := @List.rec α (fun _ => Bool) true (fun x _ ih => @Bool.rec (fun _ => Bool) false ih (f x)) xs
theorem allL_eq {α : Type} (f : α → Bool) : ∀ (xs : List α), allL f xs = xs.all f
  | [] => rfl
  | x :: xs => by
    rw [List.all_cons, ← allL_eq f xs]
    show @Bool.rec (fun _ => Bool) false (allL f xs) (f x) = _
    cases f x <;> rfl
/-! ### the store -/
def Tr.gt (t : Tr) : Nat → Option Ob := @Tr.rec (fun _ => Nat → Option Ob) (fun _ => none) (fun v _ _ gl gr n => @Nat.rec (fun _ => Option Ob) v (fun m _ => @Bool.rec (fun _ => Nat → Option Ob) gr gl (Nat.beq (Nat.mod m 2) 0) (Nat.div m 2)) n) t
theorem half1 {m : Nat} (h : Nat.beq (m % 2) 0 = true) : Nat.beq ((m + 1) % 2) 1 = true ∧ (m + 1) / 2 = m / 2 := by
  have := Nat.eq_of_beq_eq_true h
  exact ⟨by rw [show (m + 1) % 2 = 1 by omega]; rfl, by omega⟩
theorem half2 {m : Nat} (h : Nat.beq (m % 2) 0 = false) : Nat.beq ((m + 1) % 2) 1 = false ∧ (m + 1) / 2 - 1 = m / 2 := by
  have : m % 2 ≠ 0 := fun z => by rw [z] at h; cases h
  exact ⟨by rw [show (m + 1) % 2 = 0 by omega]; rfl, by omega⟩
theorem Tr.gt_eq : ∀ (t : Tr) (n : Nat), t.gt n = t.get n
  | .nil, n => rfl
  | .nd v l r, 0 => rfl
  | .nd v l r, m + 1 => by
    show @Bool.rec (fun _ => Nat → Option Ob) r.gt l.gt (Nat.beq (m % 2) 0) (m / 2) = cond (Nat.beq (m + 1) 0) v (cond (Nat.beq ((m + 1) % 2) 1) (l.get ((m + 1) / 2)) (r.get ((m + 1) / 2 - 1)))
    rw [show Nat.beq (m + 1) 0 = false from rfl, cond_false]
    cases h : Nat.beq (m % 2) 0 with
    | true => rw [(half1 h).1, (half1 h).2]; exact Tr.gt_eq l (m / 2)
    | false => rw [(half2 h).1, (half2 h).2]; exact Tr.gt_eq r (m / 2)
def Tr.st (o : Ob) : Nat → Tr → Nat → Tr := @Nat.rec (fun _ => Tr → Nat → Tr) (fun t _ => t) (fun _ ih t => @Tr.rec (fun _ => Nat → Tr)
  (fun n => @Nat.rec (fun _ => Tr) (.nd (some o) .nil .nil) (fun m _ => @Bool.rec (fun _ => Nat → Tr) (fun j => .nd none .nil (ih .nil j)) (fun j => .nd none (ih .nil j) .nil) (Nat.beq (Nat.mod m 2) 0) (Nat.div m 2)) n)
  (fun v l r _ _ n => @Nat.rec (fun _ => Tr) (.nd (some o) l r) (fun m _ => @Bool.rec (fun _ => Nat → Tr) (fun j => .nd v l (ih r j)) (fun j => .nd v (ih l j) r) (Nat.beq (Nat.mod m 2) 0) (Nat.div m 2)) n) t)
theorem Tr.st_eq (o : Ob) : ∀ (k : Nat) (t : Tr) (n : Nat), Tr.st o k t n = Tr.set o k t n
  | 0, t, n => rfl
  | k + 1, .nil, 0 => rfl
  | k + 1, .nd v l r, 0 => rfl
  | k + 1, .nil, m + 1 => by
    show @Bool.rec (fun _ => Nat → Tr) (fun j => .nd none .nil (Tr.st o k .nil j)) (fun j => .nd none (Tr.st o k .nil j) .nil) (Nat.beq (m % 2) 0) (m / 2) = cond (Nat.beq (m + 1) 0) (.nd (some o) .nil .nil) (cond (Nat.beq ((m + 1) % 2) 1) (.nd none (Tr.set o k .nil ((m + 1) / 2)) .nil) (.nd none .nil (Tr.set o k .nil ((m + 1) / 2 - 1))))
    rw [show Nat.beq (m + 1) 0 = false from rfl, cond_false]
    cases h : Nat.beq (m % 2) 0 with
    | true => rw [(half1 h).1, (half1 h).2, cond_true, ← Tr.st_eq o k .nil]
    | false => rw [(half2 h).1, (half2 h).2, cond_false, ← Tr.st_eq o k .nil]
  | k + 1, .nd v l r, m + 1 => by
    show @Bool.rec (fun _ => Nat → Tr) (fun j => .nd v l (Tr.st o k r j)) (fun j => .nd v (Tr.st o k l j) r) (Nat.beq (m % 2) 0) (m / 2) = cond (Nat.beq (m + 1) 0) (.nd (some o) l r) (cond (Nat.beq ((m + 1) % 2) 1) (.nd v (Tr.set o k l ((m + 1) / 2)) r) (.nd v l (Tr.set o k r ((m + 1) / 2 - 1))))
    rw [show Nat.beq (m + 1) 0 = false from rfl, cond_false]
    cases h : Nat.beq (m % 2) 0 with
    | true => rw [(half1 h).1, (half1 h).2, cond_true, ← Tr.st_eq o k l]
    | false => rw [(half2 h).1, (half2 h).2, cond_false, ← Tr.st_eq o k r]
def St.gt (s : St) (n : Nat) : Option Ob := s.t.gt n
theorem St.gt_eq (s : St) (n : Nat) : s.gt n = s.get n := Tr.gt_eq _ _
def St.st (s : St) (n : Nat) (o : Ob) : St := ⟨Tr.st o 30 s.t n, s.nx⟩
theorem St.st_eq (s : St) (n : Nat) (o : Ob) : s.st n o = s.set n o := by unfold St.st St.set; rw [Tr.st_eq]
def allocQ (o : Ob) (st : St) : R D := @Bool.rec (fun _ => R D) .bad (.ok (.loc st.nx) ⟨Tr.st o 30 st.t st.nx, Nat.succ st.nx⟩) (Nat.ble st.nx 1000000)
theorem allocQ_eq (o : Ob) (st : St) : allocQ o st = alloc o st := by unfold allocQ alloc; rw [Tr.st_eq]; cases Nat.ble st.nx 1000000 <;> rfl
/-! ### slots -/
def choR (o : Option Ob) (n : Nat) (xs : List D) (st : St) : R D := @Option.rec Ob (fun _ => R D) (.ok (.cho n xs) st)
  (fun o => (@Ob.rec (fun _ => R D) (fun _ => .ok (.cho n xs) st) (fun _ => .ok (.cho n xs) st) (fun _ _ => .ok (.cho n xs) st) (fun _ => .ok (.cho n xs) st) (fun _ _ _ => .ok (.cho n xs) st) (fun _ o => @Option.rec Nat (fun _ => R D) (.ok (.cho n xs) st) (fun i => .ok (xs.getD i (.cho n xs)) st) o) (fun _ => .ok (.cho n xs) st) (fun _ => .ok (.cho n xs) st)) o) o
theorem choR_eq (n : Nat) (xs : List D) (st : St) : choR (st.gt n) n xs st = .ok (nrm st (.cho n xs)) st := by
  rw [St.gt_eq]
  show _ = R.ok (match st.get n with | some (.cho _ (some i)) => xs.getD i (.cho n xs) | _ => .cho n xs) st
  unfold choR
  cases st.get n with
  | none => rfl
  | some o => cases o <;> first | rfl | (rename_i k o; cases o <;> rfl)
def nrmR (d : D) : St → R D := (@D.rec (fun _ => St → R D) (fun _ => Unit) (fun st => .ok .non st) (fun b st => .ok (.bl b) st) (fun i st => .ok (.int i) st) (fun s st => .ok (.str s) st) (fun xs _ st => .ok (.tup xs) st) (fun n st => .ok (.loc n) st) (fun g st => .ok (.fn g) st) (fun st => .ok .any st) (fun n xs _ st => choR (st.gt n) n xs st) () (fun _ _ _ _ => ())) d
theorem nrmR_eq (d : D) (st : St) : nrmR d st = .ok (nrm st d) st := by cases d <;> first | rfl | exact choR_eq ..
def slotA (o : Option D) : St → R D := @Option.rec D (fun _ => St → R D) (fun _ => .bad) nrmR o
def slotQ (σ : Sg) (i : Nat) (st : St) : R D := @Option.rec (Option D) (fun _ => St → R D) (fun _ => .bad) slotA (nth σ i) st
theorem slotQ_eq (σ : Sg) (i : Nat) (st : St) : slotQ σ i st = slot σ i st := by
  unfold slotQ slot
  rw [nth_eq]
  cases σ[i]? with
  | none => rfl
  | some o => cases o with
    | none => rfl
    | some d => exact nrmR_eq d st
def cellQ (i : Nat) (κ : List (Nat × Nat)) : Option Nat := @List.rec (Nat × Nat) (fun _ => Option Nat) none (fun e _ ih => @Bool.rec (fun _ => Option Nat) ih (some e.2) (Nat.beq i e.1)) κ
theorem cellQ_eq (i : Nat) : ∀ κ, cellQ i κ = cellOf i κ
  | [] => rfl
  | (j, c) :: κ => by
    show @Bool.rec (fun _ => Option Nat) (cellQ i κ) (some c) (Nat.beq i j) = cond (Nat.beq i j) (some c) (cellOf i κ)
    rw [cellQ_eq i κ]
    cases Nat.beq i j <;> rfl
def putCellQ (κ : List (Nat × Nat)) (i : Nat) (d : D) (st : St) : St := @Option.rec Nat (fun _ => St) st (fun c => st.st c (.cel (some d))) (cellQ i κ)
theorem putCellQ_eq (κ : List (Nat × Nat)) (i : Nat) (d : D) (st : St) : putCellQ κ i d st = putCell κ i d st := by
  unfold putCellQ putCell
  rw [cellQ_eq]
  cases cellOf i κ <;> first | rfl | exact St.st_eq ..
/-! ### sequences, truth -/
def seqOfQ (d : D) : St → Option (List D) := (@D.rec (fun _ => St → Option (List D)) (fun _ => Unit) (fun _ => none) (fun _ => fun _ => none) (fun _ => fun _ => none) (fun _ => fun _ => none) (fun xs _ _ => some xs) (fun n st => @Option.rec Ob (fun _ => Option (List D)) none ((@Ob.rec (fun _ => Option (List D)) (fun xs => some xs) (fun xs => some xs) (fun _ _ => none) (fun _ => none) (fun _ _ _ => none) (fun _ _ => none) (fun _ => none) (fun _ => none))) (st.gt n)) (fun _ => fun _ => none) (fun _ => none) (fun _ _ _ => fun _ => none) () (fun _ _ _ _ => ())) d
theorem seqOfQ_eq (d : D) (st : St) : seqOfQ d st = seqOf st d := by
  cases d <;> first | rfl | skip
  rename_i n
  show @Option.rec Ob _ _ _ (st.gt n) = (match st.get n with | some (.lst xs) | some (.frz xs) => some xs | _ => none)
  rw [St.gt_eq]
  cases st.get n with
  | none => rfl
  | some o => cases o <;> rfl
def truR (d : D) : St → R Bool := (@D.rec (fun _ => St → R Bool) (fun _ => Unit) (fun st => .ok false st) (fun b st => .ok b st) (fun i st => .ok (!decide (i = 0)) st) (fun s st => ifB (Nat.ble s.length 100000) (.ok (!s.isEmpty) st) .bad) (fun xs _ st => .ok (!xs.isEmpty) st) (fun n st => @Option.rec Ob (fun _ => R Bool) .bad ((@Ob.rec (fun _ => R Bool) (fun xs => .ok (!xs.isEmpty) st) (fun _ => .bad) (fun _ _ => .bad) (fun _ => .bad) (fun _ _ _ => .bad) (fun _ _ => .bad) (fun _ => .bad) (fun _ => .bad))) (st.gt n)) (fun _ => fun _ => .bad) (fun _ => .bad) (fun _ _ _ => fun _ => .bad) () (fun _ _ _ _ => ())) d
theorem truR_eq (d : D) (st : St) : truR d st = (match tru st d with | some k => .ok k st | none => .bad) := by
  cases d <;> first | rfl | skip
  · rename_i s
    show ifB (Nat.ble s.length 100000) (R.ok (!s.isEmpty) st) .bad = (match cond (Nat.ble s.length 100000) (some (!s.isEmpty)) none with | some k => .ok k st | none => .bad)
    cases Nat.ble s.length 100000 <;> rfl
  · rename_i n
    show @Option.rec Ob _ _ _ (st.gt n) = (match (match st.get n with | some (.lst xs) => some (!xs.isEmpty) | _ => none) with | some k => R.ok k st | none => .bad)
    rw [St.gt_eq]
    cases st.get n with
    | none => rfl
    | some o => cases o <;> rfl
/-! ### memory by syntax -/
structure CE where
  run : Evs → Sg → List (Nat × Nat) → St → R D
structure CT where
  run : Evs → Sg → List (Nat × Nat) → St → R Bool
structure CL where
  run : Evs → Sg → List (Nat × Nat) → St → R (List D)
structure CS where
  run : Evs → Sg → List (Nat × Nat) → St → F
structure C2 where
  run : D → D → St → R D
structure C1 where
  run : D → St → R D
structure CA where
  run : List D → St → R D
/-! ### comparisons -/
def flat3 (d : D) : Bool := (@D.rec (fun _ => Bool) (fun _ => Unit) (true) (fun _ => true) (fun _ => true) (fun _ => false) (fun _ _ => false) (fun _ => false) (fun _ => false) (false) (fun _ _ _ => false) () (fun _ _ _ _ => ())) d
def eqI (x y : Int) : Bool := decide (x = y)
/-- None, bools, numbers -/
def eqU3 (a b : D) : Bool := (@D.rec (fun _ => D → Bool) (fun _ => Unit) (fun b => (@D.rec (fun _ => Bool) (fun _ => Unit) (true) (fun _ => false) (fun _ => false) (fun _ => false) (fun _ _ => false) (fun _ => false) (fun _ => false) (false) (fun _ _ _ => false) () (fun _ _ _ _ => ())) b) (fun x b => (@D.rec (fun _ => Bool) (fun _ => Unit) (false) (fun y => x == y) (fun y => decide ((if x then 1 else 0 : Int) = y)) (fun _ => false) (fun _ _ => false) (fun _ => false) (fun _ => false) (false) (fun _ _ _ => false) () (fun _ _ _ _ => ())) b) (fun x b => (@D.rec (fun _ => Bool) (fun _ => Unit) (false) (fun y => decide (x = (if y then 1 else 0 : Int))) (fun y => decide (x = y)) (fun _ => false) (fun _ _ => false) (fun _ => false) (fun _ => false) (false) (fun _ _ _ => false) () (fun _ _ _ _ => ())) b) (fun _ => fun _ => false) (fun _ _ => fun _ => false) (fun _ => fun _ => false) (fun _ => fun _ => false) (fun _ => false) (fun _ _ _ => fun _ => false) () (fun _ _ _ _ => ())) a b
def pl1 (d : D) : Bool := (@D.rec (fun _ => Bool) (fun _ => Unit) (true) (fun _ => true) (fun _ => true) (fun _ => false) (fun xs _ => @Bool.rec (fun _ => Bool) false (allL flat3 xs) (Nat.ble (lenL xs) 8)) (fun _ => false) (fun _ => false) (false) (fun _ _ _ => false) () (fun _ _ _ _ => ())) d
def eqs3 (xs : List D) : List D → Bool := @List.rec D (fun _ => List D → Bool) (fun ys => @List.rec D (fun _ => Bool) true (fun _ _ _ => false) ys) (fun x _ ih ys => @List.rec D (fun _ => Bool) false (fun y r _ => @Bool.rec (fun _ => Bool) false (ih r) (eqU3 x y)) ys) xs
def eqP (a b : D) : Bool := (@D.rec (fun _ => D → Bool) (fun _ => Unit) (fun b => eqU3 .non b) (fun x b => eqU3 (.bl x) b) (fun x b => eqU3 (.int x) b) (fun _ => fun _ => false) (fun xs _ b => (@D.rec (fun _ => Bool) (fun _ => Unit) (false) (fun _ => false) (fun _ => false) (fun _ => false) (fun ys _ => eqs3 xs ys) (fun _ => false) (fun _ => false) (false) (fun _ _ _ => false) () (fun _ _ _ _ => ())) b) (fun _ => fun _ => false) (fun _ => fun _ => false) (fun _ => false) (fun _ _ _ => fun _ => false) () (fun _ _ _ _ => ())) a b
theorem pnd_flat3 {d : D} (h : flat3 d = true) (st : St) : ∀ n, pnd st n d = none := by
  intro n
  cases n with
  | zero => cases d <;> rfl
  | succ n => cases d <;> first | rfl | cases h
theorem pndL_flat3 (st : St) : ∀ (xs : List D) (n : Nat), xs.all flat3 = true → pndL st n xs = none
  | _, 0, _ => rfl
  | [], n + 1, _ => rfl
  | x :: xs, n + 1, h => by
    rw [List.all_cons, Bool.and_eq_true] at h
    show (match pnd st n x with | some p => some p | none => pndL st n xs) = none
    rw [pnd_flat3 h.1, pndL_flat3 st xs n h.2]
theorem dat_flat3 {d : D} (h : flat3 d = true) (st : St) (n : Nat) : datD st (n + 1) d = true := by
  cases d <;> first | rfl | cases h
theorem datL_flat3 (st : St) : ∀ (xs : List D) (n : Nat), xs.all flat3 = true → xs.length < n → datL st (n + 1) xs = true
  | [], n, _, _ => rfl
  | x :: xs, n + 1, h, l => by
    rw [List.all_cons, Bool.and_eq_true] at h
    rw [List.length_cons] at l
    show (datD st (n + 1) x && datL st (n + 1) xs) = true
    rw [dat_flat3 h.1, datL_flat3 st xs n h.2 (by omega)]; rfl
theorem eq_flat3 {a b : D} (ha : flat3 a = true) (hb : flat3 b = true) (st : St) (n : Nat) : eqD st (n + 1) a b = some (eqU3 a b) := by
  cases a <;> first | (cases ha; done) | (cases b <;> first | (cases hb; done) | rfl)
theorem eqL_flat3 (st : St) : ∀ (xs ys : List D) (n : Nat), xs.all flat3 = true → ys.all flat3 = true → xs.length < n → eqL st (n + 1) xs ys = some (eqs3 xs ys)
  | [], [], n, _, _, _ => rfl
  | [], y :: ys, n, _, _, _ => rfl
  | x :: xs, [], n, _, _, _ => rfl
  | x :: xs, y :: ys, n + 1, h, k, l => by
    rw [List.all_cons, Bool.and_eq_true] at h k
    rw [List.length_cons] at l
    show (match eqD st (n + 1) x y with | some true => eqL st (n + 1) xs ys | some false => some false | none => none) = some (@Bool.rec (fun _ => Bool) false (eqs3 xs ys) (eqU3 x y))
    rw [eq_flat3 h.1 k.1, eqL_flat3 st xs ys n h.2 k.2 (by omega)]
    cases eqU3 x y <;> rfl
theorem pl1_cases {d : D} (h : pl1 d = true) : flat3 d = true ∨ ∃ xs, d = .tup xs ∧ xs.all flat3 = true ∧ xs.length ≤ 8 := by
  cases d <;> first | exact .inl rfl | cases h | skip
  rename_i xs
  refine .inr ⟨xs, rfl, ?_⟩
  have h : @Bool.rec (fun _ => Bool) false (allL flat3 xs) (Nat.ble (lenL xs) 8) = true := h
  rw [allL_eq, lenL_eq] at h
  cases e : Nat.ble xs.length 8 with
  | false => rw [e] at h; cases h
  | true => rw [e] at h; exact ⟨h, Nat.le_of_ble_eq_true e⟩
theorem pl1_pnd {d : D} (h : pl1 d = true) (st : St) (n : Nat) : pnd st n d = none := by
  rcases pl1_cases h with h | ⟨xs, rfl, h, _⟩
  · exact pnd_flat3 h st n
  · cases n with
    | zero => rfl
    | succ n => exact pndL_flat3 st xs n h
theorem pl1_dat {d : D} (h : pl1 d = true) (st : St) : datD st 60 d = true := by
  rcases pl1_cases h with h | ⟨xs, rfl, h, l⟩
  · exact dat_flat3 h st 59
  · exact datL_flat3 st xs 58 h (by omega)
theorem eqP_ok {a b : D} (ha : pl1 a = true) (hb : pl1 b = true) (st : St) : eqX st a b = some (eqP a b) := by
  have e1 : pndL st 9 [a, b] = none := by
    show (match pnd st 8 a with | some p => some p | none => (match pnd st 7 b with | some p => some p | none => pndL st 6 [])) = none
    rw [pl1_pnd ha, pl1_pnd hb]; rfl
  show eqF 2 st a b = _
  show (match pndL st 9 [a, b] with | none => eqX0 st a b | some p => cond (Nat.blt p st.nx) (match st.get p with | some (.cho k none) => allB1 (fun i => eqF 1 (st.set p (.cho k (some i))) a b) k | _ => none) none) = _
  rw [e1]
  show cond (datD st 60 a && datD st 60 b) (eqD st 60 a b) none = _
  rw [pl1_dat ha, pl1_dat hb]
  show eqD st 60 a b = _
  rcases pl1_cases ha with h | ⟨xs, rfl, h, l⟩
  · rcases pl1_cases hb with k | ⟨ys, rfl, k, _⟩
    · rw [eq_flat3 h k]
      cases a <;> first | rfl | cases h
    · cases a <;> first | rfl | cases h
  · rcases pl1_cases hb with k | ⟨ys, rfl, k, _⟩
    · cases b <;> first | rfl | cases k
    · exact eqL_flat3 st xs ys 58 h k (by omega)
def eqR (neg : Bool) (a b : D) (st : St) : R D := @Bool.rec (fun _ => R D) (@Option.rec Bool (fun _ => R D) .bad (fun r => .ok (.bl (Bool.xor neg r)) st) (eqX st a b)) (.ok (.bl (Bool.xor neg (eqP a b))) st) (@Bool.rec (fun _ => Bool) false (pl1 b) (pl1 a))
theorem eqR_ok (neg : Bool) (a b : D) (st : St) : eqR neg a b st = (match eqX st a b with | some r => .ok (D.bl (Bool.xor neg r)) st | none => .bad) := by
  unfold eqR
  cases h : pl1 a with
  | false => show @Option.rec Bool _ _ _ (eqX st a b) = _; cases eqX st a b <;> rfl
  | true =>
    cases k : pl1 b with
    | false => show @Option.rec Bool _ _ _ (eqX st a b) = _; cases eqX st a b <;> rfl
    | true => rw [eqP_ok h k]
def ilt (i j : Int) : Bool := @Int.rec (fun _ => Int → Bool) (fun m j => @Int.rec (fun _ => Bool) (fun n => Nat.ble (Nat.succ m) n) (fun _ => false) j) (fun m j => @Int.rec (fun _ => Bool) (fun _ => true) (fun n => Nat.ble (Nat.succ n) m) j) i j
def ile (i j : Int) : Bool := @Int.rec (fun _ => Int → Bool) (fun m j => @Int.rec (fun _ => Bool) (fun n => Nat.ble m n) (fun _ => false) j) (fun m j => @Int.rec (fun _ => Bool) (fun _ => true) (fun n => Nat.ble n m) j) i j
def iadd (i j : Int) : Int := @Int.rec (fun _ => Int → Int) (fun m j => @Int.rec (fun _ => Int) (fun n => .ofNat (Nat.add m n)) (fun n => Int.subNatNat m (Nat.succ n)) j) (fun m j => @Int.rec (fun _ => Int) (fun n => Int.subNatNat n (Nat.succ m)) (fun n => .negSucc (Nat.succ (Nat.add m n))) j) i j
def imul (i j : Int) : Int := @Int.rec (fun _ => Int → Int) (fun m j => @Int.rec (fun _ => Int) (fun n => .ofNat (Nat.mul m n)) (fun n => Int.negOfNat (Nat.mul m (Nat.succ n))) j) (fun m j => @Int.rec (fun _ => Int) (fun n => Int.negOfNat (Nat.mul (Nat.succ m) n)) (fun n => .ofNat (Nat.mul (Nat.succ m) (Nat.succ n))) j) i j
theorem ble_dec (a b : Nat) : Nat.ble a b = decide (a ≤ b) := by
  cases h : Nat.ble a b with
  | true => exact (decide_eq_true (Nat.le_of_ble_eq_true h)).symm
  | false => exact (decide_eq_false fun z => by rw [Nat.ble_eq_true_of_le z] at h; cases h).symm
theorem ilt_eq (i j : Int) : ilt i j = decide (i < j) := by
  cases i <;> cases j
  · show Nat.ble _ _ = _; rw [ble_dec]; congr 1; apply propext; constructor <;> (intro h; simp only [Int.ofNat_eq_natCast] at *; omega)
  · exact (decide_eq_false (by simp only [Int.ofNat_eq_natCast]; omega)).symm
  · exact (decide_eq_true (by simp only [Int.ofNat_eq_natCast]; omega)).symm
  · show Nat.ble _ _ = _; rw [ble_dec]; congr 1; apply propext; constructor <;> (intro h; omega)
theorem ile_eq (i j : Int) : ile i j = decide (i ≤ j) := by
  cases i <;> cases j
  · show Nat.ble _ _ = _; rw [ble_dec]; congr 1; apply propext; constructor <;> (intro h; simp only [Int.ofNat_eq_natCast] at *; omega)
  · exact (decide_eq_false (by simp only [Int.ofNat_eq_natCast]; omega)).symm
  · exact (decide_eq_true (by simp only [Int.ofNat_eq_natCast]; omega)).symm
  · show Nat.ble _ _ = _; rw [ble_dec]; congr 1; apply propext; constructor <;> (intro h; omega)
theorem iadd_eq (i j : Int) : iadd i j = i + j := by cases i <;> cases j <;> rfl
theorem imul_eq (i j : Int) : imul i j = i * j := by cases i <;> cases j <;> rfl
/-- two numbers -/
def ii (f : Int → Int → St → R D) (a b : D) : St → R D := (@D.rec (fun _ => St → R D) (fun _ => Unit) (fun _ => .bad) (fun _ => fun _ => .bad) (fun i => (@D.rec (fun _ => St → R D) (fun _ => Unit) (fun _ => .bad) (fun _ => fun _ => .bad) (fun j => f i j) (fun _ => fun _ => .bad) (fun _ _ => fun _ => .bad) (fun _ => fun _ => .bad) (fun _ => fun _ => .bad) (fun _ => .bad) (fun _ _ _ => fun _ => .bad) () (fun _ _ _ _ => ())) b) (fun _ => fun _ => .bad) (fun _ _ => fun _ => .bad) (fun _ => fun _ => .bad) (fun _ => fun _ => .bad) (fun _ => .bad) (fun _ _ _ => fun _ => .bad) () (fun _ _ _ _ => ())) a
def isQ (neg : Bool) (a b : D) (st : St) : R D := (@D.rec (fun _ => R D) (fun _ => Unit) ((@D.rec (fun _ => R D) (fun _ => Unit) (.ok (.bl (!neg)) st) (fun _ => .ok (.bl neg) st) (fun _ => .ok (.bl neg) st) (fun _ => .ok (.bl neg) st) (fun _ _ => .ok (.bl neg) st) (fun _ => .ok (.bl neg) st) (fun _ => .ok (.bl neg) st) (.bad) (fun _ _ _ => .bad) () (fun _ _ _ _ => ())) a) (fun _ => .bad) (fun _ => .bad) (fun _ => .bad) (fun _ _ => .bad) (fun _ => .bad) (fun _ => .bad) (.bad) (fun _ _ _ => .bad) () (fun _ _ _ _ => ())) b
def dCm (c : Cm) : C2 := match c with
  | .eq => ⟨fun a b st => eqR false a b st⟩
  | .ne => ⟨fun a b st => eqR true a b st⟩
  | .lt => ⟨fun a b st => ii (fun i j st => .ok (.bl (ilt i j)) st) a b st⟩
  | .le => ⟨fun a b st => ii (fun i j st => .ok (.bl (ile i j)) st) a b st⟩
  | .gt => ⟨fun a b st => ii (fun i j st => .ok (.bl (ilt j i)) st) a b st⟩
  | .ge => ⟨fun a b st => ii (fun i j st => .ok (.bl (ile j i)) st) a b st⟩
  | .is => ⟨fun a b st => isQ false a b st⟩
  | .isn => ⟨fun a b st => isQ true a b st⟩
  | c => ⟨fun a b st => cmpop c a b st⟩
theorem dCm_eq (c : Cm) (a b : D) (st : St) : (dCm c).run a b st = cmpop c a b st := by
  cases c
  · show eqR false a b st = _
    rw [eqR_ok]
    show _ = (match eqX st a b with | some r => R.ok (D.bl r) st | none => .bad)
    cases eqX st a b <;> simp
  · show eqR true a b st = _
    rw [eqR_ok]
    show _ = (match eqX st a b with | some r => R.ok (D.bl (!r)) st | none => .bad)
    cases eqX st a b <;> simp
  · show ii _ a b st = _; simp only [ilt_eq]; cases a <;> first | rfl | (cases b <;> rfl)
  · show ii _ a b st = _; simp only [ile_eq]; cases a <;> first | rfl | (cases b <;> rfl)
  · show ii _ a b st = _; simp only [ilt_eq]; cases a <;> first | rfl | (cases b <;> rfl)
  · show ii _ a b st = _; simp only [ile_eq]; cases a <;> first | rfl | (cases b <;> rfl)
  · cases b <;> first | rfl | (cases a <;> rfl)
  · cases b <;> first | rfl | (cases a <;> rfl)
  · rfl
  · rfl
/-! ### operators -/
def addR (a b : D) : St → R D := (@D.rec (fun _ => St → R D) (fun _ => Unit) (fun _ => .bad) (fun _ => fun _ => .bad) (fun i => (@D.rec (fun _ => St → R D) (fun _ => Unit) (fun _ => .bad) (fun _ => fun _ => .bad) (fun j st => .ok (.int (iadd i j)) st) (fun _ => fun _ => .bad) (fun _ _ => fun _ => .bad) (fun _ => fun _ => .bad) (fun _ => fun _ => .bad) (fun _ => .bad) (fun _ _ _ => fun _ => .bad) () (fun _ _ _ _ => ())) b) (fun s st => binop .add (.str s) b st) (fun s _ st => binop .add (.tup s) b st) (fun s st => binop .add (.loc s) b st) (fun _ => fun _ => .bad) (fun _ => .bad) (fun _ _ _ => fun _ => .bad) () (fun _ _ _ _ => ())) a
def mulR (a b : D) : St → R D := (@D.rec (fun _ => St → R D) (fun _ => Unit) (fun _ => .bad) (fun _ => fun _ => .bad) (fun i => (@D.rec (fun _ => St → R D) (fun _ => Unit) (fun _ => .bad) (fun _ => fun _ => .bad) (fun j st => ifB (Nat.ble (Nat.add i.natAbs.log2 j.natAbs.log2) 900000) (.ok (.int (imul i j)) st) .bad) (fun _ => fun _ => .bad) (fun _ _ => fun _ => .bad) (fun _ => fun _ => .bad) (fun _ => fun _ => .bad) (fun _ => .bad) (fun _ _ _ => fun _ => .bad) () (fun _ _ _ _ => ())) b) (fun _ => fun _ => .bad) (fun s _ st => binop .mul (.tup s) b st) (fun s st => binop .mul (.loc s) b st) (fun _ => fun _ => .bad) (fun _ => .bad) (fun _ _ _ => fun _ => .bad) () (fun _ _ _ _ => ())) a
def dOp (o : Op2) : C2 := match o with
  | .add => ⟨fun a b st => addR a b st⟩
  | .sub => ⟨fun a b st => ii (fun i j st => .ok (.int (i - j)) st) a b st⟩
  | .mul => ⟨fun a b st => mulR a b st⟩
  | .fdiv => ⟨fun a b st => ii (fun i j st => ifB (decide (0 < j) && Nat.ble j.natAbs.log2 8000) (.ok (.int (i / j)) st) .bad) a b st⟩
  | .mod => ⟨fun a b st => ii (fun i j st => ifB (decide (0 < j)) (.ok (.int (i % j)) st) .bad) a b st⟩
  | o => ⟨fun a b st => binop o a b st⟩
theorem dOp_eq (o : Op2) (a b : D) (st : St) : (dOp o).run a b st = binop o a b st := by
  cases o
  · show addR a b st = _; cases a <;> first | rfl | (cases b <;> first | rfl | (show R.ok (D.int (iadd _ _)) st = _; rw [iadd_eq]; rfl))
  · show ii _ a b st = _; cases a <;> first | rfl | (cases b <;> rfl)
  · show mulR a b st = _; cases a <;> first | rfl | (cases b <;> first | rfl | (show ifB _ (R.ok (D.int (imul _ _)) st) _ = _; rw [ifB_eq, imul_eq]; rfl))
  · show ii _ a b st = _; simp only [ifB_eq]; cases a <;> first | rfl | (cases b <;> rfl)
  · show ii _ a b st = _; simp only [ifB_eq]; cases a <;> first | rfl | (cases b <;> rfl)
  · rfl
/-! ### built-ins, kinds, subscripts -/
def one1 (f : D → St → R D) (as : List D) : St → R D := @List.rec D (fun _ => St → R D) (fun _ => .bad) (fun d r _ st => @List.rec D (fun _ => R D) (f d st) (fun _ _ _ => .bad) r) as
def lenR (d : D) : St → R D := (@D.rec (fun _ => St → R D) (fun _ => Unit) (fun _ => .bad) (fun _ => fun _ => .bad) (fun _ => fun _ => .bad) (fun s st => ifB (Nat.ble s.length 100000) (.ok (.int s.length) st) .bad) (fun xs _ st => .ok (.int (.ofNat (lenL xs))) st) (fun p st => bltn ⟨[], fun _ _ _ _ => .bad⟩ .len [.loc p] st) (fun _ => fun _ => .bad) (fun _ => .bad) (fun _ _ _ => fun _ => .bad) () (fun _ _ _ _ => ())) d
def tupR (d : D) : St → R D := (@D.rec (fun _ => St → R D) (fun _ => Unit) (fun _ => .bad) (fun _ => fun _ => .bad) (fun _ => fun _ => .bad) (fun _ => fun _ => .bad) (fun xs _ st => .ok (.tup xs) st) (fun p st => @Option.rec Ob (fun _ => R D) .bad ((@Ob.rec (fun _ => R D) (fun xs => .ok (.tup xs) st) (fun _ => .bad) (fun _ _ => .bad) (fun _ => .bad) (fun _ _ _ => .bad) (fun _ _ => .bad) (fun _ => .bad) (fun _ => .bad))) (st.gt p)) (fun _ => fun _ => .bad) (fun _ => .bad) (fun _ _ _ => fun _ => .bad) () (fun _ _ _ _ => ())) d
def dBi (G : Gb) (b : BF) : CA := match b with
  | .len => ⟨fun as st => one1 lenR as st⟩
  | .tuple => ⟨fun as st => one1 tupR as st⟩
  | b => ⟨fun as st => bltn G b as st⟩
theorem dBi_eq (G : Gb) (b : BF) (as : List D) (st : St) : (dBi G b).run as st = bltn G b as st := by
  cases b <;> first | rfl | skip
  · show one1 lenR as st = _
    cases as with
    | nil => rfl
    | cons d r =>
      cases r with
      | cons e r => cases d <;> rfl
      | nil =>
        cases d <;> first | rfl | skip
        · show ifB _ _ _ = _; rw [ifB_eq]; rfl
        · rename_i xs; show R.ok (D.int (.ofNat (lenL xs))) st = _; rw [lenL_eq]; rfl
  · show one1 tupR as st = _
    cases as with
    | nil => rfl
    | cons d r =>
      cases r with
      | cons e r => cases d <;> rfl
      | nil =>
        cases d <;> first | rfl | skip
        rename_i p
        show @Option.rec Ob _ _ _ (st.gt p) = (match st.get p with | some (.lst xs) => R.ok (D.tup xs) st | _ => .bad)
        rw [St.gt_eq]
        cases st.get p with
        | none => rfl
        | some o => cases o <;> rfl
def isiS (G : Gb) (d : D) (t : BT) (st : St) : R D := match isTy G st d t with
  | some b => .ok (.bl b) st
  | none => .bad
def dIs (G : Gb) (t : BT) : C1 := match t with
  | .int => ⟨fun d st => (@D.rec (fun _ => St → R D) (fun _ => Unit) (fun st => .ok (.bl false) st) (fun _ st => .ok (.bl true) st) (fun _ st => .ok (.bl true) st) (fun _ st => .ok (.bl false) st) (fun _ _ st => .ok (.bl false) st) (fun n st => isiS G (.loc n) .int st) (fun _ => fun _ => .bad) (fun _ => .bad) (fun _ _ _ => fun _ => .bad) () (fun _ _ _ _ => ())) d st⟩
  | .bool => ⟨fun d st => (@D.rec (fun _ => St → R D) (fun _ => Unit) (fun st => .ok (.bl false) st) (fun _ st => .ok (.bl true) st) (fun _ st => .ok (.bl false) st) (fun _ st => .ok (.bl false) st) (fun _ _ st => .ok (.bl false) st) (fun n st => isiS G (.loc n) .bool st) (fun _ => fun _ => .bad) (fun _ => .bad) (fun _ _ _ => fun _ => .bad) () (fun _ _ _ _ => ())) d st⟩
  | .tuple => ⟨fun d st => (@D.rec (fun _ => St → R D) (fun _ => Unit) (fun st => .ok (.bl false) st) (fun _ st => .ok (.bl false) st) (fun _ st => .ok (.bl false) st) (fun _ st => .ok (.bl false) st) (fun _ _ st => .ok (.bl true) st) (fun n st => isiS G (.loc n) .tuple st) (fun _ => fun _ => .bad) (fun _ => .bad) (fun _ _ _ => fun _ => .bad) () (fun _ _ _ _ => ())) d st⟩
  | t => ⟨fun d st => isiS G d t st⟩
theorem dIs_eq (G : Gb) (t : BT) (d : D) (st : St) : (dIs G t).run d st = (match isTy G st d t with | some b => .ok (.bl b) st | none => .bad) := by
  cases t <;> first | rfl | (cases d <;> rfl)
def getR (a i : D) : St → R D := (@D.rec (fun _ => St → R D) (fun _ => Unit) (fun _ => .bad) (fun _ => fun _ => .bad) (fun k st => @Option.rec (List D) (fun _ => R D) .bad (fun xs => @Option.rec Nat (fun _ => R D) .bad (fun j => @Option.rec D (fun _ => St → R D) (fun _ => .bad) nrmR (nth xs j) st) (normIx (lenL xs) k)) (seqOfQ a st)) (fun _ => fun _ => .bad) (fun _ _ => fun _ => .bad) (fun _ => fun _ => .bad) (fun _ => fun _ => .bad) (fun _ => .bad) (fun p is _ st => getIx a (.cho p is) st) () (fun _ _ _ _ => ())) i
theorem getR_eq (a i : D) (st : St) : getR a i st = getIx a i st := by
  cases i <;> first | rfl | skip
  rename_i k
  show @Option.rec (List D) _ _ _ (seqOfQ a st) = (match seqOf st a with | some xs => (match normIx xs.length k with | some j => R.of (xs[j]?.map (nrm st)) st | none => .bad) | none => .bad)
  rw [seqOfQ_eq]
  cases seqOf st a with
  | none => rfl
  | some xs =>
    show @Option.rec Nat _ _ _ (normIx (lenL xs) k) = (match normIx xs.length k with | some j => R.of (xs[j]?.map (nrm st)) st | none => .bad)
    rw [lenL_eq]
    cases normIx xs.length k with
    | none => rfl
    | some j =>
      show @Option.rec D (fun _ => St → R D) _ _ (nth xs j) st = R.of (xs[j]?.map (nrm st)) st
      rw [nth_eq]
      cases xs[j]? with
      | none => rfl
      | some d => exact nrmR_eq d st
/-! ### iterators -/
def nxK (K : Nat) (z o t h : D → Nat → St → Option (Option D)) : D → Nat → St → Option (Option D) := @Nat.rec (fun _ => D → Nat → St → Option (Option D)) z (fun K _ => @Nat.rec (fun _ => D → Nat → St → Option (Option D)) o (fun K _ => @Nat.rec (fun _ => D → Nat → St → Option (Option D)) t (fun K _ => @Nat.rec (fun _ => D → Nat → St → Option (Option D)) h (fun _ _ _ _ _ => none) K) K) K) K
def nxSeq (d : D) (i : Nat) (st : St) : Option (Option D) := @Option.rec (List D) (fun _ => Option (Option D)) none (fun xs => some (nth xs i)) (seqOfQ d st)
def nxRng (lo n : Int) (i : Nat) : Option (Option D) := @Bool.rec (fun _ => Option (Option D)) (some none) (some (some (.int (iadd lo (.ofNat i))))) (ilt (.ofNat i) n)
/-- ranges and sequences -/
def nextR (it : D) : Nat → St → Option (Option D) := (@D.rec (fun _ => Nat → St → Option (Option D)) (fun _ => Unit) (fun _ _ => none) (fun _ => fun _ _ => none) (fun _ => fun _ _ => none) (fun _ => fun _ _ => none) (fun xs _ i st => @List.rec D (fun _ => Option (Option D)) none (fun h r _ =>
    @List.rec D (fun _ => Option (Option D)) (nextI 3 (.tup xs) i st) (fun a r2 _ => ((@D.rec (fun _ => Option (Option D)) (fun _ => Unit) (nextI 3 (.tup xs) i st) (fun _ => nextI 3 (.tup xs) i st) (fun K => @Int.rec (fun _ => Option (Option D)) (fun K => @Nat.rec (fun _ => Option (Option D)) (nextI 3 (.tup xs) i st) (fun K _ => @Nat.rec (fun _ => Option (Option D)) (@List.rec D (fun _ => Option (Option D)) (nxSeq a i st) (fun _ _ _ => none) r2) (fun _ _ => nextI 3 (.tup xs) i st) K) K) (fun _ => nextI 3 (.tup xs) i st) K) (fun _ => nextI 3 (.tup xs) i st) (fun _ _ => nextI 3 (.tup xs) i st) (fun _ => nextI 3 (.tup xs) i st) (fun _ => nextI 3 (.tup xs) i st) (nextI 3 (.tup xs) i st) (fun _ _ _ => nextI 3 (.tup xs) i st) () (fun _ _ _ _ => ()))) h) r) xs) (fun _ => fun _ _ => none) (fun _ => fun _ _ => none) (fun _ _ => none) (fun _ _ _ => fun _ _ => none) () (fun _ _ _ _ => ())) it
theorem nextR_eq (it : D) (i : Nat) (st : St) : nextR it i st = nextI 3 it i st := by
  cases it <;> first | rfl | skip
  rename_i xs
  cases xs with
  | nil => rfl
  | cons h r =>
    cases r with
    | nil => rfl
    | cons a r2 =>
      cases h <;> first | rfl | skip
      rename_i K
      cases K with
      | negSucc K => rfl
      | ofNat K =>
        cases K with
        | zero => rfl
        | succ K =>
          cases K with
          | succ K => rfl
          | zero =>
            cases r2 with
            | cons b r2 => rfl
            | nil =>
              show nxSeq a i st = (match seqOf st a with | some xs => some xs[i]? | none => none)
              unfold nxSeq
              rw [seqOfQ_eq]
              cases seqOf st a with
              | none => rfl
              | some ys => show some (nth ys i) = _; rw [nth_eq]
def isSeqR (x : D) (st : St) : R D := @Option.rec (List D) (fun _ => R D) .bad (fun _ => .ok (.tup [.int 1, x]) st) (seqOfQ x st)
theorem isSeqR_eq (x : D) (st : St) : isSeqR x st = (match seqOf st x with | some _ => .ok (.tup [.int 1, x]) st | none => .bad) := by
  unfold isSeqR; rw [seqOfQ_eq]; cases seqOf st x <;> rfl
def dIt (a : E) : CE := match a with
  | .rng1 a => ⟨fun r σ κ st => stRng1 r a σ κ st⟩
  | .rng2 a b => ⟨fun r σ κ st => stRng2 r a b σ κ st⟩
  | .enu a => ⟨fun r σ κ st => ((r.e a σ κ st).bd isSeqR).bd fun x st => .ok (.tup [.int 2, x]) st⟩
  | .zip a b => ⟨fun r σ κ st => stIt r (.zip a b) σ κ st⟩
  | a => ⟨fun r σ κ st => (r.e a σ κ st).bd isSeqR⟩
theorem iter_eq (r : Evs) (a : E) (σ : Sg) (κ : List (Nat × Nat)) (st : St) : (r.e a σ κ st).bd isSeqR = stIter r a σ κ st := by
  unfold stIter
  rw [R.bd_eq]
  congr 1
  funext x st
  exact isSeqR_eq x st
theorem dIt_eq (a : E) (r : Evs) (σ : Sg) (κ : List (Nat × Nat)) (st : St) : (dIt a).run r σ κ st = stIt r a σ κ st := by
  cases a <;> first | rfl | exact iter_eq .. | skip
  show ((r.e _ σ κ st).bd isSeqR).bd _ = _
  rw [iter_eq, R.bd_eq]; rfl
/-! ### stores -/
def store1R (t : T) : D → Sg → List (Nat × Nat) → St → Option (Sg × St) := match t with
  | .nm i => fun d σ κ st => some (setL σ (some d) i, putCellQ κ i d st)
  | t => fun d σ κ st => store1 t d σ κ st
theorem store1R_eq (t : T) (d : D) (σ : Sg) (κ : List (Nat × Nat)) (st : St) : store1R t d σ κ st = store1 t d σ κ st := by
  cases t with
  | nm i => show some (setL σ (some d) i, putCellQ κ i d st) = _; rw [setL_eq, putCellQ_eq]; rfl
  | tp is => rfl
structure C1S where
  run : D → Sg → List (Nat × Nat) → St → Option (Sg × St)
def dSt1 (t : T) : C1S := ⟨fun d σ κ st => store1R t d σ κ st⟩
def toF {α : Type} (x : R α) (f : α → St → F) : F := @R.rec α (fun _ => F) f (fun c fs st => .exc c fs st) .bad x
theorem toF_eq {α : Type} (x : R α) (f : α → St → F) : toF x f = F.to x f := by cases x <;> rfl
def F.sq (x : F) (f : Sg → St → F) : F := @F.rec (fun _ => F) f (fun d st => .ret d st) (fun σ st => .brk σ st) (fun σ st => .cnt σ st) (fun c fs st => .exc c fs st) .bad x
theorem F.sq_eq (x : F) (f : Sg → St → F) : x.sq f = x.seq f := by cases x <;> rfl
structure CSt where
  run : Evs → D → Sg → List (Nat × Nat) → St → F
def dTg (G : Gb) (t : Tg) : CSt := match t with
  | .nm i => ⟨fun r d σ κ st => .nx (setL σ (some d) i) (putCellQ κ i d st)⟩
  | t => ⟨fun r d σ κ st => stStore G r t d σ κ st⟩
theorem dTg_eq (G : Gb) (t : Tg) (r : Evs) (d : D) (σ : Sg) (κ : List (Nat × Nat)) (st : St) : (dTg G t).run r d σ κ st = stStore G r t d σ κ st := by
  cases t <;> first | rfl | skip
  show F.nx (setL σ (some d) _) (putCellQ κ _ d st) = _
  rw [setL_eq, putCellQ_eq]; rfl
def stStoresQ (G : Gb) (r : Evs) (ts : List Tg) : List D → Sg → List (Nat × Nat) → St → F := @List.rec Tg (fun _ => List D → Sg → List (Nat × Nat) → St → F) (fun ds σ κ st => @List.rec D (fun _ => F) (.nx σ st) (fun _ _ _ => .bad) ds)
  (fun t _ ih ds σ κ st => @List.rec D (fun _ => F) .bad (fun d ds _ => F.sq ((dTg G t).run r d σ κ st) fun σ st => ih ds σ κ st) ds) ts
theorem stStoresQ_eq (G : Gb) (r : Evs) : ∀ (ts : List Tg) (ds : List D) (σ : Sg) (κ : List (Nat × Nat)) (st : St), stStoresQ G r ts ds σ κ st = stStores G r ts ds σ κ st
  | [], [], σ, κ, st => rfl
  | [], d :: ds, σ, κ, st => rfl
  | t :: ts, [], σ, κ, st => rfl
  | t :: ts, d :: ds, σ, κ, st => by
    show F.sq ((dTg G t).run r d σ κ st) (fun σ st => stStoresQ G r ts ds σ κ st) = (stStore G r t d σ κ st).seq fun σ st => stStores G r ts ds σ κ st
    rw [F.sq_eq, dTg_eq]
    congr 1
    funext σ st
    exact stStoresQ_eq G r ts ds σ κ st
/-! ### calls -/
def startQ (ds : List D) (tl : Sg) : Sg := @List.rec D (fun _ => Sg) tl (fun d _ ih => some d :: ih) ds
theorem startQ_eq (tl : Sg) : ∀ ds, startQ ds tl = ds.map some ++ tl
  | [] => rfl
  | d :: ds => by rw [List.map_cons, List.cons_append, ← startQ_eq tl ds]; rfl
def endQ (x : F) : R D := @F.rec (fun _ => R D) (fun _ st => .ok .non st) (fun d st => .ok d st) (fun _ _ => .bad) (fun _ _ => .bad) (fun c fs st => .exc c fs st) .bad x
theorem endQ_eq (x : F) : endQ x = endF [] x := by cases x <;> rfl
def plainU (u : Fun) : Bool := @List.rec Nat (fun _ => Bool) true (fun _ _ _ => false) u.cells
structure CF where
  run : Evs → List D → St → R D
def callU (G : Gb) (f : Nat) (u : Fun) (r : Evs) (ds : List D) (st : St) : R D :=
  @Bool.rec (fun _ => R D) (stCallP G r f ds st) (endQ (r.ss u.body (startQ ds (List.replicate (u.ns - u.np) none)) [] st)) (@Bool.rec (fun _ => Bool) false (Nat.beq (lenL ds) u.np) (plainU u))
theorem callU_eq (G : Gb) (f : Nat) (u : Fun) (r : Evs) (ds : List D) (st : St) (h : G.tab[f]? = some (.fn u)) : callU G f u r ds st = stCallP G r f ds st := by
  unfold callU
  cases e1 : plainU u with
  | false => rfl
  | true =>
    cases e2 : Nat.beq (lenL ds) u.np with
    | false => rfl
    | true =>
      show endQ (r.ss u.body (startQ ds (List.replicate (u.ns - u.np) none)) [] st) = _
      have hl := Nat.eq_of_beq_eq_true e2
      rw [lenL_eq] at hl
      have hc : u.cells = [] := by
        unfold plainU at e1
        cases q : u.cells with
        | nil => rfl
        | cons a b => rw [q] at e1; cases e1
      unfold stCallP
      rw [h]
      show _ = cond (Nat.ble ds.length u.np && Nat.ble u.np (ds.length + u.dfl.length)) (match newCells ((ds ++ u.dfl.drop (u.dfl.length - (u.np - ds.length))).map some ++ List.replicate (u.ns - u.np) none) u.cells st with
        | some (κ, st) => endF κ (r.ss u.body ((ds ++ u.dfl.drop (u.dfl.length - (u.np - ds.length))).map some ++ List.replicate (u.ns - u.np) none) κ st)
        | none => .bad) .bad
      rw [hl, hc, Nat.sub_self, Nat.sub_zero, List.drop_length, List.append_nil, Nat.ble_eq_true_of_le (Nat.le_refl _), Nat.ble_eq_true_of_le (Nat.le_add_right _ _), endQ_eq, startQ_eq]
      rfl
def isPl (k : Kd) : Bool := @Kd.rec (fun _ => Bool) true false (fun _ => false) k
def dFn (G : Gb) (k : Nat) (f : Nat) : CF := match G.tab[f]? with
  | some (.fn u) => match u.kd with
    | .pl => ⟨fun r ds st => callU G f u r ds st⟩
    | .fork => ⟨fun r ds st => stFork G r 1 f ds st⟩
    | .ov n => ⟨fun r ds st => G.ov k n ds st⟩
  | _ => ⟨fun r ds st => .bad⟩
theorem dFn_eq (G : Gb) (k f : Nat) (r : Evs) (ds : List D) (st : St) : (dFn G k f).run r ds st = stCallF G r k f ds st := by
  unfold dFn stCallF
  cases h : G.tab[f]? with
  | none => rfl
  | some x =>
    cases x with
    | cls _ => rfl
    | val _ => rfl
    | fn u =>
      show CF.run (match u.kd with
        | .pl => ⟨fun r ds st => callU G f u r ds st⟩
        | .fork => ⟨fun r ds st => stFork G r 1 f ds st⟩
        | .ov n => ⟨fun r ds st => G.ov k n ds st⟩) r ds st = (match u.kd with
        | .pl => stCallP G r f ds st
        | .fork => stFork G r 1 f ds st
        | .ov n => G.ov k n ds st)
      cases u.kd with
      | pl => exact callU_eq G f u r ds st h
      | fork => rfl
      | ov n => rfl
/-! ### expressions -/
def isPlainSub (a i : D) (st : St) : R D := getR a i st
def hasFn (G : Gb) (f : Nat) : Bool := match G.tab[f]? with
  | some (.fn _) => true
  | _ => false
def attrR (G : Gb) (f : Nat) (x : D) : St → R D := (@D.rec (fun _ => St → R D) (fun _ => Unit) (fun _ => .bad) (fun _ => fun _ => .bad) (fun _ => fun _ => .bad) (fun _ => fun _ => .bad) (fun _ _ => fun _ => .bad) (fun p st => @Option.rec Ob (fun _ => R D) .bad ((@Ob.rec (fun _ => R D) (fun _ => .bad) (fun _ => .bad) (fun c fs => ifB (notM G c f) (@Option.rec D (fun _ => St → R D) (fun _ => .bad) nrmR (lookF f fs) st) .bad) (fun _ => .bad) (fun _ _ _ => .bad) (fun _ _ => .bad) (fun _ => .bad) (fun _ => .bad))) (st.gt p)) (fun _ => fun _ => .bad) (fun _ => .bad) (fun _ _ _ => fun _ => .bad) () (fun _ _ _ _ => ())) x
theorem attrR_eq (G : Gb) (f : Nat) (x : D) (st : St) : attrR G f x st = (match x with
  | .loc p => match st.get p with
    | some (.ins c fs) => cond (notM G c f) (R.of ((lookF f fs).map (nrm st)) st) .bad
    | _ => .bad
  | _ => .bad) := by
  cases x <;> first | rfl | skip
  rename_i p
  show @Option.rec Ob _ _ _ (st.gt p) = (match st.get p with
    | some (.ins c fs) => cond (notM G c f) (R.of ((lookF f fs).map (nrm st)) st) .bad
    | _ => .bad)
  rw [St.gt_eq]
  cases st.get p with
  | none => rfl
  | some o =>
    cases o <;> first | rfl | skip
    rename_i c fs
    show ifB (notM G c f) (@Option.rec D (fun _ => St → R D) (fun _ => .bad) nrmR (lookF f fs) st) .bad = cond (notM G c f) (R.of ((lookF f fs).map (nrm st)) st) .bad
    rw [ifB_eq]
    congr 1
    cases lookF f fs with
    | none => rfl
    | some d => exact nrmR_eq d st
def stLcItQ (r : Evs) (elt : E) (tg : T) (it : E) (ifs : List E) (own : List Nat) (σ : Sg) (κ : List (Nat × Nat)) (st : St) : R D :=
  ((dIt it).run r σ κ st).bd fun it st => (allocQ (.lst []) st).bd fun l st => lcFin l (r.lcg elt tg it ifs 0 (wipe σ own) l st)
theorem stLcItQ_eq (r : Evs) (elt : E) (tg : T) (it : E) (ifs : List E) (own : List Nat) (σ : Sg) (κ : List (Nat × Nat)) (st : St) : stLcItQ r elt tg it ifs own σ κ st = stLcIt r elt tg it ifs own σ κ st := by
  unfold stLcItQ stLcIt
  rw [dIt_eq, R.bd_eq]
  congr 1
  funext it st
  rw [allocQ_eq, R.bd_eq]
def dnE (G : Gb) (e : E) : CE :=
  match e with
  | .var i => ⟨fun r σ κ st => slotQ σ i st⟩
  | .int i => ⟨fun r σ κ st => .ok (.int i) st⟩
  | .bl b => ⟨fun r σ κ st => .ok (.bl b) st⟩
  | .non => ⟨fun r σ κ st => .ok .non st⟩
  | .str s => ⟨fun r σ κ st => .ok (.str s) st⟩
  | .glo g => (match G.tab[g]? with
    | some (.val d) => ⟨fun r σ κ st => .ok d st⟩
    | some (.fn _) => ⟨fun r σ κ st => .ok (.fn g) st⟩
    | _ => ⟨fun r σ κ st => .bad⟩)
  | .op o a b => ⟨fun r σ κ st => (r.e a σ κ st).bd fun x st => (r.e b σ κ st).bd fun y st => (dOp o).run x y st⟩
  | .cmp c a b => ⟨fun r σ κ st => (r.e a σ κ st).bd fun x st => (r.e b σ κ st).bd fun y st => (dCm c).run x y st⟩
  | .ite c a b => ⟨fun r σ κ st => (r.t c σ κ st).bd fun k st => ifB k (r.e a σ κ st) (r.e b σ κ st)⟩
  | .tup es => ⟨fun r σ κ st => (r.l es σ κ st).bd fun ds st => ifB (Nat.ble (lenL ds) 100000) (.ok (.tup ds) st) .bad⟩
  | .lst es => ⟨fun r σ κ st => (r.l es σ κ st).bd fun ds st => ifB (Nat.ble (lenL ds) 100000) (allocQ (.lst ds) st) .bad⟩
  | .star _ => ⟨fun r σ κ st => .bad⟩
  | .call f es => (match G.tab[f]? with
    | some (.fn _) => ⟨fun r σ κ st => (r.l es σ κ st).bd fun ds st => r.call f ds st⟩
    | _ => ⟨fun r σ κ st => .bad⟩)
  | .bi b es => ⟨fun r σ κ st => (r.l es σ κ st).bd fun ds st => (dBi G b).run ds st⟩
  | .isi a t => ⟨fun r σ κ st => (r.e a σ κ st).bd fun d st => (dIs G t).run d st⟩
  | .attr o f => ⟨fun r σ κ st => (r.e o σ κ st).bd (attrR G f)⟩
  | .sub a i => ⟨fun r σ κ st => (r.e a σ κ st).bd fun x st => (r.e i σ κ st).bd fun y st => getR x y st⟩
  | .lc elt tg it ifs own => ⟨fun r σ κ st => stLcItQ r elt tg it ifs own σ κ st⟩
  | e => ⟨fun r σ κ st => stE G r e σ κ st⟩
theorem dnE_eq (G : Gb) (e : E) (r : Evs) (σ : Sg) (κ : List (Nat × Nat)) (st : St) : (dnE G e).run r σ κ st = stE G r e σ κ st := by
  cases e <;> first | rfl | skip
  · exact slotQ_eq ..
  · rename_i g
    show CE.run (match G.tab[g]? with
      | some (.val d) => ⟨fun r σ κ st => .ok d st⟩
      | some (.fn _) => ⟨fun r σ κ st => .ok (.fn g) st⟩
      | _ => ⟨fun r σ κ st => .bad⟩) r σ κ st = gloD G g st
    unfold gloD
    cases G.tab[g]? with
    | none => rfl
    | some x => cases x <;> rfl
  · show (r.e _ σ κ st).bd _ = stOp r _ _ _ σ κ st
    unfold stOp
    rw [R.bd_eq]; congr 1; funext x st; rw [R.bd_eq]; congr 1; funext y st; exact dOp_eq ..
  · show (r.e _ σ κ st).bd _ = stCmp r _ _ _ σ κ st
    unfold stCmp
    rw [R.bd_eq]; congr 1; funext x st; rw [R.bd_eq]; congr 1; funext y st; exact dCm_eq ..
  · show (r.t _ σ κ st).bd _ = stIte r _ _ _ σ κ st
    unfold stIte
    rw [R.bd_eq]; congr 1; funext x st; rw [ifB_eq]
  · show (r.l _ σ κ st).bd _ = stTup r _ σ κ st
    unfold stTup
    rw [R.bd_eq]; congr 1; funext x st; rw [ifB_eq, lenL_eq]
  · show (r.l _ σ κ st).bd _ = stLst r _ σ κ st
    unfold stLst
    rw [R.bd_eq]; congr 1; funext x st; rw [ifB_eq, lenL_eq, allocQ_eq]
  · rename_i f es
    show CE.run (match G.tab[f]? with
      | some (.fn _) => ⟨fun r σ κ st => (r.l es σ κ st).bd fun ds st => r.call f ds st⟩
      | _ => ⟨fun r σ κ st => .bad⟩) r σ κ st = stCall G r f es σ κ st
    unfold stCall
    cases G.tab[f]? with
    | none => rfl
    | some x => cases x <;> first | rfl | exact R.bd_eq ..
  · show (r.l _ σ κ st).bd _ = stBi G r _ _ σ κ st
    unfold stBi
    rw [R.bd_eq]; congr 1; funext x st; exact dBi_eq ..
  · show (r.e _ σ κ st).bd _ = stIsi G r _ _ σ κ st
    unfold stIsi
    rw [R.bd_eq]; congr 1; funext x st; exact dIs_eq ..
  · show (r.e _ σ κ st).bd _ = stAttr G r _ _ σ κ st
    unfold stAttr
    rw [R.bd_eq]; congr 1; funext x st; exact attrR_eq ..
  · show (r.e _ σ κ st).bd _ = stSub r _ _ σ κ st
    unfold stSub
    rw [R.bd_eq]; congr 1; funext x st; rw [R.bd_eq]; congr 1; funext y st; exact getR_eq ..
  · exact stLcItQ_eq ..
def dnT (e : E) : CT :=
  match e with
  | .not a => ⟨fun r σ κ st => (r.t a σ κ st).bd fun k st => .ok (!k) st⟩
  | .and a b => ⟨fun r σ κ st => (r.t a σ κ st).bd fun k st => ifB k (r.t b σ κ st) (.ok false st)⟩
  | .or a b => ⟨fun r σ κ st => (r.t a σ κ st).bd fun k st => ifB k (.ok true st) (r.t b σ κ st)⟩
  | .ite c a b => ⟨fun r σ κ st => (r.t c σ κ st).bd fun k st => ifB k (r.t a σ κ st) (r.t b σ κ st)⟩
  | e => ⟨fun r σ κ st => (r.e e σ κ st).bd truR⟩
theorem dnT_eq (e : E) (r : Evs) (σ : Sg) (κ : List (Nat × Nat)) (st : St) : (dnT e).run r σ κ st = stT r e σ κ st := by
  have gen : ∀ e, (r.e e σ κ st).bd truR = (r.e e σ κ st).bind fun x st => match tru st x with
    | some k => .ok k st
    | none => .bad := fun e => by rw [R.bd_eq]; congr 1; funext x st; exact truR_eq ..
  cases e <;> first | exact gen _ | skip
  · exact R.bd_eq ..
  · show (r.t _ σ κ st).bd _ = (r.t _ σ κ st).bind _
    rw [R.bd_eq]; congr 1; funext x st; rw [ifB_eq]
  · show (r.t _ σ κ st).bd _ = (r.t _ σ κ st).bind _
    rw [R.bd_eq]; congr 1; funext x st; rw [ifB_eq]
  · show (r.t _ σ κ st).bd _ = (r.t _ σ κ st).bind _
    rw [R.bd_eq]; congr 1; funext x st; rw [ifB_eq]
def dnL (es : List E) : CL :=
  match es with
  | [] => ⟨fun r σ κ st => .ok [] st⟩
  | .star a :: es => ⟨fun r σ κ st => stL r (.star a :: es) σ κ st⟩
  | e :: es => ⟨fun r σ κ st => (r.e e σ κ st).bd fun d st => (r.l es σ κ st).bd fun ds st => .ok (d :: ds) st⟩
theorem dnL_eq (e : List E) (r : Evs) (σ : Sg) (κ : List (Nat × Nat)) (st : St) : (dnL e).run r σ κ st = stL r e σ κ st := by
  cases e with
  | nil => rfl
  | cons a es =>
    have gen : ∀ a, ((r.e a σ κ st).bd fun d st => (r.l es σ κ st).bd fun ds st => .ok (d :: ds) st) = (r.e a σ κ st).bind fun d st => (r.l es σ κ st).bind fun ds st => .ok (d :: ds) st := fun a => by
      rw [R.bd_eq]; congr 1; funext d st; exact R.bd_eq ..
    cases a <;> first | rfl | exact gen _
def tupsF (x : D) (n : Nat) (f : List D → St → F) : St → F := (@D.rec (fun _ => St → F) (fun _ => Unit) (fun _ => .bad) (fun _ => fun _ => .bad) (fun _ => fun _ => .bad) (fun _ => fun _ => .bad) (fun ds _ st => @Bool.rec (fun _ => F) .bad (f ds st) (Nat.beq (lenL ds) n)) (fun _ => fun _ => .bad) (fun _ => fun _ => .bad) (fun _ => .bad) (fun _ _ _ => fun _ => .bad) () (fun _ _ _ _ => ())) x
def dnS (G : Gb) (s : S) : CS :=
  match s with
  | .exp e => ⟨fun r σ κ st => toF (r.e e σ κ st) fun _ st => .nx σ st⟩
  | .set t e => ⟨fun r σ κ st => toF (r.e e σ κ st) fun d st => (dTg G t).run r d σ κ st⟩
  | .tup ts e => ⟨fun r σ κ st => toF (r.e e σ κ st) fun d st => tupsF d ts.length (fun ds st => stStoresQ G r ts ds σ κ st) st⟩
  | .ifs c a b => ⟨fun r σ κ st => toF (r.t c σ κ st) fun k st => ifB k (r.ss a σ κ st) (r.ss b σ κ st)⟩
  | .whl c b => ⟨fun r σ κ st => r.whl c b σ κ st⟩
  | .for t it b => ⟨fun r σ κ st => toF ((dIt it).run r σ κ st) fun it st => r.forg t it b 0 σ κ st⟩
  | .ret e => ⟨fun r σ κ st => toF (r.e e σ κ st) fun d st => .ret d st⟩
  | .retN => ⟨fun r σ κ st => .ret .non st⟩
  | .brk => ⟨fun r σ κ st => .brk σ st⟩
  | .cnt => ⟨fun r σ κ st => .cnt σ st⟩
  | .pas => ⟨fun r σ κ st => .nx σ st⟩
  | s => ⟨fun r σ κ st => stS G r s σ κ st⟩
theorem dnS_eq (G : Gb) (s : S) (r : Evs) (σ : Sg) (κ : List (Nat × Nat)) (st : St) : (dnS G s).run r σ κ st = stS G r s σ κ st := by
  cases s <;> first | rfl | skip
  · exact toF_eq ..
  · show toF (r.e _ σ κ st) _ = F.to (r.e _ σ κ st) _
    rw [toF_eq]; congr 1; funext d st; exact dTg_eq ..
  · rename_i ts e
    show toF (r.e _ σ κ st) _ = F.to (r.e _ σ κ st) _
    rw [toF_eq]; congr 1; funext d st
    cases d <;> first | rfl | skip
    rename_i ds
    show @Bool.rec (fun _ => F) .bad (stStoresQ G r ts ds σ κ st) (Nat.beq (lenL ds) ts.length) = cond (Nat.beq ds.length ts.length) (stStores G r ts ds σ κ st) .bad
    rw [lenL_eq, stStoresQ_eq]
    cases Nat.beq ds.length ts.length <;> rfl
  · show toF (r.t _ σ κ st) _ = F.to (r.t _ σ κ st) _
    rw [toF_eq]; congr 1; funext d st; exact ifB_eq ..
  · show toF ((dIt _).run r σ κ st) _ = F.to (stIt r _ σ κ st) _
    rw [toF_eq, dIt_eq]
  · exact toF_eq ..
def dnSs (G : Gb) (b : List S) : CS :=
  match b with
  | [] => ⟨fun r σ κ st => .nx σ st⟩
  | s :: b => ⟨fun r σ κ st => F.sq ((dnS G s).run r σ κ st) fun σ st => r.ss b σ κ st⟩
theorem dnSs_eq (G : Gb) (b : List S) (r : Evs) (σ : Sg) (κ : List (Nat × Nat)) (st : St) : (dnSs G b).run r σ κ st = stSs G r b σ κ st := by
  cases b with
  | nil => rfl
  | cons s b => show F.sq ((dnS G s).run r σ κ st) _ = F.seq (stS G r s σ κ st) _; rw [F.sq_eq, dnS_eq]
/-! ### blocks, loops -/
def lcPutQ (l x : D) : St → Option St := (@D.rec (fun _ => St → Option St) (fun _ => Unit) (fun _ => none) (fun _ => fun _ => none) (fun _ => fun _ => none) (fun _ => fun _ => none) (fun _ _ => fun _ => none) (fun p st => @Option.rec Ob (fun _ => Option St) none ((@Ob.rec (fun _ => Option St) (fun xs => @Bool.rec (fun _ => Option St) none (some (st.st p (.lst (app xs [x])))) (Nat.ble (lenL xs) 100000)) (fun _ => none) (fun _ _ => none) (fun _ => none) (fun _ _ _ => none) (fun _ _ => none) (fun _ => none) (fun _ => none))) (st.gt p)) (fun _ => fun _ => none) (fun _ => none) (fun _ _ _ => fun _ => none) () (fun _ _ _ _ => ())) l
theorem lcPutQ_eq (l x : D) (st : St) : lcPutQ l x st = lcPut l x st := by
  cases l <;> first | rfl | skip
  rename_i p
  show @Option.rec Ob _ _ _ (st.gt p) = (match st.get p with
    | some (.lst xs) => cond (Nat.ble xs.length 100000) (some (st.set p (.lst (xs ++ [x])))) none
    | _ => none)
  rw [St.gt_eq]
  cases st.get p with
  | none => rfl
  | some o =>
    cases o <;> first | rfl | skip
    rename_i xs
    show @Bool.rec (fun _ => Option St) none (some (st.st p (.lst (app xs [x])))) (Nat.ble (lenL xs) 100000) = cond (Nat.ble xs.length 100000) (some (st.set p (.lst (xs ++ [x])))) none
    rw [lenL_eq, app_eq, St.st_eq]
    cases Nat.ble xs.length 100000 <;> rfl
structure CIf where
  run : Evs → Sg → St → R Bool
def dIf (cs : List E) : CIf := match cs with
  | [] => ⟨fun r σ st => .ok true st⟩
  | [c] => ⟨fun r σ st => r.t c σ [] st⟩
  | _ => ⟨fun r σ st => .bad⟩
theorem dIf_eq (cs : List E) (r : Evs) (σ : Sg) (st : St) : (dIf cs).run r σ st = testAll r cs σ [] st := by
  match cs with
  | [] => rfl
  | [c] => rfl
  | a :: b :: c => rfl
def oo (o : Option (Option D)) (e : R D) (f : D → R D) : R D := @Option.rec (Option D) (fun _ => R D) .bad (fun o => @Option.rec D (fun _ => R D) e f o) o
def ooF (o : Option (Option D)) (e : F) (f : D → F) : F := @Option.rec (Option D) (fun _ => F) .bad (fun o => @Option.rec D (fun _ => F) e f o) o
def lcgQ (r : Evs) (elt : E) (tg : T) (it : D) (ifs : List E) (i : Nat) (σ : Sg) (l : D) (st : St) : R D :=
  oo (nextR it i st) (.ok .non st) fun d => @Option.rec (Sg × St) (fun _ => R D) .bad (fun p => ((dIf ifs).run r p.1 p.2).bd fun k st => ifB k ((r.e elt p.1 [] st).bd fun x st => @Option.rec St (fun _ => R D) .bad (fun st => r.lcg elt tg it ifs (Nat.succ i) σ l st) (lcPutQ l x st))
    (r.lcg elt tg it ifs (Nat.succ i) σ l st)) ((dSt1 tg).run d σ [] st)
theorem lcgQ_eq (r : Evs) (elt : E) (tg : T) (it : D) (ifs : List E) (i : Nat) (σ : Sg) (l : D) (st : St) : lcgQ r elt tg it ifs i σ l st = stLcg r elt tg it ifs i σ l st := by
  unfold lcgQ stLcg
  rw [nextR_eq]
  cases nextI 3 it i st with
  | none => rfl
  | some o =>
    cases o with
    | none => rfl
    | some d =>
      show @Option.rec (Sg × St) (fun _ => R D) .bad _ (store1R tg d σ [] st) = (match store1 tg d σ [] st with
        | none => R.bad
        | some (σ', st) => (testAll r ifs σ' [] st).bind fun k st => cond k ((r.e elt σ' [] st).bind fun x st => match lcPut l x st with
          | some st => r.lcg elt tg it ifs (i + 1) σ l st
          | none => .bad) (r.lcg elt tg it ifs (i + 1) σ l st))
      rw [store1R_eq]
      cases store1 tg d σ [] st with
      | none => rfl
      | some p =>
        obtain ⟨σ', st⟩ := p
        show ((dIf ifs).run r σ' st).bd _ = (testAll r ifs σ' [] st).bind _
        rw [R.bd_eq, dIf_eq]
        congr 1
        funext k st
        rw [ifB_eq, R.bd_eq]
        congr 1
        congr 1
        funext x st
        rw [lcPutQ_eq]
        cases lcPut l x st <;> rfl
def forgQ (r : Evs) (t : T) (it : D) (b : List S) (i : Nat) (σ : Sg) (κ : List (Nat × Nat)) (st : St) : F :=
  ooF (nextR it i st) (.nx σ st) fun d => @Option.rec (Sg × St) (fun _ => F) .bad (fun p => @F.rec (fun _ => F) (fun σ st => r.forg t it b (Nat.succ i) σ κ st) (fun d st => .ret d st) (fun σ st => .nx σ st) (fun σ st => r.forg t it b (Nat.succ i) σ κ st) (fun c fs st => .exc c fs st) .bad (r.ss b p.1 κ p.2)) ((dSt1 t).run d σ κ st)
theorem forgQ_eq (r : Evs) (t : T) (it : D) (b : List S) (i : Nat) (σ : Sg) (κ : List (Nat × Nat)) (st : St) : forgQ r t it b i σ κ st = stForg r t it b i σ κ st := by
  unfold forgQ stForg
  rw [nextR_eq]
  cases nextI 3 it i st with
  | none => rfl
  | some o =>
    cases o with
    | none => rfl
    | some d =>
      show @Option.rec (Sg × St) (fun _ => F) .bad _ (store1R t d σ κ st) = (match store1 t d σ κ st with
        | none => F.bad
        | some (σ, st) => match r.ss b σ κ st with
          | .nx σ st | .cnt σ st => r.forg t it b (i + 1) σ κ st
          | .brk σ st => .nx σ st
          | x => x)
      rw [store1R_eq]
      cases store1 t d σ κ st with
      | none => rfl
      | some p =>
        obtain ⟨σ', st⟩ := p
        show @F.rec (fun _ => F) _ _ _ _ _ _ (r.ss b σ' κ st) = (match r.ss b σ' κ st with
          | .nx σ st | .cnt σ st => r.forg t it b (i + 1) σ κ st
          | .brk σ st => .nx σ st
          | x => x)
        cases r.ss b σ' κ st <;> rfl
def whlQ (r : Evs) (c : E) (b : List S) (σ : Sg) (κ : List (Nat × Nat)) (st : St) : F :=
  toF (r.t c σ κ st) fun k st => ifB k (@F.rec (fun _ => F) (fun σ st => r.whl c b σ κ st) (fun d st => .ret d st) (fun σ st => .nx σ st) (fun σ st => r.whl c b σ κ st) (fun c fs st => .exc c fs st) .bad (r.ss b σ κ st)) (.nx σ st)
theorem whlQ_eq (r : Evs) (c : E) (b : List S) (σ : Sg) (κ : List (Nat × Nat)) (st : St) : whlQ r c b σ κ st = stWhl r c b σ κ st := by
  unfold whlQ stWhl
  rw [toF_eq]
  congr 1
  funext k st
  rw [ifB_eq]
  congr 1
  cases r.ss b σ κ st <;> rfl
def stAllQ (G : Gb) (k : Nat) (rc r : Evs) : Evs where
  e := fun e σ κ st => (dnE G e).run r σ κ st
  t := fun e σ κ st => (dnT e).run r σ κ st
  l := fun e σ κ st => (dnL e).run r σ κ st
  ss := fun e σ κ st => (dnSs G e).run r σ κ st
  call := fun f ds st => (dFn G k f).run rc ds st
  callv := stCallV G rc k
  lcg := lcgQ r
  forg := forgQ r
  whl := whlQ r
theorem stAllQ_eq (G : Gb) (k : Nat) (rc r : Evs) : stAllQ G k rc r = stAll G k rc r := by
  unfold stAllQ stAll
  congr 1
  · funext e σ κ st; exact dnE_eq ..
  · funext e σ κ st; exact dnT_eq ..
  · funext e σ κ st; exact dnL_eq ..
  · funext e σ κ st; exact dnSs_eq ..
  · funext f ds st; exact dFn_eq ..
  · funext elt tg it ifs i σ l st; exact lcgQ_eq ..
  · funext t it b i σ κ st; exact forgQ_eq ..
  · funext c b σ κ st; exact whlQ_eq ..
def evFQ (G : Gb) (k : Nat) (rc : Evs) : Nat → Evs := @Nat.rec (fun _ => Evs) evBad (fun _ ih => stAllQ G k rc ih)
def evsQ (G : Gb) (m : Nat) : Nat → Evs := @Nat.rec (fun _ => Evs) evBad (fun k ih => evFQ G k ih m)
theorem evFQ_eq (G : Gb) (k : Nat) (rc : Evs) : ∀ n, evFQ G k rc n = evF G k rc n
  | 0 => rfl
  | n + 1 => by show stAllQ _ _ _ (evFQ G k rc n) = stAll _ _ _ _; rw [stAllQ_eq, evFQ_eq G k rc n]
theorem evsQ_eq (G : Gb) (m : Nat) : ∀ k, evsQ G m k = evs G m k
  | 0 => rfl
  | k + 1 => by show evFQ _ _ (evsQ G m k) _ = evF _ _ _ _; rw [evFQ_eq, evsQ_eq G m k]
end
end MX
end
section
set_option Elab.async false
set_option linter.all false
set_option maxRecDepth 1000000
set_option maxHeartbeats 0
namespace MX
open PySem
def reKd (f : Nat → Kd) : Nat → List GI → List GI
  | _, [] => []
  | i, .fn u :: r => .fn { u with kd := f i } :: reKd f (i + 1) r
  | i, x :: r => x :: reKd f (i + 1) r
theorem reKd_kd {f : Nat → Kd} : ∀ {l : List GI} {i g : Nat} {u : Fun}, (reKd f i l)[g]? = some (.fn u) → u.kd = f (i + g)
  | [], _, _, _, h => by simp [reKd] at h
  | .fn v :: r, i, 0, u, h => by simp [reKd] at h; rw [← h]; rfl
  | .cls v :: r, i, 0, u, h => by simp [reKd] at h
  | .val v :: r, i, 0, u, h => by simp [reKd] at h
  | .fn v :: r, i, g + 1, u, h => by
    have z := reKd_kd (i := i + 1) (l := r) (g := g) (by simpa [reKd] using h)
    rw [z]; congr 1; omega
  | .cls v :: r, i, g + 1, u, h => by
    have z := reKd_kd (i := i + 1) (l := r) (g := g) (by simpa [reKd] using h)
    rw [z]; congr 1; omega
  | .val v :: r, i, g + 1, u, h => by
    have z := reKd_kd (i := i + 1) (l := r) (g := g) (by simpa [reKd] using h)
    rw [z]; congr 1; omega
/-- which readings stand in a table -/
def ovB (l : List GI) (ok : Nat → Nat → Bool) : Bool := l.zipIdx.all fun p => match p.1 with
  | .fn u => (match u.kd with
    | .ov n => ok p.2 n
    | _ => true)
  | _ => true
theorem ovB_ok {l : List GI} {ok : Nat → Nat → Bool} (h : ovB l ok = true) {g n : Nat} {u : Fun} (e : l[g]? = some (.fn u)) (k : u.kd = .ov n) : ok g n = true := by
  have z := List.all_eq_true.mp h (.fn u, g) (by rw [List.mem_zipIdx_iff_getElem?]; exact e)
  have z : (match u.kd with | .ov n => ok g n | _ => true) = true := z
  rw [k] at z
  exact z
def half : D := .tup [.int 1, .int 2]
def onE : D := .tup [.int 1, .int 1]
def nou : D := .tup [.int 0, .int 1]
def ws86 : List D := [.tup [.tup [half, nou], .tup [.tup [.int 1, .int 4], half]], .tup [.tup [onE, nou], .tup [nou, half]]]
def GB86 : Gb := ⟨tabB86, fun k n ds st => match n with | 0 => rollO k ds st | _ => .bad⟩
def GC86 : Gb := ⟨reKd (fun i => if i = 90 then .ov 2 else if i = 94 then .ov 1 else .pl) 0 tabB86, fun k n ds st => match n with | 1 => frameO 24 ws86 (.bl true) 6 k ds st | 2 => diceO k ds st | _ => .bad⟩
def L86 : Law := ⟨P86, ens, gl, clsl, att, [(5, .idx), (6, .ari)]⟩
def fnAt (G : Gb) (i : Nat) : Fun := match (G.tab[i]? : Option GI) with
  | some (.fn u) => u
  | _ => ⟨0, 0, [], [], [], .pl⟩
theorem st86 : (L86.ens.all (stEn L86)) = true := by decide +kernel
theorem nd86 : decide (L86.at_.Nodup) = true := by decide +kernel
theorem compB86 : L86.ens.map (cEn L86.P L86.gl L86.cl L86.at_) = GB86.tab.map fun x => some x.pl := by kernel_rfl
theorem plC86 : (GC86.tab.map fun x => some x.pl) = GB86.tab.map fun x => some x.pl := by kernel_rfl
theorem textB86 : L86.Text GB86 := ⟨compB86, st86, nd86⟩
theorem textC86 : L86.Text GC86 := ⟨compB86.trans plC86.symm, st86, nd86⟩
theorem exk86 : exkOk L86 = true := by decide +kernel
theorem exs86 : (L86.exk.all fun p => exS L86.P (fldOf L86 p.1) (initStm L86 p.1)) = true := by decide +kernel
theorem isc86 : okIsC L86 = true := by decide +kernel
theorem roll86 : RollG GB86 91 := ⟨by kernel_rfl, fun g u n h k => by
  have z := ovB_ok (l := tabB86) (ok := fun g n => Nat.beq g 91 && Nat.beq n 0) (by decide +kernel) h k
  simp only [Bool.and_eq_true] at z
  exact ⟨Nat.eq_of_beq_eq_true z.1, Nat.eq_of_beq_eq_true z.2⟩, fun _ _ _ => rfl⟩
theorem lawrun86 : ((List.range 64).all fun n => okLaw ((evs GC86 400 30).ss (fnAt GC86 95).body (some (.loc 0) :: List.replicate ((fnAt GC86 95).ns - 1) none) [] (stX (.scr n)))) = true := by
  rw [← evsQ_eq]
  decide +kernel
theorem right86at : GB86.tab[94]? = some (.fn (fnAt GB86 94)) := by kernel_rfl
theorem dice86at : GC86.tab[90]? = some (.fn ⟨2, 5, [], diceB, [], .ov 2⟩) := by kernel_rfl
theorem law86at : GC86.tab[95]? = some (.fn (fnAt GC86 95)) := by kernel_rfl
theorem law86np : (fnAt GC86 95).np = 1 := by kernel_rfl
theorem law86ce : (fnAt GC86 95).cells = [] := by kernel_rfl
end MX
end
section
set_option Elab.async false
set_option linter.all false
set_option maxRecDepth 1000000
set_option maxHeartbeats 0
namespace MX
open PySem PySem.W PySem.Calls PyProof.Rows
abbrev R86 : OpenRow := OpenLaw.row PySem.Challenge.rw_makesmore_k86_errors_of_wages_and_passin
abbrev qv86 : Program := view P86 [105]
def nm86 : List PySem.Str := (P86.main.scope.names.map (·.1)).filter fun x => !(x == ("law" : PySem.Str)) && !(x == ("__name__" : PySem.Str))
theorem run86 (w : World) : HandSHeadRun.RunEq R86 qv86 (hookX L86 GB86) (obsX L86 GB86) 20000 nm86 w := by
  intro os
  kernel_rfl
end MX
end
section
set_option Elab.async false
set_option linter.all false
set_option maxRecDepth 1000000
set_option maxHeartbeats 0
namespace MX
theorem right86 : okRun (.bl true) 6 (stCallP GB86 (evs GB86 400 24) 94 (.loc 0 :: ws86) stDice) = true := by
  rw [← evsQ_eq]
  decide +kernel
theorem lawG86 : LawG GC86 GB86 91 90 94 400 24 6 (fnAt GB86 94) ws86 where
  roll := roll86
  dice := dice86at
  odice := fun _ _ _ => rfl
  right := right86at
  oright := fun _ _ _ => rfl
  clos := by decide +kernel
  run := right86
  two := fun g u n h k => by
    have z := reKd_kd h
    rw [k, Nat.zero_add] at z
    by_cases h1 : g = 90
    · rw [if_pos h1] at z
      cases z
      exact .inl ⟨h1, rfl⟩
    · rw [if_neg h1] at z
      by_cases h2 : g = 94
      · rw [if_pos h2] at z
        cases z
        exact .inr ⟨h2, rfl⟩
      · rw [if_neg h2] at z
        cases z
end MX
end
section
set_option Elab.async false
set_option linter.all false
set_option maxRecDepth 1000000
set_option maxHeartbeats 0
open MX PySem PySem.W PySem.Calls PyProof.Rows
theorem PySem.Challenge.cw_makesmore_k86_errors_of_wages_and_passin_holds : PySem.Challenge.rw_makesmore_k86_errors_of_wages_and_passin.Holds := by
  w_on; o_law
  refine HandSHeadRun.head_any (r := R86) (q := qv86) (H := hookX L86 GB86) (ob := obsX L86 GB86) (M := 20000) (loose := nm86) (d := HandSHeadRun.topDef P86 105) (kwd := []) (obsX_eq L86 GB86)
    (by kernel_rfl) (fun s => by kernel_rfl) run86 (by kernel_rfl) (by kernel_rfl) (by kernel_rfl) (by rfl) (by first | assumption | decide +kernel) (by decide +kernel) ⟨rfl, rfl, rfl, rfl, rfl, by decide +kernel⟩ ?hw ?hc
  case hw => w_witness2
  case hc =>
    exact walk_law (l := PySem.Challenge.rw_makesmore_k86_errors_of_wages_and_passin) (L := L86) (G1 := GB86) (GC := GC86) (GB := GB86) (li := 95) (m' := 400) (k := 30) rfl (by kernel_rfl) rfl (fun _ _ h => h) textB86 textC86 textB86 isc86 exk86 exs86
      lawG86 (by kernel_rfl) law86at law86np law86ce ⟨rfl, by decide, by decide⟩ fun n hn => List.all_eq_true.mp lawrun86 n (List.mem_range.mpr (by omega))
end
