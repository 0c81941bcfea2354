import PyProof.Rows.All
import Wide.All
import OpenK.AllK
import Wide.FinOn
import HandS.ForMost
import HandS.Exc
import HandS.ExcOwn
import HandS.TryOnly
import HandS.WordsExc
import HandS.Wide
import HandS.TupAny
import HandS.TupLe
import HandS.Deep
import HandS.Conv
import HandS.IsInst
import HandS.SortRule
import HandS.TupSets
import HandS.FStr
import HandS.SetFor
import HandS.Flow
import HandS.SortInts
import HandS.Style
import HandS.Small
import KE.KDictDisplayH
import KE.KDictCopyH
import HandS.More
import KE.DataFind
import HandS.Strs
import KE.SortCalls
import HandS.NamedTupSort
import KE.GoesMore
import HandS.Iter
import HandS.ExcIs
import HandS.Text
import HandS.Codes
import PySem.Challenge.RW_stepfits_k12_whole_texts
set_option Elab.async false
set_option linter.all false
set_option maxRecDepth 100000
set_option maxHeartbeats 2000000
namespace SF

/-- data -/
inductive D where
  | non
  | bl (b : Bool)
  | int (i : Int)
  | str (s : List Nat)
  | tup (xs : List D)
  | lst (xs : List D)
  | dT (kvs : List (List Int × D))
  | dK (kvs : List (Int × D))
  | dr
  | ob
  | ex (c : Nat)
  deriving Inhabited

/-- the state: the draws, the fitter's fields -/
structure W where
  nums : List Int
  cnt : Int
  kind : D := .non
  srs : List D := []
  rws : List (List D) := []

inductive R (α : Type) where
  | ok (a : α) (w : W)
  | exc (c : Nat) (w : W)
  | bad

def R.bind {α β : Type} (x : R α) (f : α → W → R β) : R β :=
  match x with
  | .ok a w => f a w
  | .exc c w => .exc c w
  | .bad => .bad

@[simp] theorem bind_ok {α β : Type} (a : α) (w : W) (f : α → W → R β) : (R.ok a w).bind f = f a w := rfl
@[simp] theorem bind_exc {α β : Type} (c : Nat) (w : W) (f : α → W → R β) : (R.exc c w : R α).bind f = .exc c w := rfl
@[simp] theorem bind_bad {α β : Type} (f : α → W → R β) : (R.bad : R α).bind f = .bad := rfl

def opt {α : Type} (o : Option α) (w : W) : R α :=
  match o with
  | some a => .ok a w
  | none => .bad
@[simp] theorem opt_some {α : Type} (a : α) (w : W) : opt (some a) w = .ok a w := rfl
@[simp] theorem opt_none {α : Type} (w : W) : opt (none : Option α) w = .bad := rfl

inductive Slot where
  | no
  | sh (d : D)
  | ow (d : D)
abbrev Env := List Slot

def Slot.get : Slot → Option D
  | .no => none
  | .sh d => some d
  | .ow d => some d
def getS (ρ : Env) (i : Nat) : Option D := (ρ[i]?).bind Slot.get

inductive Op where
  | add | sub | mul | div | mod | pow
inductive Cm where
  | eq | ne | lt | le | gt | ge | isin | notin
inductive Ty where
  | int | bool | str | tuple | list | exc (c : Nat)
inductive Bl where
  | len | abs | sum | sorted | sortT | sortC | min1 | min2 | max2 | list | tuple | str | int | all | sset
inductive Tg where
  | nm (i : Nat)
  | tp (is : List Nat)

inductive E where
  | var (i : Nat)
  | int (i : Int)
  | str (s : List Nat)
  | bl (b : Bool)
  | non
  | bin (op : Op) (a b : E)
  | neg (a : E)
  | not (a : E)
  | and (a b : E)
  | or (a b : E)
  | cmp (op : Cm) (a b : E)
  | chn (o1 o2 : Cm) (a b c : E)
  | isb (ng : Bool) (b : Option Bool) (a : E)
  | ife (c a b : E)
  | tup (es : List E)
  | lst (es : List E)
  | dnil (t : Bool)
  | done (t : Bool) (k v : E)
  | call (f : Nat) (es : List E)
  | blt (b : Bl) (es : List E)
  | rng (a b c : E)
  | enm (a : E)
  | enmT (a : E)
  | keys (a : E)
  | chars (a : E)
  | idx (a i : E)
  | slc (a lo hi : E)
  | rev (a : E)
  | get (a k d : E)
  | cnt (a x : E)
  | ixo (a x : E)
  | join (a b : E)
  | split (a b : E)
  | fmt (a : E) (s : List Nat) (b : E)
  | lc (elt : E) (tg : Tg) (it cond : E) (own : List Nat)
  | lcK (elt : E) (tg : Tg) (i : Nat) (cond : E) (own : List Nat)
  | isi (a : E) (t : Ty)
  | inK (ng : Bool) (a : E) (ks : List (List Nat))
  | rgT (l : Bool) (a b : E)
  | sset (a : E)
  | fK (i : Nat)
  | fN (i : Nat)
  | fL (i : Nat)
  | fS (i : Nat) (lo hi : E)
  | fA (i : Nat)
  | fR (i : Nat) (a b : E)
  | fRL (i : Nat) (a : E)
  | fP (i : Nat)
  | fCS (f i : Nat) (e : E)
  | mth (f i : Nat) (es : List E)
  | fB (f : Nat) (e : E)
  | fLn (f i : Nat)
  | stk

inductive S where
  | asg (i : Nat) (e : E) (own : Bool) (hd : List Nat)
  | asgT (is : List Nat) (e : E) (hd : List Nat)
  | par (i j : Nat) (a b : E) (hd : List Nat)
  | parE (i j : Nat) (hd : List Nat)
  | aug (i : Nat) (op : Op) (e : E)
  | ext (i : Nat) (e : E)
  | app (i : Nat) (e : E)
  | set (i : Nat) (k e : E)
  | rem (i : Nat) (e : E)
  | exp (e : E)
  | ife (c : E) (a b : List S)
  | for (tg : Tg) (it : E) (hd : List Nat) (body : List S)
  | forK (tg : Tg) (i : Nat) (hd : List Nat) (body : List S)
  | whl (c : E) (body : List S)
  | ret (e : E)
  | retN
  | raise (c : Nat)
  | tryE (body : List S) (c : Nat) (i : Nat) (suite : List S)
  | fApp (i : Nat) (e : E)
  | fApR (i j : Nat)
  | fPpR (i : Nat)
  | newF (f i : Nat) (j : Option Nat) (e : E) (rest : List S)
  | fEA (f i : Nat) (e : E)
  | asgX (i f t : Nat) (it : E)
  | stk

/-! ### data operations -/
mutual
def flat : D → Bool
  | .non => true
  | .bl _ => true
  | .int _ => true
  | .str _ => true
  | .tup xs => flats xs
  | .lst _ => false
  | .dT _ => false
  | .dK _ => false
  | .dr => true
  | .ob => true
  | .ex _ => true
def flats : List D → Bool
  | [] => true
  | x :: xs => flat x && flats xs
end

mutual
def eqD : D → D → Bool
  | .non, .non => true
  | .bl a, .bl b => a == b
  | .int a, .int b => a == b
  | .bl a, .int b => (if a then 1 else 0) == b
  | .int a, .bl b => a == (if b then 1 else 0)
  | .str a, .str b => a == b
  | .tup a, .tup b => eqDs a b
  | .lst a, .lst b => eqDs a b
  | _, _ => false
def eqDs : List D → List D → Bool
  | [], [] => true
  | a :: as, b :: bs => eqD a b && eqDs as bs
  | _, _ => false
end

/-! data that == is asked of: no dicts, no objects, not deep -/
mutual
def plainAt : Nat → D → Bool
  | _, .non => true
  | _, .bl _ => true
  | _, .int _ => true
  | _, .str s => s.all fun c => decide (c < 1114112)
  | 0, .tup _ => false
  | n + 1, .tup xs => plainsAt n xs
  | 0, .lst _ => false
  | n + 1, .lst xs => plainsAt n xs
  | _, .dT _ => false
  | _, .dK _ => false
  | _, .dr => false
  | _, .ob => false
  | _, .ex _ => false
def plainsAt : Nat → List D → Bool
  | _, [] => true
  | n, x :: xs => plainAt n x && plainsAt n xs
end
abbrev plain (d : D) : Bool := plainAt 8 d
abbrev plains (ds : List D) : Bool := plainsAt 8 ds

def LIM : Nat := 100000
def BIG : Nat := 2 ^ 4000

def intOf : D → Option Int
  | .int i => some i
  | _ => none
def «ints» : List D → Option (List Int)
  | [] => some []
  | x :: xs => match intOf x, «ints» xs with
    | some i, some is => some (i :: is)
    | _, _ => none
def boolOf : D → Option Bool
  | .bl b => some b
  | _ => none
def bools : List D → Option (List Bool)
  | [] => some []
  | x :: xs => match boolOf x, bools xs with
    | some i, some is => some (i :: is)
    | _, _ => none
def strOf : D → Option (List Nat)
  | .str s => some s
  | _ => none
def «strs» : List D → Option (List (List Nat))
  | [] => some []
  | x :: xs => match strOf x, «strs» xs with
    | some i, some is => some (i :: is)
    | _, _ => none
def tupInts : D → Option (List Int)
  | .tup xs => «ints» xs
  | _ => none
def tupsInts : List D → Option (List (List Int))
  | [] => some []
  | x :: xs => match tupInts x, tupsInts xs with
    | some i, some is => some (i :: is)
    | _, _ => none

def binD : Op → D → D → Option D
  | .add, .int a, .int b => some (.int (a + b))
  | .add, .str a, .str b => if a.length + b.length ≤ LIM then some (.str (a ++ b)) else none
  | .add, .lst a, .lst b => if a.length + b.length ≤ LIM then some (.lst (a ++ b)) else none
  | .add, .tup a, .tup b => if a.length + b.length ≤ LIM then some (.tup (a ++ b)) else none
  | .sub, .int a, .int b => some (.int (a - b))
  | .mul, .int a, .int b => if a.natAbs < BIG ∧ b.natAbs < BIG then some (.int (a * b)) else none
  | .mul, .lst a, .int b => if 0 ≤ b ∧ b < 100000 ∧ a.length * b.toNat ≤ LIM then some (.lst (List.replicate b.toNat a).flatten) else none
  | .div, .int a, .int b => if 0 < b ∧ b.natAbs < BIG then some (.int (a / b)) else none
  | .mod, .int a, .int b => if 0 < b then some (.int (a % b)) else none
  | .pow, .int a, .int b => if 0 ≤ b ∧ b ≤ 100 ∧ a.natAbs < 2 ^ 64 then some (.int (a ^ b.toNat)) else none
  | _, _, _ => none

/-- x op= y -/
def augD : Op → D → D → Option D
  | .add, .int a, .int b => some (.int (a + b))
  | .sub, .int a, .int b => some (.int (a - b))
  | .add, .tup a, .tup b => if a.length + b.length ≤ LIM then some (.tup (a ++ b)) else none
  | _, _, _ => none

def lexLt : List Int → List Int → Bool
  | _, [] => false
  | [], _ :: _ => true
  | x :: xs, y :: ys => if x = y then lexLt xs ys else decide (x < y)

def valT (kvs : List (List Int × D)) (k : List Int) : Option D := (kvs.find? fun kv => decide (kv.1 = k)).map (·.2)
def valK (kvs : List (Int × D)) (k : Int) : Option D := (kvs.find? fun kv => decide (kv.1 = k)).map (·.2)
def putT (kvs : List (List Int × D)) (k : List Int) (v : D) : List (List Int × D) :=
  if (kvs.any fun kv => decide (kv.1 = k)) = true then kvs.map fun kv => if kv.1 = k then (kv.1, v) else kv else kvs ++ [(k, v)]
def putKk (kvs : List (Int × D)) (k : Int) (v : D) : List (Int × D) :=
  if (kvs.any fun kv => decide (kv.1 = k)) = true then kvs.map fun kv => if kv.1 = k then (kv.1, v) else kv else kvs ++ [(k, v)]

def memD (x : D) (xs : List D) : Bool := xs.any fun y => eqD y x

def scal : D → Bool
  | .non => true
  | .bl _ => true
  | .int _ => true
  | .str _ => true
  | _ => false
/-- x in c -/
def inD : D → D → Option Bool
  | x, .lst ys => if plain x && plains ys then some (memD x ys) else none
  | x, .tup ys => if scal x && ys.all scal then some (memD x ys) else none
  | .str [c], .str s => some (decide (c ∈ s))
  | .int k, .dK kvs => some (valK kvs k).isSome
  | .tup ks, .dT kvs => («ints» ks).map fun k => (valT kvs k).isSome
  | _, _ => none

def cmpD : Cm → D → D → Option Bool
  | .eq, a, b => if plain a && plain b then some (eqD a b) else none
  | .ne, a, b => if plain a && plain b then some (!eqD a b) else none
  | .lt, .int a, .int b => some (decide (a < b))
  | .lt, .bl a, .int b => some (decide ((if a = true then (1 : Int) else 0) < b))
  | .le, .int a, .int b => some (decide (a ≤ b))
  | .gt, .int a, .int b => some (decide (b < a))
  | .ge, .int a, .int b => some (decide (b ≤ a))
  | .lt, .tup a, .tup b => match «ints» a, «ints» b with
    | some x, some y => some (lexLt x y)
    | _, _ => none
  | .isin, a, c => inD a c
  | .notin, a, c => (inD a c).map not
  | _, _, _ => none

def ixN (n : Nat) (i : Int) : Option Nat := if 0 ≤ i then (if i < n then some i.toNat else none) else if -(n : Int) ≤ i then some (i + n).toNat else none
def atI {α : Type} (xs : List α) (i : Int) : Option α := (ixN xs.length i).bind fun j => xs[j]?

def idxD : D → D → Option D
  | .lst xs, .int i => atI xs i
  | .tup xs, .int i => atI xs i
  | .dK kvs, .int k => valK kvs k
  | .dT kvs, .tup ks => («ints» ks).bind fun k => valT kvs k
  | _, _ => none

def sIx (n d : Nat) : Option Int → Nat
  | none => d
  | some v => if v < 0 then (v + n).toNat else min v.toNat n
def cutL {α : Type} (xs : List α) (lo hi : Option Int) : List α :=
  (xs.drop (sIx xs.length 0 lo)).take (sIx xs.length xs.length hi - sIx xs.length 0 lo)
def slcO (a : D) (l h : Option Int) : Option D :=
  match a with
  | .lst xs => some (.lst (cutL xs l h))
  | .tup xs => if (cutL xs l h).length = xs.length then none else some (.tup (cutL xs l h))
  | .str s => if s.length ≤ LIM then some (.str (cutL s l h)) else none
  | _ => none
def partR (e : E) (r : R D) : R (Option Int) :=
  match e with
  | .non => r.bind fun _ w => .ok none w
  | _ => r.bind fun y w => match y with
    | .int i => .ok (some i) w
    | _ => .bad

/-- insertion sort by a strict order -/
def insBy {α : Type} (lt : α → α → Bool) (x : α) : List α → List α
  | [] => [x]
  | y :: ys => if lt y x then y :: insBy lt x ys else x :: y :: ys
def isort {α : Type} (lt : α → α → Bool) : List α → List α
  | [] => []
  | x :: xs => insBy lt x (isort lt xs)
def sortI (xs : List Int) : List Int := isort (fun a b => decide (a < b)) xs
def sortT (xs : List (List Int)) : List (List Int) := isort lexLt xs

def sortedD : D → Option D
  | .lst xs => match «ints» xs with
    | some is => some (.lst ((sortI is).map .int))
    | none => match tupsInts xs with
      | some ts => if ts.all fun t => decide (t.length = 2) then some (.lst ((sortT ts).map fun t => .tup (t.map .int))) else none
      | none => none
  | .dK kvs => if kvs.length < 64 then some (.lst ((sortI (kvs.map (·.1))).map .int)) else none
  | _ => none
/-- of a dict's tuple keys; of a list of tuples that begins with () -/
def sortTD : D → Option D
  | .dT kvs => if kvs.all fun kv => decide (kv.1.length = 2) then some (.lst ((sortT (kvs.map (·.1))).map fun t => .tup (t.map .int))) else none
  | _ => none
def sortCD : D → Option D
  | .lst (.tup [] :: xs) => match tupsInts xs with
    | some ts => some (.lst ((sortT ([] :: ts)).map fun t => .tup (t.map .int)))
    | none => none
  | _ => none

def lenD : D → Option Int
  | .lst xs => some xs.length
  | .tup xs => some xs.length
  | .str xs => if xs.length ≤ LIM then some xs.length else none
  | _ => none

def natCps (n : Nat) : List Nat := (Nat.toDigits 10 n).map Char.toNat
def intCps : Int → List Nat
  | .ofNat n => natCps n
  | .negSucc n => 45 :: natCps (n + 1)
/-- the int of a text of digits, a sign ahead or none -/
def dgs (l : List Nat) : Bool := l.all fun c => decide (48 ≤ c) && decide (c ≤ 57)
def dval (l : List Nat) : Nat := l.foldl (fun a c => a * 10 + (c - 48)) 0
def cpsInt : List Nat → Option Int
  | [] => none
  | 45 :: r => if !r.isEmpty && dgs r then some (-(dval r : Int)) else none
  | c :: r => if dgs (c :: r) then some (dval (c :: r) : Int) else none

def minL : Int → List Int → Int
  | m, [] => m
  | m, x :: xs => minL (if x < m then x else m) xs
def dedup : List Int → List Int
  | [] => []
  | x :: xs => if x ∈ xs then dedup xs else x :: dedup xs

def bltD : Bl → List D → Option D
  | .len, [a] => (lenD a).map .int
  | .abs, [.int i] => some (.int (if i < 0 then -i else i))
  | .abs, [.bl b] => some (.int (if b then 1 else 0))
  | .sum, [.lst xs] => («ints» xs).map fun is => .int is.sum
  | .sorted, [a] => sortedD a
  | .sortT, [a] => sortTD a
  | .sortC, [a] => sortCD a
  | .min1, [.lst xs] => match «ints» xs with
    | some (i :: is) => some (.int (minL i is))
    | _ => none
  | .min2, [.int a, .int b] => some (.int (if b < a then b else a))
  | .max2, [.int a, .int b] => some (.int (if b > a then b else a))
  | .list, [.lst xs] => some (.lst xs)
  | .list, [.tup xs] => some (.lst xs)
  | .tuple, [.lst xs] => some (.tup xs)
  | .tuple, [.tup xs] => some (.tup xs)
  | .str, [.int i] => if i.natAbs < 2 ^ 1900 then some (.str (intCps i)) else none
  | .int, [.str s] => if s.length ≤ 600 then (cpsInt s).map .int else none
  | .all, [.lst xs] => (bools xs).map fun bs => .bl (bs.all id)
  | .sset, [.tup xs] => if xs.length ≤ 60 then («ints» xs).map fun is => .lst ((sortI (dedup is)).map .int) else none
  | _, _ => none

def rangeL (a b c : Int) : Option (List D) :=
  if -1000 ≤ a ∧ a ≤ 1000 ∧ -1000 ≤ b ∧ b ≤ 1000 then
    if c = 1 then some ((List.range (b - a).toNat).map fun (k : Nat) => .int (a + (k : Int)))
    else if c = -1 then some ((List.range (a - b).toNat).map fun (k : Nat) => .int (a + (k : Int) * -1))
    else none
  else none

def enumL : Int → List D → List D
  | _, [] => []
  | n, x :: xs => .tup [.int n, x] :: enumL (n + 1) xs

def itemsD : D → Option (List D)
  | .lst xs => some xs
  | .tup xs => some xs
  | _ => none
def keysD : D → Option (List D)
  | .dK kvs => some (kvs.map fun kv => .int kv.1)
  | _ => none
def charsD : D → Option (List D)
  | .str s => some (s.map fun c => .str [c])
  | _ => none

def revD : D → Option D
  | .lst xs => some (.lst xs.reverse)
  | _ => none

def cntD : D → D → Option D
  | .lst xs, x => if plain x && plains xs then some (.int ((xs.filter fun y => eqD y x).length)) else none
  | _, _ => none
def findI {α : Type} (p : α → Bool) : List α → Option Nat
  | [] => none
  | x :: xs => if p x then some 0 else (findI p xs).map (· + 1)
def ixoD : D → D → Option D
  | .lst xs, x => if plain x && plains xs then (findI (fun y => eqD y x) xs).map fun k => .int (k : Int) else none
  | _, _ => none

def joinS (sep : List Nat) : List (List Nat) → List Nat
  | [] => []
  | [x] => x
  | x :: y :: r => x ++ sep ++ joinS sep (y :: r)
def joinD : D → D → Option D
  | .str sep, .lst xs => match «strs» xs with
    | some ss => if (ss.map List.length).sum + ss.length * sep.length ≤ LIM then some (.str (joinS sep ss)) else none
    | none => none
  | _, _ => none
/-- s.split(c), one sign -/
def splitS (c : Nat) : List Nat → List Nat → List (List Nat)
  | acc, [] => [acc]
  | acc, x :: xs => if x = c then acc :: splitS c [] xs else splitS c (acc ++ [x]) xs
def splitD : D → D → Option D
  | .str s, .str [c] => if s.length ≤ LIM ∧ c < 256 then some (.lst ((splitS c [] s).map .str)) else none
  | _, _ => none

def fmtD : D → Option (List Nat)
  | .int i => if i.natAbs < 2 ^ 1900 then some (intCps i) else none
  | _ => none

def isiD : D → Ty → Option Bool
  | .ex c, .exc k => if c < 7 then some (c == k || k == 0) else none
  | .ex _, _ => none
  | _, .exc _ => none
  | .bl _, .int => some true
  | .bl _, .bool => some true
  | .bl _, _ => some false
  | .int _, .int => some true
  | .int _, _ => some false
  | .str _, .str => some true
  | .str _, _ => some false
  | .tup _, .tuple => some true
  | .tup _, _ => some false
  | .lst _, .list => some true
  | .lst _, _ => some false
  | .non, _ => some false
  | _, _ => none

/-- x is None, True, False -/
def isbD : Option Bool → D → Option Bool
  | none, .non => some true
  | none, .dr => none
  | none, .ob => none
  | none, _ => some false
  | some b, .bl c => some (c == b)
  | some _, _ => none

def getDf : D → D → D → Option D
  | .dK kvs, .int k, d => some ((valK kvs k).getD d)
  | _, _, _ => none

def isLst : D → Bool
  | .lst _ => true
  | _ => false
def isDK : D → Bool
  | .dK _ => true
  | _ => false
def isStr : D → Bool
  | .str _ => true
  | _ => false
/-- {x: y} -/
def doneD (t : Bool) (x y : D) : Option D :=
  if flat y then (match t, x with
    | true, .tup ks => («ints» ks).map fun k => .dT [(k, y)]
    | false, .int k => some (.dK [(k, y)])
    | _, _ => none)
  else none

def wipe (ρ : Env) : List Nat → Env
  | [] => ρ
  | v :: vs => (wipe ρ vs).set v .no
def binds : List Nat → List D → Env → Option Env
  | [], [], ρ => some ρ
  | i :: is, d :: ds, ρ => binds is ds (ρ.set i (.sh d))
  | _, _, _ => none
def bindTg (tg : Tg) (d : D) (ρ : Env) : Option Env :=
  match tg with
  | .nm i => some (ρ.set i (.sh d))
  | .tp is => match d with
    | .tup ds => binds is ds ρ
    | _ => none

/-- a comprehension's loop; an error inside is not served -/
def lcRun (step : D → W → R (Option D)) : List D → W → R (List D)
  | [], w => .ok [] w
  | x :: xs, w => match step x w with
    | .ok o w1 => match lcRun step xs w1 with
      | .ok ys w2 => .ok (match o with | some y => y :: ys | none => ys) w2
      | _ => .bad
    | _ => .bad

/-! the fitter -/
def W.live (w : W) : Bool := match w.kind with
  | .str _ => true
  | _ => false
def isOb (ρ : Env) (i : Nat) (w : W) : Bool := match getS ρ i with
  | some .ob => w.live
  | _ => false
def rowAt (rws : List (List D)) : D → Option (List D)
  | .int i => atI rws i
  | _ => none
/-- a call that returns None; the fitter is as it was -/
def keepF (w : W) : R D → R D
  | .ok .non w1 => .ok .non { w1 with kind := w.kind, srs := w.srs, rws := w.rws }
  | .exc c w1 => .exc c { w1 with kind := w.kind, srs := w.srs, rws := w.rws }
  | _ => .bad
def excOnly : R D → R D
  | .exc c w => .exc c w
  | _ => .bad
/-- a length comes back -/
def lenOnly : R D → R D
  | .ok (.int n) w => if 0 ≤ n ∧ n ≤ 1000000 then .ok (.int n) w else .bad
  | _ => .bad
def isBad {α : Type} : R α → Bool
  | .bad => true
  | _ => false
def calm {α : Type} : R α → R α
  | .ok a w => .ok a w
  | _ => .bad

section
variable (call : Nat → List D → W → R D)
mutual
def ev : E → Env → W → R D
  | .var i, ρ, w => opt (getS ρ i) w
  | .int i, _, w => .ok (.int i) w
  | .str s, _, w => .ok (.str s) w
  | .bl b, _, w => .ok (.bl b) w
  | .non, _, w => .ok .non w
  | .bin op a b, ρ, w => (ev a ρ w).bind fun x w => (ev b ρ w).bind fun y w => opt (binD op x y) w
  | .neg a, ρ, w => (ev a ρ w).bind fun x w => match x with
    | .int i => .ok (.int (-i)) w
    | _ => .bad
  | .not a, ρ, w => (ev a ρ w).bind fun x w => match x with
    | .bl b => .ok (.bl (!b)) w
    | _ => .bad
  | .and a b, ρ, w => (ev a ρ w).bind fun x w => match x with
    | .bl true => ev b ρ w
    | .bl false => .ok (.bl false) w
    | _ => .bad
  | .or a b, ρ, w => (ev a ρ w).bind fun x w => match x with
    | .bl true => .ok (.bl true) w
    | .bl false => ev b ρ w
    | _ => .bad
  | .cmp op a b, ρ, w => (ev a ρ w).bind fun x w => (ev b ρ w).bind fun y w => opt ((cmpD op x y).map .bl) w
  | .chn o1 o2 a b c, ρ, w => (ev a ρ w).bind fun x w => (ev b ρ w).bind fun y w => match cmpD o1 x y with
    | some true => (ev c ρ w).bind fun z w => opt ((cmpD o2 y z).map .bl) w
    | some false => .ok (.bl false) w
    | none => .bad
  | .isb ng b a, ρ, w => (ev a ρ w).bind fun x w => opt ((isbD b x).map fun r => .bl (ng != r)) w
  | .ife c a b, ρ, w => (ev c ρ w).bind fun x w => match x with
    | .bl true => ev a ρ w
    | .bl false => ev b ρ w
    | _ => .bad
  | .tup es, ρ, w => (evs es ρ w).bind fun xs w => .ok (.tup xs) w
  | .lst es, ρ, w => (evs es ρ w).bind fun xs w => .ok (.lst xs) w
  | .dnil t, _, w => .ok (if t then .dT [] else .dK []) w
  | .done t k v, ρ, w => (ev k ρ w).bind fun x w => (ev v ρ w).bind fun y w => opt (doneD t x y) w
  | .call f es, ρ, w => (evs es ρ w).bind fun xs w => call f xs w
  | .blt b es, ρ, w => (evs es ρ w).bind fun xs w => opt (bltD b xs) w
  | .rng a b c, ρ, w => (ev a ρ w).bind fun x w => (ev b ρ w).bind fun y w => (ev c ρ w).bind fun z w => match x, y, z with
    | .int i, .int j, .int k => opt ((rangeL i j k).map .lst) w
    | _, _, _ => .bad
  | .rgT l a b, ρ, w => (ev a ρ w).bind fun x w => (ev b ρ w).bind fun y w => match x, y with
    | .int i, .int j => opt ((rangeL i j 1).map fun xs => if l then .lst xs else .tup xs) w
    | _, _ => .bad
  | .sset a, ρ, w => (ev a ρ w).bind fun x w => opt (bltD .sset [x]) w
  | .enm a, ρ, w => (ev a ρ w).bind fun x w => match x with
    | .lst xs => .ok (.lst (enumL 0 xs)) w
    | _ => .bad
  | .enmT a, ρ, w => (ev a ρ w).bind fun x w => match x with
    | .tup xs => .ok (.lst (enumL 0 xs)) w
    | _ => .bad
  | .keys a, ρ, w => (ev a ρ w).bind fun x w => opt ((keysD x).map .lst) w
  | .chars a, ρ, w => (ev a ρ w).bind fun x w => opt ((charsD x).map .lst) w
  | .idx a i, ρ, w => (ev a ρ w).bind fun x w => (ev i ρ w).bind fun y w => opt (idxD x y) w
  | .slc a lo hi, ρ, w => (ev a ρ w).bind fun x w => (partR lo (ev lo ρ w)).bind fun l w => (partR hi (ev hi ρ w)).bind fun h w => opt (slcO x l h) w
  | .rev a, ρ, w => (ev a ρ w).bind fun x w => opt (revD x) w
  | .get a k d, ρ, w => (ev a ρ w).bind fun x w => if isDK x then (ev k ρ w).bind fun y w => (ev d ρ w).bind fun z w => opt (getDf x y z) w else .bad
  | .cnt a x, ρ, w => (ev a ρ w).bind fun y w => if isLst y then (ev x ρ w).bind fun z w => opt (cntD y z) w else .bad
  | .ixo a x, ρ, w => (ev a ρ w).bind fun y w => if isLst y then (ev x ρ w).bind fun z w => opt (ixoD y z) w else .bad
  | .join a b, ρ, w => (ev a ρ w).bind fun y w => if isStr y then (ev b ρ w).bind fun z w => opt (joinD y z) w else .bad
  | .split a b, ρ, w => (ev a ρ w).bind fun y w => if isStr y then (ev b ρ w).bind fun z w => opt (splitD y z) w else .bad
  | .fmt a s b, ρ, w => (ev a ρ w).bind fun x w => (opt (fmtD x) w).bind fun p w => (ev b ρ w).bind fun y w => (opt (fmtD y) w).bind fun q w => .ok (.str (p ++ (s ++ q))) w
  | .lc elt tg it cond own, ρ, w => (ev it ρ w).bind fun x w => match itemsD x with
    | some xs => if xs.length ≤ LIM then
        (lcRun (fun d w => match bindTg tg d (wipe ρ own) with
          | some ρ' => (calm (ev cond ρ' w)).bind fun c w => match c with
            | .bl true => (calm (ev elt ρ' w)).bind fun y w => .ok (some y) w
            | .bl false => .ok none w
            | _ => .bad
          | none => .bad) xs w).bind fun ys w => .ok (.lst ys) w
      else .bad
    | none => .bad
  | .lcK elt tg i cond own, ρ, w => match getS ρ i with
    | some (.dK kvs) => if (kvs.map fun kv => D.int kv.1).length ≤ LIM then
        (lcRun (fun d w => match bindTg tg d (wipe ρ own) with
          | some ρ' => (calm (ev cond ρ' w)).bind fun c w => match c with
            | .bl true => (calm (ev elt ρ' w)).bind fun y w => .ok (some y) w
            | .bl false => .ok none w
            | _ => .bad
          | none => .bad) (kvs.map fun kv => .int kv.1) w).bind fun ys w => .ok (.lst ys) w
      else .bad
    | _ => .bad
  | .isi a t, ρ, w => (ev a ρ w).bind fun x w => opt ((isiD x t).map .bl) w
  | .inK ng a ks, ρ, w => (ev a ρ w).bind fun x w => match x with
    | .str s => .ok (.bl (ng != decide (s ∈ ks))) w
    | _ => .bad
  | .fK i, ρ, w => if isOb ρ i w then .ok w.kind w else .bad
  | .fN i, ρ, w => if isOb ρ i w then .ok (.bl w.srs.isEmpty) w else .bad
  | .fL i, ρ, w => if isOb ρ i w then .ok (.int w.srs.length) w else .bad
  | .fS i lo hi, ρ, w => if isOb ρ i w then (partR lo (ev lo ρ w)).bind fun l w => (partR hi (ev hi ρ w)).bind fun h w => if w.live then opt (slcO (.lst w.srs) l h) w else .bad else .bad
  | .fA i, ρ, w => if isOb ρ i w then .ok (.lst w.srs) w else .bad
  | .fR i a b, ρ, w => if isOb ρ i w then (ev a ρ w).bind fun x w => match (if w.live then rowAt w.rws x else none) with
      | some r => (ev b ρ w).bind fun y w => opt (idxD (.lst r) y) w
      | none => .bad
    else .bad
  | .fRL i a, ρ, w => if isOb ρ i w then (ev a ρ w).bind fun x w => match (if w.live then rowAt w.rws x else none) with
      | some r => .ok (.int r.length) w
      | none => .bad
    else .bad
  | .fP i, ρ, w => if isOb ρ i w then (match w.srs.getLast? with
      | some d => .ok d { w with srs := w.srs.dropLast }
      | none => .bad) else .bad
  | .fCS f i e, ρ, w => if isOb ρ i w then (ev e ρ w).bind fun y w => if w.live && scal y then keepF w (call f [.lst w.srs, y] w) else .bad else .bad
  | .mth f i es, ρ, w => if isOb ρ i w then (evs es ρ w).bind fun xs w => call f (.ob :: xs) w else .bad
  | .fB f e, ρ, w => (calm (ev e ρ w)).bind fun x w => excOnly (call f [x] w)
  | .fLn f i, ρ, w => if isOb ρ i w then lenOnly (call f [.ob] w) else .bad
  | .stk, _, _ => .bad
def evs : List E → Env → W → R (List D)
  | [], _, w => .ok [] w
  | e :: es, ρ, w => (ev e ρ w).bind fun x w => (evs es ρ w).bind fun xs w => .ok (x :: xs) w
end

/-! ### statements -/
inductive Fl where
  | nx (ρ : Env)
  | rt (d : D)
  | xc (c : Nat) (ρ : Env)
/-- an expression's result in a statement -/
def R.st {α : Type} (x : R α) (ρ : Env) (k : α → W → R Fl) : R Fl :=
  match x with
  | .ok a w => k a w
  | .exc c w => .ok (.xc c ρ) w
  | .bad => .bad
@[simp] theorem st_ok {α : Type} (a : α) (w : W) (ρ : Env) (k : α → W → R Fl) : (R.ok a w).st ρ k = k a w := rfl
@[simp] theorem st_exc {α : Type} (c : Nat) (w : W) (ρ : Env) (k : α → W → R Fl) : (R.exc c w : R α).st ρ k = .ok (.xc c ρ) w := rfl
@[simp] theorem st_bad {α : Type} (ρ : Env) (k : α → W → R Fl) : (R.bad : R α).st ρ k = .bad := rfl
/-- one statement, then the rest -/
def R.sq (x : R Fl) (k : Env → W → R Fl) : R Fl :=
  match x with
  | .ok (.nx ρ) w => k ρ w
  | .ok f w => .ok f w
  | _ => .bad
@[simp] theorem sq_nx (ρ : Env) (w : W) (k : Env → W → R Fl) : (R.ok (.nx ρ) w).sq k = k ρ w := rfl
@[simp] theorem sq_rt (d : D) (w : W) (k : Env → W → R Fl) : (R.ok (.rt d) w).sq k = .ok (.rt d) w := rfl
@[simp] theorem sq_xc (c : Nat) (ρ : Env) (w : W) (k : Env → W → R Fl) : (R.ok (.xc c ρ) w).sq k = .ok (.xc c ρ) w := rfl
@[simp] theorem sq_bad (k : Env → W → R Fl) : (R.bad).sq k = .bad := rfl

def hide (ρ : Env) : List Nat → Env
  | [] => ρ
  | v :: vs => (hide ρ vs).set v .no
/-- owned slots but those in hd become shared -/
def freezeAt (hd : List Nat) : Nat → Env → Env
  | _, [] => []
  | i, .ow d :: r => (if i ∈ hd then .ow d else .sh d) :: freezeAt hd (i + 1) r
  | i, s :: r => s :: freezeAt hd (i + 1) r
def thaw (d : D) (hd : List Nat) (ρ : Env) : Env := if flat d = true then ρ else freezeAt hd 0 ρ

def szD : D → Nat
  | .int i => i.natAbs
  | .lst xs => xs.length
  | _ => 0
def szE : Env → Nat
  | [] => 2
  | .no :: r => szE r
  | .sh d :: r => szD d + szE r
  | .ow d :: r => szD d + szE r

def ownList (ρ : Env) (i : Nat) : Option (List D) :=
  match ρ[i]? with
  | some (.ow (.lst xs)) => some xs
  | _ => none

def eraseFirst (x : D) : List D → Option (List D)
  | [] => none
  | y :: ys => if eqD y x then some ys else (eraseFirst x ys).map (y :: ·)

def setD (c k v : D) : Option D :=
  match c, k with
  | .lst xs, .int i => match ixN xs.length i with
    | some j => some (.lst (xs.set j v))
    | none => none
  | .dK kvs, .int i => if kvs.length < LIM then some (.dK (putKk kvs i v)) else none
  | .dT kvs, .tup ks => match «ints» ks with
    | some k => if kvs.length < LIM then some (.dT (putT kvs k v)) else none
    | none => none
  | _, _ => none

def forRun (step : D → Env → W → R Fl) : List D → Env → W → R Fl
  | [], ρ, w => .ok (.nx ρ) w
  | x :: xs, ρ, w => (step x ρ w).sq fun ρ w => forRun step xs ρ w
def whlRun (test : Env → W → R D) (step : Env → W → R Fl) : Nat → Env → W → R Fl
  | 0, _, _ => .bad
  | n + 1, ρ, w => (test ρ w).st ρ fun b w => match b with
    | .bl true => (step ρ w).sq fun ρ w => whlRun test step n ρ w
    | .bl false => .ok (.nx ρ) w
    | _ => .bad

/-- no exception leaves -/
def noX : R Fl → R Fl
  | .ok (.xc _ _) _ => .bad
  | r => r
/-- what may stand in an owned slot -/
def ownable : D → Bool
  | .lst xs => flats xs
  | .dK kvs => flats (kvs.map (·.2))
  | .dT kvs => flats (kvs.map (·.2))
  | _ => false

/-- only a truth value comes back -/
def onlyB : R Fl → R Fl
  | .ok (.rt (.bl b)) w => .ok (.rt (.bl b)) w
  | _ => .bad
/-- f of each, one after another -/
def mapC (f : Nat) : List D → W → R (List D)
  | [], w => .ok [] w
  | x :: xs, w => (call f [x] w).bind fun y w => (mapC f xs w).bind fun ys w => .ok (y :: ys) w
mutual
def ex : S → Env → W → R Fl
  | .asg i e own hd, ρ, w => (ev call e (hide ρ hd) w).st ρ fun d w =>
      if own then (if ownable d then .ok (.nx (ρ.set i (.ow d))) w else .bad)
      else .ok (.nx ((thaw d hd ρ).set i (.sh d))) w
  | .asgT is e hd, ρ, w => (ev call e (hide ρ hd) w).st ρ fun d w => match d with
    | .tup ds => opt ((binds is ds (thaw d hd ρ)).map .nx) w
    | .lst ds => opt ((binds is ds (thaw d hd ρ)).map .nx) w
    | _ => .bad
  | .par i j a b hd, ρ, w => (ev call a (hide ρ hd) w).st ρ fun x w => (ev call b (hide ρ hd) w).st ρ fun y w =>
      .ok (.nx (((thaw (.tup [x, y]) hd ρ).set i (.sh x)).set j (.sh y))) w
  | .parE i j hd, ρ, w => .ok (.nx (((freezeAt hd 0 ρ).set i (.ow (.lst []))).set j (.sh (.lst [])))) w
  | .aug i op e, ρ, w => match getS ρ i with
    | some x => (ev call e ρ w).st ρ fun y w => (opt (augD op x y) w).st ρ fun z w => if flat z then .ok (.nx (ρ.set i (.sh z))) w else .bad
    | none => .bad
  | .ext i e, ρ, w => match ownList ρ i with
    | some xs => (ev call e ρ w).st ρ fun y w => match y with
      | .lst ys => if flats ys && decide (xs.length + ys.length ≤ LIM) then .ok (.nx (ρ.set i (.ow (.lst (xs ++ ys))))) w else .bad
      | _ => .bad
    | none => .bad
  | .app i e, ρ, w => match ownList ρ i with
    | some xs => (ev call e ρ w).st ρ fun y w => if flat y && decide (xs.length < LIM) then .ok (.nx (ρ.set i (.ow (.lst (xs ++ [y]))))) w else .bad
    | none => .bad
  | .set i k e, ρ, w => match ρ[i]? with
    | some (.ow c) => (ev call e ρ w).st ρ fun y w => (ev call k ρ w).st ρ fun z w => if flat y then (opt (setD c z y) w).st ρ fun c' w => .ok (.nx (ρ.set i (.ow c'))) w else .bad
    | _ => .bad
  | .rem i e, ρ, w => match ownList ρ i with
    | some xs => (ev call e ρ w).st ρ fun y w => if plain y && plains xs then (opt (eraseFirst y xs) w).st ρ fun ys w => .ok (.nx (ρ.set i (.ow (.lst ys)))) w else .bad
    | none => .bad
  | .exp e, ρ, w => (ev call e ρ w).st ρ fun _ w => .ok (.nx ρ) w
  | .ife c a b, ρ, w => (ev call c ρ w).st ρ fun x w => match x with
    | .bl true => exs a ρ w
    | .bl false => exs b ρ w
    | _ => .bad
  | .for tg it hd body, ρ, w => (ev call it (hide ρ hd) w).st ρ fun x w => match itemsD x with
    | some xs => forRun (fun d ρ w => match bindTg tg d ρ with
        | some ρ' => exs body ρ' w
        | none => .bad) xs (freezeAt hd 0 ρ) w
    | none => .bad
  | .forK tg i hd body, ρ, w => match getS (hide ρ hd) i with
    | some (.dK kvs) => noX (forRun (fun d ρ w => match bindTg tg d ρ with
        | some ρ' => exs body ρ' w
        | none => .bad) (kvs.map fun kv => .int kv.1) (freezeAt hd 0 ρ) w)
    | _ => .bad
  | .whl c body, ρ, w => whlRun (fun ρ w => ev call c ρ w) (fun ρ w => exs body ρ w) (szE ρ) ρ w
  | .ret e, ρ, w => (ev call e ρ w).st ρ fun d w => .ok (.rt d) w
  | .retN, _, w => .ok (.rt .non) w
  | .raise c, ρ, w => .ok (.xc c ρ) w
  | .tryE body c i suite, ρ, w => match c, suite with
    | 0, [.asg j (.var i') false []] => if i' = i then (match exs body ρ w with
      | .ok (.xc k ρ') w => if k < 7 then .ok (.nx (((ρ'.set i (.sh (.ex k))).set j (.sh (.ex k))).set i .no)) w else .bad
      | r => r) else .bad
    | _, _ => .bad
  | .fApp i e, ρ, w => if isOb ρ i w then (ev call e ρ w).st ρ fun d w => if w.live && flat d && plainAt 7 d && decide (w.srs.length < LIM) then .ok (.nx ρ) { w with srs := w.srs ++ [d] } else .bad else .bad
  | .fApR i j, ρ, w => if isOb ρ i w then (match ownList ρ j with
      | some xs => if flats xs && plainsAt 7 xs && decide (w.rws.length < LIM) then .ok (.nx (ρ.set j .no)) { w with rws := w.rws ++ [xs] } else .bad
      | none => .bad) else .bad
  | .fPpR i, ρ, w => if isOb ρ i w && !w.rws.isEmpty then .ok (.nx ρ) { w with rws := w.rws.dropLast } else .bad
  | .newF f i j e rest, ρ, w => (calm (ev call e ρ w)).st ρ fun k w => (call f [k] w).st ρ fun _ w => match k with
    | .str s => if w.live then .bad else onlyB (exs rest (match j with | some j => (ρ.set i (.sh .ob)).set j (.sh (.lst [])) | none => ρ.set i (.sh .ob)) { w with kind := .str s, srs := [], rws := [[.tup [.int 0, .int 1]]] })
    | _ => .bad
  | .fEA f i e, ρ, w => if isOb ρ i w && !isBad (call f [.ob] w) && decide (w.srs.length < LIM) then (ev call e ρ w).st ρ fun _ w => .ok (.nx ρ) w else .bad
  | .asgX i f _ it, ρ, w => (ev call it ρ w).st ρ fun x w => match itemsD x with
    | some xs => if xs.length ≤ LIM then (mapC call f xs w).st ρ fun ys w => .ok (.nx ((freezeAt [] 0 ρ).set i (.sh (.lst ys)))) w else .bad
    | none => .bad
  | .stk, _, _ => .bad
def exs : List S → Env → W → R Fl
  | [], ρ, w => .ok (.nx ρ) w
  | s :: ss, ρ, w => (ex s ρ w).sq fun ρ w => exs ss ρ w
end
end

/-! ### functions -/
structure Fn where
  np : Nat
  ns : Nat
  body : List S

def mkEnv (args : List D) (ns : Nat) : Env := args.map .sh ++ List.replicate (ns - args.length) .no

/-- the next draw below a limit -/
def drawW (limit : Int) (w : W) : R D :=
  if limit ≤ 0 ∨ limit ≥ 1000000000 ∨ w.nums = [] then .bad else
  let c := w.cnt + 1
  let at' := (c % (w.nums.length : Int)).toNat
  match w.nums[at']? with
  | none => .bad
  | some cell =>
    if cell ≥ 1000000000000000000 then .ok (.int (cell % limit)) { w with nums := w.nums.set at' (cell / limit), cnt := c }
    else
      let m1 := (cell + 104729 * c) % 4294967291
      let m2 := m1 ^ 5 % 4294967279
      .ok (.int ((m2 / 64 * 69621 + m2) % 4294967231 / 8 % limit)) { w with cnt := c }

/-- function numbers: 1 is _law_draw -/
def fDraw : Nat := 1

/-- a body's result as a call's -/
def fin : R Fl → R D
  | .ok (.nx _) w => .ok .non w
  | .ok (.rt d) w => .ok d w
  | .ok (.xc c _) w => .exc c w
  | _ => .bad
@[simp] theorem fin_rt (d : D) (w : W) : fin (.ok (.rt d) w) = .ok d w := rfl
@[simp] theorem fin_nx (ρ : Env) (w : W) : fin (.ok (.nx ρ) w) = .ok .non w := rfl
@[simp] theorem fin_xc (c : Nat) (ρ : Env) (w : W) : fin (.ok (.xc c ρ) w) = .exc c w := rfl

def run (T : Nat → Option Fn) : Nat → Nat → List D → W → R D
  | 0, _, _, _ => .bad
  | n + 1, f, args, w =>
    if f = fDraw then
      match args with
      | [.dr, .int l] => drawW l w
      | _ => .bad
    else match T f with
    | some fn => if args.length = fn.np then
        fin (exs (run T n) fn.body (mkEnv args fn.ns) w)
      else .bad
    | none => .bad
end SF
namespace SF
/-- the law behind its first statement: slot 1 holds the draws -/
def runLaw (T : Nat → Option Fn) (n : Nat) (fn : Fn) (nums : List Int) : R D :=
  fin (exs (run T n) fn.body (.no :: .sh .dr :: List.replicate (fn.ns - 2) .no) ⟨if nums = [] then [0] else nums, 0, .non, [], []⟩)
end SF

namespace SF
abbrev f__law_start : Nat := 0
abbrev f__law_draw : Nat := 1
abbrev f_is_int : Nat := 2
abbrev f_check_kind : Nat := 3
abbrev f_is_entry : Nat := 4
abbrev f_is_series : Nat := 5
abbrev f_check_series : Nat := 6
abbrev f_is_cut : Nat := 7
abbrev f_common : Nat := 8
abbrev f_lowest : Nat := 9
abbrev f_plus : Nat := 10
abbrev f_weight_of : Nat := 11
abbrev f_mean : Nat := 12
abbrev f_medians : Nat := 13
abbrev f_levels : Nat := 14
abbrev f_piece_cost : Nat := 15
abbrev f_best_levels : Nat := 16
abbrev f_cost_of_piece : Nat := 17
abbrev f_parts : Nat := 18
abbrev f_cut_cost : Nat := 19
abbrev f_check_cut : Nat := 20
abbrev f_cost : Nat := 21
abbrev f__law_pick : Nat := 22
abbrev f__law_series : Nat := 23
abbrev f__law_kind : Nat := 24
abbrev f__law_low : Nat := 25
abbrev f__law_add : Nat := 26
abbrev f__law_scale : Nat := 27
abbrev f__law_below : Nat := 28
abbrev f__law_piece : Nat := 29
abbrev f__law_at : Nat := 30
abbrev f_fitted : Nat := 31
abbrev f_pieces_of : Nat := 32
abbrev f_check_pieces : Nat := 33
abbrev f_less : Nat := 34
abbrev f_smallest : Nat := 35
abbrev f_piece_costs : Nat := 36
abbrev f_rows_of : Nat := 37
abbrev f_borders : Nat := 38
abbrev f_follows : Nat := 39
abbrev f_counts_of : Nat := 40
abbrev f_check_all : Nat := 41
abbrev f_least_cost : Nat := 42
abbrev f_count_best : Nat := 43
abbrev f_is_best : Nat := 44
abbrev f_stretches : Nat := 45
abbrev f_fewest_exact : Nat := 46
abbrev f_all_costs : Nat := 47
abbrev f_least_costs : Nat := 48
abbrev f__law_true : Nat := 49
abbrev f__law_least : Nat := 50
abbrev f__law_costs : Nat := 51
abbrev f__law_cuts : Nat := 52
abbrev f__law_sum_of : Nat := 53
abbrev f_cut_with : Nat := 54
abbrev f_best_cut : Nat := 55
abbrev f_rank_of : Nat := 56
abbrev f_places_with : Nat := 57
abbrev f_sure_places : Nat := 58
abbrev f_possible_places : Nat := 59
abbrev f_count_at : Nat := 60
abbrev f_times : Nat := 61
abbrev f_minus : Nat := 62
abbrev f_over : Nat := 63
abbrev f_is_price : Nat := 64
abbrev f_check_price : Nat := 65
abbrev f_totals : Nat := 66
abbrev f_least_total : Nat := 67
abbrev f_numbers_for : Nat := 68
abbrev f_bounds : Nat := 69
abbrev f_turning_prices : Nat := 70
abbrev f_ordered : Nat := 71
abbrev f__law_price : Nat := 72
abbrev f_price_range : Nat := 73
abbrev f_hull_numbers : Nat := 74
abbrev f_potential_row : Nat := 75
abbrev f_potentials : Nat := 76
abbrev f_is_number : Nat := 77
abbrev f_fits : Nat := 78
abbrev f_shows : Nat := 79
abbrev f_first_fault : Nat := 80
abbrev f_bound_at : Nat := 81
abbrev f_best_bound : Nat := 82
abbrev f_checked : Nat := 83
abbrev f_moved : Nat := 84
abbrev f_scaled : Nat := 85
abbrev f_backward : Nat := 86
abbrev f_heavier : Nat := 87
abbrev f_repeated : Nat := 88
abbrev f_joined : Nat := 89
abbrev f__law_error : Nat := 90
abbrev f_parse_number : Nat := 91
abbrev f_format_series : Nat := 92
abbrev f_parse_entry : Nat := 93
abbrev f_parse_series : Nat := 94
abbrev f_format_cut : Nat := 95
abbrev f_format_fraction : Nat := 96
abbrev f__law_written : Nat := 97
abbrev f__law_parsed : Nat := 98
abbrev f__law_fraction : Nat := 99
abbrev f__law_rejected : Nat := 100
abbrev f__law_plain : Nat := 101
abbrev f__law_three : Nat := 102
abbrev f__law_prices : Nat := 103
abbrev f__law_fitter : Nat := 104
abbrev f__wall : Nat := 105
abbrev f__law_first : Nat := 106
abbrev f__law_second : Nat := 107
abbrev f__law_call_k11 : Nat := 108
abbrev f__law_call_k14 : Nat := 109
abbrev f__law_asked_k13 : Nat := 110
abbrev f__law_asked_k14 : Nat := 111
abbrev f_Fitter_add : Nat := 112
abbrev f_Fitter_cost : Nat := 113
abbrev f_Fitter_ahead : Nat := 114
abbrev f_Fitter_entries : Nat := 115
abbrev f_Fitter_undo : Nat := 116
abbrev f_Fitter___len__ : Nat := 117
abbrev f_Fitter_init : Nat := 118
abbrev f_Fitter_make : Nat := 119
abbrev f_Fitter_len : Nat := 120
def b_is_int : Fn := ⟨3, 3, [
   .ret (.and (.isi (.var 0) .int) (.and (.not (.isi (.var 0) .bool)) (.chn .le .le (.var 1) (.var 0) (.var 2))))]⟩ -- value low high
def b_check_kind : Fn := ⟨1, 1, [
   .ife (.or (.not (.isi (.var 0) .str)) (.inK true (.var 0) [[115, 113, 117, 97, 114, 101, 115], [97, 98, 115, 111, 108, 117, 116, 101]])) [.raise 1] []]⟩ -- kind
def b_is_entry : Fn := ⟨1, 1, [
   .ife (.or (.not (.isi (.var 0) .tuple)) (.cmp .ne (.blt .len [.var 0]) (.int 2))) [.ret (.bl false)] [],
   .ret (.and (.call f_is_int [.idx (.var 0) (.int 0), .neg (.int 999), .int 999]) (.call f_is_int [.idx (.var 0) (.int 1), .int 1, .int 9]))]⟩ -- value
def b_is_series : Fn := ⟨1, 2, [
   .ret (.and (.isi (.var 0) .list) (.and (.chn .le .le (.int 1) (.blt .len [.var 0]) (.int 14)) (.blt .all [.lc (.call f_is_entry [.var 1]) (.nm 1) (.var 0) (.bl true) [1]])))]⟩ -- value entry
def b_check_series : Fn := ⟨1, 1, [
   .ife (.not (.call f_is_series [.var 0])) [.raise 2] []]⟩ -- value
def b_is_cut : Fn := ⟨2, 4, [
   .ife (.or (.not (.isi (.var 1) .tuple)) (.not (.blt .all [.lc (.call f_is_int [.var 2, .int 1, .bin .sub (.blt .len [.var 0]) (.int 1)]) (.nm 2) (.var 1) (.bl true) [2]]))) [.ret (.bl false)] [],
   .ret (.blt .all [.lc (.cmp .lt (.idx (.var 1) (.var 3)) (.idx (.var 1) (.bin .add (.var 3) (.int 1)))) (.nm 3) (.rng (.int 0) (.bin .sub (.blt .len [.var 1]) (.int 1)) (.int 1)) (.bl true) [3]])]⟩ -- series value place k
def b_common : Fn := ⟨2, 2, [
   .par 0 1 (.blt .abs [.var 0]) (.blt .abs [.var 1]) [],
   .whl (.cmp .ne (.var 1) (.int 0)) [.par 0 1 (.var 1) (.bin .mod (.var 0) (.var 1)) []],
   .ret (.var 0)]⟩ -- one other
def b_lowest : Fn := ⟨2, 3, [
   .asg 2 (.call f_common [.var 0, .var 1]) false [],
   .ret (.tup [.bin .div (.var 0) (.var 2), .bin .div (.var 1) (.var 2)])]⟩ -- top below divisor
def b_plus : Fn := ⟨2, 2, [
   .ret (.call f_lowest [.bin .add (.bin .mul (.idx (.var 0) (.int 0)) (.idx (.var 1) (.int 1))) (.bin .mul (.idx (.var 1) (.int 0)) (.idx (.var 0) (.int 1))), .bin .mul (.idx (.var 0) (.int 1)) (.idx (.var 1) (.int 1))])]⟩ -- one other
def b_weight_of : Fn := ⟨1, 3, [
   .ret (.blt .sum [.lc (.var 2) (.tp [1, 2]) (.var 0) (.bl true) [1, 2]])]⟩ -- series value weight
def b_mean : Fn := ⟨1, 3, [
   .ret (.call f_lowest [.blt .sum [.lc (.bin .mul (.var 1) (.var 2)) (.tp [1, 2]) (.var 0) (.bl true) [1, 2]], .call f_weight_of [.var 0]])]⟩ -- series value weight
def b_medians : Fn := ⟨1, 7, [
   .asg 1 (.call f_weight_of [.var 0]) false [2],
   .asg 2 (.lst []) true [2],
   .for (.nm 3) (.tup [.var 1, .bin .add (.var 1) (.int 1)]) [2] [.asg 4 (.int 0) false [2], .for (.tp [5, 6]) (.blt .sorted [.var 0]) [2] [.ife (.chn .lt .le (.bin .mul (.int 2) (.var 4)) (.var 3) (.bin .mul (.int 2) (.bin .add (.var 4) (.var 6)))) [.app 2 (.var 5)] [], .aug 4 .add (.var 6)]],
   .ret (.var 2)]⟩ -- series whole found share behind value weight
def b_levels : Fn := ⟨2, 4, [
   .ife (.cmp .eq (.var 0) (.str [115, 113, 117, 97, 114, 101, 115])) [.ret (.tup [.call f_mean [.var 1], .call f_mean [.var 1]])] [],
   .asgT [2, 3] (.call f_medians [.var 1]) [],
   .ret (.tup [.tup [.var 2, .int 1], .tup [.var 3, .int 1]])]⟩ -- kind series low high
def b_piece_cost : Fn := ⟨2, 7, [
   .ife (.cmp .eq (.var 0) (.str [115, 113, 117, 97, 114, 101, 115])) [.asg 2 (.blt .sum [.lc (.bin .mul (.var 3) (.var 4)) (.tp [3, 4]) (.var 1) (.bl true) [3, 4]]) false [], .asg 5 (.call f_weight_of [.var 1]) false [], .ret (.call f_lowest [.bin .sub (.bin .mul (.blt .sum [.lc (.bin .mul (.bin .mul (.var 3) (.var 3)) (.var 4)) (.tp [3, 4]) (.var 1) (.bl true) [3, 4]]) (.var 5)) (.bin .mul (.var 2) (.var 2)), .var 5])] [],
   .asg 6 (.idx (.call f_medians [.var 1]) (.int 0)) false [],
   .ret (.tup [.blt .sum [.lc (.bin .mul (.blt .abs [.bin .sub (.var 3) (.var 6)]) (.var 4)) (.tp [3, 4]) (.var 1) (.bl true) [3, 4]], .int 1])]⟩ -- kind series total value weight whole level
def b_best_levels : Fn := ⟨2, 2, [
   .exp (.call f_check_kind [.var 0]),
   .exp (.call f_check_series [.var 1]),
   .ret (.call f_levels [.var 0, .var 1])]⟩ -- kind series
def b_cost_of_piece : Fn := ⟨2, 2, [
   .exp (.call f_check_kind [.var 0]),
   .exp (.call f_check_series [.var 1]),
   .ret (.call f_piece_cost [.var 0, .var 1])]⟩ -- kind series
def b_parts : Fn := ⟨2, 4, [
   .asg 2 (.bin .add (.bin .add (.tup [.int 0]) (.var 1)) (.tup [.blt .len [.var 0]])) false [],
   .ret (.lc (.slc (.var 0) (.idx (.var 2) (.var 3)) (.idx (.var 2) (.bin .add (.var 3) (.int 1)))) (.nm 3) (.rng (.int 0) (.bin .sub (.blt .len [.var 2]) (.int 1)) (.int 1)) (.bl true) [3])]⟩ -- series cut borders k
def b_cut_cost : Fn := ⟨3, 5, [
   .asg 3 (.tup [.int 0, .int 1]) false [],
   .for (.nm 4) (.call f_parts [.var 1, .var 2]) [] [.asg 3 (.call f_plus [.var 3, .call f_piece_cost [.var 0, .var 4]]) false []],
   .ret (.var 3)]⟩ -- kind series cut found part
def b_check_cut : Fn := ⟨2, 2, [
   .ife (.not (.call f_is_cut [.var 0, .var 1])) [.raise 3] []]⟩ -- series cut
def b_cost : Fn := ⟨3, 3, [
   .exp (.call f_check_kind [.var 0]),
   .exp (.call f_check_series [.var 1]),
   .exp (.call f_check_cut [.var 1, .var 2]),
   .ret (.call f_cut_cost [.var 0, .var 1, .var 2])]⟩ -- kind series cut
def b__law_pick : Fn := ⟨2, 2, [
   .ret (.idx (.var 1) (.call f__law_draw [.var 0, .blt .len [.var 1]]))]⟩ -- draws choices
def b__law_series : Fn := ⟨2, 7, [
   .asg 2 (.call f__law_pick [.var 0, .lst [.int 2, .int 4, .int 12, .int 1000]]) false [5],
   .asg 3 (.call f__law_pick [.var 0, .lst [.int 1, .int 1, .int 3, .int 9]]) false [5],
   .asg 4 (.bin .sub (.call f__law_draw [.var 0, .var 2]) (.bin .div (.var 2) (.int 3))) false [5],
   .asg 5 (.lst []) true [5],
   .for (.nm 6) (.rng (.int 0) (.bin .add (.int 1) (.call f__law_draw [.var 0, .var 1])) (.int 1)) [5] [.ife (.cmp .gt (.call f__law_draw [.var 0, .int 3]) (.int 0)) [.asg 4 (.bin .sub (.call f__law_draw [.var 0, .var 2]) (.bin .div (.var 2) (.int 3))) false [5]] [], .app 5 (.tup [.var 4, .bin .add (.int 1) (.call f__law_draw [.var 0, .var 3])])],
   .ret (.var 5)]⟩ -- draws most wide heavy value found k
def b__law_kind : Fn := ⟨1, 1, [
   .ret (.call f__law_pick [.var 0, .lst [.str [115, 113, 117, 97, 114, 101, 115], .str [97, 98, 115, 111, 108, 117, 116, 101]]])]⟩ -- draws
def b__law_low : Fn := ⟨2, 4, [
   .par 2 3 (.blt .abs [.var 0]) (.var 1) [],
   .whl (.cmp .ne (.var 3) (.int 0)) [.par 2 3 (.var 3) (.bin .mod (.var 2) (.var 3)) []],
   .ret (.tup [.bin .div (.var 0) (.var 2), .bin .div (.var 1) (.var 2)])]⟩ -- top under one other
def b__law_add : Fn := ⟨2, 2, [
   .ret (.call f__law_low [.bin .add (.bin .mul (.idx (.var 0) (.int 0)) (.idx (.var 1) (.int 1))) (.bin .mul (.idx (.var 1) (.int 0)) (.idx (.var 0) (.int 1))), .bin .mul (.idx (.var 0) (.int 1)) (.idx (.var 1) (.int 1))])]⟩ -- one other
def b__law_scale : Fn := ⟨2, 2, [
   .ret (.call f__law_low [.bin .mul (.idx (.var 0) (.int 0)) (.var 1), .idx (.var 0) (.int 1)])]⟩ -- one number
def b__law_below : Fn := ⟨2, 2, [
   .ret (.cmp .lt (.bin .mul (.idx (.var 0) (.int 0)) (.idx (.var 1) (.int 1))) (.bin .mul (.idx (.var 1) (.int 0)) (.idx (.var 0) (.int 1))))]⟩ -- one other
def b__law_piece : Fn := ⟨2, 14, [
   .ife (.cmp .eq (.var 0) (.str [97, 98, 115, 111, 108, 117, 116, 101])) [.asg 2 (.lc (.blt .sum [.lc (.bin .mul (.var 4) (.blt .abs [.bin .sub (.var 3) (.var 5)])) (.tp [3, 4]) (.var 1) (.bl true) [3, 4]]) (.tp [5, 6]) (.var 1) (.bl true) [5, 6]) false [], .ret (.tup [.blt .min1 [.var 2], .int 1])] [],
   .asg 7 (.blt .sum [.lc (.var 4) (.tp [3, 4]) (.var 1) (.bl true) [3, 4]]) false [],
   .asg 8 (.int 0) false [],
   .for (.tp [9, 10]) (.var 1) [] [.for (.tp [11, 12]) (.var 1) [] [.asg 13 (.bin .sub (.var 9) (.var 11)) false [], .asg 8 (.bin .add (.var 8) (.bin .mul (.bin .mul (.bin .mul (.var 10) (.var 12)) (.var 13)) (.var 13))) false []]],
   .ret (.call f__law_low [.var 8, .bin .mul (.int 2) (.var 7)])]⟩ -- kind series costs value weight level own whole total one heavy other light gap
def b__law_at : Fn := ⟨3, 8, [
   .asg 3 (.tup [.int 0, .int 1]) false [],
   .for (.tp [4, 5]) (.var 1) [] [.asg 6 (.call f__law_add [.tup [.var 4, .int 1], .tup [.bin .sub (.int 0) (.idx (.var 2) (.int 0)), .idx (.var 2) (.int 1)]]) false [], .asg 7 (.tup [.blt .abs [.idx (.var 6) (.int 0)], .idx (.var 6) (.int 1)]) false [], .ife (.cmp .eq (.var 0) (.str [115, 113, 117, 97, 114, 101, 115])) [.asg 7 (.call f__law_low [.bin .mul (.idx (.var 7) (.int 0)) (.idx (.var 7) (.int 0)), .bin .mul (.idx (.var 7) (.int 1)) (.idx (.var 7) (.int 1))]) false []] [], .asg 3 (.call f__law_add [.var 3, .call f__law_scale [.var 7, .var 5]]) false []],
   .ret (.var 3)]⟩ -- kind series level found value weight gap far
def x_fitted_1 : List S := [.ext 3 (.bin .mul (.lst [.idx (.call f_levels [.var 0, .var 4]) (.int 0)]) (.blt .len [.var 4]))]
def b_fitted : Fn := ⟨3, 5, [
   .exp (.call f_check_kind [.var 0]),
   .exp (.call f_check_series [.var 1]),
   .exp (.call f_check_cut [.var 1, .var 2]),
   .asg 3 (.lst []) true [3],
   .for (.nm 4) (.call f_parts [.var 1, .var 2]) [3] x_fitted_1,
   .ret (.var 3)]⟩ -- kind series cut found part
def b_pieces_of : Fn := ⟨2, 2, [
   .exp (.call f_check_series [.var 0]),
   .exp (.call f_check_cut [.var 0, .var 1]),
   .ret (.call f_parts [.var 0, .var 1])]⟩ -- series cut
def b_check_pieces : Fn := ⟨2, 2, [
   .ife (.not (.call f_is_int [.var 1, .int 1, .blt .len [.var 0]])) [.raise 4] []]⟩ -- series pieces
def b_less : Fn := ⟨2, 2, [
   .ret (.cmp .lt (.bin .mul (.idx (.var 0) (.int 0)) (.idx (.var 1) (.int 1))) (.bin .mul (.idx (.var 1) (.int 0)) (.idx (.var 0) (.int 1))))]⟩ -- one other
def x_smallest_1 : List S := [.asg 1 (.ife (.call f_less [.var 2, .var 1]) (.var 2) (.var 1)) false []]
def b_smallest : Fn := ⟨1, 3, [
   .asg 1 (.idx (.var 0) (.int 0)) false [],
   .for (.nm 2) (.slc (.var 0) (.int 1) .non) [] x_smallest_1,
   .ret (.var 1)]⟩ -- some found other
def x_piece_costs_1 : List S := [.set 3 (.tup [.var 4, .var 5]) (.call f_piece_cost [.var 0, .slc (.var 1) (.var 4) (.var 5)])]
def x_piece_costs_2 : List S := [.for (.nm 5) (.rng (.bin .add (.var 4) (.int 1)) (.bin .add (.var 2) (.int 1)) (.int 1)) [3] x_piece_costs_1]
def b_piece_costs : Fn := ⟨2, 6, [
   .asg 2 (.blt .len [.var 1]) false [3],
   .asg 3 (.dnil true) true [3],
   .for (.nm 4) (.rng (.int 0) (.var 2) (.int 1)) [3] x_piece_costs_2,
   .ret (.var 3)]⟩ -- kind series size found i j
def x_rows_of_1 : List S := [.ife (.cmp .isin (.tup [.bin .sub (.var 5) (.int 1), .var 8]) (.var 4)) [.app 7 (.call f_plus [.idx (.var 2) (.tup [.var 6, .var 8]), .idx (.var 4) (.tup [.bin .sub (.var 5) (.int 1), .var 8])])] []]
def x_rows_of_2 : List S := [.asg 7 (.lst []) true [4, 7], .for (.nm 8) (.rng (.bin .add (.var 6) (.int 1)) (.bin .add (.bin .sub (.var 3) (.var 5)) (.int 2)) (.int 1)) [4, 7] x_rows_of_1, .ife (.cmp .ne (.var 7) (.lst [])) [.set 4 (.tup [.var 5, .var 6]) (.call f_smallest [.var 7])] []]
def x_rows_of_3 : List S := [.for (.nm 6) (.rng (.int 0) (.bin .add (.bin .sub (.var 3) (.var 5)) (.int 1)) (.int 1)) [4, 7] x_rows_of_2]
def b_rows_of : Fn := ⟨2, 9, [
   .asg 2 (.call f_piece_costs [.var 0, .var 1]) false [4, 7],
   .asg 3 (.blt .len [.var 1]) false [4, 7],
   .asg 4 (.done true (.tup [.int 0, .var 3]) (.tup [.int 0, .int 1])) true [4, 7],
   .for (.nm 5) (.rng (.int 1) (.bin .add (.var 3) (.int 1)) (.int 1)) [4, 7] x_rows_of_3,
   .ret (.tup [.var 2, .var 4])]⟩ -- kind series costs size table pieces start ways border
def x_borders_1 : E := .var 4
def x_borders_2 : E := .call f_follows [.var 0, .var 1, .var 2, .var 3, .var 4]
def b_borders : Fn := ⟨4, 5, [
   .ret (.lc x_borders_1 (.nm 4) (.rng (.bin .add (.var 3) (.int 1)) (.bin .add (.var 3) (.int 15)) (.int 1)) x_borders_2 [4])]⟩ -- costs table pieces start end
def b_follows : Fn := ⟨5, 5, [
   .ife (.or (.cmp .notin (.tup [.var 3, .var 4]) (.var 0)) (.cmp .notin (.tup [.bin .sub (.var 2) (.int 1), .var 4]) (.var 1))) [.ret (.bl false)] [],
   .ret (.cmp .eq (.call f_plus [.idx (.var 0) (.tup [.var 3, .var 4]), .idx (.var 1) (.tup [.bin .sub (.var 2) (.int 1), .var 4])]) (.idx (.var 1) (.tup [.var 2, .var 3])))]⟩ -- costs table pieces start end
def x_counts_of_1 : E := .idx (.var 2) (.tup [.bin .sub (.var 3) (.int 1), .var 6])
def x_counts_of_2 : List S := [.ife (.cmp .eq (.var 3) (.int 0)) [.set 2 (.tup [.var 3, .var 4]) (.int 1)] [.asg 5 (.call f_borders [.var 0, .var 1, .var 3, .var 4]) false [2], .set 2 (.tup [.var 3, .var 4]) (.blt .sum [.lc x_counts_of_1 (.nm 6) (.var 5) (.bl true) [6]])]]
def b_counts_of : Fn := ⟨2, 7, [
   .asg 2 (.dnil true) true [2],
   .for (.tp [3, 4]) (.blt .sortT [.var 1]) [2] x_counts_of_2,
   .ret (.var 2)]⟩ -- costs table found pieces start ends end
def b_check_all : Fn := ⟨3, 3, [
   .exp (.call f_check_kind [.var 0]),
   .exp (.call f_check_series [.var 1]),
   .exp (.call f_check_pieces [.var 1, .var 2])]⟩ -- kind series pieces
def b_least_cost : Fn := ⟨3, 3, [
   .exp (.call f_check_all [.var 0, .var 1, .var 2]),
   .ret (.idx (.idx (.call f_rows_of [.var 0, .var 1]) (.int 1)) (.tup [.var 2, .int 0]))]⟩ -- kind series pieces
def b_count_best : Fn := ⟨3, 5, [
   .exp (.call f_check_all [.var 0, .var 1, .var 2]),
   .asgT [3, 4] (.call f_rows_of [.var 0, .var 1]) [],
   .ret (.idx (.call f_counts_of [.var 3, .var 4]) (.tup [.var 2, .int 0]))]⟩ -- kind series pieces costs table
def b_is_best : Fn := ⟨3, 3, [
   .exp (.call f_check_kind [.var 0]),
   .exp (.call f_check_series [.var 1]),
   .ife (.not (.call f_is_cut [.var 1, .var 2])) [.raise 3] [],
   .ret (.cmp .eq (.call f_cut_cost [.var 0, .var 1, .var 2]) (.idx (.idx (.call f_rows_of [.var 0, .var 1]) (.int 1)) (.tup [.bin .add (.blt .len [.var 2]) (.int 1), .int 0])))]⟩ -- kind series cut
def x_stretches_1 : E := .var 1
def x_stretches_2 : E := .cmp .ne (.idx (.idx (.var 0) (.var 1)) (.int 0)) (.idx (.idx (.var 0) (.bin .add (.var 1) (.int 1))) (.int 0))
def b_stretches : Fn := ⟨1, 2, [
   .exp (.call f_check_series [.var 0]),
   .ret (.bin .add (.int 1) (.blt .len [.lc x_stretches_1 (.nm 1) (.rng (.int 0) (.bin .sub (.blt .len [.var 0]) (.int 1)) (.int 1)) x_stretches_2 [1]]))]⟩ -- series k
def b_fewest_exact : Fn := ⟨2, 2, [
   .exp (.call f_check_kind [.var 0]),
   .ret (.call f_stretches [.var 1])]⟩ -- kind series
def x_all_costs_1 : E := .idx (.var 2) (.tup [.var 3, .int 0])
def b_all_costs : Fn := ⟨2, 4, [
   .asg 2 (.idx (.call f_rows_of [.var 0, .var 1]) (.int 1)) false [],
   .ret (.lc x_all_costs_1 (.nm 3) (.rng (.int 1) (.bin .add (.blt .len [.var 1]) (.int 1)) (.int 1)) (.bl true) [3])]⟩ -- kind series table pieces
def b_least_costs : Fn := ⟨2, 2, [
   .exp (.call f_check_kind [.var 0]),
   .exp (.call f_check_series [.var 1]),
   .ret (.call f_all_costs [.var 0, .var 1])]⟩ -- kind series
def b__law_true : Fn := ⟨2, 2, [
   .ret (.and (.isi (.var 0) .bool) (.cmp .eq (.var 0) (.var 1)))]⟩ -- value expected
def x__law_least_1 : List S := [.ife (.call f__law_below [.var 2, .var 1]) [.asg 1 (.var 2) false []] []]
def b__law_least : Fn := ⟨1, 3, [
   .asg 1 (.idx (.var 0) (.int 0)) false [],
   .for (.nm 2) (.var 0) [] x__law_least_1,
   .ret (.var 1)]⟩ -- rows found row
def x__law_costs_1 : E := .call f__law_piece [.var 0, .slc (.var 1) (.var 4) (.var 3)]
def x__law_costs_2 : E := .lc x__law_costs_1 (.nm 3) (.rng (.bin .add (.var 4) (.int 1)) (.bin .add (.var 2) (.int 1)) (.int 1)) (.bl true) [3]
def b__law_costs : Fn := ⟨2, 5, [
   .asg 2 (.blt .len [.var 1]) false [],
   .ret (.lc x__law_costs_2 (.nm 4) (.rng (.int 0) (.var 2) (.int 1)) (.bl true) [4])]⟩ -- kind series size j i
def x__law_cuts_1 : E := .bin .add (.tup [.var 2]) (.var 3)
def x__law_cuts_2 : E := .or (.cmp .eq (.var 3) (.tup [])) (.cmp .gt (.idx (.var 3) (.int 0)) (.var 2))
def x__law_cuts_3 : List S := [.asg 1 (.bin .add (.var 1) (.lc x__law_cuts_1 (.nm 3) (.var 1) x__law_cuts_2 [3])) false []]
def b__law_cuts : Fn := ⟨1, 4, [
   .asg 1 (.lst [.tup []]) false [],
   .for (.nm 2) (.rng (.bin .sub (.var 0) (.int 1)) (.int 0) (.bin .sub (.int 0) (.int 1))) [] x__law_cuts_3,
   .ret (.blt .sortC [.var 1])]⟩ -- size found place cut
def x__law_sum_of_1 : List S := [.asg 2 (.call f__law_add [.var 2, .idx (.idx (.var 0) (.var 3)) (.bin .sub (.bin .sub (.var 4) (.var 3)) (.int 1))]) false [], .asg 3 (.var 4) false []]
def b__law_sum_of : Fn := ⟨2, 5, [
   .asgT [2, 3] (.tup [.tup [.int 0, .int 1], .int 0]) [],
   .for (.nm 4) (.bin .add (.var 1) (.tup [.blt .len [.var 0]])) [] x__law_sum_of_1,
   .ret (.var 2)]⟩ -- costs cut found start end
def x_cut_with_1 : E := .cmp .ge (.var 3) (.idx (.var 4) (.tup [.bin .sub (.var 2) (.int 1), .idx (.var 7) (.int 0)]))
def x_cut_with_2 : List S := [.aug 3 .sub (.idx (.var 4) (.tup [.bin .sub (.var 2) (.int 1), .idx (.var 7) (.int 0)])), .asg 7 (.slc (.var 7) (.int 1) .non) false []]
def x_cut_with_3 : E := .cmp .gt (.var 2) (.int 0)
def x_cut_with_4 : List S := [.asg 7 (.call f_borders [.var 0, .var 1, .var 2, .var 6]) false [], .whl x_cut_with_1 x_cut_with_2, .aug 5 .add (.tup [.idx (.var 7) (.int 0)]), .par 6 2 (.idx (.var 7) (.int 0)) (.bin .sub (.var 2) (.int 1)) []]
def b_cut_with : Fn := ⟨4, 8, [
   .asg 4 (.call f_counts_of [.var 0, .var 1]) false [],
   .asg 5 (.tup []) false [],
   .asg 6 (.int 0) false [],
   .whl x_cut_with_3 x_cut_with_4,
   .ret (.slc (.var 5) .non (.neg (.int 1)))]⟩ -- costs table pieces rank counts found start ends
def b_best_cut : Fn := ⟨4, 6, [
   .exp (.call f_check_all [.var 0, .var 1, .var 2]),
   .asgT [4, 5] (.call f_rows_of [.var 0, .var 1]) [],
   .ife (.not (.call f_is_int [.var 3, .int 0, .bin .sub (.idx (.call f_counts_of [.var 4, .var 5]) (.tup [.var 2, .int 0])) (.int 1)])) [.raise 4] [],
   .ret (.call f_cut_with [.var 4, .var 5, .var 2, .var 3])]⟩ -- kind series pieces rank costs table
def x_rank_of_1 : List S := [.ife (.cmp .lt (.var 11) (.var 9)) [.aug 6 .add (.idx (.var 5) (.tup [.bin .sub (.var 10) (.int 1), .var 11]))] []]
def x_rank_of_2 : List S := [.asg 10 (.bin .sub (.bin .add (.blt .len [.var 2]) (.int 1)) (.var 8)) false [], .for (.nm 11) (.call f_borders [.var 3, .var 4, .var 10, .var 7]) [] x_rank_of_1, .asg 7 (.var 9) false []]
def b_rank_of : Fn := ⟨3, 12, [
   .ife (.not (.call f_is_best [.var 0, .var 1, .var 2])) [.raise 3] [],
   .asgT [3, 4] (.call f_rows_of [.var 0, .var 1]) [],
   .asg 5 (.call f_counts_of [.var 3, .var 4]) false [],
   .asg 6 (.int 0) false [],
   .asg 7 (.int 0) false [],
   .for (.tp [8, 9]) (.enmT (.var 2)) [] x_rank_of_2,
   .ret (.var 6)]⟩ -- kind series cut costs table counts found start number place left end
def x_places_with_1 : List S := [.set 9 (.var 11) (.bin .add (.get (.var 9) (.var 11) (.int 0)) (.idx (.var 6) (.var 10)))]
def x_places_with_2 : List S := [.for (.nm 11) (.call f_borders [.var 3, .var 4, .var 8, .var 10]) [7, 9] x_places_with_1]
def x_places_with_3 : List S := [.set 7 (.var 11) (.bin .add (.get (.var 7) (.var 11) (.int 0)) (.bin .mul (.idx (.var 9) (.var 11)) (.idx (.var 5) (.tup [.bin .sub (.var 8) (.int 1), .var 11]))))]
def x_places_with_4 : List S := [.asg 9 (.dnil false) true [7, 9], .forK (.nm 10) 6 [7, 9] x_places_with_2, .forK (.nm 11) 9 [7] x_places_with_3, .asg 6 (.var 9) false [7]]
def b_places_with : Fn := ⟨3, 12, [
   .asgT [3, 4] (.call f_rows_of [.var 0, .var 1]) [7, 9],
   .asg 5 (.call f_counts_of [.var 3, .var 4]) false [7, 9],
   .asg 6 (.done false (.int 0) (.int 1)) false [7, 9],
   .asg 7 (.dnil false) true [7, 9],
   .for (.nm 8) (.rng (.var 2) (.int 1) (.neg (.int 1))) [7, 9] x_places_with_4,
   .ret (.tup [.var 7, .idx (.var 5) (.tup [.var 2, .int 0])])]⟩ -- kind series pieces costs table counts ahead found left following start end
def x_sure_places_1 : E := .var 5
def x_sure_places_2 : E := .cmp .eq (.idx (.var 3) (.var 5)) (.var 4)
def b_sure_places : Fn := ⟨3, 6, [
   .exp (.call f_check_all [.var 0, .var 1, .var 2]),
   .asgT [3, 4] (.call f_places_with [.var 0, .var 1, .var 2]) [],
   .ret (.blt .sorted [.lcK x_sure_places_1 (.nm 5) 3 x_sure_places_2 [5]])]⟩ -- kind series pieces found many place
def b_possible_places : Fn := ⟨3, 3, [
   .exp (.call f_check_all [.var 0, .var 1, .var 2]),
   .ret (.blt .sorted [.idx (.call f_places_with [.var 0, .var 1, .var 2]) (.int 0)])]⟩ -- kind series pieces
def x_count_at_1 : E := .get (.var 3) (.var 4) (.int 0)
def b_count_at : Fn := ⟨3, 5, [
   .exp (.call f_check_all [.var 0, .var 1, .var 2]),
   .asg 3 (.idx (.call f_places_with [.var 0, .var 1, .var 2]) (.int 0)) false [],
   .ret (.lc x_count_at_1 (.nm 4) (.rng (.int 1) (.blt .len [.var 1]) (.int 1)) (.bl true) [4])]⟩ -- kind series pieces found place
def b_times : Fn := ⟨2, 2, [
   .ret (.call f_lowest [.bin .mul (.idx (.var 0) (.int 0)) (.var 1), .idx (.var 0) (.int 1)])]⟩ -- one number
def b_minus : Fn := ⟨2, 2, [
   .ret (.call f_plus [.var 0, .tup [.neg (.idx (.var 1) (.int 0)), .idx (.var 1) (.int 1)]])]⟩ -- one other
def b_over : Fn := ⟨2, 2, [
   .ret (.call f_lowest [.idx (.var 0) (.int 0), .bin .mul (.idx (.var 0) (.int 1)) (.var 1)])]⟩ -- one number
def b_is_price : Fn := ⟨1, 1, [
   .ife (.or (.not (.isi (.var 0) .tuple)) (.cmp .ne (.blt .len [.var 0]) (.int 2))) [.ret (.bl false)] [],
   .ife (.or (.not (.call f_is_int [.idx (.var 0) (.int 0), .int 0, .int 1000000])) (.not (.call f_is_int [.idx (.var 0) (.int 1), .int 1, .int 1000000]))) [.ret (.bl false)] [],
   .ret (.cmp .eq (.call f_common [.idx (.var 0) (.int 0), .idx (.var 0) (.int 1)]) (.int 1))]⟩ -- value
def b_check_price : Fn := ⟨1, 1, [
   .ife (.not (.call f_is_price [.var 0])) [.raise 4] []]⟩ -- value
def x_totals_1 : E := .call f_plus [.var 3, .call f_times [.var 1, .bin .add (.var 2) (.int 1)]]
def b_totals : Fn := ⟨2, 4, [
   .ret (.lc x_totals_1 (.tp [2, 3]) (.enm (.var 0)) (.bl true) [2, 3])]⟩ -- costs price number cost
def b_least_total : Fn := ⟨3, 3, [
   .exp (.call f_check_kind [.var 0]),
   .exp (.call f_check_series [.var 1]),
   .exp (.call f_check_price [.var 2]),
   .ret (.call f_smallest [.call f_totals [.call f_all_costs [.var 0, .var 1], .var 2]])]⟩ -- kind series price
def x_numbers_for_1 : E := .bin .add (.var 6) (.int 1)
def x_numbers_for_2 : E := .cmp .eq (.var 7) (.var 4)
def b_numbers_for : Fn := ⟨3, 8, [
   .exp (.call f_check_kind [.var 0]),
   .exp (.call f_check_series [.var 1]),
   .exp (.call f_check_price [.var 2]),
   .asg 3 (.call f_totals [.call f_all_costs [.var 0, .var 1], .var 2]) false [],
   .asg 4 (.call f_smallest [.var 3]) false [],
   .asg 5 (.lc x_numbers_for_1 (.tp [6, 7]) (.enm (.var 3)) x_numbers_for_2 [6, 7]) false [],
   .ret (.tup [.idx (.var 5) (.int 0), .idx (.var 5) (.neg (.int 1))])]⟩ -- kind series price rows least found number total
def x_bounds_1 : List S := [.asg 7 (.bin .sub (.bin .add (.var 5) (.int 1)) (.var 1)) false [], .ife (.cmp .gt (.var 7) (.int 0)) [.asg 8 (.call f_over [.call f_minus [.var 2, .var 6], .var 7]) false [], .asg 3 (.ife (.call f_less [.var 3, .var 8]) (.var 8) (.var 3)) false []] [.ife (.cmp .lt (.var 7) (.int 0)) [.asg 8 (.call f_over [.call f_minus [.var 6, .var 2], .neg (.var 7)]) false [], .asg 4 (.ife (.or (.isb false none (.var 4)) (.call f_less [.var 8, .var 4])) (.var 8) (.var 4)) false []] []]]
def b_bounds : Fn := ⟨2, 9, [
   .asg 2 (.idx (.var 0) (.bin .sub (.var 1) (.int 1))) false [],
   .asgT [3, 4] (.tup [.tup [.int 0, .int 1], .non]) [],
   .for (.tp [5, 6]) (.enm (.var 0)) [] x_bounds_1,
   .ret (.ife (.and (.isb true none (.var 4)) (.call f_less [.var 4, .var 3])) .non (.tup [.var 3, .var 4]))]⟩ -- costs pieces own low high number cost gap price
def x_turning_prices_1 : E := .var 6
def x_turning_prices_2 : E := .isb true none (.var 6)
def x_turning_prices_3 : List S := [.asg 5 (.call f_bounds [.var 2, .var 4]) false [3, 7], .ext 3 (.ife (.isb false none (.var 5)) (.lst []) (.lc x_turning_prices_1 (.nm 6) (.var 5) x_turning_prices_2 [6]))]
def x_turning_prices_4 : List S := [.asg 9 (.call f_totals [.var 2, .var 8]) false [3, 7], .ife (.and (.cmp .gt (.cnt (.var 9) (.call f_smallest [.var 9])) (.int 1)) (.cmp .notin (.var 8) (.var 7))) [.app 7 (.var 8)] []]
def b_turning_prices : Fn := ⟨2, 10, [
   .exp (.call f_check_kind [.var 0]),
   .exp (.call f_check_series [.var 1]),
   .asg 2 (.call f_all_costs [.var 0, .var 1]) false [3, 7],
   .asg 3 (.lst []) true [3, 7],
   .for (.nm 4) (.rng (.int 1) (.bin .add (.blt .len [.var 2]) (.int 1)) (.int 1)) [3, 7] x_turning_prices_3,
   .asg 7 (.lst []) true [3, 7],
   .for (.nm 8) (.var 3) [7] x_turning_prices_4,
   .ret (.call f_ordered [.var 7])]⟩ -- kind series costs found pieces limits limit several price rows
def x_ordered_1 : E := .cmp .ne (.var 1) (.lst [])
def x_ordered_2 : List S := [.app 2 (.call f_smallest [.var 1]), .rem 1 (.idx (.var 2) (.neg (.int 1)))]
def b_ordered : Fn := ⟨1, 3, [
   .asg 1 (.blt .list [.var 0]) true [1, 2],
   .asg 2 (.lst []) true [1, 2],
   .whl x_ordered_1 x_ordered_2,
   .ret (.var 2)]⟩ -- some left found
def b__law_price : Fn := ⟨1, 1, [
   .ret (.call f__law_low [.call f__law_draw [.var 0, .call f__law_pick [.var 0, .lst [.int 3, .int 30, .int 2000]]], .bin .add (.int 1) (.call f__law_draw [.var 0, .int 6])])]⟩ -- draws
def b_price_range : Fn := ⟨3, 3, [
   .exp (.call f_check_all [.var 0, .var 1, .var 2]),
   .ret (.call f_bounds [.call f_all_costs [.var 0, .var 1], .var 2])]⟩ -- kind series pieces
def x_hull_numbers_1 : E := .var 3
def x_hull_numbers_2 : E := .isb true none (.call f_bounds [.var 2, .var 3])
def b_hull_numbers : Fn := ⟨2, 4, [
   .exp (.call f_check_kind [.var 0]),
   .exp (.call f_check_series [.var 1]),
   .asg 2 (.call f_all_costs [.var 0, .var 1]) false [],
   .ret (.lc x_hull_numbers_1 (.nm 3) (.rng (.int 1) (.bin .add (.blt .len [.var 2]) (.int 1)) (.int 1)) x_hull_numbers_2 [3])]⟩ -- kind series costs pieces
def x_potential_row_1 : E := .call f_plus [.call f_plus [.idx (.var 3) (.var 6), .idx (.var 0) (.tup [.var 6, .var 4])], .var 2]
def x_potential_row_2 : List S := [.asg 5 (.lc x_potential_row_1 (.nm 6) (.rng (.int 0) (.var 4) (.int 1)) (.bl true) [6]) true [], .app 3 (.call f_smallest [.var 5])]
def b_potential_row : Fn := ⟨3, 7, [
   .asg 3 (.lst [.tup [.int 0, .int 1]]) true [3],
   .for (.nm 4) (.rng (.int 1) (.bin .add (.var 1) (.int 1)) (.int 1)) [3] x_potential_row_2,
   .ret (.var 3)]⟩ -- costs size price found end ways start
def b_potentials : Fn := ⟨3, 3, [
   .exp (.call f_check_kind [.var 0]),
   .exp (.call f_check_series [.var 1]),
   .exp (.call f_check_price [.var 2]),
   .ret (.call f_potential_row [.call f_piece_costs [.var 0, .var 1], .blt .len [.var 1], .var 2])]⟩ -- kind series price
def b_is_number : Fn := ⟨1, 1, [
   .ife (.or (.not (.isi (.var 0) .tuple)) (.or (.cmp .ne (.blt .len [.var 0]) (.int 2)) (.not (.call f_is_int [.idx (.var 0) (.int 1), .int 1, .int 10000000000000000000000000000000000000000])))) [.ret (.bl false)] [],
   .ret (.and (.call f_is_int [.idx (.var 0) (.int 0), .neg (.int 10000000000000000000000000000000000000000), .int 10000000000000000000000000000000000000000]) (.cmp .eq (.call f_common [.idx (.var 0) (.int 0), .idx (.var 0) (.int 1)]) (.int 1)))]⟩ -- value
def x_fits_1 : List S := [.ife (.call f_less [.call f_plus [.idx (.var 0) (.tup [.var 5, .var 4]), .var 2], .call f_minus [.idx (.var 3) (.var 4), .idx (.var 3) (.var 5)]]) [.ret (.bl false)] []]
def x_fits_2 : List S := [.for (.nm 5) (.rng (.int 0) (.var 4) (.int 1)) [] x_fits_1]
def b_fits : Fn := ⟨4, 6, [
   .ife (.cmp .ne (.idx (.var 3) (.int 0)) (.tup [.int 0, .int 1])) [.ret (.bl false)] [],
   .for (.nm 4) (.rng (.int 1) (.bin .add (.var 1) (.int 1)) (.int 1)) [] x_fits_2,
   .ret (.bl true)]⟩ -- costs size price rows end start
def x_shows_1 : E := .call f_is_number [.var 4]
def b_shows : Fn := ⟨4, 5, [
   .exp (.call f_check_kind [.var 0]),
   .exp (.call f_check_series [.var 1]),
   .exp (.call f_check_price [.var 2]),
   .ife (.or (.not (.isi (.var 3) .list)) (.or (.cmp .ne (.blt .len [.var 3]) (.bin .add (.blt .len [.var 1]) (.int 1))) (.not (.blt .all [.lc x_shows_1 (.nm 4) (.var 3) (.bl true) [4]])))) [.ret (.bl false)] [],
   .ret (.call f_fits [.call f_piece_costs [.var 0, .var 1], .blt .len [.var 1], .var 2, .var 3])]⟩ -- kind series price rows row
def x_first_fault_1 : E := .call f_is_number [.var 4]
def x_first_fault_2 : List S := [.ife (.call f_less [.call f_plus [.idx (.var 5) (.tup [.var 6, .var 7]), .var 2], .call f_minus [.idx (.var 3) (.var 7), .idx (.var 3) (.var 6)]]) [.ret (.tup [.var 6, .var 7])] []]
def x_first_fault_3 : List S := [.for (.nm 7) (.rng (.bin .add (.var 6) (.int 1)) (.bin .add (.blt .len [.var 1]) (.int 1)) (.int 1)) [] x_first_fault_2]
def b_first_fault : Fn := ⟨4, 8, [
   .exp (.call f_check_kind [.var 0]),
   .exp (.call f_check_series [.var 1]),
   .exp (.call f_check_price [.var 2]),
   .ife (.or (.not (.isi (.var 3) .list)) (.or (.cmp .ne (.blt .len [.var 3]) (.bin .add (.blt .len [.var 1]) (.int 1))) (.not (.blt .all [.lc x_first_fault_1 (.nm 4) (.var 3) (.bl true) [4]])))) [.raise 4] [],
   .asg 5 (.call f_piece_costs [.var 0, .var 1]) false [],
   .for (.nm 6) (.rng (.int 0) (.blt .len [.var 1]) (.int 1)) [] x_first_fault_3,
   .ret .non]⟩ -- kind series price rows row costs start end
def b_bound_at : Fn := ⟨4, 5, [
   .exp (.call f_check_all [.var 0, .var 1, .var 2]),
   .exp (.call f_check_price [.var 3]),
   .asg 4 (.call f_smallest [.call f_totals [.call f_all_costs [.var 0, .var 1], .var 3]]) false [],
   .ret (.call f_minus [.var 4, .call f_times [.var 3, .var 2]])]⟩ -- kind series pieces price least
def x_best_bound_1 : E := .var 7
def x_best_bound_2 : E := .isb true none (.var 7)
def x_best_bound_3 : List S := [.asg 6 (.call f_bounds [.var 3, .var 5]) false [4], .ext 4 (.ife (.isb false none (.var 6)) (.lst []) (.lc x_best_bound_1 (.nm 7) (.var 6) x_best_bound_2 [7]))]
def x_best_bound_4 : List S := [.asg 10 (.call f_minus [.call f_smallest [.call f_totals [.var 3, .var 9]], .call f_times [.var 9, .var 2]]) false [4], .ife (.or (.isb false none (.var 8)) (.call f_less [.idx (.var 8) (.int 0), .var 10])) [.asg 8 (.tup [.var 10, .var 9]) false [4]] []]
def b_best_bound : Fn := ⟨3, 11, [
   .exp (.call f_check_all [.var 0, .var 1, .var 2]),
   .asg 3 (.call f_all_costs [.var 0, .var 1]) false [4],
   .asg 4 (.lst [.tup [.int 0, .int 1]]) true [4],
   .for (.nm 5) (.rng (.int 1) (.bin .add (.blt .len [.var 3]) (.int 1)) (.int 1)) [4] x_best_bound_3,
   .asg 8 .non false [4],
   .for (.nm 9) (.call f_ordered [.var 4]) [] x_best_bound_4,
   .ret (.var 8)]⟩ -- kind series pieces costs prices number limits limit found price bound
def b_checked : Fn := ⟨1, 1, [
   .ife (.not (.call f_is_series [.var 0])) [.raise 2] [],
   .ret (.var 0)]⟩ -- series
def x_moved_1 : E := .tup [.bin .add (.var 2) (.var 1), .var 3]
def b_moved : Fn := ⟨2, 4, [
   .exp (.call f_check_series [.var 0]),
   .ife (.not (.call f_is_int [.var 1, .neg (.int 999), .int 999])) [.raise 4] [],
   .ret (.call f_checked [.lc x_moved_1 (.tp [2, 3]) (.var 0) (.bl true) [2, 3]])]⟩ -- series by value weight
def x_scaled_1 : E := .tup [.bin .mul (.var 2) (.var 1), .var 3]
def b_scaled : Fn := ⟨2, 4, [
   .exp (.call f_check_series [.var 0]),
   .ife (.not (.call f_is_int [.var 1, .neg (.int 999), .int 999])) [.raise 4] [],
   .ret (.call f_checked [.lc x_scaled_1 (.tp [2, 3]) (.var 0) (.bl true) [2, 3]])]⟩ -- series by value weight
def b_backward : Fn := ⟨1, 1, [
   .exp (.call f_check_series [.var 0]),
   .ret (.rev (.var 0))]⟩ -- series
def x_heavier_1 : E := .tup [.var 2, .bin .mul (.var 3) (.var 1)]
def b_heavier : Fn := ⟨2, 4, [
   .exp (.call f_check_series [.var 0]),
   .ife (.not (.call f_is_int [.var 1, .int 1, .int 9])) [.raise 4] [],
   .ret (.call f_checked [.lc x_heavier_1 (.tp [2, 3]) (.var 0) (.bl true) [2, 3]])]⟩ -- series by value weight
def x_repeated_1 : List S := [.ext 2 (.bin .mul (.lst [.var 3]) (.var 1))]
def b_repeated : Fn := ⟨2, 4, [
   .exp (.call f_check_series [.var 0]),
   .ife (.not (.call f_is_int [.var 1, .int 1, .int 14])) [.raise 4] [],
   .asg 2 (.lst []) true [2],
   .for (.nm 3) (.var 0) [2] x_repeated_1,
   .ret (.call f_checked [.var 2])]⟩ -- series times_each found entry
def b_joined : Fn := ⟨2, 2, [
   .exp (.call f_check_series [.var 0]),
   .exp (.call f_check_series [.var 1]),
   .ret (.call f_checked [.bin .add (.var 0) (.var 1)])]⟩ -- one other
def b__law_error : Fn := ⟨1, 2, [
   .asg 1 (.lst [.isi (.var 0) (.exc 1), .isi (.var 0) (.exc 2), .isi (.var 0) (.exc 3)]) false [],
   .asg 1 (.bin .add (.var 1) (.lst [.isi (.var 0) (.exc 4), .isi (.var 0) (.exc 5), .isi (.var 0) (.exc 6)])) false [],
   .ife (.or (.cmp .ne (.cnt (.var 1) (.bl true)) (.int 1)) (.or (.not (.isi (.var 0) (.exc 0))) (.not (.isi (.var 0) (.exc 0))))) [.ret (.str [111, 100, 100])] [],
   .ret (.idx (.lst [.str [107, 105, 110, 100], .str [115, 101, 114, 105, 101, 115], .str [99, 117, 116], .str [110, 117, 109, 98, 101, 114], .str [116, 101, 120, 116], .str [110, 111, 110, 101]]) (.ixo (.var 1) (.bl true)))]⟩ -- caught kinds
def b__law_call_k11 : Fn := ⟨4, 7, [
   .asg 4 .non false [],
   .asg 5 .non false [],
   .tryE [.ife (.cmp .eq (.var 1) (.int 0)) [.asg 4 (.mth f_Fitter_add 0 [.var 2, .var 3]) false []] [.ife (.cmp .eq (.var 1) (.int 1)) [.asg 4 (.mth f_Fitter_undo 0 []) false []] [.ife (.cmp .eq (.var 1) (.int 2)) [.asg 4 (.mth f_Fitter_cost 0 [.var 2]) false []] [.asg 4 (.mth f_Fitter_ahead 0 [.var 2, .var 3]) false []]]]] 0 6 [.asg 5 (.var 6) false []],
   .ret (.ife (.isb false none (.var 5)) (.var 4) (.call f__law_error [.var 5]))]⟩ -- shown kind one two found caught e
def x_Fitter_add_1 : E := .call f_piece_cost [.fK 0, .fS 0 (.var 5) .non]
def x_Fitter_add_2 : List S := [.asg 9 (.ife (.cmp .lt (.bin .sub (.var 7) (.int 1)) (.fRL 0 (.var 5))) (.fR 0 (.var 5) (.bin .sub (.var 7) (.int 1))) .non) false [6, 8], .ext 8 (.ife (.isb false none (.var 9)) (.lst []) (.lst [.call f_plus [.var 9, .idx (.var 4) (.var 5)]]))]
def x_Fitter_add_3 : List S := [.asg 8 (.lst []) true [6, 8], .for (.nm 5) (.rng (.bin .sub (.var 7) (.int 1)) (.var 3) (.int 1)) [6, 8] x_Fitter_add_2, .app 6 (.call f_smallest [.var 8])]
def b_Fitter_add : Fn := ⟨3, 10, [
   .ife (.or (.not (.call f_is_entry [.tup [.var 1, .var 2]])) (.cmp .eq (.fL 0) (.int 14))) [.raise 2] [],
   .fApp 0 (.tup [.var 1, .var 2]),
   .asg 3 (.fL 0) false [6, 8],
   .asg 4 (.lc x_Fitter_add_1 (.nm 5) (.rng (.int 0) (.var 3) (.int 1)) (.bl true) [5]) false [6, 8],
   .asg 6 (.lst [.non]) true [6, 8],
   .for (.nm 7) (.rng (.int 1) (.bin .add (.var 3) (.int 1)) (.int 1)) [6, 8] x_Fitter_add_3,
   .fApR 0 6,
   .ret (.var 3)]⟩ -- self value weight size costs start row pieces ways ahead
def b_Fitter_cost : Fn := ⟨2, 2, [
   .ife (.fN 0) [.raise 6] [],
   .exp (.fCS f_check_pieces 0 (.var 1)),
   .ret (.fR 0 (.neg (.int 1)) (.var 1))]⟩ -- self pieces
def b_Fitter_ahead : Fn := ⟨3, 3, [
   .ife (.not (.call f_is_int [.var 1, .int 1, .fL 0])) [.raise 4] [],
   .exp (.call f_check_pieces [.fS 0 .non (.var 1), .var 2]),
   .ret (.fR 0 (.var 1) (.var 2))]⟩ -- self size pieces
def b_Fitter_entries : Fn := ⟨1, 1, [
   .ret (.fA 0)]⟩ -- self
def b_Fitter_undo : Fn := ⟨1, 1, [
   .ife (.fN 0) [.raise 6] [],
   .fPpR 0,
   .ret (.fP 0)]⟩ -- self
def b_Fitter___len__ : Fn := ⟨1, 1, [
   .ret (.fL 0)]⟩ -- self
def x_parse_number_1 : E := .cmp .isin (.var 2) (.str [48, 49, 50, 51, 52, 53, 54, 55, 56, 57])
def b_parse_number : Fn := ⟨1, 3, [
   .asg 1 (.ife (.cmp .eq (.slc (.var 0) .non (.int 1)) (.str [45])) (.slc (.var 0) (.int 1) .non) (.var 0)) false [],
   .ife (.or (.not (.chn .le .le (.int 1) (.blt .len [.var 1]) (.int 3))) (.or (.not (.blt .all [.lc x_parse_number_1 (.nm 2) (.chars (.var 1)) (.bl true) [2]])) (.cmp .ne (.blt .str [.blt .int [.var 0]]) (.var 0)))) [.raise 5] [],
   .ret (.blt .int [.var 0])]⟩ -- word plain sign
def x_format_series_1 : E := .ife (.cmp .eq (.var 2) (.int 1)) (.blt .str [.var 1]) (.fmt (.var 1) [42] (.var 2))
def b_format_series : Fn := ⟨1, 3, [
   .exp (.call f_check_series [.var 0]),
   .ret (.join (.str [32]) (.lc x_format_series_1 (.tp [1, 2]) (.var 0) (.bl true) [1, 2]))]⟩ -- series value weight
def b_parse_entry : Fn := ⟨1, 2, [
   .asg 1 (.split (.var 0) (.str [42])) false [],
   .ife (.or (.cmp .gt (.blt .len [.var 1]) (.int 2)) (.cmp .eq (.slc (.var 1) (.int 1) .non) (.lst [.str [49]]))) [.raise 5] [],
   .ret (.tup [.call f_parse_number [.idx (.var 1) (.int 0)], .ife (.cmp .eq (.blt .len [.var 1]) (.int 2)) (.call f_parse_number [.idx (.var 1) (.int 1)]) (.int 1)])]⟩ -- word parts
def b_parse_series : Fn := ⟨1, 3, [
   .ife (.not (.isi (.var 0) .str)) [.raise 5] [],
   .asgX 1 f_parse_entry 2 (.split (.var 0) (.str [32])),
   .ife (.not (.call f_is_series [.var 1])) [.raise 5] [],
   .ret (.var 1)]⟩ -- text found word
def x_format_cut_1 : E := .blt .str [.var 3]
def x_format_cut_2 : List S := [.set 2 (.var 5) (.bin .add (.str [124, 32]) (.idx (.var 2) (.var 5)))]
def b_format_cut : Fn := ⟨2, 6, [
   .exp (.call f_check_series [.var 0]),
   .exp (.call f_check_cut [.var 0, .var 1]),
   .asg 2 (.lc x_format_cut_1 (.tp [3, 4]) (.var 0) (.bl true) [3, 4]) true [2],
   .for (.nm 5) (.var 1) [2] x_format_cut_2,
   .ret (.join (.str [32]) (.var 2))]⟩ -- series cut words value weight place
def x_format_fraction_1 : E := .isi (.var 1) .int
def x_format_fraction_2 : E := .isi (.var 1) .bool
def b_format_fraction : Fn := ⟨1, 2, [
   .ife (.or (.not (.isi (.var 0) .tuple)) (.or (.cmp .ne (.blt .len [.var 0]) (.int 2)) (.not (.blt .all [.lc x_format_fraction_1 (.nm 1) (.var 0) (.bl true) [1]])))) [.raise 5] [],
   .ife (.or (.cmp .lt (.idx (.var 0) (.int 1)) (.int 1)) (.or (.cmp .ne (.call f_common [.idx (.var 0) (.int 0), .idx (.var 0) (.int 1)]) (.int 1)) (.cmp .isin (.bl true) (.lc x_format_fraction_2 (.nm 1) (.var 0) (.bl true) [1])))) [.raise 5] [],
   .ret (.ife (.cmp .eq (.idx (.var 0) (.int 1)) (.int 1)) (.blt .str [.idx (.var 0) (.int 0)]) (.fmt (.idx (.var 0) (.int 0)) [47] (.idx (.var 0) (.int 1))))]⟩ -- value part
def x__law_written_1 : E := .bin .add (.blt .str [.var 1]) (.ife (.cmp .eq (.var 2) (.int 1)) (.str []) (.bin .add (.str [42]) (.blt .str [.var 2])))
def b__law_written : Fn := ⟨1, 3, [
   .ret (.join (.str [32]) (.lc x__law_written_1 (.tp [1, 2]) (.var 0) (.bl true) [1, 2]))]⟩ -- series value weight
def b__law_parsed : Fn := ⟨1, 4, [
   .asg 1 .non false [],
   .asg 2 .non false [],
   .tryE [.asg 1 (.call f_parse_series [.var 0]) false []] 0 3 [.asg 2 (.var 3) false []],
   .ret (.ife (.isb false none (.var 2)) (.var 1) (.call f__law_error [.var 2]))]⟩ -- text found caught e
def b__law_fraction : Fn := ⟨1, 4, [
   .asg 1 .non false [],
   .asg 2 .non false [],
   .tryE [.asg 1 (.call f_format_fraction [.var 0]) false []] 0 3 [.asg 2 (.var 3) false []],
   .ret (.ife (.isb false none (.var 2)) (.var 1) (.lst [.call f__law_error [.var 2]]))]⟩ -- value found caught e
def x__law_rejected_1 : E := .call f__law_parsed [.var 1]
def x__law_rejected_2 : E := .call f__law_fraction [.var 1]
def b__law_rejected : Fn := ⟨0, 2, [
   .asg 0 (.lst [.non, .int 5, .str [], .str [32], .str [49, 32], .str [32, 49], .str [49, 32, 32, 50], .str [48, 49], .str [43, 49], .str [45, 48], .str [45, 45, 49], .str [97], .str [49, 42], .str [42, 49], .str [49, 42, 49], .str [49, 42, 48], .str [49, 42, 49, 48], .str [49, 42, 48, 50], .str [49, 42, 50, 42, 51], .str [49, 32, 42, 50], .str [49, 48, 48, 48], .str [45, 49, 48, 48, 48], .str [49, 46, 48], .str [49, 42, 45, 50], .join (.str [32]) (.bin .mul (.lst [.str [48]]) (.int 15))]) false [],
   .ife (.or (.cmp .ne (.lc x__law_rejected_1 (.nm 1) (.var 0) (.bl true) [1]) (.bin .mul (.lst [.str [116, 101, 120, 116]]) (.int 25))) (.cmp .ne (.call f__law_parsed [.str [53, 32, 45, 53, 42, 57, 32, 48]]) (.lst [.tup [.int 5, .int 1], .tup [.bin .sub (.int 0) (.int 5), .int 9], .tup [.int 0, .int 1]]))) [.ret (.bl false)] [],
   .asg 0 (.lst [.non, .int 5, .tup [.int 1], .lst [.int 1, .int 2], .tup [.int 1, .int 0], .tup [.int 2, .int 4], .tup [.int 1, .bin .sub (.int 0) (.int 1)], .tup [.bl true, .int 1], .tup [.int 1, .bl true], .tup [.int 1, .non], .tup [.str [49], .int 2], .tup [.int 0, .int 2]]) false [],
   .ret (.and (.cmp .eq (.lc x__law_rejected_2 (.nm 1) (.var 0) (.bl true) [1]) (.bin .mul (.lst [.lst [.str [116, 101, 120, 116]]]) (.int 12))) (.and (.cmp .eq (.call f__law_fraction [.tup [.int 0, .int 1]]) (.str [48])) (.cmp .eq (.call f__law_fraction [.tup [.bin .sub (.int 0) (.int 3), .int 2]]) (.str [45, 51, 47, 50]))))]⟩ -- odd bad
def b__law_plain : Fn := ⟨3, 3, [
   .ife (.cmp .eq (.var 0) (.int 0)) [.ret (.call f_best_levels [.var 1, .var 2])] [],
   .ife (.cmp .eq (.var 0) (.int 1)) [.ret (.call f_cost_of_piece [.var 1, .var 2])] [],
   .ife (.cmp .eq (.var 0) (.int 2)) [.ret (.call f_fewest_exact [.var 1, .var 2])] [],
   .ife (.cmp .eq (.var 0) (.int 3)) [.ret (.call f_least_costs [.var 1, .var 2])] [],
   .ret (.ife (.cmp .eq (.var 0) (.int 4)) (.call f_hull_numbers [.var 1, .var 2]) (.call f_turning_prices [.var 1, .var 2]))]⟩ -- kind one series
def b__law_three : Fn := ⟨4, 4, [
   .ife (.cmp .eq (.var 0) (.int 0)) [.ret (.call f_cost [.var 1, .var 2, .var 3])] [],
   .ife (.cmp .eq (.var 0) (.int 1)) [.ret (.call f_fitted [.var 1, .var 2, .var 3])] [],
   .ife (.cmp .eq (.var 0) (.int 2)) [.ret (.call f_is_best [.var 1, .var 2, .var 3])] [],
   .ife (.cmp .eq (.var 0) (.int 3)) [.ret (.call f_rank_of [.var 1, .var 2, .var 3])] [],
   .ife (.cmp .eq (.var 0) (.int 4)) [.ret (.call f_least_cost [.var 1, .var 2, .var 3])] [],
   .ife (.cmp .eq (.var 0) (.int 5)) [.ret (.call f_count_best [.var 1, .var 2, .var 3])] [],
   .ife (.cmp .eq (.var 0) (.int 6)) [.ret (.call f_best_cut [.var 1, .var 2, .var 3, .non])] [],
   .ife (.cmp .eq (.var 0) (.int 7)) [.ret (.call f_sure_places [.var 1, .var 2, .var 3])] [],
   .ife (.cmp .eq (.var 0) (.int 8)) [.ret (.call f_possible_places [.var 1, .var 2, .var 3])] [],
   .ife (.cmp .eq (.var 0) (.int 9)) [.ret (.call f_count_at [.var 1, .var 2, .var 3])] [],
   .ife (.cmp .eq (.var 0) (.int 10)) [.ret (.call f_price_range [.var 1, .var 2, .var 3])] [],
   .ife (.cmp .eq (.var 0) (.int 11)) [.ret (.call f_best_bound [.var 1, .var 2, .var 3])] [],
   .ife (.cmp .eq (.var 0) (.int 12)) [.ret (.call f_bound_at [.var 1, .var 2, .var 3, .non])] [],
   .ife (.cmp .eq (.var 0) (.int 13)) [.ret (.call f_least_total [.var 1, .var 2, .var 3])] [],
   .ife (.cmp .eq (.var 0) (.int 14)) [.ret (.call f_numbers_for [.var 1, .var 2, .var 3])] [],
   .ife (.cmp .eq (.var 0) (.int 15)) [.ret (.call f_potentials [.var 1, .var 2, .var 3])] [],
   .ret (.ife (.cmp .eq (.var 0) (.int 16)) (.call f_shows [.var 1, .var 2, .var 3, .non]) (.call f_first_fault [.var 1, .var 2, .var 3, .non]))]⟩ -- kind one series thing
def b__law_asked_k13 : Fn := ⟨5, 7, [
   .asg 5 .non false [],
   .tryE [.ife (.cmp .eq (.var 0) (.int 1)) [.exp (.call f__law_plain [.var 1, .var 2, .var 3])] [.exp (.call f__law_three [.var 1, .var 2, .var 3, .var 4])]] 0 6 [.asg 5 (.var 6) false []],
   .ret (.ife (.isb false none (.var 5)) (.str [100, 111, 110, 101]) (.call f__law_error [.var 5]))]⟩ -- group kind one series thing caught e
def x__law_prices_1 : E := .call f__law_asked_k13 [.int 2, .var 3, .var 0, .var 1, .var 2]
def x__law_prices_2 : List S := [.ife (.cmp .ne (.lc x__law_prices_1 (.nm 3) (.tup [.int 13, .int 14, .int 15, .int 16, .int 17]) (.bl true) [3]) (.bin .mul (.lst [.str [110, 117, 109, 98, 101, 114]]) (.int 5))) [.ret (.bl false)] []]
def x__law_prices_3 : E := .call f__law_asked_k13 [.int 2, .var 3, .var 0, .var 1, .var 4]
def x__law_prices_4 : List S := [.ife (.cmp .ne (.lc x__law_prices_3 (.nm 3) (.tup [.int 13, .int 14, .int 15, .int 16, .int 17]) (.bl true) [3]) (.bin .add (.bin .mul (.lst [.str [100, 111, 110, 101]]) (.int 4)) (.lst [.str [110, 117, 109, 98, 101, 114]]))) [.ret (.bl false)] []]
def x__law_prices_5 : List S := [.ife (.isb true (some false) (.call f_shows [.var 0, .var 1, .tup [.int 0, .int 1], .var 6])) [.ret (.bl false)] [], .asg 7 .non false [], .tryE [.exp (.call f_first_fault [.var 0, .var 1, .tup [.int 0, .int 1], .var 6])] 0 8 [.asg 7 (.var 8) false []], .ife (.or (.isb false none (.var 7)) (.cmp .ne (.call f__law_error [.var 7]) (.str [110, 117, 109, 98, 101, 114]))) [.ret (.bl false)] []]
def b__law_prices : Fn := ⟨2, 10, [
   .for (.nm 2) (.lst [.non, .int 5, .tup [.int 1], .lst [.int 1, .int 2], .tup [.int 1, .int 0], .tup [.int 2, .int 4], .tup [.bin .sub (.int 0) (.int 1), .int 2], .tup [.int 1, .bin .sub (.int 0) (.int 2)], .tup [.bl true, .int 1], .tup [.int 1, .bl true], .tup [.int 1000001, .int 1], .tup [.int 1, .int 1000001]]) [] x__law_prices_2,
   .for (.nm 4) (.lst [.tup [.int 0, .int 1], .tup [.int 1000000, .int 1], .tup [.int 1, .int 1000000]]) [] x__law_prices_4,
   .asg 5 (.bin .add (.blt .len [.var 1]) (.int 1)) false [],
   .for (.nm 6) (.lst [.non, .tup [], .lst [], .bin .mul (.lst [.tup [.int 0, .int 1]]) (.bin .sub (.var 5) (.int 1)), .bin .mul (.lst [.tup [.int 0, .int 1]]) (.bin .add (.var 5) (.int 1)), .bin .mul (.lst [.int 0]) (.var 5), .bin .mul (.lst [.tup [.int 0, .int 2]]) (.var 5), .bin .mul (.lst [.tup [.int 0, .int 0]]) (.var 5), .bin .mul (.lst [.tup [.bl true, .int 1]]) (.var 5), .bin .mul (.lst [.tup [.int 1, .int 1, .int 1]]) (.var 5), .bin .mul (.lst [.tup [.bin .add (.bin .pow (.int 10) (.int 40)) (.int 1), .int 1]]) (.var 5)]) [] x__law_prices_5,
   .asg 9 (.bin .mul (.lst [.tup [.bin .sub (.int 0) (.bin .pow (.int 10) (.int 40)), .int 1]]) (.var 5)) false [],
   .ret (.and (.isb false none (.call f_first_fault [.var 0, .var 1, .tup [.int 0, .int 1], .var 9])) (.isb false (some false) (.call f_shows [.var 0, .var 1, .tup [.int 0, .int 1], .var 9])))]⟩ -- kind series bad k good size rows caught e great
def b__law_call_k14 : Fn := ⟨3, 3, [
   .ife (.cmp .eq (.var 0) (.int 0)) [.ret (.call f_pieces_of [.var 1, .var 2])] [],
   .ife (.cmp .eq (.var 0) (.int 1)) [.ret (.call f_format_cut [.var 1, .var 2])] [],
   .ife (.cmp .eq (.var 0) (.int 2)) [.ret (.call f_moved [.var 1, .var 2])] [],
   .ife (.cmp .eq (.var 0) (.int 3)) [.ret (.call f_scaled [.var 1, .var 2])] [],
   .ife (.cmp .eq (.var 0) (.int 4)) [.ret (.call f_heavier [.var 1, .var 2])] [],
   .ife (.cmp .eq (.var 0) (.int 5)) [.ret (.call f_repeated [.var 1, .var 2])] [],
   .ife (.cmp .eq (.var 0) (.int 6)) [.ret (.call f_joined [.var 1, .var 2])] [],
   .ife (.cmp .eq (.var 0) (.int 7)) [.ret (.call f_stretches [.var 1])] [],
   .ife (.cmp .eq (.var 0) (.int 8)) [.ret (.call f_backward [.var 1])] [],
   .ife (.cmp .eq (.var 0) (.int 9)) [.ret (.call f_format_series [.var 1])] [],
   .ife (.cmp .eq (.var 0) (.int 10)) [.ret (.call f_best_cut [.str [115, 113, 117, 97, 114, 101, 115], .var 1, .int 2, .var 2])] [],
   .ife (.cmp .eq (.var 0) (.int 11)) [.ret (.mth f_Fitter_cost 1 [.var 2])] [],
   .ife (.cmp .eq (.var 0) (.int 12)) [.ret (.mth f_Fitter_undo 1 [])] [],
   .ife (.cmp .eq (.var 0) (.int 13)) [.ret (.mth f_Fitter_add 1 [.var 2, .int 1])] [],
   .ife (.cmp .eq (.var 0) (.int 14)) [.ret (.mth f_Fitter_add 1 [.int 1, .var 2])] [],
   .ife (.cmp .eq (.var 0) (.int 15)) [.ret (.mth f_Fitter_ahead 1 [.var 2, .int 1])] [],
   .ret (.ife (.cmp .eq (.var 0) (.int 16)) (.mth f_Fitter_ahead 1 [.int 1, .var 2]) (.fB f_Fitter_make (.var 1)))]⟩ -- kind one two
def b__law_asked_k14 : Fn := ⟨3, 5, [
   .asg 3 .non false [],
   .tryE [.exp (.call f__law_call_k14 [.var 0, .var 1, .var 2])] 0 4 [.asg 3 (.var 4) false []],
   .ret (.ife (.isb false none (.var 3)) (.str [100, 111, 110, 101]) (.call f__law_error [.var 3]))]⟩ -- kind one two caught e
def x__law_fitter_1 : E := .call f__law_asked_k14 [.int 17, .var 0, .int 0]
def x__law_fitter_2 : E := .call f__law_asked_k14 [.var 2, .var 1, .int 1]
def x__law_fitter_3 : List S := [.ife (.or (.cmp .ne (.call f__law_asked_k14 [.int 13, .var 1, .var 0]) (.str [115, 101, 114, 105, 101, 115])) (.or (.cmp .ne (.call f__law_asked_k14 [.int 14, .var 1, .var 0]) (.str [115, 101, 114, 105, 101, 115])) (.cmp .ne (.call f__law_asked_k14 [.int 14, .var 1, .int 0]) (.str [115, 101, 114, 105, 101, 115])))) [.ret (.bl false)] []]
def x__law_fitter_4 : List S := [.exp (.mth f_Fitter_add 1 [.bin .mod (.var 2) (.int 2), .int 1])]
def x__law_fitter_5 : E := .call f__law_asked_k14 [.var 2, .var 1, .var 0]
def x__law_fitter_6 : List S := [.ife (.cmp .ne (.lc x__law_fitter_5 (.nm 2) (.tup [.int 11, .int 15, .int 16]) (.bl true) [2]) (.bin .mul (.lst [.str [110, 117, 109, 98, 101, 114]]) (.int 3))) [.ret (.bl false)] []]
def b__law_fitter : Fn := ⟨0, 3, [
   .ife (.cmp .ne (.lc x__law_fitter_1 (.nm 0) (.tup [.non, .int 5, .str [115, 113, 117, 97, 114, 101], .lst [.str [115, 113, 117, 97, 114, 101, 115]]]) (.bl true) [0]) (.bin .mul (.lst [.str [107, 105, 110, 100]]) (.int 4))) [.ret (.bl false)] [],
   .newF f_Fitter_make 1 none (.str [115, 113, 117, 97, 114, 101, 115]) [.ife (.cmp .ne (.lc x__law_fitter_2 (.nm 2) (.tup [.int 11, .int 12, .int 15]) (.bl true) [2]) (.lst [.str [110, 111, 110, 101], .str [110, 111, 110, 101], .str [110, 117, 109, 98, 101, 114]])) [.ret (.bl false)] [],
   .for (.nm 0) (.lst [.non, .int 1000, .bin .sub (.int 0) (.int 1000), .bl true, .str [49]]) [] x__law_fitter_3,
   .for (.nm 2) (.rng (.int 0) (.int 14) (.int 1)) [] x__law_fitter_4,
   .ife (.or (.cmp .ne (.call f__law_asked_k14 [.int 13, .var 1, .int 0]) (.str [115, 101, 114, 105, 101, 115])) (.cmp .ne (.fLn f_Fitter_len 1) (.int 14))) [.ret (.bl false)] [],
   .for (.nm 0) (.lst [.non, .int 0, .int 15, .bl true, .str [49]]) [] x__law_fitter_6,
   .fEA f_Fitter_entries 1 (.tup [.int 9, .int 9]),
   .ret (.and (.cmp .eq (.call f__law_asked_k14 [.int 16, .var 1, .int 2]) (.str [110, 117, 109, 98, 101, 114])) (.and (.cmp .eq (.mth f_Fitter_ahead 1 [.int 14, .int 14]) (.tup [.int 0, .int 1])) (.cmp .eq (.blt .len [.mth f_Fitter_entries 1 []]) (.int 14))))]]⟩ -- bad shown k
def b__law_first : Fn := ⟨1, 1, [
   .ife (.or (.cmp .ne (.call f_best_levels [.str [97, 98, 115, 111, 108, 117, 116, 101], .lst [.tup [.int 0, .int 1], .tup [.int 4, .int 1]]]) (.tup [.tup [.int 0, .int 1], .tup [.int 4, .int 1]])) (.cmp .ne (.call f_cost_of_piece [.str [115, 113, 117, 97, 114, 101, 115], .var 0]) (.tup [.int 6, .int 1]))) [.ret (.bl false)] [],
   .ife (.or (.cmp .ne (.call f_fitted [.str [115, 113, 117, 97, 114, 101, 115], .var 0, .tup [.int 1]]) (.lst [.tup [.int 0, .int 1], .tup [.int 3, .int 2], .tup [.int 3, .int 2]])) (.cmp .ne (.call f_best_cut [.str [115, 113, 117, 97, 114, 101, 115], .var 0, .int 2, .int 0]) (.tup [.int 2]))) [.ret (.bl false)] [],
   .ret (.and (.cmp .eq (.call f_rank_of [.str [115, 113, 117, 97, 114, 101, 115], .var 0, .tup [.int 2]]) (.int 0)) (.and (.cmp .eq (.call f_sure_places [.str [115, 113, 117, 97, 114, 101, 115], .var 0, .int 3]) (.lst [.int 1, .int 2])) (.cmp .eq (.call f_stretches [.var 0]) (.int 2))))]⟩ -- series
def b__law_second : Fn := ⟨1, 1, [
   .ife (.or (.cmp .ne (.call f_least_costs [.str [115, 113, 117, 97, 114, 101, 115], .var 0]) (.lst [.tup [.int 6, .int 1], .tup [.int 0, .int 1], .tup [.int 0, .int 1]])) (.cmp .ne (.call f_numbers_for [.str [115, 113, 117, 97, 114, 101, 115], .var 0, .tup [.int 6, .int 1]]) (.tup [.int 1, .int 2]))) [.ret (.bl false)] [],
   .ife (.or (.cmp .ne (.call f_price_range [.str [115, 113, 117, 97, 114, 101, 115], .var 0, .int 2]) (.tup [.tup [.int 0, .int 1], .tup [.int 6, .int 1]])) (.cmp .ne (.call f_turning_prices [.str [115, 113, 117, 97, 114, 101, 115], .var 0]) (.lst [.tup [.int 0, .int 1], .tup [.int 6, .int 1]]))) [.ret (.bl false)] [],
   .ife (.or (.cmp .ne (.call f_potentials [.str [115, 113, 117, 97, 114, 101, 115], .var 0, .tup [.int 1, .int 1]]) (.lst [.tup [.int 0, .int 1], .tup [.int 1, .int 1], .tup [.int 1, .int 1], .tup [.int 2, .int 1]])) (.cmp .ne (.call f_best_bound [.str [115, 113, 117, 97, 114, 101, 115], .var 0, .int 2]) (.tup [.tup [.int 0, .int 1], .tup [.int 0, .int 1]]))) [.ret (.bl false)] [],
   .ret (.and (.cmp .eq (.call f_repeated [.lst [.tup [.int 1, .int 2]], .int 2]) (.lst [.tup [.int 1, .int 2], .tup [.int 1, .int 2]])) (.and (.cmp .eq (.call f_format_series [.lst [.tup [.int 0, .int 1], .tup [.bin .sub (.int 0) (.int 3), .int 2]]]) (.str [48, 32, 45, 51, 42, 50])) (.cmp .eq (.call f_format_cut [.var 0, .tup [.int 2]]) (.str [48, 32, 48, 32, 124, 32, 51]))))]⟩ -- series
def b_Fitter_init : Fn := ⟨1, 1, [.exp (.call f_check_kind [.var 0])]⟩
def b_Fitter_make : Fn := ⟨1, 1, [.exp (.call f_Fitter_init [.var 0])]⟩
def b_Fitter_len : Fn := ⟨1, 1, [.ret (.call f_Fitter___len__ [.var 0])]⟩
def T0 : Nat → Option Fn := fun f => [none, none, some b_is_int, some b_check_kind, some b_is_entry, some b_is_series, some b_check_series, some b_is_cut, some b_common, some b_lowest, some b_plus, some b_weight_of, some b_mean, some b_medians, some b_levels, some b_piece_cost, some b_best_levels, some b_cost_of_piece, some b_parts, some b_cut_cost, some b_check_cut, some b_cost, some b__law_pick, some b__law_series, some b__law_kind, some b__law_low, some b__law_add, some b__law_scale, some b__law_below, some b__law_piece, some b__law_at, some b_fitted, some b_pieces_of, some b_check_pieces, some b_less, some b_smallest, some b_piece_costs, some b_rows_of, some b_borders, some b_follows, some b_counts_of, some b_check_all, some b_least_cost, some b_count_best, some b_is_best, some b_stretches, some b_fewest_exact, some b_all_costs, some b_least_costs, some b__law_true, some b__law_least, some b__law_costs, some b__law_cuts, some b__law_sum_of, some b_cut_with, some b_best_cut, some b_rank_of, some b_places_with, some b_sure_places, some b_possible_places, some b_count_at, some b_times, some b_minus, some b_over, some b_is_price, some b_check_price, some b_totals, some b_least_total, some b_numbers_for, some b_bounds, some b_turning_prices, some b_ordered, some b__law_price, some b_price_range, some b_hull_numbers, some b_potential_row, some b_potentials, some b_is_number, some b_fits, some b_shows, some b_first_fault, some b_bound_at, some b_best_bound, some b_checked, some b_moved, some b_scaled, some b_backward, some b_heavier, some b_repeated, some b_joined, some b__law_error, some b_parse_number, some b_format_series, some b_parse_entry, some b_parse_series, some b_format_cut, some b_format_fraction, some b__law_written, some b__law_parsed, some b__law_fraction, some b__law_rejected, some b__law_plain, some b__law_three, some b__law_prices, some b__law_fitter, none, some b__law_first, some b__law_second, some b__law_call_k11, some b__law_call_k14, some b__law_asked_k13, some b__law_asked_k14, some b_Fitter_add, some b_Fitter_cost, some b_Fitter_ahead, some b_Fitter_entries, some b_Fitter_undo, some b_Fitter___len__, some b_Fitter_init, some b_Fitter_make, some b_Fitter_len][f]?.join
end SF

namespace SF
/-! ### evaluation by rules; loops stay closed -/
section
variable (call : Nat → List D → W → R D)
def stepL (elt : E) (tg : Tg) (cond : E) (ρ : Env) (d : D) (w : W) : R (Option D) :=
  match bindTg tg d ρ with
  | some ρ' => (calm (ev call cond ρ' w)).bind fun c w => match c with
    | .bl true => (calm (ev call elt ρ' w)).bind fun y w => .ok (some y) w
    | .bl false => .ok none w
    | _ => .bad
  | none => .bad
def lcX (elt : E) (tg : Tg) (cond : E) (ρ : Env) (xs : List D) (w : W) : R (List D) := lcRun (stepL call elt tg cond ρ) xs w
def stepF (tg : Tg) (body : List S) (d : D) (ρ : Env) (w : W) : R Fl :=
  match bindTg tg d ρ with
  | some ρ' => exs call body ρ' w
  | none => .bad
def forX (tg : Tg) (body : List S) (xs : List D) (ρ : Env) (w : W) : R Fl := forRun (stepF call tg body) xs ρ w
def whlX (c : E) (body : List S) (n : Nat) (ρ : Env) (w : W) : R Fl := whlRun (fun ρ w => ev call c ρ w) (fun ρ w => exs call body ρ w) n ρ w
end
section
variable {call : Nat → List D → W → R D} {ρ : Env} {w : W}
@[simp] theorem ev_var (i : Nat) : ev call (.var i) ρ w = opt (getS ρ i) w := by rw [ev]
@[simp] theorem ev_int (i : Int) : ev call (.int i) ρ w = .ok (.int i) w := by rw [ev]
@[simp] theorem ev_str (i : List Nat) : ev call (.str i) ρ w = .ok (.str i) w := by rw [ev]
@[simp] theorem ev_bl (i : Bool) : ev call (.bl i) ρ w = .ok (.bl i) w := by rw [ev]
@[simp] theorem ev_non : ev call .non ρ w = .ok .non w := by rw [ev]
def biO (op : Op) (y : D) (x : R D) : R D := x.bind fun x w => opt (binD op x y) w
@[simp] theorem ev_bin (op : Op) (a b : E) : ev call (.bin op a b) ρ w = (ev call a ρ w).bind fun x w => (ev call b ρ w).bind fun y w => opt (binD op x y) w := by rw [ev]
def negD : D → W → R D
  | .int i, w => .ok (.int (-i)) w
  | _, _ => .bad
@[simp] theorem negD_int (i : Int) : negD (.int i) w = .ok (.int (-i)) w := rfl
@[simp] theorem ev_neg (a : E) : ev call (.neg a) ρ w = (ev call a ρ w).bind negD := by
  rw [ev]; congr; funext x w; cases x <;> rfl
def notD : D → W → R D
  | .bl i, w => .ok (.bl (!i)) w
  | _, _ => .bad
@[simp] theorem notD_bl (i : Bool) : notD (.bl i) w = .ok (.bl (!i)) w := rfl
@[simp] theorem ev_not (a : E) : ev call (.not a) ρ w = (ev call a ρ w).bind notD := by
  rw [ev]; congr; funext x w; cases x <;> rfl
/-- by a truth: two ways -/
def tst {α : Type} (x : R D) (a b : W → R α) : R α := x.bind fun x w => match x with
  | .bl true => a w
  | .bl false => b w
  | _ => .bad
@[simp] theorem tst_ok {α : Type} (c : Bool) (a b : W → R α) : tst (.ok (.bl c) w) a b = if c = true then a w else b w := by cases c <;> rfl
@[simp] theorem tst_exc {α : Type} (c : Nat) (a b : W → R α) : tst (.exc c w) a b = .exc c w := rfl
@[simp] theorem ev_and (a b : E) : ev call (.and a b) ρ w = tst (ev call a ρ w) (fun w => ev call b ρ w) (fun w => .ok (.bl false) w) := by
  rw [ev]; rfl
@[simp] theorem ev_or (a b : E) : ev call (.or a b) ρ w = tst (ev call a ρ w) (fun w => .ok (.bl true) w) (fun w => ev call b ρ w) := by
  rw [ev]; rfl
@[simp] theorem ev_ife (c a b : E) : ev call (.ife c a b) ρ w = tst (ev call c ρ w) (fun w => ev call a ρ w) (fun w => ev call b ρ w) := by
  rw [ev]; rfl
def cmD (op : Cm) (x y : D) (w : W) : R D := opt ((cmpD op x y).map .bl) w
@[simp] theorem ev_cmp (op : Cm) (a b : E) : ev call (.cmp op a b) ρ w = (ev call a ρ w).bind fun x w => (ev call b ρ w).bind fun y w => cmD op x y w := by rw [ev]; rfl
@[simp] theorem ev_chn (o1 o2 : Cm) (a b c : E) : ev call (.chn o1 o2 a b c) ρ w = (ev call a ρ w).bind fun x w => (ev call b ρ w).bind fun y w => tst (cmD o1 x y w) (fun w => (ev call c ρ w).bind fun z w => cmD o2 y z w) (fun w => .ok (.bl false) w) := by
  rw [ev]
  congr; funext x w; congr; funext y w
  unfold tst cmD
  cases cmpD o1 x y with
  | none => rfl
  | some b => cases b <;> rfl
@[simp] theorem ev_isb (ng : Bool) (b : Option Bool) (a : E) : ev call (.isb ng b a) ρ w = (ev call a ρ w).bind fun x w => opt ((isbD b x).map fun r => .bl (ng != r)) w := by rw [ev]
@[simp] theorem ev_tup (es : List E) : ev call (.tup es) ρ w = (evs call es ρ w).bind fun xs w => .ok (.tup xs) w := by rw [ev]
@[simp] theorem ev_lst (es : List E) : ev call (.lst es) ρ w = (evs call es ρ w).bind fun xs w => .ok (.lst xs) w := by rw [ev]
@[simp] theorem ev_call (f : Nat) (es : List E) : ev call (.call f es) ρ w = (evs call es ρ w).bind fun xs w => call f xs w := by rw [ev]
@[simp] theorem ev_blt (f : Bl) (es : List E) : ev call (.blt f es) ρ w = (evs call es ρ w).bind fun xs w => opt (bltD f xs) w := by rw [ev]
@[simp] theorem evs_nil : evs call [] ρ w = .ok [] w := by rw [evs]
@[simp] theorem evs_cons (e : E) (es : List E) : evs call (e :: es) ρ w = (ev call e ρ w).bind fun x w => (evs call es ρ w).bind fun xs w => .ok (x :: xs) w := by rw [evs]
def rngD (x y z : D) (w : W) : R D := match x, y, z with
  | .int i, .int j, .int k => opt ((rangeL i j k).map .lst) w
  | _, _, _ => .bad
@[simp] theorem rngD_int (i j k : Int) : rngD (.int i) (.int j) (.int k) w = opt ((rangeL i j k).map .lst) w := rfl
@[simp] theorem ev_rng (a b c : E) : ev call (.rng a b c) ρ w = (ev call a ρ w).bind fun x w => (ev call b ρ w).bind fun y w => (ev call c ρ w).bind fun z w => rngD x y z w := by
  rw [ev]; rfl
def enmD (x : D) (w : W) : R D := match x with
  | .lst xs => .ok (.lst (enumL 0 xs)) w
  | _ => .bad
@[simp] theorem enmD_lst (xs : List D) : enmD (.lst xs) w = .ok (.lst (enumL 0 xs)) w := rfl
@[simp] theorem ev_enm (a : E) : ev call (.enm a) ρ w = (ev call a ρ w).bind enmD := by rw [ev]; rfl
@[simp] theorem ev_idx (a i : E) : ev call (.idx a i) ρ w = (ev call a ρ w).bind fun x w => (ev call i ρ w).bind fun y w => opt (idxD x y) w := by rw [ev]
@[simp] theorem ev_slc (a l h : E) : ev call (.slc a l h) ρ w = (ev call a ρ w).bind fun x w => (partR l (ev call l ρ w)).bind fun l w => (partR h (ev call h ρ w)).bind fun h w => opt (slcO x l h) w := by rw [ev]
def lcD (call : Nat → List D → W → R D) (elt : E) (tg : Tg) (cond : E) (ρ : Env) (x : D) (w : W) : R D := match itemsD x with
  | some xs => if xs.length ≤ LIM then (lcX call elt tg cond ρ xs w).bind fun ys w => .ok (.lst ys) w else .bad
  | none => .bad
@[simp] theorem ev_lc (elt : E) (tg : Tg) (it cond : E) (own : List Nat) : ev call (.lc elt tg it cond own) ρ w = (ev call it ρ w).bind fun x w => lcD call elt tg cond (wipe ρ own) x w := by
  rw [ev]; rfl
@[simp] theorem ev_isi (a : E) (t : Ty) : ev call (.isi a t) ρ w = (ev call a ρ w).bind fun x w => opt ((isiD x t).map .bl) w := by rw [ev]
def inKD (ng : Bool) (ks : List (List Nat)) (x : D) (w : W) : R D := match x with
  | .str s => .ok (.bl (ng != decide (s ∈ ks))) w
  | _ => .bad
@[simp] theorem inKD_str (ng : Bool) (ks : List (List Nat)) (s : List Nat) : inKD ng ks (.str s) w = .ok (.bl (ng != decide (s ∈ ks))) w := rfl
@[simp] theorem ev_inK (ng : Bool) (a : E) (ks : List (List Nat)) : ev call (.inK ng a ks) ρ w = (ev call a ρ w).bind (inKD ng ks) := by rw [ev]; rfl
/-! statements -/
@[simp] theorem exs_nil : exs call [] ρ w = .ok (.nx ρ) w := by rw [exs]
@[simp] theorem exs_cons (s : S) (ss : List S) : exs call (s :: ss) ρ w = (ex call s ρ w).sq fun ρ w => exs call ss ρ w := by rw [exs]
def asgD (i : Nat) (own : Bool) (hd : List Nat) (ρ : Env) (d : D) (w : W) : R Fl :=
  if own then (if ownable d then .ok (.nx (ρ.set i (.ow d))) w else .bad) else .ok (.nx ((thaw d hd ρ).set i (.sh d))) w
@[simp] theorem asgD_no (i : Nat) (hd : List Nat) (d : D) : asgD i false hd ρ d w = .ok (.nx ((thaw d hd ρ).set i (.sh d))) w := rfl
theorem asgD_ow (i : Nat) (hd : List Nat) (d : D) (h : ownable d = true) : asgD i true hd ρ d w = .ok (.nx (ρ.set i (.ow d))) w := by simp [asgD, h]
@[simp] theorem asgD_nil (i : Nat) (hd : List Nat) : asgD i true hd ρ (.lst []) w = .ok (.nx (ρ.set i (.ow (.lst [])))) w := rfl
@[simp] theorem asgD_nilT (i : Nat) (hd : List Nat) : asgD i true hd ρ (.dT []) w = .ok (.nx (ρ.set i (.ow (.dT [])))) w := rfl
@[simp] theorem asgD_nilK (i : Nat) (hd : List Nat) : asgD i true hd ρ (.dK []) w = .ok (.nx (ρ.set i (.ow (.dK [])))) w := rfl
@[simp] theorem ex_asg (i : Nat) (e : E) (own : Bool) (hd : List Nat) : ex call (.asg i e own hd) ρ w = (ev call e (hide ρ hd) w).st ρ fun d w => asgD i own hd ρ d w := by rw [ex]; rfl
def asgTD (is : List Nat) (hd : List Nat) (ρ : Env) (d : D) (w : W) : R Fl := match d with
  | .tup ds => opt ((binds is ds (thaw d hd ρ)).map .nx) w
  | .lst ds => opt ((binds is ds (thaw d hd ρ)).map .nx) w
  | _ => .bad
@[simp] theorem asgTD_tup (is : List Nat) (hd : List Nat) (ds : List D) : asgTD is hd ρ (.tup ds) w = opt ((binds is ds (thaw (.tup ds) hd ρ)).map .nx) w := rfl
@[simp] theorem asgTD_lst (is : List Nat) (hd : List Nat) (ds : List D) : asgTD is hd ρ (.lst ds) w = opt ((binds is ds (thaw (.lst ds) hd ρ)).map .nx) w := rfl
@[simp] theorem ex_asgT (is : List Nat) (e : E) (hd : List Nat) : ex call (.asgT is e hd) ρ w = (ev call e (hide ρ hd) w).st ρ fun d w => asgTD is hd ρ d w := by rw [ex]; rfl
@[simp] theorem ex_par (i j : Nat) (a b : E) (hd : List Nat) : ex call (.par i j a b hd) ρ w = (ev call a (hide ρ hd) w).st ρ fun x w => (ev call b (hide ρ hd) w).st ρ fun y w => .ok (.nx (((thaw (.tup [x, y]) hd ρ).set i (.sh x)).set j (.sh y))) w := by rw [ex]
def augS (i : Nat) (op : Op) (o : Option D) (ρ : Env) (r : R D) : R Fl := match o with
  | some x => r.st ρ fun y w => (opt (augD op x y) w).st ρ fun z w => if flat z then .ok (.nx (ρ.set i (.sh z))) w else .bad
  | none => .bad
@[simp] theorem augS_add (i : Nat) (a b : Int) : augS i .add (some (.int a)) ρ (.ok (.int b) w) = .ok (.nx (ρ.set i (.sh (.int (a + b))))) w := rfl
@[simp] theorem augS_sub (i : Nat) (a b : Int) : augS i .sub (some (.int a)) ρ (.ok (.int b) w) = .ok (.nx (ρ.set i (.sh (.int (a - b))))) w := rfl
@[simp] theorem ex_aug (i : Nat) (op : Op) (e : E) : ex call (.aug i op e) ρ w = augS i op (getS ρ i) ρ (ev call e ρ w) := by rw [ex]; rfl
def appS (i : Nat) (o : Option (List D)) (ρ : Env) (r : R D) : R Fl := match o with
  | some xs => r.st ρ fun y w => if flat y && decide (xs.length < LIM) then .ok (.nx (ρ.set i (.ow (.lst (xs ++ [y]))))) w else .bad
  | none => .bad
theorem appS_ok (i : Nat) (xs : List D) (y : D) (h1 : flat y = true) (h2 : xs.length < LIM) : appS i (some xs) ρ (.ok y w) = .ok (.nx (ρ.set i (.ow (.lst (xs ++ [y]))))) w := by
  simp [appS, h1, h2]
@[simp] theorem ex_app (i : Nat) (e : E) : ex call (.app i e) ρ w = appS i (ownList ρ i) ρ (ev call e ρ w) := by
  rw [ex]; unfold appS; cases ownList ρ i <;> rfl
@[simp] theorem ex_exp (e : E) : ex call (.exp e) ρ w = (ev call e ρ w).st ρ fun _ w => .ok (.nx ρ) w := by rw [ex]
def tstS (x : R D) (ρ : Env) (a b : W → R Fl) : R Fl := x.st ρ fun x w => match x with
  | .bl true => a w
  | .bl false => b w
  | _ => .bad
@[simp] theorem tstS_ok (c : Bool) (a b : W → R Fl) : tstS (.ok (.bl c) w) ρ a b = if c = true then a w else b w := by cases c <;> rfl
@[simp] theorem tstS_exc (c : Nat) (a b : W → R Fl) : tstS (.exc c w) ρ a b = .ok (.xc c ρ) w := rfl
@[simp] theorem ex_ife (c : E) (a b : List S) : ex call (.ife c a b) ρ w = tstS (ev call c ρ w) ρ (fun w => exs call a ρ w) (fun w => exs call b ρ w) := by rw [ex]; rfl
def forD (call : Nat → List D → W → R D) (tg : Tg) (body : List S) (hd : List Nat) (ρ : Env) (x : D) (w : W) : R Fl := match itemsD x with
  | some xs => forX call tg body xs (freezeAt hd 0 ρ) w
  | none => .bad
@[simp] theorem forD_lst (tg : Tg) (body : List S) (hd : List Nat) (xs : List D) : forD call tg body hd ρ (.lst xs) w = forX call tg body xs (freezeAt hd 0 ρ) w := rfl
@[simp] theorem forD_tup (tg : Tg) (body : List S) (hd : List Nat) (xs : List D) : forD call tg body hd ρ (.tup xs) w = forX call tg body xs (freezeAt hd 0 ρ) w := rfl
@[simp] theorem ex_for (tg : Tg) (it : E) (hd : List Nat) (body : List S) : ex call (.for tg it hd body) ρ w = (ev call it (hide ρ hd) w).st ρ fun x w => forD call tg body hd ρ x w := by rw [ex]; rfl
@[simp] theorem ex_whl (c : E) (body : List S) : ex call (.whl c body) ρ w = whlX call c body (szE ρ) ρ w := by rw [ex]; rfl
@[simp] theorem ex_ret (e : E) : ex call (.ret e) ρ w = (ev call e ρ w).st ρ fun d w => .ok (.rt d) w := by rw [ex]
@[simp] theorem ex_retN : ex call .retN ρ w = .ok (.rt .non) w := by rw [ex]
@[simp] theorem ex_raise (c : Nat) : ex call (.raise c) ρ w = .ok (.xc c ρ) w := by rw [ex]
theorem whlX_succ (c : E) (body : List S) (n : Nat) : whlX call c body (n + 1) ρ w = tstS (ev call c ρ w) ρ (fun w => (exs call body ρ w).sq fun ρ w => whlX call c body n ρ w) (fun w => .ok (.nx ρ) w) := by
  unfold whlX
  rw [whlRun]
  rfl
@[simp] theorem forX_nil (tg : Tg) (body : List S) : forX call tg body [] ρ w = .ok (.nx ρ) w := rfl
theorem forX_cons (tg : Tg) (body : List S) (x : D) (xs : List D) : forX call tg body (x :: xs) ρ w = (stepF call tg body x ρ w).sq fun ρ w => forX call tg body xs ρ w := rfl
/-! slots -/
@[simp] theorem getS_cons0 (s : Slot) (ρ : List Slot) : getS (s :: ρ) 0 = s.get := by simp [getS]
@[simp] theorem getS_1 (s t : Slot) (ρ : List Slot) : getS (s :: t :: ρ) 1 = t.get := by simp [getS]
@[simp] theorem getS_succ (s : Slot) (ρ : List Slot) (i : Nat) : getS (s :: ρ) (i + 1) = getS ρ i := by simp [getS]
@[simp] theorem sget_sh (d : D) : (Slot.sh d).get = some d := rfl
@[simp] theorem sget_ow (d : D) : (Slot.ow d).get = some d := rfl
@[simp] theorem hide_nil : hide ρ [] = ρ := rfl
@[simp] theorem hide_cons (v : Nat) (vs : List Nat) : hide ρ (v :: vs) = (hide ρ vs).set v .no := rfl
@[simp] theorem wipe_nil : wipe ρ [] = ρ := rfl
@[simp] theorem wipe_cons (v : Nat) (vs : List Nat) : wipe ρ (v :: vs) = (wipe ρ vs).set v .no := rfl
@[simp] theorem fz_nil (hd : List Nat) (i : Nat) : freezeAt hd i [] = [] := rfl
@[simp] theorem fz_ow (hd : List Nat) (i : Nat) (d : D) (r : Env) : freezeAt hd i (.ow d :: r) = (if i ∈ hd then .ow d else .sh d) :: freezeAt hd (i + 1) r := rfl
@[simp] theorem fz_sh (hd : List Nat) (i : Nat) (d : D) (r : Env) : freezeAt hd i (.sh d :: r) = .sh d :: freezeAt hd (i + 1) r := rfl
@[simp] theorem fz_no (hd : List Nat) (i : Nat) (r : Env) : freezeAt hd i (.no :: r) = .no :: freezeAt hd (i + 1) r := rfl
@[simp] theorem thaw_eq (d : D) (hd : List Nat) : thaw d hd ρ = if flat d = true then ρ else freezeAt hd 0 ρ := rfl
@[simp] theorem binds_nil : binds [] [] ρ = some ρ := rfl
@[simp] theorem binds_cons (i : Nat) (is : List Nat) (d : D) (ds : List D) : binds (i :: is) (d :: ds) ρ = binds is ds (ρ.set i (.sh d)) := rfl
@[simp] theorem bindTg_nm (i : Nat) (d : D) : bindTg (.nm i) d ρ = some (ρ.set i (.sh d)) := rfl
@[simp] theorem bindTg_tp (is : List Nat) (ds : List D) : bindTg (.tp is) (.tup ds) ρ = binds is ds ρ := rfl
end
/-- a slot that owns nothing -/
def os : Option D → Slot
  | none => .no
  | some d => .sh d
@[simp] theorem os_none : os none = .no := rfl
@[simp] theorem os_some (d : D) : os (some d) = .sh d := rfl
@[simp] theorem fz_os (hd : List Nat) (i : Nat) (o : Option D) (r : Env) : freezeAt hd i (os o :: r) = os o :: freezeAt hd (i + 1) r := by cases o <;> rfl
/-! data -/
section
variable {w : W}
@[simp] theorem bin_add (a b : Int) : binD .add (.int a) (.int b) = some (.int (a + b)) := rfl
@[simp] theorem bin_sub (a b : Int) : binD .sub (.int a) (.int b) = some (.int (a - b)) := rfl
theorem bin_mul {a b : Int} (ha : a.natAbs < BIG) (hb : b.natAbs < BIG) : binD .mul (.int a) (.int b) = some (.int (a * b)) := by
  show (if a.natAbs < BIG ∧ b.natAbs < BIG then some (D.int (a * b)) else none) = _
  rw [if_pos ⟨ha, hb⟩]
theorem bin_div {a b : Int} (hb : 0 < b) (hb2 : b.natAbs < BIG) : binD .div (.int a) (.int b) = some (.int (a / b)) := by
  show (if 0 < b ∧ b.natAbs < BIG then some (D.int (a / b)) else none) = _
  rw [if_pos ⟨hb, hb2⟩]
theorem bin_mod {a b : Int} (hb : 0 < b) : binD .mod (.int a) (.int b) = some (.int (a % b)) := by
  show (if 0 < b then some (D.int (a % b)) else none) = _
  rw [if_pos hb]
@[simp] theorem cm_eq (a b : Int) : cmD .eq (.int a) (.int b) w = .ok (.bl (decide (a = b))) w := by simp [cmD, cmpD, plainAt, eqD]; rfl
@[simp] theorem cm_ne (a b : Int) : cmD .ne (.int a) (.int b) w = .ok (.bl (!decide (a = b))) w := by simp [cmD, cmpD, plainAt, eqD]; rfl
@[simp] theorem cm_lt (a b : Int) : cmD .lt (.int a) (.int b) w = .ok (.bl (decide (a < b))) w := rfl
@[simp] theorem cm_le (a b : Int) : cmD .le (.int a) (.int b) w = .ok (.bl (decide (a ≤ b))) w := rfl
@[simp] theorem cm_gt (a b : Int) : cmD .gt (.int a) (.int b) w = .ok (.bl (decide (b < a))) w := rfl
@[simp] theorem cm_ge (a b : Int) : cmD .ge (.int a) (.int b) w = .ok (.bl (decide (b ≤ a))) w := rfl
@[simp] theorem blt_abs (i : Int) : bltD .abs [.int i] = some (.int (i.natAbs : Int)) := by
  show some (D.int (if i < 0 then -i else i)) = _
  congr 2
  omega
@[simp] theorem flat_int (i : Int) : flat (.int i) = true := rfl
@[simp] theorem flat_bl (i : Bool) : flat (.bl i) = true := rfl
@[simp] theorem flat_str (i : List Nat) : flat (.str i) = true := rfl
@[simp] theorem flat_non : flat .non = true := rfl
@[simp] theorem flat_dr : flat .dr = true := rfl
@[simp] theorem flat_lst (i : List D) : flat (.lst i) = false := rfl
@[simp] theorem flat_dT (i : List (List Int × D)) : flat (.dT i) = false := rfl
@[simp] theorem flat_dK (i : List (Int × D)) : flat (.dK i) = false := rfl
@[simp] theorem flat_tup (i : List D) : flat (.tup i) = flats i := rfl
@[simp] theorem flats_nil : flats [] = true := rfl
@[simp] theorem flats_cons (x : D) (xs : List D) : flats (x :: xs) = (flat x && flats xs) := rfl
end
/-! calls -/
theorem run_fn {T : Nat → Option Fn} {n f : Nat} {fn : Fn} {args : List D} {w : W} (h1 : (f == fDraw) = false) (h2 : T f = some fn) (h3 : (args.length == fn.np) = true) :
    run T (n + 1) f args w = fin (exs (run T n) fn.body (mkEnv args fn.ns) w) := by
  have h1' : f ≠ fDraw := by simpa using h1
  have h3' : args.length = fn.np := by simpa using h3
  simp only [run, if_neg h1', h2, if_pos h3']
theorem run_draw {T : Nat → Option Fn} {n : Nat} {l : Int} {w : W} : run T (n + 1) fDraw [.dr, .int l] w = drawW l w := by
  simp only [run, if_pos]
end SF

namespace SF
/-! ### lists -/
@[simp] theorem ints_int (xs : List Int) : «ints» (xs.map D.int) = some xs := by
  induction xs with
  | nil => rfl
  | cons x xs ih => simp [«ints», intOf, ih]
@[simp] theorem intsMap {α : Type} (f : α → Int) (xs : List α) : «ints» (xs.map fun x => D.int (f x)) = some (xs.map f) := by
  induction xs with
  | nil => rfl
  | cons x xs ih => simp [«ints», intOf, ih]
@[simp] theorem boolsMap {α : Type} (f : α → Bool) (xs : List α) : bools (xs.map fun x => D.bl (f x)) = some (xs.map f) := by
  induction xs with
  | nil => rfl
  | cons x xs ih => simp [bools, boolOf, ih]
section
variable {call : Nat → List D → W → R D} {ρ : Env} {w : W}
theorem lc_map {α : Type} {elt : E} {tg : Tg} {enc : α → D} (f : α → D) : ∀ {xs : List α}, (∀ x ∈ xs, stepL call elt tg (.bl true) ρ (enc x) w = .ok (some (f x)) w) → lcX call elt tg (.bl true) ρ (xs.map enc) w = .ok (xs.map f) w
  | [], _ => rfl
  | x :: xs, h => by
    unfold lcX
    rw [List.map_cons, lcRun, h x List.mem_cons_self]
    simp only []
    have ih := lc_map (xs := xs) f fun y hy => h y (List.mem_cons_of_mem _ hy)
    unfold lcX at ih
    rw [ih]
    rfl
theorem lcD_map {α : Type} {elt : E} {tg : Tg} {enc : α → D} (f : α → D) {xs : List α} (hl : xs.length ≤ LIM) (h : ∀ x ∈ xs, stepL call elt tg (.bl true) ρ (enc x) w = .ok (some (f x)) w) : lcD call elt tg (.bl true) ρ (.lst (xs.map enc)) w = .ok (.lst (xs.map f)) w := by
  unfold lcD
  simp only [itemsD]
  rw [if_pos (by simpa using hl), lc_map f h]
  rfl
theorem lcD_mapT {α : Type} {elt : E} {tg : Tg} {enc : α → D} (f : α → D) {xs : List α} (hl : xs.length ≤ LIM) (h : ∀ x ∈ xs, stepL call elt tg (.bl true) ρ (enc x) w = .ok (some (f x)) w) : lcD call elt tg (.bl true) ρ (.tup (xs.map enc)) w = .ok (.lst (xs.map f)) w := by
  unfold lcD
  simp only [itemsD]
  rw [if_pos (by simpa using hl), lc_map f h]
  rfl
/-- a loop with an invariant over what is done -/
theorem for_enc {α : Type} {tg : Tg} {body : List S} {enc : α → D} (I : List α → Env → W → Prop) : ∀ (xs pre : List α) {ρ : Env} {w : W}, I pre ρ w →
    (∀ pr x ρ w, pr ++ [x] <+: pre ++ xs → I pr ρ w → ∃ ρ' w', stepF call tg body (enc x) ρ w = .ok (.nx ρ') w' ∧ I (pr ++ [x]) ρ' w') →
    ∃ ρ' w', forX call tg body (xs.map enc) ρ w = .ok (.nx ρ') w' ∧ I (pre ++ xs) ρ' w'
  | [], pre, ρ, w, h0, _ => ⟨ρ, w, rfl, by simpa using h0⟩
  | x :: xs, pre, ρ, w, h0, hs => by
    obtain ⟨ρ1, w1, e1, h1⟩ := hs pre x ρ w ⟨xs, by simp⟩ h0
    obtain ⟨ρ2, w2, e2, h2⟩ := for_enc I xs (pre ++ [x]) h1 (fun pr y ρ w hp hi => hs pr y ρ w (by simpa using hp) hi)
    refine ⟨ρ2, w2, ?_, by simpa using h2⟩
    unfold forX at e2 ⊢
    rw [List.map_cons, forRun, e1, sq_nx]
    exact e2
end
/-! ### common -/
theorem whl_gcd {call : Nat → List D → W → R D} {w : W} : ∀ (n : Nat) (a b : Nat), b < n → whlX call (.cmp .ne (.var 1) (.int 0)) [.par 0 1 (.var 1) (.bin .mod (.var 0) (.var 1)) []] n [.sh (.int a), .sh (.int b)] w = .ok (.nx [.sh (.int (Nat.gcd a b)), .sh (.int 0)]) w
  | 0, _, _, h => by omega
  | n + 1, a, b, h => by
    rw [whlX_succ]
    by_cases hb : b = 0
    · subst hb
      simp
    · have hb2 : 0 < b := Nat.pos_of_ne_zero hb
      have ih := whl_gcd (call := call) (w := w) n b (a % b) (by have := Nat.mod_lt a hb2; omega)
      have e : ((a : Int) % (b : Int)) = ((a % b : Nat) : Int) := rfl
      have hz : ¬ ((b : Int) = 0) := by omega
      simp [hz, hb, bin_mod (show (0 : Int) < b by omega), -Int.natCast_emod]
      rw [e, ih]
      rw [Nat.gcd_comm a b, Nat.gcd_rec b a, Nat.gcd_comm]
theorem r_common (n : Nat) (a b : Int) (w : W) : run T0 (n + 1) f_common [.int a, .int b] w = .ok (.int (Int.gcd a b)) w := by
  rw [run_fn (fn := b_common) rfl rfl rfl]
  have h := whl_gcd (call := run T0 n) (w := w) (szE [.sh (.int a.natAbs), .sh (.int b.natAbs)]) a.natAbs b.natAbs (by simp [szE, szD]; omega)
  simp [b_common, mkEnv, h, Int.gcd]
/-! ### fractions -/
def enQ (q : Rat) : D := .tup [.int q.num, .int q.den]
theorem r_lowest (n : Nat) (a b : Int) (hb : 0 < b) (h2 : b.natAbs < BIG) (w : W) : run T0 (n + 2) f_lowest [.int a, .int b] w = .ok (enQ (Rat.divInt a b)) w := by
  rw [run_fn (fn := b_lowest) rfl rfl rfl]
  have g0 : 0 < Int.gcd a b := Int.gcd_pos_of_ne_zero_right _ (by omega)
  have g1 : (0 : Int) < (Int.gcd a b : Int) := by omega
  have g2 : ((Int.gcd a b : Int)).natAbs < BIG := by
    have : Int.gcd a b ≤ b.natAbs := Int.gcd_le_natAbs_right _ (by omega)
    have : ((Int.gcd a b : Int)).natAbs = Int.gcd a b := rfl
    omega
  have e1 : (Rat.divInt a b).num = a / (Int.gcd a b : Int) := by
    rw [Rat.num_divInt, Int.gcd_comm, Int.sign_eq_one_of_pos hb, Int.one_mul]
  have e2 : ((Rat.divInt a b).den : Int) = b / (Int.gcd a b : Int) := by
    rw [Rat.den_divInt, if_neg (by omega), Int.gcd_comm, Int.natCast_ediv]
    congr 1
    omega
  simp [b_lowest, mkEnv, r_common, bin_div g1 g2, enQ, e1, e2]
/-! ### sizes -/
def Sm (k : Nat) (q : Rat) : Prop := q.num.natAbs < 2 ^ k ∧ q.den < 2 ^ k
def Si (k : Nat) (i : Int) : Prop := i.natAbs < 2 ^ k
theorem Si.mono {j k : Nat} {i : Int} (h : Si j i) (l : j ≤ k) : Si k i := Nat.lt_of_lt_of_le h (Nat.pow_le_pow_right (by decide) l)
theorem Sm.mono {j k : Nat} {i : Rat} (h : Sm j i) (l : j ≤ k) : Sm k i := ⟨Nat.lt_of_lt_of_le h.1 (Nat.pow_le_pow_right (by decide) l), Nat.lt_of_lt_of_le h.2 (Nat.pow_le_pow_right (by decide) l)⟩
theorem Si.big {k : Nat} {i : Int} (h : Si k i) (l : k ≤ 4000) : i.natAbs < BIG := Nat.lt_of_lt_of_le h (Nat.pow_le_pow_right (by decide) l)
theorem Si.mul {j k : Nat} {a b : Int} (ha : Si j a) (hb : Si k b) : Si (j + k) (a * b) := by
  unfold Si at *
  rw [Int.natAbs_mul, Nat.pow_add]
  exact Nat.mul_lt_mul'' ha hb
theorem Si.add {j k : Nat} {a b : Int} (ha : Si j a) (hb : Si k b) : Si (max j k + 1) (a + b) := by
  unfold Si at *
  have h1 : 2 ^ j ≤ 2 ^ max j k := Nat.pow_le_pow_right (by decide) (Nat.le_max_left j k)
  have h2 : 2 ^ k ≤ 2 ^ max j k := Nat.pow_le_pow_right (by decide) (Nat.le_max_right j k)
  rw [Nat.pow_succ]
  omega
theorem Si.neg {k : Nat} {a : Int} (ha : Si k a) : Si k (-a) := by
  unfold Si at *
  rwa [Int.natAbs_neg]
theorem Si.sub {j k : Nat} {a b : Int} (ha : Si j a) (hb : Si k b) : Si (max j k + 1) (a - b) := by
  rw [Int.sub_eq_add_neg]
  exact ha.add hb.neg
theorem Si.abs {k : Nat} {a : Int} (ha : Si k a) : Si k (a.natAbs : Int) := ha
theorem Sm.n {k : Nat} {q : Rat} (h : Sm k q) : Si k q.num := h.1
theorem Sm.d {k : Nat} {q : Rat} (h : Sm k q) : Si k (q.den : Int) := h.2
theorem Sm.div {k : Nat} {a b : Int} (hb : 0 < b) (h1 : Si k a) (h2 : Si k b) : Sm k (Rat.divInt a b) := by
  constructor
  · rw [Rat.num_divInt, Int.sign_eq_one_of_pos hb, Int.one_mul, Int.natAbs_ediv_of_dvd (Int.gcd_dvd_right ..)]
    exact Nat.lt_of_le_of_lt (Nat.div_le_self _ _) h1
  · rw [Rat.den_divInt, if_neg (by omega)]
    exact Nat.lt_of_le_of_lt (Nat.div_le_self _ _) h2
theorem den_pos (q : Rat) : (0 : Int) < (q.den : Int) := by have := q.den_pos; omega
theorem add_div (a b : Rat) : a + b = Rat.divInt (a.num * b.den + b.num * a.den) (a.den * b.den) := by
  rw [Rat.add_def', ← Rat.divInt_ofNat]
  rfl
theorem mul_div (a b : Rat) : a * b = Rat.divInt (a.num * b.num) (a.den * b.den) := by
  rw [Rat.mul_def', ← Rat.divInt_ofNat]
  rfl
theorem sub_div (a b : Rat) : a - b = Rat.divInt (a.num * b.den - b.num * a.den) (a.den * b.den) := by
  rw [Rat.sub_def', ← Rat.divInt_ofNat]
  rfl
theorem Sm.add {j k : Nat} {a b : Rat} (ha : Sm j a) (hb : Sm k b) : Sm (j + k + 1) (a + b) := by
  rw [add_div]
  refine Sm.div (Int.mul_pos (den_pos a) (den_pos b)) ?_ ((ha.d.mul hb.d).mono (by omega))
  exact ((ha.n.mul hb.d).add (hb.n.mul ha.d)).mono (by omega)
theorem Sm.sub {j k : Nat} {a b : Rat} (ha : Sm j a) (hb : Sm k b) : Sm (j + k + 1) (a - b) := by
  rw [sub_div]
  refine Sm.div (Int.mul_pos (den_pos a) (den_pos b)) ?_ ((ha.d.mul hb.d).mono (by omega))
  exact ((ha.n.mul hb.d).sub (hb.n.mul ha.d)).mono (by omega)
theorem Sm.mul {j k : Nat} {a b : Rat} (ha : Sm j a) (hb : Sm k b) : Sm (j + k) (a * b) := by
  rw [mul_div]
  exact Sm.div (Int.mul_pos (den_pos a) (den_pos b)) (ha.n.mul hb.n) (ha.d.mul hb.d)
@[simp] theorem idx_0 (x : D) (xs : List D) : idxD (.tup (x :: xs)) (.int 0) = some x := by
  simp [idxD, atI, ixN]
@[simp] theorem idx_1 (x y : D) (xs : List D) : idxD (.tup (x :: y :: xs)) (.int 1) = some y := by
  have : (1 : Int) < (xs.length : Int) + 1 + 1 := by omega
  simp [idxD, atI, ixN, this]
/-- a pair of «ints», the second positive, of less than so many bits -/
structure Frc (k : Nat) (a b : Int) : Prop where
  p : 0 < b
  n : Si k a
  d : Si k b
theorem Sm.fr {k : Nat} {q : Rat} (h : Sm k q) : Frc k q.num q.den := ⟨den_pos q, h.n, h.d⟩
def fr (a b : Int) : D := .tup [.int a, .int b]
theorem enQ_fr (q : Rat) : enQ q = fr q.num q.den := rfl
theorem dv (q : Rat) : Rat.divInt q.num q.den = q := Rat.num_divInt_den q
theorem add_frac {a b c d : Int} (hb : 0 < b) (hd : 0 < d) : Rat.divInt (a * d + c * b) (b * d) = Rat.divInt a b + Rat.divInt c d := by
  rw [Rat.divInt_add_divInt _ _ (by omega) (by omega)]
theorem r_plusF (n : Nat) {a b c d : Int} (ha : Frc 1900 a b) (hb : Frc 1900 c d) (w : W) : run T0 (n + 3) f_plus [fr a b, fr c d] w = .ok (enQ (Rat.divInt a b + Rat.divInt c d)) w := by
  rw [run_fn (fn := b_plus) rfl rfl rfl]
  simp [b_plus, mkEnv, fr, bin_mul (ha.n.big (by decide)) (hb.d.big (by decide)), bin_mul (hb.n.big (by decide)) (ha.d.big (by decide)), bin_mul (ha.d.big (by decide)) (hb.d.big (by decide))]
  rw [r_lowest _ _ _ (Int.mul_pos ha.p hb.p) ((ha.d.mul hb.d).big (by decide)), add_frac ha.p hb.p]
  rfl
theorem r_plus (n : Nat) {a b : Rat} (ha : Sm 1900 a) (hb : Sm 1900 b) (w : W) : run T0 (n + 3) f_plus [enQ a, enQ b] w = .ok (enQ (a + b)) w := by
  have := r_plusF n ha.fr hb.fr w
  rw [dv, dv] at this
  exact this
/-! ### the laws' own fractions -/
theorem whl_gcd2 {call : Nat → List D → W → R D} {w : W} {x y : D} : ∀ (n : Nat) (a b : Nat), b < n → whlX call (.cmp .ne (.var 3) (.int 0)) [.par 2 3 (.var 3) (.bin .mod (.var 2) (.var 3)) []] n [.sh x, .sh y, .sh (.int a), .sh (.int b)] w = .ok (.nx [.sh x, .sh y, .sh (.int (Nat.gcd a b)), .sh (.int 0)]) w
  | 0, _, _, h => by omega
  | n + 1, a, b, h => by
    rw [whlX_succ]
    by_cases hb : b = 0
    · subst hb
      simp
    · have hb2 : 0 < b := Nat.pos_of_ne_zero hb
      have ih := whl_gcd2 (call := call) (w := w) (x := x) (y := y) n b (a % b) (by have := Nat.mod_lt a hb2; omega)
      have e : ((a : Int) % (b : Int)) = ((a % b : Nat) : Int) := rfl
      have hz : ¬ ((b : Int) = 0) := by omega
      simp [hz, hb, bin_mod (show (0 : Int) < b by omega), -Int.natCast_emod]
      rw [e, ih]
      rw [Nat.gcd_comm a b, Nat.gcd_rec b a, Nat.gcd_comm]
theorem r_low (n : Nat) (a b : Int) (hb : 0 < b) (h2 : b.natAbs < BIG) (w : W) : run T0 (n + 1) f__law_low [.int a, .int b] w = .ok (enQ (Rat.divInt a b)) w := by
  rw [run_fn (fn := b__law_low) rfl rfl rfl]
  have g0 : 0 < Int.gcd a b := Int.gcd_pos_of_ne_zero_right _ (by omega)
  have g1 : (0 : Int) < (Int.gcd a b : Int) := by omega
  have g2 : ((Int.gcd a b : Int)).natAbs < BIG := by
    have : Int.gcd a b ≤ b.natAbs := Int.gcd_le_natAbs_right _ (by omega)
    have : ((Int.gcd a b : Int)).natAbs = Int.gcd a b := rfl
    omega
  have e1 : (Rat.divInt a b).num = a / (Int.gcd a b : Int) := by
    rw [Rat.num_divInt, Int.gcd_comm, Int.sign_eq_one_of_pos hb, Int.one_mul]
  have e2 : ((Rat.divInt a b).den : Int) = b / (Int.gcd a b : Int) := by
    rw [Rat.den_divInt, if_neg (by omega), Int.gcd_comm, Int.natCast_ediv]
    congr 1
    omega
  obtain ⟨k, rfl⟩ : ∃ k : Nat, b = (k : Int) := ⟨b.toNat, by omega⟩
  have h := whl_gcd2 (call := run T0 n) (w := w) (x := .int a) (y := .int k) (szE [.sh (.int a), .sh (.int k), .sh (.int a.natAbs), .sh (.int k)]) a.natAbs k (by simp [szE, szD]; omega)
  have e3 : ((a.natAbs.gcd k : Nat) : Int) = (Int.gcd a k : Int) := rfl
  rw [e3] at h
  simp only [enQ, e1, e2]
  simp [b__law_low, mkEnv, h, bin_div g1 g2]
theorem r_ladd (n : Nat) {a b c d : Int} (ha : Frc 1900 a b) (hb : Frc 1900 c d) (w : W) : run T0 (n + 2) f__law_add [fr a b, fr c d] w = .ok (enQ (Rat.divInt a b + Rat.divInt c d)) w := by
  rw [run_fn (fn := b__law_add) rfl rfl rfl]
  simp [b__law_add, mkEnv, fr, bin_mul (ha.n.big (by decide)) (hb.d.big (by decide)), bin_mul (hb.n.big (by decide)) (ha.d.big (by decide)), bin_mul (ha.d.big (by decide)) (hb.d.big (by decide))]
  rw [r_low _ _ _ (Int.mul_pos ha.p hb.p) ((ha.d.mul hb.d).big (by decide)), add_frac ha.p hb.p]
  rfl
theorem scale_frac {a b c : Int} (hb : 0 < b) : Rat.divInt (a * c) b = Rat.divInt a b * (c : Rat) := by
  have : (c : Rat) = Rat.divInt c 1 := by rw [Rat.divInt_eq_div, Rat.intCast_one]; grind
  rw [this, Rat.divInt_mul_divInt, Int.mul_one]
theorem r_lscale (n : Nat) {a b c : Int} (ha : Frc 1900 a b) (hc : Si 1900 c) (w : W) : run T0 (n + 2) f__law_scale [fr a b, .int c] w = .ok (enQ (Rat.divInt a b * (c : Rat))) w := by
  rw [run_fn (fn := b__law_scale) rfl rfl rfl]
  simp [b__law_scale, mkEnv, fr, bin_mul (ha.n.big (by decide)) (hc.big (by decide))]
  rw [r_low _ _ _ ha.p (ha.d.big (by decide)), scale_frac ha.p]
  rfl
theorem lt_frac {a b c d : Int} (hb : 0 < b) (hd : 0 < d) : a * d < c * b ↔ Rat.divInt a b < Rat.divInt c d := by
  have hb' : (0 : Rat) < b := by rw [← Rat.intCast_zero]; exact Rat.intCast_lt_intCast.mpr hb
  have hd' : (0 : Rat) < d := by rw [← Rat.intCast_zero]; exact Rat.intCast_lt_intCast.mpr hd
  have e : (c : Rat) / d * b = c * b / d := by grind
  rw [Rat.divInt_eq_div, Rat.divInt_eq_div, Rat.div_lt_iff hb', e, Rat.lt_div_iff hd', ← Rat.intCast_mul, ← Rat.intCast_mul, Rat.intCast_lt_intCast]
theorem r_lbelow (n : Nat) {a b c d : Int} (ha : Frc 1900 a b) (hb : Frc 1900 c d) (w : W) : run T0 (n + 1) f__law_below [fr a b, fr c d] w = .ok (.bl (decide (Rat.divInt a b < Rat.divInt c d))) w := by
  rw [run_fn (fn := b__law_below) rfl rfl rfl]
  simp [b__law_below, mkEnv, fr, bin_mul (ha.n.big (by decide)) (hb.d.big (by decide)), bin_mul (hb.n.big (by decide)) (ha.d.big (by decide)), bin_mul (ha.d.big (by decide)) (hb.d.big (by decide)), lt_frac ha.p hb.p]
end SF

namespace SF
/-! ### sorting -/
section
variable {α : Type} {lt : α → α → Bool}
theorem insBy_perm (x : α) : ∀ l : List α, (insBy lt x l).Perm (x :: l)
  | [] => .refl _
  | y :: ys => by
    unfold insBy
    split
    · exact ((insBy_perm x ys).cons y).trans (.swap x y ys)
    · exact .refl _
theorem isort_perm : ∀ l : List α, (isort lt l).Perm l
  | [] => .refl _
  | x :: xs => (insBy_perm x _).trans ((isort_perm xs).cons x)
/-- sorted: no later one is less -/
def Srt (lt : α → α → Bool) (l : List α) : Prop := l.Pairwise fun a b => lt b a = false
theorem insBy_srt (asym : ∀ a b, lt a b = true → lt b a = false) (tr : ∀ a b c, lt b a = false → lt c b = false → lt c a = false) (x : α) : ∀ l : List α, Srt lt l → Srt lt (insBy lt x l)
  | [], _ => List.pairwise_singleton _ _
  | y :: ys, h => by
    have h' := List.pairwise_cons.mp h
    unfold insBy
    split
    · rename_i c
      refine List.pairwise_cons.mpr ⟨fun b hb => ?_, insBy_srt asym tr x ys h'.2⟩
      rcases List.mem_cons.mp ((insBy_perm x ys).mem_iff.mp hb) with rfl | hb
      · exact asym _ _ c
      · exact h'.1 b hb
    · rename_i c
      have c : lt y x = false := by simpa using c
      refine List.pairwise_cons.mpr ⟨fun b hb => ?_, h⟩
      rcases List.mem_cons.mp hb with rfl | hb
      · exact c
      · exact tr x y b c (h'.1 b hb)
theorem isort_srt (asym : ∀ a b, lt a b = true → lt b a = false) (tr : ∀ a b c, lt b a = false → lt c b = false → lt c a = false) : ∀ l : List α, Srt lt (isort lt l)
  | [] => List.Pairwise.nil
  | x :: xs => insBy_srt asym tr x _ (isort_srt asym tr xs)
theorem srt_unique (anti : ∀ a b, lt a b = false → lt b a = false → a = b) : ∀ {l l' : List α}, l.Perm l' → Srt lt l → Srt lt l' → l = l'
  | [], l', p, _, _ => (List.Perm.nil_eq p)
  | a :: l, [], p, _, _ => absurd p.symm (by intro h; exact absurd (h.length_eq) (by simp))
  | a :: l, b :: l', p, h, h' => by
    have e : a = b := by
      have ha : a ∈ b :: l' := p.mem_iff.mp (List.mem_cons_self)
      have hb : b ∈ a :: l := p.mem_iff.mpr (List.mem_cons_self)
      rcases List.mem_cons.mp ha with e | ha
      · exact e
      · rcases List.mem_cons.mp hb with e | hb
        · exact e.symm
        · exact anti a b ((List.pairwise_cons.mp h').1 a ha) ((List.pairwise_cons.mp h).1 b hb)
    subst e
    rw [srt_unique anti (List.Perm.cons_inv p) (List.pairwise_cons.mp h).2 (List.pairwise_cons.mp h').2]
end
theorem lexLt_irrefl : ∀ a : List Int, lexLt a a = false
  | [] => rfl
  | x :: xs => by simp [lexLt, lexLt_irrefl xs]
theorem lexLt_asym : ∀ a b : List Int, lexLt a b = true → lexLt b a = false
  | [], [], h => by simp [lexLt] at h
  | [], _ :: _, _ => rfl
  | _ :: _, [], h => by simp [lexLt] at h
  | x :: xs, y :: ys, h => by
    simp only [lexLt] at h ⊢
    by_cases e : x = y
    · subst e
      simp only [if_true] at h ⊢
      exact lexLt_asym xs ys h
    · rw [if_neg e] at h
      rw [if_neg (fun z => e z.symm)]
      simp at h ⊢
      omega
theorem lexLt_tr : ∀ a b c : List Int, lexLt b a = false → lexLt c b = false → lexLt c a = false
  | [], _, _, _, _ => by cases ‹List Int› <;> rfl
  | x :: xs, [], _, h, _ => by simp [lexLt] at h
  | x :: xs, y :: ys, [], _, h => by simp [lexLt] at h
  | x :: xs, y :: ys, z :: zs, h1, h2 => by
    simp only [lexLt] at h1 h2 ⊢
    by_cases e1 : y = x
    · subst e1
      simp only [if_true] at h1
      by_cases e2 : z = y
      · subst e2
        simp only [if_true] at h2 ⊢
        exact lexLt_tr xs ys zs h1 h2
      · rw [if_neg e2] at h2 ⊢
        exact h2
    · rw [if_neg e1] at h1
      by_cases e2 : z = y
      · subst e2
        rw [if_neg e1]
        exact h1
      · rw [if_neg e2] at h2
        simp at h1 h2
        rw [if_neg (by omega)]
        simp
        omega
theorem lexLt_anti : ∀ a b : List Int, lexLt a b = false → lexLt b a = false → a = b
  | [], [], _, _ => rfl
  | [], _ :: _, h, _ => by simp [lexLt] at h
  | _ :: _, [], _, h => by simp [lexLt] at h
  | x :: xs, y :: ys, h1, h2 => by
    simp only [lexLt] at h1 h2
    by_cases e : x = y
    · subst e
      simp only [if_true] at h1 h2
      rw [lexLt_anti xs ys h1 h2]
    · rw [if_neg e] at h1
      rw [if_neg (fun z => e z.symm)] at h2
      simp at h1 h2
      omega
theorem sortI_perm (l : List Int) : (sortI l).Perm l := isort_perm l
theorem sortI_srt (l : List Int) : (sortI l).Pairwise (· ≤ ·) :=
  (isort_srt (lt := fun a b => decide (a < b)) (by intro a b; simp; omega) (by intro a b c; simp; omega) l).imp (by simp)
theorem sortI_unique {l l' : List Int} (p : l'.Perm l) (h : l'.Pairwise (· ≤ ·)) : l' = sortI l :=
  srt_unique (lt := fun a b => decide (a < b)) (by intro a b; simp; omega) (p.trans (sortI_perm l).symm) (h.imp (by simp)) (isort_srt (by intro a b; simp; omega) (by intro a b c; simp; omega) l)
theorem sortT_perm (l : List (List Int)) : (sortT l).Perm l := isort_perm l
theorem sortT_srt (l : List (List Int)) : Srt lexLt (sortT l) := isort_srt lexLt_asym lexLt_tr l
theorem sortT_unique {l l' : List (List Int)} (p : l'.Perm l) (h : Srt lexLt l') : l' = sortT l :=
  srt_unique lexLt_anti (p.trans (sortT_perm l).symm) h (sortT_srt l)
end SF

namespace SF
/-! ### series -/
abbrev En := Int × Int
def enE (e : En) : D := .tup [.int e.1, .int e.2]
def enS (s : List En) : D := .lst (s.map enE)
@[simp] theorem forD_enS {call : Nat → List D → W → R D} {ρ : Env} {w : W} (tg : Tg) (body : List S) (hd : List Nat) (s : List En) : forD call tg body hd ρ (enS s) w = forX call tg body (s.map enE) (freezeAt hd 0 ρ) w := rfl
@[simp] theorem flat_enS (s : List En) : flat (enS s) = false := rfl
structure EnOk (e : En) : Prop where
  lo : -999 ≤ e.1
  hi : e.1 ≤ 999
  w1 : 1 ≤ e.2
  w9 : e.2 ≤ 9
structure SerOk (s : List En) : Prop where
  pos : 1 ≤ s.length
  len : s.length ≤ 14
  en : ∀ e ∈ s, EnOk e
def wt (s : List En) : Int := (s.map fun e => e.2).sum
def s1 (s : List En) : Int := (s.map fun e => e.1 * e.2).sum
def s2 (s : List En) : Int := (s.map fun e => e.1 * e.1 * e.2).sum
@[simp] theorem blt_len (xs : List D) : bltD .len [.lst xs] = some (.int xs.length) := rfl
@[simp] theorem blt_lenT (xs : List D) : bltD .len [.tup xs] = some (.int xs.length) := rfl
@[simp] theorem blt_sum {α : Type} (f : α → Int) (xs : List α) : bltD .sum [.lst (xs.map fun x => .int (f x))] = some (.int (xs.map f).sum) := by
  show («ints» _).map _ = _
  rw [intsMap]
  rfl
@[simp] theorem blt_all {α : Type} (f : α → Bool) (xs : List α) : bltD .all [.lst (xs.map fun x => .bl (f x))] = some (.bl (xs.all f)) := by
  show (bools _).map _ = _
  rw [boolsMap]
  simp [List.all_map]
@[simp] theorem itemsD_lst (xs : List D) : itemsD (.lst xs) = some xs := rfl
@[simp] theorem itemsD_tup (xs : List D) : itemsD (.tup xs) = some xs := rfl
theorem small {i : Int} (h : i.natAbs < 1000000000) : i.natAbs < BIG := Nat.lt_trans h (Nat.lt_of_lt_of_le (by decide : 1000000000 < 2 ^ 30) (Nat.pow_le_pow_right (by decide) (by decide)))
theorem lim14 {n : Nat} (h : n ≤ 1000) : n ≤ LIM := by rw [show LIM = 100000 from rfl]; omega
section
variable {n : Nat} {w : W}
theorem r_is_int (i l h : Int) : run T0 (n + 1) f_is_int [.int i, .int l, .int h] w = .ok (.bl (decide (l ≤ i ∧ i ≤ h))) w := by
  rw [run_fn (fn := b_is_int) rfl rfl rfl]
  simp [b_is_int, mkEnv, isiD]
  by_cases h1 : l ≤ i <;> simp [h1]
theorem r_is_entry {e : En} (he : EnOk e) : run T0 (n + 2) f_is_entry [enE e] w = .ok (.bl true) w := by
  rw [run_fn (fn := b_is_entry) rfl rfl rfl]
  have := he.lo
  have := he.hi
  have := he.w1
  have := he.w9
  simp [b_is_entry, mkEnv, isiD, enE, r_is_int, *]
theorem r_is_series {s : List En} (h : SerOk s) : run T0 (n + 3) f_is_series [enS s] w = .ok (.bl true) w := by
  rw [run_fn (fn := b_is_series) rfl rfl rfl]
  have h1 : (1 : Int) ≤ s.length := by have := h.pos; omega
  have h2 : (s.length : Int) ≤ 14 := by have := h.len; omega
  simp [b_is_series, mkEnv, isiD, enS, h1, h2]
  rw [lcD_map (fun _ => .bl true) (lim14 (by have := h.len; omega))]
  · simp
  · intro e he
    simp [stepL, calm, r_is_entry (h.en e he)]
theorem r_check_series {s : List En} (h : SerOk s) : run T0 (n + 4) f_check_series [enS s] w = .ok .non w := by
  rw [run_fn (fn := b_check_series) rfl rfl rfl]
  simp [b_check_series, mkEnv, r_is_series h]
/-- the two kinds -/
def kd (sq : Bool) : D := if sq then .str [115, 113, 117, 97, 114, 101, 115] else .str [97, 98, 115, 111, 108, 117, 116, 101]
@[simp] theorem flat_kd (sq : Bool) : flat (kd sq) = true := by cases sq <;> rfl
@[simp] theorem cm_kdS (sq : Bool) : cmD .eq (kd sq) (.str [115, 113, 117, 97, 114, 101, 115]) w = .ok (.bl sq) w := by cases sq <;> rfl
@[simp] theorem cm_kdA (sq : Bool) : cmD .eq (kd sq) (.str [97, 98, 115, 111, 108, 117, 116, 101]) w = .ok (.bl (!sq)) w := by cases sq <;> rfl
theorem r_check_kind (sq : Bool) : run T0 (n + 1) f_check_kind [kd sq] w = .ok .non w := by
  rw [run_fn (fn := b_check_kind) rfl rfl rfl]
  cases sq <;> simp [b_check_kind, mkEnv, isiD, kd]
theorem r_weight_of {s : List En} (h : s.length ≤ 1000) : run T0 (n + 1) f_weight_of [enS s] w = .ok (.int (wt s)) w := by
  rw [run_fn (fn := b_weight_of) rfl rfl rfl]
  simp [b_weight_of, mkEnv, enS]
  rw [lcD_map (fun e => .int e.2) (lim14 h)]
  · simp [wt]
  · intro e he
    simp [stepL, calm, enE]
theorem en_mul {e : En} (h : EnOk e) : binD .mul (.int e.1) (.int e.2) = some (.int (e.1 * e.2)) := by
  have := h.lo
  have := h.hi
  have := h.w1
  have := h.w9
  exact bin_mul (small (by omega)) (small (by omega))
theorem wt_pos {s : List En} (h : SerOk s) : 0 < wt s := by
  have hp := h.pos
  have he := h.en
  have key : ∀ l : List En, (∀ e ∈ l, EnOk e) → (l.length : Int) ≤ wt l := by
    intro l
    induction l with
    | nil => intro _; simp [wt]
    | cons x xs ih =>
      intro hh
      have h1 := ih fun e z => hh e (List.mem_cons_of_mem _ z)
      have h2 := (hh x List.mem_cons_self).w1
      simp [wt] at h1 ⊢
      omega
  have := key s he
  omega
theorem sum_le {c : Int} {f : En → Int} : ∀ {l : List En}, (∀ e ∈ l, -c ≤ f e ∧ f e ≤ c) → -(c * l.length) ≤ (l.map f).sum ∧ (l.map f).sum ≤ c * l.length
  | [], _ => by simp
  | x :: xs, h => by
    have h1 := sum_le (l := xs) fun e z => h e (List.mem_cons_of_mem _ z)
    have h2 := h x List.mem_cons_self
    simp [Int.mul_add] at h1 ⊢
    omega
theorem wt_le {s : List En} (h : SerOk s) : wt s ≤ 126 := by
  have := (sum_le (c := 9) (f := fun e => e.2) (l := s) fun e z => by have := (h.en e z).w1; have := (h.en e z).w9; omega).2
  have := h.len
  unfold wt
  omega
theorem ev_bd {e : En} (h : EnOk e) : -8991 ≤ e.1 * e.2 ∧ e.1 * e.2 ≤ 8991 := by
  obtain ⟨a, b⟩ := e
  have h1 := h.lo
  have h2 := h.hi
  have h3 := h.w1
  have h4 := h.w9
  simp only at h1 h2 h3 h4 ⊢
  have : b = 1 ∨ b = 2 ∨ b = 3 ∨ b = 4 ∨ b = 5 ∨ b = 6 ∨ b = 7 ∨ b = 8 ∨ b = 9 := by omega
  rcases this with rfl | rfl | rfl | rfl | rfl | rfl | rfl | rfl | rfl <;> omega
theorem s1_bd {s : List En} (h : SerOk s) : -125874 ≤ s1 s ∧ s1 s ≤ 125874 := by
  have := (sum_le (c := 8991) (f := fun e => e.1 * e.2) (l := s) fun e z => ev_bd (h.en e z))
  have := h.len
  unfold s1
  omega
theorem r_mean {s : List En} (h : SerOk s) : run T0 (n + 3) f_mean [enS s] w = .ok (enQ (Rat.divInt (s1 s) (wt s))) w := by
  rw [run_fn (fn := b_mean) rfl rfl rfl]
  simp [b_mean, mkEnv, enS]
  rw [lcD_map (fun e => .int (e.1 * e.2)) (lim14 (by have := h.len; omega))]
  · simp
    have h1 := wt_pos h
    have h2 := wt_le h
    have h3 := r_weight_of (n := n + 1) (w := w) (s := s) (by have := h.len; omega)
    unfold enS at h3
    rw [h3]
    simp
    rw [r_lowest n (List.map (fun x => x.fst * x.snd) s).sum (wt s) h1 (small (by omega)) w]
    rfl
  · intro e he
    simp [stepL, calm, enE, en_mul (h.en e he)]
end
end SF

namespace SF
/-! ### sorted series -/
def eL (e : En) : List Int := [e.1, e.2]
def sortP (s : List En) : List En := isort (fun a b => lexLt (eL a) (eL b)) s
theorem insBy_map {α β : Type} {lt : β → β → Bool} {f : α → β} (x : α) : ∀ l : List α, insBy lt (f x) (l.map f) = (insBy (fun a b => lt (f a) (f b)) x l).map f
  | [] => rfl
  | y :: l => by
    simp only [List.map_cons, insBy]
    split
    · rw [insBy_map x l]; rfl
    · rfl
theorem isort_map {α β : Type} {lt : β → β → Bool} {f : α → β} : ∀ l : List α, isort lt (l.map f) = (isort (fun a b => lt (f a) (f b)) l).map f
  | [] => rfl
  | x :: l => by rw [List.map_cons, isort, isort_map l, insBy_map]; rfl
theorem sortP_perm (s : List En) : (sortP s).Perm s := isort_perm s
theorem sortP_srt (s : List En) : (sortP s).Pairwise (fun a b => a.1 ≤ b.1) := by
  have h : Srt (fun a b => lexLt (eL a) (eL b)) (sortP s) := isort_srt (fun a b => lexLt_asym (eL a) (eL b)) (fun a b c => lexLt_tr (eL a) (eL b) (eL c)) s
  refine List.Pairwise.imp (fun {a b} z => ?_) h
  simp [eL, lexLt] at z
  split at z
  · omega
  · omega
theorem tups_enE : ∀ s : List En, tupsInts (s.map enE) = some (s.map eL)
  | [] => rfl
  | e :: s => by simp [tupsInts, tups_enE s, tupInts, enE, «ints», intOf, eL]
theorem sorted_enS {s : List En} (h : s ≠ []) : bltD .sorted [enS s] = some (enS (sortP s)) := by
  show sortedD (enS s) = _
  unfold enS sortedD
  have e1 : «ints» (s.map enE) = none := by
    cases s with
    | nil => exact absurd rfl h
    | cons e s => simp [«ints», enE, intOf]
  have e2 : (s.map eL).all (fun t => decide (t.length = 2)) = true := by simp [List.all_map, eL]
  simp only [e1, tups_enE, e2, if_true]
  congr 2
  unfold sortT
  rw [isort_map, List.map_map]
  rfl
/-! ### medians -/
def pick (share : Int) : Int → List En → List Int
  | _, [] => []
  | b, e :: l => (if 2 * b < share ∧ share ≤ 2 * (b + e.2) then [e.1] else []) ++ pick share (b + e.2) l
theorem wt_cons (e : En) (l : List En) : wt (e :: l) = e.2 + wt l := by simp [wt]
theorem wt_append (l m : List En) : wt (l ++ m) = wt l + wt m := by simp [wt, List.map_append, List.sum_append]
theorem pick_snoc (share : Int) (e : En) : ∀ (l : List En) (b : Int), pick share b (l ++ [e]) = pick share b l ++ (if 2 * (b + wt l) < share ∧ share ≤ 2 * (b + wt l + e.2) then [e.1] else [])
  | [], b => by simp [pick, wt]
  | x :: l, b => by
    rw [List.cons_append, pick, pick_snoc share e l (b + x.2), pick, wt_cons, List.append_assoc, Int.add_assoc]
/-- the value at which the weight behind passes half of the share -/
def med (share : Int) : Int → List En → Int
  | _, [] => 0
  | b, e :: l => if share ≤ 2 * (b + e.2) then e.1 else med share (b + e.2) l
theorem pick_none {share : Int} : ∀ {l : List En} {b : Int}, (∀ e ∈ l, 0 < e.2) → share ≤ 2 * b → pick share b l = []
  | [], _, _, _ => rfl
  | e :: l, b, hp, h => by
    have h1 := hp e List.mem_cons_self
    rw [pick, if_neg (by omega), pick_none (fun x z => hp x (List.mem_cons_of_mem _ z)) (by omega)]
    rfl
theorem pick_med {share : Int} : ∀ {l : List En} {b : Int}, (∀ e ∈ l, 0 < e.2) → 2 * b < share → share ≤ 2 * (b + wt l) → pick share b l = [med share b l]
  | [], b, _, h1, h2 => by simp [wt] at h2; omega
  | e :: l, b, hp, h1, h2 => by
    have h3 := hp e List.mem_cons_self
    have hp' := fun x z => hp x (List.mem_cons_of_mem e z)
    rw [wt_cons] at h2
    rw [pick, med]
    by_cases hc : share ≤ 2 * (b + e.2)
    · rw [if_pos ⟨h1, hc⟩, if_pos hc, pick_none hp' hc]
      rfl
    · rw [if_neg (fun z => hc z.2), if_neg hc, pick_med hp' (by omega) (by omega)]
      rfl
section
variable {n : Nat} {w : W}
theorem med_loop {call : Nat → List D → W → R D} {a : Slot} {W' share : Int} {acc : List Int} {x y : Option D} (l : List En) (hl : l.length ≤ 1000) (ha : acc.length ≤ 1000) (hw : ∀ e ∈ l, 0 < e.2 ∧ e.2 ≤ 9) :
    ∃ y' z', forX call (.tp [5, 6]) [.ife (.chn .lt .le (.bin .mul (.int 2) (.var 4)) (.var 3) (.bin .mul (.int 2) (.bin .add (.var 4) (.var 6)))) [.app 2 (.var 5)] [], .aug 4 .add (.var 6)] (l.map enE)
      [a, .sh (.int W'), .ow (.lst (acc.map .int)), .sh (.int share), .sh (.int 0), os x, os y] w = .ok (.nx [a, .sh (.int W'), .ow (.lst ((acc ++ pick share 0 l).map .int)), .sh (.int share), .sh (.int (wt l)), os y', os z']) w := by
  have key := for_enc (call := call) (tg := .tp [5, 6]) (body := [.ife (.chn .lt .le (.bin .mul (.int 2) (.var 4)) (.var 3) (.bin .mul (.int 2) (.bin .add (.var 4) (.var 6)))) [.app 2 (.var 5)] [], .aug 4 .add (.var 6)])
    (enc := enE) (fun pre ρ w' => w' = w ∧ ∃ y z, ρ = [a, .sh (.int W'), .ow (.lst ((acc ++ pick share 0 pre).map .int)), .sh (.int share), .sh (.int (wt pre)), os y, os z]) l [] (ρ := [a, .sh (.int W'), .ow (.lst (acc.map .int)), .sh (.int share), .sh (.int 0), os x, os y]) (w := w)
    ⟨rfl, x, y, by simp [pick, wt]⟩ ?_
  · obtain ⟨ρ', w', e, rfl, y, z, rfl⟩ := key
    exact ⟨y, z, e⟩
  · rintro pre e ρ w' hp ⟨rfl, y, z, rfl⟩
    have hp2 : pre ++ [e] <+: l := by simpa using hp
    have hlen : pre.length < l.length := by
      have := hp2.length_le
      simp at this
      omega
    have he := hw e (hp2.subset (by simp))
    have hpick : ∀ (l : List En) (b : Int), (pick share b l).length ≤ l.length := by
      intro l
      induction l with
      | nil => intro b; simp [pick]
      | cons e l ih =>
        intro b
        rw [pick, List.length_append]
        have := ih (b + e.2)
        split <;> simp <;> omega
    have hwt : (wt pre).natAbs ≤ 9000 := by
      have := (sum_le (c := 9) (f := fun e => e.2) (l := pre) fun e z => by
        have := hw e (hp2.subset (List.mem_append_left _ z))
        omega)
      unfold wt
      omega
    refine ⟨_, _, ?_, rfl, some (.int e.1), some (.int e.2), rfl⟩
    have m1 : binD .mul (.int 2) (.int (wt pre)) = some (.int (2 * wt pre)) := bin_mul (small (by omega)) (small (by omega))
    have m2 : binD .mul (.int 2) (.int (wt pre + e.2)) = some (.int (2 * (wt pre + e.2))) := bin_mul (small (by omega)) (small (by omega))
    have hlim : ((acc ++ pick share 0 pre).map D.int).length < LIM := by
      have := hpick pre 0
      rw [show LIM = 100000 from rfl]
      simp
      omega
    have ewt : wt (pre ++ [e]) = wt pre + e.2 := by rw [wt_append, wt_cons]; simp [wt]
    rw [pick_snoc, ewt]
    simp only [Int.zero_add]
    by_cases c1 : 2 * wt pre < share
    · by_cases c2 : share ≤ 2 * (wt pre + e.2)
      · simp [stepF, enE, m1, m2, c1, c2, ownList]
        rw [← List.map_append, appS_ok _ _ _ rfl hlim]
        simp
      · simp [stepF, enE, m1, m2, c1, c2]
    · simp [stepF, enE, m1, m2, c1]
def lo (s : List En) : Int := med (wt s) 0 (sortP s)
def hi (s : List En) : Int := med (wt s + 1) 0 (sortP s)
theorem sum_perm {l m : List Int} (h : l.Perm m) : l.sum = m.sum := by
  induction h with
  | nil => rfl
  | cons x _ ih => simp [ih]
  | swap x y l => simp; omega
  | trans _ _ ih1 ih2 => omega
theorem wt_perm {l m : List En} (h : l.Perm m) : wt l = wt m := sum_perm (h.map _)
theorem wt_sortP (s : List En) : wt (sortP s) = wt s := wt_perm (sortP_perm s)
theorem r_medians {s : List En} (h : SerOk s) : run T0 (n + 2) f_medians [enS s] w = .ok (.lst [.int (lo s), .int (hi s)]) w := by
  rw [run_fn (fn := b_medians) rfl rfl rfl]
  have hl := h.len
  have hne : s ≠ [] := fun z => by have := h.pos; rw [z] at this; simp at this
  have hw := r_weight_of (n := n) (w := w) (s := s) (by omega)
  have hp : ∀ e ∈ sortP s, 0 < e.2 ∧ e.2 ≤ 9 := fun e z => by
    have q := h.en e ((sortP_perm s).mem_iff.mp z)
    have q1 := q.w1
    have q2 := q.w9
    omega
  have hp1 : ∀ e ∈ sortP s, 0 < e.2 := fun e z => (hp e z).1
  have hlen : (sortP s).length ≤ 1000 := by rw [(sortP_perm s).length_eq]; omega
  have h0 := wt_pos h
  obtain ⟨y1, z1, e1⟩ := med_loop (call := run T0 (n + 1)) (w := w) (a := .sh (enS s)) (W' := wt s) (share := wt s) (acc := []) (x := none) (y := none) (sortP s) hlen (by simp) hp
  obtain ⟨y2, z2, e2⟩ := med_loop (call := run T0 (n + 1)) (w := w) (a := .sh (enS s)) (W' := wt s) (share := wt s + 1) (acc := [lo s]) (x := y1) (y := z1) (sortP s) hlen (by simp) hp
  have p1 : pick (wt s) 0 (sortP s) = [lo s] := pick_med hp1 (by omega) (by rw [wt_sortP]; omega)
  have p2 : pick (wt s + 1) 0 (sortP s) = [hi s] := pick_med hp1 (by omega) (by rw [wt_sortP]; omega)
  rw [p1] at e1
  rw [p2] at e2
  simp at e1 e2
  simp [b_medians, mkEnv, hw, forX_cons, stepF, sorted_enS hne, e1, e2]
theorem r_levels (sq : Bool) {s : List En} (h : SerOk s) : run T0 (n + 4) f_levels [kd sq, enS s] w = .ok (if sq then .tup [enQ (Rat.divInt (s1 s) (wt s)), enQ (Rat.divInt (s1 s) (wt s))] else .tup [fr (lo s) 1, fr (hi s) 1]) w := by
  rw [run_fn (fn := b_levels) rfl rfl rfl]
  cases sq <;> simp [b_levels, mkEnv, r_mean h, r_medians h, fr]
theorem blt_sumE (f : En → Int) (xs : List En) : bltD .sum [.lst (xs.map fun x => .int (f x))] = some (.int (xs.map f).sum) := blt_sum f xs
/-- the cost of a piece -/
def absAt (s : List En) (x : Int) : Int := (s.map fun e => ((e.1 - x).natAbs : Int) * e.2).sum
def pc (sq : Bool) (s : List En) : Rat := if sq then Rat.divInt (s2 s * wt s - s1 s * s1 s) (wt s) else (absAt s (lo s) : Rat)
end
end SF

namespace SF
theorem med_mem {share : Int} : ∀ {l : List En} {b : Int}, share ≤ 2 * (b + wt l) → 2 * b < share → ∃ pre e suf, l = pre ++ e :: suf ∧ med share b l = e.1 ∧ 2 * (b + wt pre) < share ∧ share ≤ 2 * (b + wt pre + e.2)
  | [], b, h1, h2 => by simp [wt] at h1; omega
  | e :: l, b, h1, h2 => by
    rw [wt_cons] at h1
    rw [med]
    by_cases hc : share ≤ 2 * (b + e.2)
    · exact ⟨[], e, l, rfl, by rw [if_pos hc], by simp [wt]; omega, by simp [wt]; omega⟩
    · obtain ⟨pre, x, suf, h3, h4, h5, h6⟩ := med_mem (share := share) (l := l) (b := b + e.2) (by omega) (by omega)
      refine ⟨e :: pre, x, suf, by rw [h3]; rfl, by rw [if_neg hc, h4], ?_, ?_⟩ <;> rw [wt_cons] <;> omega
theorem lo_spec {s : List En} (h : SerOk s) : ∃ pre e suf, sortP s = pre ++ e :: suf ∧ lo s = e.1 ∧ 2 * wt pre < wt s ∧ wt s ≤ 2 * (wt pre + e.2) := by
  have h0 := wt_pos h
  obtain ⟨pre, e, suf, h1, h2, h3, h4⟩ := med_mem (share := wt s) (l := sortP s) (b := 0) (by rw [wt_sortP]; omega) (by omega)
  exact ⟨pre, e, suf, h1, h2, by omega, by omega⟩
theorem hi_spec {s : List En} (h : SerOk s) : ∃ pre e suf, sortP s = pre ++ e :: suf ∧ hi s = e.1 ∧ 2 * wt pre ≤ wt s ∧ wt s < 2 * (wt pre + e.2) := by
  have h0 := wt_pos h
  obtain ⟨pre, e, suf, h1, h2, h3, h4⟩ := med_mem (share := wt s + 1) (l := sortP s) (b := 0) (by rw [wt_sortP]; omega) (by omega)
  exact ⟨pre, e, suf, h1, h2, by omega, by omega⟩
theorem lo_mem {s : List En} (h : SerOk s) : ∃ e ∈ s, lo s = e.1 := by
  obtain ⟨pre, e, suf, h1, h2, _⟩ := lo_spec h
  exact ⟨e, (sortP_perm s).mem_iff.mp (by rw [h1]; simp), h2⟩
theorem hi_mem {s : List En} (h : SerOk s) : ∃ e ∈ s, hi s = e.1 := by
  obtain ⟨pre, e, suf, h1, h2, _⟩ := hi_spec h
  exact ⟨e, (sortP_perm s).mem_iff.mp (by rw [h1]; simp), h2⟩
theorem sq_bd {e : En} (h : EnOk e) : 0 ≤ e.1 * e.1 ∧ e.1 * e.1 ≤ 998001 := by
  have h1 := h.lo
  have h2 := h.hi
  have h3 : (e.1 * e.1).natAbs ≤ 999 * 999 := by
    rw [Int.natAbs_mul]
    exact Nat.mul_le_mul (by omega) (by omega)
  have h4 : 0 ≤ e.1 * e.1 := by
    rcases Int.le_total 0 e.1 with z | z
    · exact Int.mul_nonneg z z
    · exact Int.mul_nonneg_of_nonpos_of_nonpos z z
  omega
theorem mul_bd {a b c d : Int} (h1 : a.natAbs ≤ c.natAbs) (h2 : b.natAbs ≤ d.natAbs) : (a * b).natAbs ≤ (c * d).natAbs := by
  rw [Int.natAbs_mul, Int.natAbs_mul]
  exact Nat.mul_le_mul h1 h2
theorem s2_bd {s : List En} (h : SerOk s) : -125748126 ≤ s2 s ∧ s2 s ≤ 125748126 := by
  have := (sum_le (c := 8982009) (f := fun e => e.1 * e.1 * e.2) (l := s) fun e z => by
    have h1 := sq_bd (h.en e z)
    have h2 := (h.en e z).w1
    have h3 := (h.en e z).w9
    have := mul_bd (a := e.1 * e.1) (b := e.2) (c := 998001) (d := 9) (by omega) (by omega)
    omega)
  have := h.len
  unfold s2
  omega
theorem absAt_bd {s : List En} (h : SerOk s) {x : Int} (hx : x.natAbs ≤ 999) : 0 ≤ absAt s x ∧ absAt s x ≤ 251748 := by
  have h1 := (sum_le (c := 17982) (f := fun e => ((e.1 - x).natAbs : Int) * e.2) (l := s) fun e z => by
    have h1 := (h.en e z).lo
    have h1' := (h.en e z).hi
    have h2 := (h.en e z).w1
    have h3 := (h.en e z).w9
    have := mul_bd (a := ((e.1 - x).natAbs : Int)) (b := e.2) (c := 1998) (d := 9) (by omega) (by omega)
    omega)
  have := h.len
  have h2 : ∀ l : List En, (∀ e ∈ l, 0 < e.2) → 0 ≤ absAt l x := by
    intro l
    induction l with
    | nil => intro _; simp [absAt]
    | cons e l ih =>
      intro hh
      have h1 := ih fun e z => hh e (List.mem_cons_of_mem _ z)
      have h3 := hh e List.mem_cons_self
      have h4 : 0 ≤ ((e.1 - x).natAbs : Int) * e.2 := Int.mul_nonneg (by omega) (by omega)
      simp [absAt] at h1 h4 ⊢
      omega
  have h3 := h2 s fun e z => by have := (h.en e z).w1; omega
  unfold absAt at *
  omega
theorem lo_bd {s : List En} (h : SerOk s) : (lo s).natAbs ≤ 999 := by
  obtain ⟨e, he, q⟩ := lo_mem h
  have h1 := (h.en e he).lo
  have h2 := (h.en e he).hi
  omega
theorem hi_bd {s : List En} (h : SerOk s) : (hi s).natAbs ≤ 999 := by
  obtain ⟨e, he, q⟩ := hi_mem h
  have h1 := (h.en e he).lo
  have h2 := (h.en e he).hi
  omega
theorem enQ_int (i : Int) : enQ (i : Rat) = .tup [.int i, .int 1] := by simp [enQ]
section
variable {n : Nat} {w : W}
theorem r_piece_cost (sq : Bool) {s : List En} (h : SerOk s) : run T0 (n + 3) f_piece_cost [kd sq, enS s] w = .ok (enQ (pc sq s)) w := by
  rw [run_fn (fn := b_piece_cost) rfl rfl rfl]
  have hl : s.length ≤ 1000 := by have := h.len; omega
  have b1 := s1_bd h
  have b2 := s2_bd h
  have b3 := wt_pos h
  have b4 := wt_le h
  have b5 := lo_bd h
  have hw := r_weight_of (n := n + 1) (w := w) (s := s) hl
  cases sq with
  | true =>
    have l1 : lcD (run T0 (n + 2)) (.bin .mul (.var 3) (.var 4)) (.tp [3, 4]) (.bl true) [.sh (kd true), .sh (enS s), .no, .no, .no, .no, .no] (enS s) w = .ok (.lst (s.map fun e => .int (e.1 * e.2))) w :=
      lcD_map (fun e => .int (e.1 * e.2)) (lim14 hl) fun e he => by simp [stepL, calm, enE, en_mul (h.en e he)]
    have l2 : lcD (run T0 (n + 2)) (.bin .mul (.bin .mul (.var 3) (.var 3)) (.var 4)) (.tp [3, 4]) (.bl true) [.sh (kd true), .sh (enS s), .sh (.int (s1 s)), .no, .no, .sh (.int (wt s)), .no] (enS s) w = .ok (.lst (s.map fun e => .int (e.1 * e.1 * e.2))) w :=
      lcD_map (fun e => .int (e.1 * e.1 * e.2)) (lim14 hl) fun e he => by
        have q1 := sq_bd (h.en e he)
        have q2 := (h.en e he).lo
        have q3 := (h.en e he).hi
        have q4 := (h.en e he).w1
        have q5 := (h.en e he).w9
        simp [stepL, calm, enE, bin_mul (a := e.1) (b := e.1) (small (by omega)) (small (by omega)), bin_mul (a := e.1 * e.1) (b := e.2) (small (by omega)) (small (by omega))]
    have e1 : (s.map fun e => e.1 * e.2).sum = s1 s := rfl
    have e2 : (s.map fun e => e.1 * e.1 * e.2).sum = s2 s := rfl
    simp [b_piece_cost, mkEnv, l1, hw, e1, l2, e2, bin_mul (a := s2 s) (b := wt s) (small (by omega)) (small (by omega)), bin_mul (a := s1 s) (b := s1 s) (small (by omega)) (small (by omega))]
    rw [r_lowest n _ _ b3 (small (by omega))]
    simp [pc]
  | false =>
    have l3 : lcD (run T0 (n + 2)) (.bin .mul (.blt .abs [.bin .sub (.var 3) (.var 6)]) (.var 4)) (.tp [3, 4]) (.bl true) [.sh (kd false), .sh (enS s), .no, .no, .no, .no, .sh (.int (lo s))] (enS s) w = .ok (.lst (s.map fun e => .int (((e.1 - lo s).natAbs : Int) * e.2))) w :=
      lcD_map (fun e => .int (((e.1 - lo s).natAbs : Int) * e.2)) (lim14 hl) fun e he => by
        have q2 := (h.en e he).lo
        have q3 := (h.en e he).hi
        have q4 := (h.en e he).w1
        have q5 := (h.en e he).w9
        simp [stepL, calm, enE, bin_mul (a := ((e.1 - lo s).natAbs : Int)) (b := e.2) (small (by omega)) (small (by omega))]
    have hm := r_medians (n := n) (w := w) h
    have i0 : idxD (.lst [.int (lo s), .int (hi s)]) (.int 0) = some (.int (lo s)) := rfl
    have e3 : (s.map fun e => ((e.1 - lo s).natAbs : Int) * e.2).sum = absAt s (lo s) := rfl
    simp [b_piece_cost, mkEnv, hm, i0, l3, e3, pc, enQ_int]
theorem r_best_levels (sq : Bool) {s : List En} (h : SerOk s) : run T0 (n + 5) f_best_levels [kd sq, enS s] w = .ok (if sq then .tup [enQ (Rat.divInt (s1 s) (wt s)), enQ (Rat.divInt (s1 s) (wt s))] else .tup [fr (lo s) 1, fr (hi s) 1]) w := by
  rw [run_fn (fn := b_best_levels) rfl rfl rfl]
  simp [b_best_levels, mkEnv, r_check_kind, r_check_series h, r_levels sq h]
theorem r_cost_of_piece (sq : Bool) {s : List En} (h : SerOk s) : run T0 (n + 5) f_cost_of_piece [kd sq, enS s] w = .ok (enQ (pc sq s)) w := by
  rw [run_fn (fn := b_cost_of_piece) rfl rfl rfl]
  simp [b_cost_of_piece, mkEnv, r_check_kind, r_check_series h, r_piece_cost sq h]
end
end SF

namespace SF
/-! ### cuts -/
def enC (c : List Nat) : D := .tup (c.map fun (k : Nat) => .int (k : Int))
def slice {α : Type} (s : List α) (a b : Nat) : List α := (s.drop a).take (b - a)
def pieces {α : Type} (s : List α) : Nat → List Nat → List (List α)
  | a, [] => [slice s a s.length]
  | a, b :: c => slice s a b :: pieces s b c
theorem pieces_len {α : Type} (s : List α) : ∀ (c : List Nat) (a : Nat), (pieces s a c).length = c.length + 1
  | [], _ => rfl
  | b :: c, a => by simp [pieces, pieces_len s c b]
theorem pieces_get {α : Type} (s : List α) : ∀ (c : List Nat) (a k : Nat), k < c.length + 1 → (pieces s a c)[k]? = some (slice s ((a :: (c ++ [s.length]))[k]?.getD 0) ((a :: (c ++ [s.length]))[k + 1]?.getD 0))
  | [], a, 0, _ => by simp [pieces]
  | [], a, k + 1, h => by simp at h
  | b :: c, a, 0, _ => by simp [pieces]
  | b :: c, a, k + 1, h => by
    rw [pieces, List.getElem?_cons_succ, pieces_get s c b k (by simpa using h)]
    simp
structure CutOk (N : Nat) (c : List Nat) : Prop where
  inc : c.Pairwise (· < ·)
  rg : ∀ x ∈ c, 1 ≤ x ∧ x < N
theorem inc_len {N : Nat} : ∀ (c : List Nat) (a : Nat), c.Pairwise (· < ·) → (∀ x ∈ c, a ≤ x ∧ x < N) → c.length ≤ N - a
  | [], _, _, _ => by simp
  | x :: c, a, h, hx => by
    have h1 := hx x List.mem_cons_self
    have h2 := inc_len (N := N) c (x + 1) h.tail fun y z => ⟨List.rel_of_pairwise_cons h z, (hx y (List.mem_cons_of_mem _ z)).2⟩
    simp
    omega
theorem CutOk.len {N : Nat} {c : List Nat} (h : CutOk N c) : c.length ≤ N - 1 := inc_len c 1 h.inc h.rg
theorem range_lim {m : Nat} (h : m ≤ 1000) : rangeL 0 (m : Int) 1 = some ((List.range m).map fun (k : Nat) => D.int (k : Int)) := by
  unfold rangeL
  rw [if_pos (by omega), if_pos rfl]
  simp
theorem idx_tup {xs : List D} {k : Nat} {d : D} (h : xs[k]? = some d) : idxD (.tup xs) (.int (k : Int)) = some d := by
  have h1 : k < xs.length := (List.getElem?_eq_some_iff.mp h).1
  have h2 : (k : Int) < (xs.length : Int) := by omega
  simp [idxD, atI, ixN, h2, h]
theorem idx_lst {xs : List D} {k : Nat} {d : D} (h : xs[k]? = some d) : idxD (.lst xs) (.int (k : Int)) = some d := by
  have h1 : k < xs.length := (List.getElem?_eq_some_iff.mp h).1
  have h2 : (k : Int) < (xs.length : Int) := by omega
  simp [idxD, atI, ixN, h2, h]
theorem slc_nat (s : List En) {a b : Nat} (ha : a ≤ s.length) (hb : b ≤ s.length) : slcO (enS s) (some (a : Int)) (some (b : Int)) = some (enS (slice s a b)) := by
  have h1 : ¬ ((a : Int) < 0) := by omega
  have h2 : ¬ ((b : Int) < 0) := by omega
  simp [slcO, enS, cutL, sIx, h1, h2, slice, Nat.min_eq_left ha, Nat.min_eq_left hb, List.map_take, List.map_drop]
@[simp] theorem partR_bin (op : Op) (a b : E) (d : Int) (w : W) : partR (.bin op a b) (.ok (.int d) w) = .ok (some d) w := rfl
@[simp] theorem partR_idx (a b : E) (d : Int) (w : W) : partR (.idx a b) (.ok (.int d) w) = .ok (some d) w := rfl
@[simp] theorem partR_int (a : Int) (d : Int) (w : W) : partR (.int a) (.ok (.int d) w) = .ok (some d) w := rfl
@[simp] theorem partR_var (a : Nat) (d : Int) (w : W) : partR (.var a) (.ok (.int d) w) = .ok (some d) w := rfl
@[simp] theorem partR_non (d : D) (w : W) : partR .non (.ok d w) = .ok none w := rfl
section
variable {n : Nat} {w : W}
theorem bin_tup (a b : List D) (h : a.length + b.length ≤ LIM) : binD .add (.tup a) (.tup b) = some (.tup (a ++ b)) := by
  show (if a.length + b.length ≤ LIM then some (D.tup (a ++ b)) else none) = _
  rw [if_pos h]
theorem r_parts {s : List En} {c : List Nat} (hs : s.length ≤ 100) (hcl : c.length ≤ 100) (hc : ∀ x ∈ c, x ≤ s.length) : run T0 (n + 1) f_parts [enS s, enC c] w = .ok (.lst ((pieces s 0 c).map enS)) w := by
  rw [run_fn (fn := b_parts) rfl rfl rfl]
  have eb : (0 :: (c ++ [s.length])).map (fun (k : Nat) => D.int (k : Int)) = .int 0 :: (c.map (fun (k : Nat) => D.int (k : Int)) ++ [.int (s.length : Int)]) := by simp
  have t1 : binD .add (.tup [.int 0]) (enC c) = some (.tup (.int 0 :: c.map fun (k : Nat) => .int (k : Int))) := by
    rw [enC, bin_tup _ _ (lim14 (by simp; omega))]
    rfl
  have t2 : binD .add (.tup (.int 0 :: c.map fun (k : Nat) => .int (k : Int))) (.tup [.int (s.length : Int)]) = some (.tup ((0 :: (c ++ [s.length])).map fun (k : Nat) => .int (k : Int))) := by
    rw [bin_tup _ _ (lim14 (by simp; omega)), eb]
    rfl
  have t3 : bltD .len [enS s] = some (.int (s.length : Int)) := by simp [enS]
  have hB : ∀ x ∈ (0 :: (c ++ [s.length])), x ≤ s.length := by
    intro x hx
    simp at hx
    rcases hx with rfl | hx | rfl
    · omega
    · exact hc x hx
    · omega
  generalize hbs : (0 :: (c ++ [s.length])) = bs at *
  have hbl : bs.length = c.length + 2 := by rw [← hbs]; simp
  have t4 : bltD .len [.tup (bs.map fun (k : Nat) => .int (k : Int))] = some (.int ((c.length + 2 : Nat) : Int)) := by simp [hbl]
  have t5 : rangeL 0 ((c.length : Int) + 2 - 1) 1 = some ((List.range (c.length + 1)).map fun (k : Nat) => .int (k : Int)) := by
    rw [← range_lim (m := c.length + 1) (by omega)]
    congr 1
    omega
  have l1 : lcD (run T0 n) (.slc (.var 0) (.idx (.var 2) (.var 3)) (.idx (.var 2) (.bin .add (.var 3) (.int 1)))) (.nm 3) (.bl true) [.sh (enS s), .sh (enC c), .sh (.tup (bs.map fun (k : Nat) => .int (k : Int))), .no] (.lst ((List.range (c.length + 1)).map fun (k : Nat) => .int (k : Int))) w
      = .ok (.lst ((List.range (c.length + 1)).map fun k => enS (slice s (bs[k]?.getD 0) (bs[k + 1]?.getD 0)))) w := by
    refine lcD_map (fun k => enS (slice s (bs[k]?.getD 0) (bs[k + 1]?.getD 0))) (lim14 (by simp; omega)) fun k hk => ?_
    have hk2 : k < c.length + 1 := by simpa using hk
    have g1 : bs[k]? = some bs[k] := List.getElem?_eq_getElem (by omega)
    have g2 : bs[k + 1]? = some bs[k + 1] := List.getElem?_eq_getElem (by omega)
    have i1 : idxD (.tup (bs.map fun (k : Nat) => .int (k : Int))) (.int (k : Int)) = some (.int (bs[k] : Int)) := idx_tup (by rw [List.getElem?_map, g1]; rfl)
    have i2 : idxD (.tup (bs.map fun (k : Nat) => .int (k : Int))) (.int ((k : Int) + 1)) = some (.int (bs[k + 1] : Int)) := idx_tup (k := k + 1) (by rw [List.getElem?_map, g2]; rfl)
    have sl := slc_nat s (hB _ (List.getElem_mem (h := show k < bs.length by omega))) (hB _ (List.getElem_mem (h := show k + 1 < bs.length by omega)))
    simp [stepL, calm, i1, i2, sl, g1, g2]
  have fin1 : (List.range (c.length + 1)).map (fun k => enS (slice s (bs[k]?.getD 0) (bs[k + 1]?.getD 0))) = (pieces s 0 c).map enS := by
    apply List.ext_getElem?
    intro k
    by_cases hk : k < c.length + 1
    · rw [List.getElem?_map, List.getElem?_map, pieces_get s c 0 k hk, hbs]
      simp [hk]
    · rw [List.getElem?_eq_none (by simp; omega), List.getElem?_eq_none (by simp [pieces_len]; omega)]
  simp only [b_parts, mkEnv]
  simp [t1, t2, t3, t4, t5, l1, fin1]
theorem SerOk.slice {s : List En} (h : SerOk s) {a b : Nat} (hab : a < b) (hb : b ≤ s.length) : SerOk (slice s a b) := by
  have hl := h.len
  refine ⟨?_, ?_, fun e he => h.en e (List.mem_of_mem_drop (List.mem_of_mem_take he))⟩ <;> simp [SF.slice] <;> omega
theorem pieces_ok {s : List En} (h : SerOk s) : ∀ (c : List Nat) (a : Nat), a < s.length → (a :: c).Pairwise (· < ·) → (∀ x ∈ c, x < s.length) → ∀ p ∈ pieces s a c, SerOk p
  | [], a, ha, _, _, p, hp => by
    simp [pieces] at hp
    subst hp
    exact h.slice ha (Nat.le_refl _)
  | b :: c, a, ha, hi, hx, p, hp => by
    simp only [pieces, List.mem_cons] at hp
    rcases hp with rfl | hp
    · exact h.slice (List.rel_of_pairwise_cons hi List.mem_cons_self) (Nat.le_of_lt (hx b List.mem_cons_self))
    · exact pieces_ok h c b (hx b List.mem_cons_self) hi.tail (fun x z => hx x (List.mem_cons_of_mem _ z)) p hp
/-- the cost of a cut -/
def cutCost (sq : Bool) (s : List En) (c : List Nat) : Rat := ((pieces s 0 c).map (pc sq)).sum
theorem Sm_int {k : Nat} {i : Int} (hk : 1 ≤ k) (h : Si k i) : Sm k (i : Rat) := by
  constructor
  · rw [Rat.num_intCast]; exact h
  · have : 2 ^ 1 ≤ 2 ^ k := Nat.pow_le_pow_right (by decide) hk
    simp
    omega
theorem si_of {k : Nat} {i : Int} (h : i.natAbs < 2 ^ k) : Si k i := h
theorem pc_sm (sq : Bool) {s : List En} (h : SerOk s) : Sm 40 (pc sq s) := by
  have b1 := s1_bd h
  have b2 := s2_bd h
  have b3 := wt_pos h
  have b4 := wt_le h
  cases sq with
  | true =>
    have e : Si 40 (s2 s * wt s - s1 s * s1 s) := by
      have p1 : Si 34 (s2 s * wt s) := (si_of (k := 27) (by omega) : Si 27 (s2 s)).mul (si_of (k := 7) (by omega) : Si 7 (wt s))
      have p2 : Si 34 (s1 s * s1 s) := (si_of (k := 17) (by omega) : Si 17 (s1 s)).mul (si_of (k := 17) (by omega) : Si 17 (s1 s))
      exact (p1.sub p2).mono (by decide)
    show Sm 40 (Rat.divInt _ _)
    exact Sm.div b3 e (si_of (by omega))
  | false =>
    show Sm 40 ((absAt s (lo s) : Int) : Rat)
    have := absAt_bd h (lo_bd h)
    exact Sm_int (by decide) (si_of (by omega))
theorem sum_sm {k : Nat} : ∀ {l : List Rat}, (∀ q ∈ l, Sm k q) → Sm (1 + (k + 1) * l.length) l.sum
  | [], _ => by
    rw [List.sum_nil, List.length_nil, Nat.mul_zero]
    constructor <;> decide
  | q :: l, h => by
    have h1 := sum_sm (l := l) fun x z => h x (List.mem_cons_of_mem _ z)
    rw [List.sum_cons]
    refine ((h q List.mem_cons_self).add h1).mono ?_
    rw [List.length_cons, Nat.mul_succ]
    omega
theorem sum_snoc (l : List Rat) (q : Rat) : (l ++ [q]).sum = l.sum + q := by
  induction l with
  | nil => simp; grind
  | cons x l ih => rw [List.cons_append, List.sum_cons, List.sum_cons, ih]; grind
theorem r_cut_cost (sq : Bool) {s : List En} (h : SerOk s) {c : List Nat} (hc : CutOk s.length c) : run T0 (n + 4) f_cut_cost [kd sq, enS s, enC c] w = .ok (enQ (cutCost sq s c)) w := by
  rw [run_fn (fn := b_cut_cost) rfl rfl rfl]
  have hl := h.len
  have hp := h.pos
  have hcl2 : c.length ≤ s.length - 1 := CutOk.len hc
  have hcl : c.length ≤ 100 := by omega
  have hpc : ∀ p ∈ pieces s 0 c, SerOk p := pieces_ok h c 0 (by omega) (List.pairwise_cons.mpr ⟨fun x z => (hc.rg x z).1, hc.inc⟩) fun x z => (hc.rg x z).2
  have key := for_enc (call := run T0 (n + 3)) (tg := .nm 4) (body := [.asg 3 (.call f_plus [.var 3, .call f_piece_cost [.var 0, .var 4]]) false []]) (enc := enS)
    (fun pre ρ w' => w' = w ∧ ∃ y, ρ = [.sh (kd sq), .sh (enS s), .sh (enC c), .sh (enQ ((pre.map (pc sq)).sum)), os y]) (pieces s 0 c) [] (ρ := [.sh (kd sq), .sh (enS s), .sh (enC c), .sh (.tup [.int 0, .int 1]), .no]) (w := w)
    ⟨rfl, none, by simp [enQ]⟩ ?_
  · obtain ⟨ρ', w', e, rfl, y, rfl⟩ := key
    simp [b_cut_cost, mkEnv, r_parts (n := n + 2) (w := w') (by omega : s.length ≤ 100) hcl (fun x z => by have := (hc.rg x z).2; omega), e, cutCost]
  · rintro pre p ρ w' hpp ⟨rfl, y, rfl⟩
    have hpre : pre ++ [p] <+: pieces s 0 c := by simpa using hpp
    have hlen : pre.length ≤ 14 := by
      have := hpre.length_le
      rw [pieces_len] at this
      simp at this
      omega
    have hpk := hpc p (hpre.subset (by simp))
    have sm1 : Sm 1900 ((pre.map (pc sq)).sum) := (sum_sm (k := 40) (l := pre.map (pc sq)) fun q z => by
      obtain ⟨p', h1, rfl⟩ := List.mem_map.mp z
      exact pc_sm sq (hpc p' (hpre.subset (List.mem_append_left _ h1)))).mono (by rw [List.length_map]; omega)
    refine ⟨_, _, ?_, rfl, some (enS p), rfl⟩
    rw [List.map_append, List.map_singleton, sum_snoc]
    simp [stepF, r_piece_cost (n := n) sq hpk, r_plus n sm1 ((pc_sm sq hpk).mono (by decide))]
end
end SF

namespace SF
theorem range_int {i : Int} (h1 : -1000 ≤ i) (h : i ≤ 1000) : rangeL 0 i 1 = some ((List.range i.toNat).map fun (k : Nat) => D.int (k : Int)) := by
  unfold rangeL
  rw [if_pos (by omega), if_pos rfl]
  simp
theorem len_enS (s : List En) : bltD .len [enS s] = some (.int (s.length : Int)) := by simp [enS]
theorem len_enC (c : List Nat) : bltD .len [enC c] = some (.int (c.length : Int)) := by simp [enC]
@[simp] theorem isi_enC (c : List Nat) : isiD (enC c) .tuple = some true := rfl
section
variable {n : Nat} {w : W}
theorem r_is_cut {s : List En} (h : SerOk s) {c : List Nat} (hc : CutOk s.length c) : run T0 (n + 2) f_is_cut [enS s, enC c] w = .ok (.bl true) w := by
  rw [run_fn (fn := b_is_cut) rfl rfl rfl]
  have hl := h.len
  have hp := h.pos
  have hcl := hc.len
  have l1 : lcD (run T0 (n + 1)) (.call f_is_int [.var 2, .int 1, .bin .sub (.blt .len [.var 0]) (.int 1)]) (.nm 2) (.bl true) [.sh (enS s), .sh (enC c), .no, .no] (enC c) w = .ok (.lst (c.map fun _ => .bl true)) w := by
    refine lcD_mapT (fun _ => .bl true) (lim14 (by omega)) fun k hk => ?_
    have := hc.rg k hk
    have q1 : (1 : Int) ≤ (k : Int) := by omega
    have q2 : (k : Int) ≤ (s.length : Int) - 1 := by omega
    simp [stepL, calm, len_enS, r_is_int, q1, q2]
  have l2 : lcD (run T0 (n + 1)) (.cmp .lt (.idx (.var 1) (.var 3)) (.idx (.var 1) (.bin .add (.var 3) (.int 1)))) (.nm 3) (.bl true) [.sh (enS s), .sh (enC c), .no, .no] (.lst ((List.range (c.length - 1)).map fun (k : Nat) => .int (k : Int))) w = .ok (.lst ((List.range (c.length - 1)).map fun _ => .bl true)) w := by
    refine lcD_map (fun _ => .bl true) (lim14 (by simp; omega)) fun k hk => ?_
    have hk2 : k + 1 < c.length := by simp at hk; omega
    have g1 : c[k]? = some c[k] := List.getElem?_eq_getElem (by omega)
    have g2 : c[k + 1]? = some c[k + 1] := List.getElem?_eq_getElem (by omega)
    have i1 : idxD (enC c) (.int (k : Int)) = some (.int (c[k] : Int)) := idx_tup (by rw [List.getElem?_map, g1]; rfl)
    have i2 : idxD (enC c) (.int ((k : Int) + 1)) = some (.int (c[k + 1] : Int)) := idx_tup (k := k + 1) (by rw [List.getElem?_map, g2]; rfl)
    have lt : (c[k] : Int) < (c[k + 1] : Int) := by
      have := List.pairwise_iff_getElem.mp hc.inc k (k + 1) (by omega) (by omega) (by omega)
      omega
    simp [stepL, calm, i1, i2, lt]
  have t1 : rangeL 0 ((c.length : Int) - 1) 1 = some ((List.range (c.length - 1)).map fun (k : Nat) => .int (k : Int)) := by
    rw [range_int (by omega) (by omega)]
    congr 3
    omega
  simp [b_is_cut, mkEnv, l1, len_enC, t1, l2]
theorem r_check_cut {s : List En} (h : SerOk s) {c : List Nat} (hc : CutOk s.length c) : run T0 (n + 3) f_check_cut [enS s, enC c] w = .ok .non w := by
  rw [run_fn (fn := b_check_cut) rfl rfl rfl]
  simp [b_check_cut, mkEnv, r_is_cut h hc]
theorem r_cost (sq : Bool) {s : List En} (h : SerOk s) {c : List Nat} (hc : CutOk s.length c) : run T0 (n + 5) f_cost [kd sq, enS s, enC c] w = .ok (enQ (cutCost sq s c)) w := by
  rw [run_fn (fn := b_cost) rfl rfl rfl]
  simp [b_cost, mkEnv, r_check_kind, r_check_series h, r_check_cut h hc, r_cut_cost sq h hc]
/-! ### draws -/
theorem draw_ok' {l : Int} (h1 : 0 < l) (h2 : l < 1000000000) {w : W} (hw : w.nums ≠ []) : ∃ (x : Nat) (w' : W), drawW l w = .ok (.int x) w' ∧ (x : Int) < l ∧ w'.nums ≠ [] := by
  unfold drawW
  rw [if_neg (by intro z; rcases z with z | z | z <;> first | omega | exact hw z)]
  have hlen : 0 < w.nums.length := List.length_pos_iff.mpr hw
  have b1 := Int.emod_nonneg (w.cnt + 1) (b := (w.nums.length : Int)) (by omega)
  have b2 := Int.emod_lt_of_pos (w.cnt + 1) (b := (w.nums.length : Int)) (by omega)
  dsimp only
  rw [List.getElem?_eq_getElem (by omega)]
  dsimp only
  have key : ∀ z : Int, ∃ x : Nat, z % l = (x : Int) ∧ (x : Int) < l := fun z => by
    have q1 := Int.emod_nonneg z (b := l) (by omega)
    have q2 := Int.emod_lt_of_pos z h1
    exact ⟨(z % l).toNat, by omega, by omega⟩
  split
  · obtain ⟨x, e1, e2⟩ := key w.nums[((w.cnt + 1) % (w.nums.length : Int)).toNat]
    refine ⟨x, _, by rw [e1], e2, ?_⟩
    intro z
    have := congrArg List.length z
    simp at this
    exact hw this
  · generalize hM : ((w.nums[((w.cnt + 1) % (w.nums.length : Int)).toNat] + 104729 * (w.cnt + 1)) % 4294967291) ^ 5 % 4294967279 = M
    obtain ⟨x, e1, e2⟩ := key ((M / 64 * 69621 + M) % 4294967231 / 8)
    refine ⟨x, _, by rw [e1], e2, ?_⟩
    exact hw
theorem r_draw {T : Nat → Option Fn} (n : Nat) {l : Int} (h1 : 0 < l) (h2 : l < 1000000000) (hw : w.nums ≠ []) : ∃ (x : Nat) (w' : W), run T (n + 1) f__law_draw [.dr, .int l] w = .ok (.int x) w' ∧ (x : Int) < l ∧ w'.nums ≠ [] := by
  obtain ⟨x, w', e, h⟩ := draw_ok' h1 h2 hw
  exact ⟨x, w', by rw [show f__law_draw = fDraw from rfl, run_draw, e], h⟩
end
end SF

namespace SF
/-! ### what the laws draw -/
section
variable {T : Nat → Option Fn} {w : W}
theorem r_pick (n : Nat) {xs : List D} (h1 : 0 < xs.length) (h2 : xs.length ≤ 1000) (hw : w.nums ≠ []) : ∃ d w', d ∈ xs ∧ run T0 (n + 2) f__law_pick [.dr, .lst xs] w = .ok d w' ∧ w'.nums ≠ [] := by
  obtain ⟨x, w', e, hx, hw'⟩ := r_draw (T := T0) n (l := (xs.length : Int)) (by omega) (by omega) hw
  have hx2 : x < xs.length := by omega
  refine ⟨xs[x], w', List.getElem_mem _, ?_, hw'⟩
  rw [run_fn (fn := b__law_pick) rfl rfl rfl]
  simp [b__law_pick, mkEnv, e, idx_lst (List.getElem?_eq_getElem hx2)]
theorem r_kind (n : Nat) (hw : w.nums ≠ []) : ∃ (sq : Bool) (w' : W), run T0 (n + 3) f__law_kind [.dr] w = .ok (kd sq) w' ∧ w'.nums ≠ [] := by
  obtain ⟨d, w', hd, e, hw'⟩ := r_pick n (xs := [.str [115, 113, 117, 97, 114, 101, 115], .str [97, 98, 115, 111, 108, 117, 116, 101]]) (by simp) (by simp) hw
  have : ∃ sq, d = kd sq := by
    simp at hd
    rcases hd with rfl | rfl
    · exact ⟨true, rfl⟩
    · exact ⟨false, rfl⟩
  obtain ⟨sq, rfl⟩ := this
  refine ⟨sq, w', ?_, hw'⟩
  rw [run_fn (fn := b__law_kind) rfl rfl rfl]
  simp [b__law_kind, mkEnv, e]
theorem flats_enE (l : List En) : flats (l.map enE) = true := by
  induction l with
  | nil => rfl
  | cons e l ih => simp [enE, ih]
theorem r_series (n : Nat) {most : Int} (h1 : 1 ≤ most) (h2 : most ≤ 14) (hw : w.nums ≠ []) : ∃ (s : List En) (w' : W), SerOk s ∧ (s.length : Int) ≤ most ∧ run T0 (n + 3) f__law_series [.dr, .int most] w = .ok (enS s) w' ∧ w'.nums ≠ [] := by
  obtain ⟨d1, w1, m1, e1, hw1⟩ := r_pick n (xs := [.int 2, .int 4, .int 12, .int 1000]) (by simp) (by simp) hw
  obtain ⟨wide, rfl, hwide⟩ : ∃ wide : Int, d1 = .int wide ∧ 2 ≤ wide ∧ wide ≤ 1000 := by
    simp at m1
    rcases m1 with rfl | rfl | rfl | rfl <;> exact ⟨_, rfl, by decide, by decide⟩
  obtain ⟨d2, w2, m2, e2, hw2⟩ := r_pick n (xs := [.int 1, .int 1, .int 3, .int 9]) (by simp) (by simp) hw1
  obtain ⟨heavy, rfl, hheavy⟩ : ∃ heavy : Int, d2 = .int heavy ∧ 1 ≤ heavy ∧ heavy ≤ 9 := by
    simp at m2
    rcases m2 with rfl | rfl | rfl <;> exact ⟨_, rfl, by decide, by decide⟩
  obtain ⟨x3, w3, e3, b3, hw3⟩ := r_draw (T := T0) (n + 1) (l := wide) (by omega) (by omega) hw2
  obtain ⟨x4, w4, e4, b4, hw4⟩ := r_draw (T := T0) (n + 1) (l := most) (by omega) (by omega) hw3
  have dv3 : binD .div (.int wide) (.int 3) = some (.int (wide / 3)) := bin_div (by decide) (small (by decide))
  have key := for_enc (call := run T0 (n + 2)) (tg := .nm 6) (body := [.ife (.cmp .gt (.call f__law_draw [.var 0, .int 3]) (.int 0)) [.asg 4 (.bin .sub (.call f__law_draw [.var 0, .var 2]) (.bin .div (.var 2) (.int 3))) false [5]] [], .app 5 (.tup [.var 4, .bin .add (.int 1) (.call f__law_draw [.var 0, .var 3])])])
    (enc := fun (k : Nat) => D.int (k : Int)) (fun pre ρ w => w.nums ≠ [] ∧ ∃ (acc : List En) (v : Int) (y : Option D), acc.length = pre.length ∧ (∀ e ∈ acc, EnOk e) ∧ -999 ≤ v ∧ v ≤ 999 ∧ ρ = [.sh .dr, .sh (.int most), .sh (.int wide), .sh (.int heavy), .sh (.int v), .ow (.lst (acc.map enE)), os y])
    (List.range (1 + x4)) [] (ρ := [.sh .dr, .sh (.int most), .sh (.int wide), .sh (.int heavy), .sh (.int (x3 - wide / 3)), .ow (.lst []), .no]) (w := w4)
    ⟨hw4, [], _, none, rfl, by simp, by omega, by omega, rfl⟩ ?_
  · obtain ⟨ρ', w', e5, hw5, acc, v, y, g1, g2, g3, g4, rfl⟩ := key
    simp at g1
    refine ⟨acc, w', ⟨by omega, by omega, g2⟩, by omega, ?_, hw5⟩
    rw [run_fn (fn := b__law_series) rfl rfl rfl]
    have t1 : rangeL 0 (1 + (x4 : Int)) 1 = some ((List.range (1 + x4)).map fun (k : Nat) => .int (k : Int)) := by
      rw [range_int (by omega) (by omega)]
      congr 3
    simp [b__law_series, mkEnv, e1, e2, e3, e4, dv3, t1, e5, enS]
  · rintro pre k ρ w hpre ⟨hw, acc, v, y, g1, g2, g3, g4, rfl⟩
    have hlen : pre.length < 1 + x4 := by
      have := List.IsPrefix.length_le hpre
      simp at this
      omega
    obtain ⟨x5, w5, e5, b5, hw5⟩ := r_draw (T := T0) (n + 1) (l := 3) (by decide) (by decide) hw
    have hlim : (acc.map enE).length < LIM := by rw [show LIM = 100000 from rfl]; simp; omega
    by_cases c : (0 : Int) < (x5 : Int)
    · obtain ⟨x6, w6, e6, b6, hw6⟩ := r_draw (T := T0) (n + 1) (l := wide) (by omega) (by omega) hw5
      obtain ⟨x7, w7, e7, b7, hw7⟩ := r_draw (T := T0) (n + 1) (l := heavy) (by omega) (by omega) hw6
      refine ⟨_, w7, ?_, hw7, acc ++ [((x6 : Int) - wide / 3, 1 + (x7 : Int))], (x6 : Int) - wide / 3, some (.int (k : Int)), by simp [g1], ?_, by omega, by omega, rfl⟩
      · have c' : 0 < x5 := by omega
        simp [stepF, e5, c, c', e6, e7, dv3, ownList]
        rw [appS_ok _ _ _ rfl hlim]
        simp [enE]
      · intro e he
        simp at he
        rcases he with he | rfl
        · exact g2 e he
        · exact ⟨by simp; omega, by simp; omega, by simp; omega, by simp; omega⟩
    · obtain ⟨x7, w7, e7, b7, hw7⟩ := r_draw (T := T0) (n + 1) (l := heavy) (by omega) (by omega) hw5
      refine ⟨_, w7, ?_, hw7, acc ++ [(v, 1 + (x7 : Int))], v, some (.int (k : Int)), by simp [g1], ?_, by omega, by omega, rfl⟩
      · have c' : ¬ 0 < x5 := by omega
        have c'' : x5 = 0 := by omega
        subst c''
        simp [stepF, e5, e7, dv3, ownList]
        rw [appS_ok _ _ _ rfl hlim]
        simp [enE]
      · intro e he
        simp at he
        rcases he with he | rfl
        · exact g2 e he
        · exact ⟨by simp; omega, by simp; omega, by simp; omega, by simp; omega⟩
end
end SF

namespace SF
/-! ### the laws' costs -/
def absR (q : Rat) : Rat := if q < 0 then -q else q
def dist (sq : Bool) (q : Rat) : Rat := if sq then q * q else absR q
def Fx (sq : Bool) (s : List En) (x : Rat) : Rat := (s.map fun e => dist sq ((e.1 : Rat) - x) * (e.2 : Rat)).sum
theorem absR_num (q : Rat) : (absR q).num = (q.num.natAbs : Int) ∧ (absR q).den = q.den := by
  unfold absR
  have h : q < 0 ↔ q.num < 0 := by
    rw [Rat.lt_iff]
    simp
  split
  · rename_i z
    have := h.mp z
    simp
    omega
  · rename_i z
    have : ¬ q.num < 0 := fun y => z (h.mpr y)
    simp
    omega
theorem enQ_abs (q : Rat) : enQ (absR q) = .tup [.int (q.num.natAbs : Int), .int (q.den : Int)] := by
  unfold enQ
  rw [(absR_num q).1, (absR_num q).2]
theorem Sm.absR {k : Nat} {q : Rat} (h : Sm k q) : Sm k (absR q) := by
  constructor
  · rw [(absR_num q).1]; exact h.1
  · rw [(absR_num q).2]; exact h.2
theorem dist_sm (sq : Bool) {k : Nat} {q : Rat} (h : Sm k q) : Sm (k + k) (dist sq q) := by
  cases sq
  · exact h.absR.mono (by omega)
  · exact h.mul h
@[simp] theorem idx_enQ0 (q : Rat) : idxD (enQ q) (.int 0) = some (.int q.num) := rfl
@[simp] theorem idx_enQ1 (q : Rat) : idxD (enQ q) (.int 1) = some (.int q.den) := rfl
@[simp] theorem idx_fr0 (a b : Int) : idxD (fr a b) (.int 0) = some (.int a) := rfl
@[simp] theorem idx_fr1 (a b : Int) : idxD (fr a b) (.int 1) = some (.int b) := rfl
@[simp] theorem flat_fr (a b : Int) : flat (fr a b) = true := rfl
@[simp] theorem flat_enQ (q : Rat) : flat (enQ q) = true := rfl
theorem enQ_inj (a b : Rat) : (eqD (enQ a) (enQ b)) = decide (a = b) := by
  rw [Bool.eq_iff_iff]
  simp [enQ, eqD, eqDs]
  constructor
  · rintro ⟨h1, h2⟩
    exact Rat.ext h1 (by omega)
  · rintro rfl
    exact ⟨rfl, rfl⟩
section
variable {n : Nat} {w : W}
@[simp] theorem cm_eqQ (a b : Rat) : cmD .eq (enQ a) (enQ b) w = .ok (.bl (decide (a = b))) w := by
  have h : cmpD .eq (enQ a) (enQ b) = some (eqD (enQ a) (enQ b)) := by simp [cmpD, enQ, plainAt, plainsAt]
  rw [cmD, h, enQ_inj]
  rfl
@[simp] theorem cm_neQ (a b : Rat) : cmD .ne (enQ a) (enQ b) w = .ok (.bl (!decide (a = b))) w := by
  have h : cmpD .ne (enQ a) (enQ b) = some (!eqD (enQ a) (enQ b)) := by simp [cmpD, enQ, plainAt, plainsAt]
  rw [cmD, h, enQ_inj]
  rfl
theorem divInt_one (a : Int) : Rat.divInt a 1 = (a : Rat) := by
  rw [Rat.divInt_eq_div, Rat.intCast_one]
  grind
theorem divInt_neg (a b : Int) : Rat.divInt (0 - a) b = - Rat.divInt a b := by
  rw [Int.zero_sub, ← Rat.neg_divInt]
theorem en_sm {e : En} (h : EnOk e) : Sm 10 (e.1 : Rat) ∧ Sm 4 (e.2 : Rat) := by
  have h1 := h.lo
  have h2 := h.hi
  have h3 := h.w1
  have h4 := h.w9
  exact ⟨Sm_int (by decide) (si_of (by omega)), Sm_int (by decide) (si_of (by omega))⟩
theorem term_sm (sq : Bool) {e : En} (h : EnOk e) {x : Rat} (hx : Sm 40 x) : Sm 106 (dist sq ((e.1 : Rat) - x) * (e.2 : Rat)) :=
  (dist_sm sq ((en_sm h).1.sub hx)).mul (en_sm h).2
theorem Fx_sm (sq : Bool) {s : List En} (hl : s.length ≤ 14) (h : ∀ e ∈ s, EnOk e) {x : Rat} (hx : Sm 40 x) : Sm 1500 (Fx sq s x) := by
  refine (sum_sm (k := 106) fun q z => ?_).mono ?_
  · obtain ⟨e, he, rfl⟩ := List.mem_map.mp z
    exact term_sm sq (h e he) hx
  · simp
    omega
theorem r_at (sq : Bool) {s : List En} (h : SerOk s) {a b : Int} (hl : Frc 40 a b) : run T0 (n + 3) f__law_at [kd sq, enS s, fr a b] w = .ok (enQ (Fx sq s (Rat.divInt a b))) w := by
  rw [run_fn (fn := b__law_at) rfl rfl rfl]
  have hx : Sm 40 (Rat.divInt a b) := Sm.div hl.p hl.n hl.d
  have key := for_enc (call := run T0 (n + 2)) (tg := .tp [4, 5]) (body := [.asg 6 (.call f__law_add [.tup [.var 4, .int 1], .tup [.bin .sub (.int 0) (.idx (.var 2) (.int 0)), .idx (.var 2) (.int 1)]]) false [], .asg 7 (.tup [.blt .abs [.idx (.var 6) (.int 0)], .idx (.var 6) (.int 1)]) false [], .ife (.cmp .eq (.var 0) (.str [115, 113, 117, 97, 114, 101, 115])) [.asg 7 (.call f__law_low [.bin .mul (.idx (.var 7) (.int 0)) (.idx (.var 7) (.int 0)), .bin .mul (.idx (.var 7) (.int 1)) (.idx (.var 7) (.int 1))]) false []] [], .asg 3 (.call f__law_add [.var 3, .call f__law_scale [.var 7, .var 5]]) false []])
    (enc := enE) (fun pre ρ w' => w' = w ∧ ∃ y1 y2 y3 y4, ρ = [.sh (kd sq), .sh (enS s), .sh (fr a b), .sh (enQ (Fx sq pre (Rat.divInt a b))), os y1, os y2, os y3, os y4]) s [] (ρ := [.sh (kd sq), .sh (enS s), .sh (fr a b), .sh (.tup [.int 0, .int 1]), .no, .no, .no, .no]) (w := w)
    ⟨rfl, none, none, none, none, by simp [enQ, Fx]⟩ ?_
  · obtain ⟨ρ', w', e, rfl, y1, y2, y3, y4, rfl⟩ := key
    simp at e
    simp [b__law_at, mkEnv, e]
  · rintro pre e ρ w' hpre ⟨rfl, y1, y2, y3, y4, rfl⟩
    have hp2 : pre ++ [e] <+: s := by simpa using hpre
    have he := h.en e (hp2.subset (by simp))
    have hlen : pre.length ≤ 14 := by
      have q1 := hp2.length_le
      have q2 := h.len
      rw [List.length_append] at q1
      omega
    have hsm := Fx_sm sq hlen (fun x z => h.en x (hp2.subset (List.mem_append_left _ z))) hx
    have es := en_sm he
    generalize hq : Rat.divInt a b = q at *
    have f1 : Frc 1900 e.1 1 := ⟨by decide, (si_of (by have := he.lo; have := he.hi; omega) : Si 10 e.1).mono (by decide), (si_of (by decide) : Si 1 1).mono (by decide)⟩
    have f2 : Frc 1900 (-a) b := ⟨hl.p, hl.n.neg.mono (by decide), hl.d.mono (by decide)⟩
    have a1 := r_ladd n f1 f2 w'
    rw [divInt_one, ← Rat.neg_divInt, hq, ← Rat.sub_eq_add_neg] at a1
    have sg : Sm 51 ((e.1 : Rat) - q) := es.1.sub hx
    generalize hg : (e.1 : Rat) - q = g at *
    have b1 := sg.absR
    have e1 : Fx sq (pre ++ [e]) q = Fx sq pre q + dist sq g * (e.2 : Rat) := by
      unfold Fx
      rw [List.map_append, List.map_singleton, sum_snoc, hg]
    have sw : Si 1900 e.2 := (si_of (by have := he.w1; have := he.w9; omega) : Si 4 e.2).mono (by decide)
    have st : Sm 1900 (dist sq g * (e.2 : Rat)) := ((dist_sm sq sg).mul es.2).mono (by decide)
    have a3 := r_lscale n (a := (dist sq g).num) (b := (dist sq g).den) (c := e.2) ((dist_sm sq sg).mono (by decide)).fr sw w'
    rw [dv] at a3
    have a4 := r_ladd n (hsm.mono (by decide)).fr st.fr w'
    rw [dv, dv] at a4
    refine ⟨_, _, ?_, rfl, some (.int e.1), some (.int e.2), some (enQ g), some (enQ (dist sq g)), rfl⟩
    rw [e1]
    have a1' : run T0 (n + 2) f__law_add [.tup [.int e.1, .int 1], .tup [.int (-a), .int b]] w' = .ok (enQ g) w' := a1
    have a4' : run T0 (n + 2) f__law_add [enQ (Fx sq pre q), enQ (dist sq g * (e.2 : Rat))] w' = .ok (enQ (Fx sq pre q + dist sq g * (e.2 : Rat))) w' := a4
    have a3' : run T0 (n + 2) f__law_scale [enQ (dist sq g), .int e.2] w' = .ok (enQ (dist sq g * (e.2 : Rat))) w' := a3
    cases sq with
    | true =>
      have m1 : binD .mul (.int (g.num.natAbs : Int)) (.int (g.num.natAbs : Int)) = some (.int (g.num * g.num)) := by
        rw [bin_mul ((sg.n.abs).big (by decide)) ((sg.n.abs).big (by decide)), ← Int.natCast_mul, Int.natAbs_mul_self]
      have m2 : binD .mul (.int (g.den : Int)) (.int (g.den : Int)) = some (.int ((g.den : Int) * (g.den : Int))) := bin_mul (sg.d.big (by decide)) (sg.d.big (by decide))
      have l1 := r_low (n + 1) (g.num * g.num) ((g.den : Int) * (g.den : Int)) (Int.mul_pos (den_pos g) (den_pos g)) ((sg.d.mul sg.d).big (by decide)) w'
      have e2 : Rat.divInt (g.num * g.num) ((g.den : Int) * (g.den : Int)) = dist true g := (mul_div g g).symm
      rw [e2] at l1
      simp [stepF, enE, a1', m1, m2, l1, a3', a4']
    | false =>
      have e2 : D.tup [.int (g.num.natAbs : Int), .int (g.den : Int)] = enQ (dist false g) := (enQ_abs g).symm
      simp [stepF, enE, a1', e2, a3', a4']
end
end SF

namespace SF
/-! ### one piece -/
theorem minL_le : ∀ (l : List Int) (a : Int), minL a l ≤ a ∧ ∀ x ∈ l, minL a l ≤ x
  | [], a => ⟨Int.le_refl _, by simp⟩
  | y :: l, a => by
    have h := minL_le l (if y < a then y else a)
    rw [minL]
    refine ⟨?_, ?_⟩
    · have := h.1
      split at this <;> omega
    · intro x hx
      rcases List.mem_cons.mp hx with rfl | hx
      · have := h.1
        split at this <;> omega
      · exact h.2 x hx
theorem minL_mem : ∀ (l : List Int) (a : Int), minL a l ∈ a :: l
  | [], a => by simp [minL]
  | y :: l, a => by
    rw [minL]
    have h := minL_mem l (if y < a then y else a)
    rcases List.mem_cons.mp h with h | h
    · rw [h]
      split <;> simp
    · exact List.mem_cons_of_mem _ (List.mem_cons_of_mem _ h)
theorem blt_min {α : Type} {f : α → Int} {xs : List α} {m : Int} (h1 : ∃ x ∈ xs, f x = m) (h2 : ∀ x ∈ xs, m ≤ f x) : bltD .min1 [.lst (xs.map fun x => .int (f x))] = some (.int m) := by
  show (match «ints» (xs.map fun x => .int (f x)) with | some (i :: is) => some (D.int (minL i is)) | _ => none) = _
  rw [intsMap]
  cases xs with
  | nil => obtain ⟨x, hx, _⟩ := h1; cases hx
  | cons y ys =>
    have q1 := minL_mem (ys.map f) (f y)
    have q2 := minL_le (ys.map f) (f y)
    have q3 : m ≤ minL (f y) (ys.map f) := by
      rw [← List.map_cons] at q1
      obtain ⟨z, hz, e⟩ := List.mem_map.mp q1
      rw [← e]
      exact h2 z hz
    have q4 : minL (f y) (ys.map f) ≤ m := by
      obtain ⟨x, hx, e⟩ := h1
      rcases List.mem_cons.mp hx with rfl | hx
      · omega
      · have := q2.2 (f x) (List.mem_map_of_mem hx)
        omega
    have : minL (f y) (ys.map f) = m := Int.le_antisymm q4 q3
    simp [this]
theorem cons_s (e : En) (l : List En) : s1 (e :: l) = e.1 * e.2 + s1 l ∧ s2 (e :: l) = e.1 * e.1 * e.2 + s2 l := by simp [s1, s2]
theorem snoc_s (l : List En) (e : En) : wt (l ++ [e]) = wt l + e.2 ∧ s1 (l ++ [e]) = s1 l + e.1 * e.2 ∧ s2 (l ++ [e]) = s2 l + e.1 * e.1 * e.2 := by
  simp [wt, s1, s2, List.map_append, List.sum_append]
section
variable {n : Nat} {w : W}
theorem r_lpieceA {s : List En} (h : SerOk s) (hm : ∀ e ∈ s, absAt s (lo s) ≤ absAt s e.1) : run T0 (n + 1) f__law_piece [kd false, enS s] w = .ok (enQ (pc false s)) w := by
  rw [run_fn (fn := b__law_piece) rfl rfl rfl]
  have hl : s.length ≤ 1000 := by have := h.len; omega
  have l1 : lcD (run T0 n) (.blt .sum [.lc (.bin .mul (.var 4) (.blt .abs [.bin .sub (.var 3) (.var 5)])) (.tp [3, 4]) (.var 1) (.bl true) [3, 4]]) (.tp [5, 6]) (.bl true) [.sh (kd false), .sh (enS s), .no, .no, .no, .no, .no, .no, .no, .no, .no, .no, .no, .no] (enS s) w = .ok (.lst (s.map fun e => .int (absAt s e.1))) w := by
    refine lcD_map (fun e => .int (absAt s e.1)) (lim14 hl) fun e he => ?_
    have q2 := (h.en e he).lo
    have q3 := (h.en e he).hi
    have l2 : lcD (run T0 n) (.bin .mul (.var 4) (.blt .abs [.bin .sub (.var 3) (.var 5)])) (.tp [3, 4]) (.bl true) [.sh (kd false), .sh (enS s), .no, .no, .no, .sh (.int e.1), .sh (.int e.2), .no, .no, .no, .no, .no, .no, .no] (enS s) w = .ok (.lst (s.map fun x => .int (((x.1 - e.1).natAbs : Int) * x.2))) w := by
      refine lcD_map (fun x => .int (((x.1 - e.1).natAbs : Int) * x.2)) (lim14 hl) fun x hx => ?_
      have r2 := (h.en x hx).lo
      have r3 := (h.en x hx).hi
      have r4 := (h.en x hx).w1
      have r5 := (h.en x hx).w9
      simp [stepL, calm, enE, bin_mul (a := x.2) (b := ((x.1 - e.1).natAbs : Int)) (small (by omega)) (small (by omega))]
      rw [Int.mul_comm]
    have e3 : (s.map fun x => ((x.1 - e.1).natAbs : Int) * x.2).sum = absAt s e.1 := rfl
    simp [stepL, calm, enE, l2, e3]
  have hm2 : bltD .min1 [.lst (s.map fun e => .int (absAt s e.1))] = some (.int (absAt s (lo s))) := by
    obtain ⟨e, he, q⟩ := lo_mem h
    exact blt_min (f := fun e : En => absAt s e.1) ⟨e, he, by rw [q]⟩ hm
  simp [b__law_piece, mkEnv, l1, hm2, pc, enQ_int]
theorem r_lpieceS {s : List En} (h : SerOk s) : run T0 (n + 2) f__law_piece [kd true, enS s] w = .ok (enQ (pc true s)) w := by
  rw [run_fn (fn := b__law_piece) rfl rfl rfl]
  have hl : s.length ≤ 1000 := by have := h.len; omega
  have b3 := wt_pos h
  have b4 := wt_le h
  have l1 : lcD (run T0 (n + 1)) (.var 4) (.tp [3, 4]) (.bl true) [.sh (kd true), .sh (enS s), .no, .no, .no, .no, .no, .no, .no, .no, .no, .no, .no, .no] (enS s) w = .ok (.lst (s.map fun e => .int e.2)) w := by
    refine lcD_map (fun e => .int e.2) (lim14 hl) fun e he => ?_
    simp [stepL, calm, enE]
  have ew : (s.map fun e => e.2).sum = wt s := rfl
  have inner : ∀ (t : Int) (e : En) (y1 y2 y3 : Option D), EnOk e → ∃ z1 z2 z3, forX (run T0 (n + 1)) (.tp [11, 12]) [.asg 13 (.bin .sub (.var 9) (.var 11)) false [], .asg 8 (.bin .add (.var 8) (.bin .mul (.bin .mul (.bin .mul (.var 10) (.var 12)) (.var 13)) (.var 13))) false []] (s.map enE)
      [.sh (kd true), .sh (enS s), .no, .no, .no, .no, .no, .sh (.int (wt s)), .sh (.int t), .sh (.int e.1), .sh (.int e.2), os y1, os y2, os y3] w
      = .ok (.nx [.sh (kd true), .sh (enS s), .no, .no, .no, .no, .no, .sh (.int (wt s)), .sh (.int (t + e.2 * (e.1 * e.1 * wt s - 2 * e.1 * s1 s + s2 s))), .sh (.int e.1), .sh (.int e.2), os z1, os z2, os z3]) w := by
    intro t e y1 y2 y3 he
    have key := for_enc (call := run T0 (n + 1)) (tg := .tp [11, 12]) (body := [.asg 13 (.bin .sub (.var 9) (.var 11)) false [], .asg 8 (.bin .add (.var 8) (.bin .mul (.bin .mul (.bin .mul (.var 10) (.var 12)) (.var 13)) (.var 13))) false []]) (enc := enE)
      (fun pre ρ w' => w' = w ∧ ∃ y1 y2 y3, ρ = [.sh (kd true), .sh (enS s), .no, .no, .no, .no, .no, .sh (.int (wt s)), .sh (.int (t + e.2 * (e.1 * e.1 * wt pre - 2 * e.1 * s1 pre + s2 pre))), .sh (.int e.1), .sh (.int e.2), os y1, os y2, os y3]) s []
      (ρ := [.sh (kd true), .sh (enS s), .no, .no, .no, .no, .no, .sh (.int (wt s)), .sh (.int t), .sh (.int e.1), .sh (.int e.2), os y1, os y2, os y3]) (w := w) ⟨rfl, y1, y2, y3, by simp [wt, s1, s2]⟩ ?_
    · obtain ⟨ρ', w', ee, rfl, y1, y2, y3, rfl⟩ := key
      exact ⟨y1, y2, y3, ee⟩
    · rintro pre x ρ w' hpre ⟨rfl, y1, y2, y3, rfl⟩
      have hp2 : pre ++ [x] <+: s := by simpa using hpre
      have hx := h.en x (hp2.subset (by simp))
      have r2 := hx.lo
      have r3 := hx.hi
      have r4 := hx.w1
      have r5 := hx.w9
      have q2 := he.lo
      have q3 := he.hi
      have q4 := he.w1
      have q5 := he.w9
      refine ⟨_, _, ?_, rfl, some (.int x.1), some (.int x.2), some (.int (e.1 - x.1)), rfl⟩
      have m1 : binD .mul (.int e.2) (.int x.2) = some (.int (e.2 * x.2)) := bin_mul (small (by omega)) (small (by omega))
      have z1 := mul_bd (a := e.2) (b := x.2) (c := 9) (d := 9) (by omega) (by omega)
      have m2 : binD .mul (.int (e.2 * x.2)) (.int (e.1 - x.1)) = some (.int (e.2 * x.2 * (e.1 - x.1))) := bin_mul (small (by omega)) (small (by omega))
      have z2 := mul_bd (a := e.2 * x.2) (b := e.1 - x.1) (c := 81) (d := 1998) (by omega) (by omega)
      have m3 : binD .mul (.int (e.2 * x.2 * (e.1 - x.1))) (.int (e.1 - x.1)) = some (.int (e.2 * x.2 * (e.1 - x.1) * (e.1 - x.1))) := bin_mul (small (by omega)) (small (by omega))
      obtain ⟨t1, t2, t3⟩ := snoc_s pre x
      have ea : t + e.2 * (e.1 * e.1 * wt (pre ++ [x]) - 2 * e.1 * s1 (pre ++ [x]) + s2 (pre ++ [x])) = t + e.2 * (e.1 * e.1 * wt pre - 2 * e.1 * s1 pre + s2 pre) + e.2 * x.2 * (e.1 - x.1) * (e.1 - x.1) := by
        rw [t1, t2, t3]
        grind
      rw [ea]
      simp [stepF, enE, m1, m2, m3]
  have outer := for_enc (call := run T0 (n + 1)) (tg := .tp [9, 10]) (body := [.for (.tp [11, 12]) (.var 1) [] [.asg 13 (.bin .sub (.var 9) (.var 11)) false [], .asg 8 (.bin .add (.var 8) (.bin .mul (.bin .mul (.bin .mul (.var 10) (.var 12)) (.var 13)) (.var 13))) false []]]) (enc := enE)
      (fun pre ρ w' => w' = w ∧ ∃ y4 y5 y1 y2 y3, ρ = [.sh (kd true), .sh (enS s), .no, .no, .no, .no, .no, .sh (.int (wt s)), .sh (.int (s2 pre * wt s - 2 * s1 pre * s1 s + wt pre * s2 s)), os y4, os y5, os y1, os y2, os y3]) s []
      (ρ := [.sh (kd true), .sh (enS s), .no, .no, .no, .no, .no, .sh (.int (wt s)), .sh (.int 0), .no, .no, .no, .no, .no]) (w := w) ⟨rfl, none, none, none, none, none, by simp [wt, s1, s2]⟩ ?_
  · obtain ⟨ρ', w', ee, rfl, y4, y5, y1, y2, y3, rfl⟩ := outer
    have m4 : binD .mul (.int 2) (.int (wt s)) = some (.int (2 * wt s)) := bin_mul (small (by decide)) (small (by omega))
    have ef : s2 ([] ++ s) * wt s - 2 * s1 ([] ++ s) * s1 s + wt ([] ++ s) * s2 s = 2 * (s2 s * wt s - s1 s * s1 s) := by
      rw [List.nil_append]
      grind
    rw [ef] at ee
    simp [b__law_piece, mkEnv, l1, ew, ee, m4]
    rw [r_low n _ _ (by omega) (small (by omega)), Rat.divInt_mul_left (by decide)]
    simp [pc]
  · rintro pre e ρ w' hpre ⟨rfl, y4, y5, y1, y2, y3, rfl⟩
    have hp2 : pre ++ [e] <+: s := by simpa using hpre
    have he := h.en e (hp2.subset (by simp))
    obtain ⟨z1, z2, z3, ei⟩ := inner (s2 pre * wt s - 2 * s1 pre * s1 s + wt pre * s2 s) e y1 y2 y3 he
    refine ⟨_, _, ?_, rfl, some (.int e.1), some (.int e.2), z1, z2, z3, rfl⟩
    obtain ⟨t1, t2, t3⟩ := snoc_s pre e
    have ea : s2 (pre ++ [e]) * wt s - 2 * s1 (pre ++ [e]) * s1 s + wt (pre ++ [e]) * s2 s = s2 pre * wt s - 2 * s1 pre * s1 s + wt pre * s2 s + e.2 * (e.1 * e.1 * wt s - 2 * e.1 * s1 s + s2 s) := by
      rw [t1, t2, t3]
      grind
    rw [ea]
    simp [stepF, enE, ei]
end
end SF

namespace SF
/-! ### the best levels -/
def wlt (l : List En) (m : Int) : Int := (l.map fun e => if e.1 < m then e.2 else 0).sum
def wle (l : List En) (m : Int) : Int := (l.map fun e => if e.1 ≤ m then e.2 else 0).sum
theorem wlt_cons (e : En) (l : List En) (m : Int) : wlt (e :: l) m = (if e.1 < m then e.2 else 0) + wlt l m := by simp [wlt]
theorem wle_cons (e : En) (l : List En) (m : Int) : wle (e :: l) m = (if e.1 ≤ m then e.2 else 0) + wle l m := by simp [wle]
theorem Fx_cons (sq : Bool) (e : En) (l : List En) (x : Rat) : Fx sq (e :: l) x = dist sq ((e.1 : Rat) - x) * (e.2 : Rat) + Fx sq l x := by simp [Fx]
theorem cast_le {a b : Int} : (a : Rat) ≤ (b : Rat) ↔ a ≤ b := Rat.intCast_le_intCast
theorem cast_lt {a b : Int} : (a : Rat) < (b : Rat) ↔ a < b := Rat.intCast_lt_intCast
theorem mul_mono {a b c : Rat} (hc : 0 ≤ c) (h : a ≤ b) : a * c ≤ b * c := Rat.mul_le_mul_of_nonneg_right h hc
theorem absR_neg {q : Rat} (h : q ≤ 0) : absR q = -q := by unfold absR; grind
theorem absR_pos {q : Rat} (h : 0 ≤ q) : absR q = q := by unfold absR; grind
theorem absR_le {q : Rat} : q ≤ absR q ∧ -q ≤ absR q := by unfold absR; grind
theorem up1 {x m v w L T A B : Rat} (h : (x - m) * (2 * L - T) ≤ A - B) : (x - m) * (2 * (w + L) - (w + T)) ≤ -(v - x) * w + A - (-(v - m) * w + B) := by grind
theorem up2 {x m v w L T A B d : Rat} (h : (x - m) * (2 * L - T) ≤ A - B) (q : (v - x) * w ≤ d * w) : (x - m) * (2 * (0 + L) - (w + T)) ≤ d * w + A - ((v - m) * w + B) := by grind
theorem dn1 {x m v w L T A B d : Rat} (h : (m - x) * (T - 2 * L) ≤ A - B) (q : -(v - x) * w ≤ d * w) : (m - x) * ((w + T) - 2 * (w + L)) ≤ d * w + A - (-(v - m) * w + B) := by grind
theorem dn2 {x m v w L T A B : Rat} (h : (m - x) * (T - 2 * L) ≤ A - B) : (m - x) * ((w + T) - 2 * (0 + L)) ≤ (v - x) * w + A - ((v - m) * w + B) := by grind
theorem up {m : Int} {x : Rat} (hx : (m : Rat) ≤ x) : ∀ l : List En, (∀ e ∈ l, 0 ≤ e.2) → (x - m) * (2 * (wle l m : Rat) - (wt l : Rat)) ≤ Fx false l x - Fx false l m
  | [], _ => by simp [wle, wt, Fx]; grind
  | e :: l, h => by
    have ih := up hx l fun y z => h y (List.mem_cons_of_mem _ z)
    have h0 : (0 : Rat) ≤ (e.2 : Rat) := by rw [← Rat.intCast_zero]; exact cast_le.mpr (h e List.mem_cons_self)
    rw [Fx_cons, Fx_cons, wle_cons, wt_cons, Rat.intCast_add, Rat.intCast_add]
    show _ ≤ absR _ * _ + _ - (absR _ * _ + _)
    by_cases c : e.1 ≤ m
    · have c' : (e.1 : Rat) ≤ (m : Rat) := cast_le.mpr c
      rw [if_pos c, absR_neg (q := (e.1 : Rat) - x) (by grind), absR_neg (q := (e.1 : Rat) - m) (by grind)]
      exact up1 ih
    · have c' : (m : Rat) < (e.1 : Rat) := cast_lt.mpr (by omega)
      rw [if_neg c, Rat.intCast_zero, absR_pos (q := (e.1 : Rat) - m) (by grind)]
      exact up2 ih (mul_mono h0 absR_le.1)
theorem down {m : Int} {x : Rat} (hx : x ≤ (m : Rat)) : ∀ l : List En, (∀ e ∈ l, 0 ≤ e.2) → ((m : Rat) - x) * ((wt l : Rat) - 2 * (wlt l m : Rat)) ≤ Fx false l x - Fx false l m
  | [], _ => by simp [wlt, wt, Fx]; grind
  | e :: l, h => by
    have ih := down hx l fun y z => h y (List.mem_cons_of_mem _ z)
    have h0 : (0 : Rat) ≤ (e.2 : Rat) := by rw [← Rat.intCast_zero]; exact cast_le.mpr (h e List.mem_cons_self)
    rw [Fx_cons, Fx_cons, wlt_cons, wt_cons, Rat.intCast_add, Rat.intCast_add]
    show _ ≤ absR _ * _ + _ - (absR _ * _ + _)
    by_cases c : e.1 < m
    · have c' : (e.1 : Rat) < (m : Rat) := cast_lt.mpr c
      rw [if_pos c, absR_neg (q := (e.1 : Rat) - m) (by grind)]
      exact dn1 ih (mul_mono h0 absR_le.2)
    · have c' : (m : Rat) ≤ (e.1 : Rat) := cast_le.mpr (by omega)
      rw [if_neg c, Rat.intCast_zero, absR_pos (q := (e.1 : Rat) - x) (by grind), absR_pos (q := (e.1 : Rat) - m) (by grind)]
      exact dn2 ih
theorem md1 {a b : Rat} (v : Rat) : 2 * absR (v - (a + b) / 2) ≤ absR (v - a) + absR (v - b) := by
  have h1 := absR_le (q := v - a)
  have h2 := absR_le (q := v - b)
  rcases Rat.le_total (a := 0) (b := v - (a + b) / 2) with h | h
  · rw [absR_pos h]
    grind
  · rw [absR_neg h]
    grind
theorem md2 {p q r w A B C : Rat} (h : 2 * A ≤ B + C) (k : (2 * p) * w ≤ (q + r) * w) : 2 * (p * w + A) ≤ q * w + B + (r * w + C) := by grind
theorem mid {a b : Rat} : ∀ l : List En, (∀ e ∈ l, 0 ≤ e.2) → 2 * Fx false l ((a + b) / 2) ≤ Fx false l a + Fx false l b
  | [], _ => by simp [Fx]; grind
  | e :: l, h => by
    have ih := mid (a := a) (b := b) l fun y z => h y (List.mem_cons_of_mem _ z)
    have h0 : (0 : Rat) ≤ (e.2 : Rat) := by rw [← Rat.intCast_zero]; exact cast_le.mpr (h e List.mem_cons_self)
    rw [Fx_cons, Fx_cons, Fx_cons]
    exact md2 ih (mul_mono h0 (md1 _))
theorem wlt_perm {l m : List En} (h : l.Perm m) (x : Int) : wlt l x = wlt m x := sum_perm (h.map _)
theorem wle_perm {l m : List En} (h : l.Perm m) (x : Int) : wle l x = wle m x := sum_perm (h.map _)
theorem wlt_append (l k : List En) (m : Int) : wlt (l ++ k) m = wlt l m + wlt k m := by simp [wlt, List.map_append, List.sum_append]
theorem wle_append (l k : List En) (m : Int) : wle (l ++ k) m = wle l m + wle k m := by simp [wle, List.map_append, List.sum_append]
theorem wlt_le {m : Int} : ∀ {l : List En}, (∀ e ∈ l, 0 ≤ e.2) → 0 ≤ wlt l m ∧ wlt l m ≤ wt l
  | [], _ => by simp [wlt, wt]
  | e :: l, h => by
    have ih := wlt_le (m := m) (l := l) fun y z => h y (List.mem_cons_of_mem _ z)
    have h0 := h e List.mem_cons_self
    rw [wlt_cons, wt_cons]
    split <;> omega
theorem wle_nn {m : Int} : ∀ {l : List En}, (∀ e ∈ l, 0 ≤ e.2) → 0 ≤ wle l m
  | [], _ => by simp [wle]
  | e :: l, h => by
    have ih := wle_nn (m := m) (l := l) fun y z => h y (List.mem_cons_of_mem _ z)
    have h0 := h e List.mem_cons_self
    rw [wle_cons]
    split <;> omega
theorem wlt_zero {m : Int} : ∀ {l : List En}, (∀ e ∈ l, m ≤ e.1) → wlt l m = 0
  | [], _ => rfl
  | e :: l, h => by
    rw [wlt_cons, if_neg (by have := h e List.mem_cons_self; omega), wlt_zero fun y z => h y (List.mem_cons_of_mem _ z)]
    rfl
theorem wle_all {m : Int} : ∀ {l : List En}, (∀ e ∈ l, e.1 ≤ m) → wle l m = wt l
  | [], _ => rfl
  | e :: l, h => by
    rw [wle_cons, wt_cons, if_pos (h e List.mem_cons_self), wle_all fun y z => h y (List.mem_cons_of_mem _ z)]
theorem wle_wlt {a b : Int} (hab : a < b) : ∀ {l : List En}, (∀ e ∈ l, 0 ≤ e.2) → wle l a ≤ wlt l b
  | [], _ => by simp [wle, wlt]
  | e :: l, h => by
    have ih := wle_wlt hab (l := l) fun y z => h y (List.mem_cons_of_mem _ z)
    have h0 := h e List.mem_cons_self
    rw [wle_cons, wlt_cons]
    split <;> split <;> omega
theorem half {s pre suf : List En} {e : En} (hp : ∀ e ∈ s, 0 ≤ e.2) (h : sortP s = pre ++ e :: suf) : wlt s e.1 ≤ wt pre ∧ wt pre + e.2 ≤ wle s e.1 := by
  have hs := sortP_srt s
  have pm := sortP_perm s
  rw [h] at hs pm
  have hp' : ∀ x ∈ pre ++ e :: suf, 0 ≤ x.2 := fun x z => hp x (pm.mem_iff.mp z)
  rw [← wlt_perm pm, ← wle_perm pm, wlt_append, wle_append, wlt_cons, wle_cons]
  have o := List.pairwise_append.mp hs
  have o2 := List.pairwise_cons.mp o.2.1
  have z1 : wlt suf e.1 = 0 := wlt_zero fun x hx => o2.1 x hx
  have z2 : wle pre e.1 = wt pre := wle_all fun x hx => o.2.2 x hx e List.mem_cons_self
  have z3 := (wlt_le (m := e.1) (l := pre) fun x hx => hp' x (List.mem_append_left _ hx)).2
  have z4 := wle_nn (m := e.1) (l := suf) fun x hx => hp' x (List.mem_append_right _ (List.mem_cons_of_mem _ hx))
  rw [if_neg (by omega), if_pos (by omega)]
  omega
theorem SerOk.nn {s : List En} (h : SerOk s) : ∀ e ∈ s, 0 ≤ e.2 := fun e z => by have := (h.en e z).w1; omega
theorem lo_half {s : List En} (h : SerOk s) : 2 * wlt s (lo s) < wt s ∧ wt s ≤ 2 * wle s (lo s) := by
  obtain ⟨pre, e, suf, h1, h2, h3, h4⟩ := lo_spec h
  have := half h.nn h1
  rw [h2]
  omega
theorem hi_half {s : List En} (h : SerOk s) : 2 * wlt s (hi s) ≤ wt s ∧ wt s < 2 * wle s (hi s) := by
  obtain ⟨pre, e, suf, h1, h2, h3, h4⟩ := hi_spec h
  have := half h.nn h1
  rw [h2]
  omega
theorem lo_le_hi {s : List En} (h : SerOk s) : lo s ≤ hi s := by
  refine Decidable.byContradiction fun z => ?_
  have := wle_wlt (a := hi s) (b := lo s) (by omega) h.nn
  have := lo_half h
  have := hi_half h
  omega
theorem mul_nn {a b : Rat} (ha : 0 ≤ a) (hb : 0 ≤ b) : 0 ≤ a * b := Rat.mul_nonneg ha hb
theorem mul_pp {a b : Rat} (ha : 0 < a) (hb : 0 < b) : 0 < a * b := Rat.mul_pos ha hb
theorem c_nn {a : Int} (h : 0 ≤ a) : (0 : Rat) ≤ (a : Rat) := by rw [← Rat.intCast_zero]; exact cast_le.mpr h
theorem c_pp {a : Int} (h : 0 < a) : (0 : Rat) < (a : Rat) := by rw [← Rat.intCast_zero]; exact cast_lt.mpr h
theorem F_lo_up {s : List En} (h : SerOk s) {x : Rat} (hx : (lo s : Rat) ≤ x) : Fx false s (lo s) ≤ Fx false s x := by
  have q := up hx s h.nn
  have z : (0 : Rat) ≤ 2 * (wle s (lo s) : Rat) - (wt s : Rat) := by
    have := c_nn (a := 2 * wle s (lo s) - wt s) (by have := lo_half h; omega)
    rw [Rat.intCast_sub, Rat.intCast_mul] at this
    exact this
  have := mul_nn (a := x - lo s) (by grind) z
  grind
theorem F_lo_down {s : List En} (h : SerOk s) {x : Rat} (hx : x < (lo s : Rat)) : Fx false s (lo s) < Fx false s x := by
  have q := down (Rat.le_of_lt hx) s h.nn
  have z : (0 : Rat) < (wt s : Rat) - 2 * (wlt s (lo s) : Rat) := by
    have := c_pp (a := wt s - 2 * wlt s (lo s)) (by have := lo_half h; omega)
    rw [Rat.intCast_sub, Rat.intCast_mul] at this
    exact this
  have := mul_pp (a := lo s - x) (by grind) z
  grind
theorem F_hi_up {s : List En} (h : SerOk s) {x : Rat} (hx : (hi s : Rat) < x) : Fx false s (hi s) < Fx false s x := by
  have q := up (Rat.le_of_lt hx) s h.nn
  have z : (0 : Rat) < 2 * (wle s (hi s) : Rat) - (wt s : Rat) := by
    have := c_pp (a := 2 * wle s (hi s) - wt s) (by have := hi_half h; omega)
    rw [Rat.intCast_sub, Rat.intCast_mul] at this
    exact this
  have := mul_pp (a := x - hi s) (by grind) z
  grind
theorem F_hi_down {s : List En} (h : SerOk s) {x : Rat} (hx : x ≤ (hi s : Rat)) : Fx false s (hi s) ≤ Fx false s x := by
  have q := down hx s h.nn
  have z : (0 : Rat) ≤ (wt s : Rat) - 2 * (wlt s (hi s) : Rat) := by
    have := c_nn (a := wt s - 2 * wlt s (hi s)) (by have := hi_half h; omega)
    rw [Rat.intCast_sub, Rat.intCast_mul] at this
    exact this
  have := mul_nn (a := hi s - x) (by grind) z
  grind
end SF

namespace SF
structure Best (sq : Bool) (s : List En) (a b : Rat) : Prop where
  le : a ≤ b
  low : Fx sq s a = pc sq s
  high : Fx sq s b = pc sq s
  mid : Fx sq s ((a + b) / 2) = pc sq s
  min : ∀ x, pc sq s ≤ Fx sq s x
  lt : ∀ x, x < a → pc sq s < Fx sq s x
  gt : ∀ x, b < x → pc sq s < Fx sq s x
theorem abs_cast (i : Int) : absR (i : Rat) = ((i.natAbs : Int) : Rat) := by
  rcases Int.le_total 0 i with h | h
  · rw [absR_pos (c_nn h)]
    congr 1
    omega
  · have : (i : Rat) ≤ 0 := by rw [← Rat.intCast_zero]; exact cast_le.mpr h
    rw [absR_neg this, ← Rat.intCast_neg]
    congr 1
    omega
theorem Fx_int (i : Int) : ∀ s : List En, Fx false s (i : Rat) = ((absAt s i : Int) : Rat)
  | [] => by simp [Fx, absAt]
  | e :: s => by
    have h : absAt (e :: s) i = ((e.1 - i).natAbs : Int) * e.2 + absAt s i := by simp [absAt]
    rw [Fx_cons, Fx_int i s, h, Rat.intCast_add, Rat.intCast_mul, ← abs_cast, Rat.intCast_sub]
    rfl
theorem best_abs {s : List En} (h : SerOk s) : Best false s (lo s) (hi s) := by
  have e : pc false s = Fx false s (lo s) := (Fx_int (lo s) s).symm
  have l : (lo s : Rat) ≤ hi s := cast_le.mpr (lo_le_hi h)
  have e2 : Fx false s (lo s) = Fx false s (hi s) := Rat.le_antisymm (F_lo_up h l) (F_hi_down h l)
  have mn : ∀ x, Fx false s (lo s) ≤ Fx false s x := fun x => by
    rcases Rat.le_total (a := (lo s : Rat)) (b := x) with z | z
    · exact F_lo_up h z
    · have := F_hi_down h (Rat.le_trans z l)
      rw [e2]
      exact this
  refine ⟨l, e.symm, by rw [e, e2], ?_, fun x => by rw [e]; exact mn x, fun x z => by rw [e]; exact F_lo_down h z, fun x z => by rw [e, e2]; exact F_hi_up h z⟩
  have := SF.mid (a := lo s) (b := hi s) s h.nn
  have := mn (((lo s : Rat) + hi s) / 2)
  rw [e]
  rw [← e2] at *
  exact Rat.le_antisymm (by grind) (by grind)
theorem Fx_sq (x : Rat) : ∀ s : List En, Fx true s x = (s2 s : Rat) - 2 * x * (s1 s : Rat) + x * x * (wt s : Rat)
  | [] => by simp [Fx, s2, s1, wt]; grind
  | e :: s => by
    rw [Fx_cons, Fx_sq x s, (cons_s e s).1, (cons_s e s).2, wt_cons]
    simp only [Rat.intCast_add, Rat.intCast_mul, dist, if_true]
    grind
theorem sq_id {a b c x : Rat} (hc : c ≠ 0) : a - 2 * x * b + x * x * c = (a * c - b * b) / c + c * ((x - b / c) * (x - b / c)) := by grind
theorem sq_nn (a : Rat) : 0 ≤ a * a := by
  rcases Rat.le_total (a := 0) (b := a) with h | h
  · exact mul_nn h h
  · have := mul_nn (a := -a) (b := -a) (by grind) (by grind)
    grind
theorem sq_pp {a : Rat} (h : a ≠ 0) : 0 < a * a := by
  rcases Rat.le_total (a := 0) (b := a) with z | z
  · exact mul_pp (by grind) (by grind)
  · have := mul_pp (a := -a) (b := -a) (by grind) (by grind)
    grind
theorem best_sq {s : List En} (h : SerOk s) : Best true s (Rat.divInt (s1 s) (wt s)) (Rat.divInt (s1 s) (wt s)) := by
  have hw := c_pp (wt_pos h)
  have hw0 : (wt s : Rat) ≠ 0 := by grind
  have key : ∀ x, Fx true s x = pc true s + (wt s : Rat) * ((x - Rat.divInt (s1 s) (wt s)) * (x - Rat.divInt (s1 s) (wt s))) := fun x => by
    rw [Fx_sq, sq_id hw0]
    simp only [pc, if_true, Rat.divInt_eq_div, Rat.intCast_sub, Rat.intCast_mul]
  generalize Rat.divInt (s1 s) (wt s) = m at *
  have e : Fx true s m = pc true s := by rw [key]; grind
  refine ⟨Rat.le_refl, e, e, ?_, fun x => ?_, fun x z => ?_, fun x z => ?_⟩
  · rw [show (m + m) / 2 = m by grind, e]
  · rw [key x]
    have := mul_nn (Rat.le_of_lt hw) (sq_nn (x - m))
    grind
  · rw [key x]
    have := mul_pp hw (sq_pp (a := x - m) (by grind))
    grind
  · rw [key x]
    have := mul_pp hw (sq_pp (a := x - m) (by grind))
    grind
/-- the best levels -/
def levL (sq : Bool) (s : List En) : Rat := if sq then Rat.divInt (s1 s) (wt s) else (lo s : Rat)
def levH (sq : Bool) (s : List En) : Rat := if sq then Rat.divInt (s1 s) (wt s) else (hi s : Rat)
theorem best (sq : Bool) {s : List En} (h : SerOk s) : Best sq s (levL sq s) (levH sq s) := by
  cases sq
  · exact best_abs h
  · exact best_sq h
theorem lev_sm (sq : Bool) {s : List En} (h : SerOk s) : Sm 17 (levL sq s) ∧ Sm 17 (levH sq s) := by
  have b1 := s1_bd h
  have b3 := wt_pos h
  have b4 := wt_le h
  have b5 := lo_bd h
  have b6 := hi_bd h
  cases sq
  · exact ⟨Sm_int (by decide) (si_of (by omega)), Sm_int (by decide) (si_of (by omega))⟩
  · exact ⟨Sm.div b3 (si_of (by omega)) (si_of (by omega)), Sm.div b3 (si_of (by omega)) (si_of (by omega))⟩
section
variable {n : Nat} {w : W}
theorem r_best (sq : Bool) {s : List En} (h : SerOk s) : run T0 (n + 5) f_best_levels [kd sq, enS s] w = .ok (.tup [enQ (levL sq s), enQ (levH sq s)]) w := by
  rw [r_best_levels sq h]
  cases sq
  · simp [levL, levH, enQ_int, fr]
  · simp [levL, levH]
theorem r_lpiece (sq : Bool) {s : List En} (h : SerOk s) : run T0 (n + 2) f__law_piece [kd sq, enS s] w = .ok (enQ (pc sq s)) w := by
  cases sq
  · refine r_lpieceA h fun e he => ?_
    have := (best_abs h).min (e.1 : Rat)
    rw [Fx_int] at this
    exact cast_le.mp this
  · exact r_lpieceS h
theorem r_atQ (sq : Bool) {s : List En} (h : SerOk s) {q : Rat} (hl : Sm 40 q) : run T0 (n + 3) f__law_at [kd sq, enS s, enQ q] w = .ok (enQ (Fx sq s q)) w := by
  have := r_at (n := n) (w := w) sq h hl.fr
  rw [dv] at this
  exact this
theorem r_laddQ (n : Nat) {a b : Rat} (ha : Sm 1900 a) (hb : Sm 1900 b) : run T0 (n + 2) f__law_add [enQ a, enQ b] w = .ok (enQ (a + b)) w := by
  have := r_ladd n ha.fr hb.fr w
  rw [dv, dv] at this
  exact this
theorem r_lbelowQ (n : Nat) {a b : Rat} (ha : Sm 1900 a) (hb : Sm 1900 b) : run T0 (n + 1) f__law_below [enQ a, enQ b] w = .ok (.bl (decide (a < b))) w := by
  have := r_lbelow n ha.fr hb.fr w
  rw [dv, dv] at this
  exact this
end
end SF

namespace SF
/-! ### more rules of evaluation -/
section
variable {call : Nat → List D → W → R D} {ρ : Env} {w : W}
@[simp] theorem ev_dnil (t : Bool) : ev call (.dnil t) ρ w = .ok (if t then .dT [] else .dK []) w := by rw [ev]
@[simp] theorem ev_done (t : Bool) (k v : E) : ev call (.done t k v) ρ w = (ev call k ρ w).bind fun x w => (ev call v ρ w).bind fun y w => opt (doneD t x y) w := by rw [ev]
def enmTD (x : D) (w : W) : R D := match x with
  | .tup xs => .ok (.lst (enumL 0 xs)) w
  | _ => .bad
@[simp] theorem enmTD_tup (xs : List D) : enmTD (.tup xs) w = .ok (.lst (enumL 0 xs)) w := rfl
@[simp] theorem ev_enmT (a : E) : ev call (.enmT a) ρ w = (ev call a ρ w).bind enmTD := by rw [ev]; rfl
@[simp] theorem ev_keys (a : E) : ev call (.keys a) ρ w = (ev call a ρ w).bind fun x w => opt ((keysD x).map .lst) w := by rw [ev]
@[simp] theorem ev_chars (a : E) : ev call (.chars a) ρ w = (ev call a ρ w).bind fun x w => opt ((charsD x).map .lst) w := by rw [ev]
@[simp] theorem ev_rev (a : E) : ev call (.rev a) ρ w = (ev call a ρ w).bind fun x w => opt (revD x) w := by rw [ev]
@[simp] theorem ev_get (a k d : E) : ev call (.get a k d) ρ w = (ev call a ρ w).bind fun x w => if isDK x then (ev call k ρ w).bind fun y w => (ev call d ρ w).bind fun z w => opt (getDf x y z) w else .bad := by rw [ev]
@[simp] theorem ev_cnt (a x : E) : ev call (.cnt a x) ρ w = (ev call a ρ w).bind fun y w => if isLst y then (ev call x ρ w).bind fun z w => opt (cntD y z) w else .bad := by rw [ev]
@[simp] theorem ev_ixo (a x : E) : ev call (.ixo a x) ρ w = (ev call a ρ w).bind fun y w => if isLst y then (ev call x ρ w).bind fun z w => opt (ixoD y z) w else .bad := by rw [ev]
@[simp] theorem ev_join (a x : E) : ev call (.join a x) ρ w = (ev call a ρ w).bind fun y w => if isStr y then (ev call x ρ w).bind fun z w => opt (joinD y z) w else .bad := by rw [ev]
@[simp] theorem ev_split (a x : E) : ev call (.split a x) ρ w = (ev call a ρ w).bind fun y w => if isStr y then (ev call x ρ w).bind fun z w => opt (splitD y z) w else .bad := by rw [ev]
@[simp] theorem ev_fmt (a : E) (s : List Nat) (b : E) : ev call (.fmt a s b) ρ w = (ev call a ρ w).bind fun x w => (opt (fmtD x) w).bind fun p w => (ev call b ρ w).bind fun y w => (opt (fmtD y) w).bind fun q w => .ok (.str (p ++ (s ++ q))) w := by rw [ev]
@[simp] theorem isLst_lst (xs : List D) : isLst (.lst xs) = true := rfl
@[simp] theorem isDK_dK (xs : List (Int × D)) : isDK (.dK xs) = true := rfl
@[simp] theorem isStr_str (xs : List Nat) : isStr (.str xs) = true := rfl
def extS (i : Nat) (o : Option (List D)) (ρ : Env) (r : R D) : R Fl := match o with
  | some xs => r.st ρ fun y w => match y with
    | .lst ys => if flats ys && decide (xs.length + ys.length ≤ LIM) then .ok (.nx (ρ.set i (.ow (.lst (xs ++ ys))))) w else .bad
    | _ => .bad
  | none => .bad
theorem extS_ok (i : Nat) (xs ys : List D) (h1 : flats ys = true) (h2 : xs.length + ys.length ≤ LIM) : extS i (some xs) ρ (.ok (.lst ys) w) = .ok (.nx (ρ.set i (.ow (.lst (xs ++ ys))))) w := by
  simp [extS, h1, h2]
@[simp] theorem ex_ext (i : Nat) (e : E) : ex call (.ext i e) ρ w = extS i (ownList ρ i) ρ (ev call e ρ w) := by
  rw [ex]; unfold extS; cases ownList ρ i <;> rfl
def setS (i : Nat) (o : Option Slot) (ρ : Env) (r : R D) (kk : W → R D) : R Fl := match o with
  | some (.ow c) => r.st ρ fun y w => (kk w).st ρ fun z w => if flat y then (opt (setD c z y) w).st ρ fun c' w => .ok (.nx (ρ.set i (.ow c'))) w else .bad
  | _ => .bad
@[simp] theorem setS_ow (i : Nat) (c y : D) (kk : W → R D) : setS i (some (.ow c)) ρ (.ok y w) kk = (kk w).st ρ fun z w => if flat y = true then (opt (setD c z y) w).st ρ fun c' w => .ok (.nx (ρ.set i (.ow c'))) w else .bad := rfl
@[simp] theorem ex_set (i : Nat) (k e : E) : ex call (.set i k e) ρ w = setS i ρ[i]? ρ (ev call e ρ w) (fun w => ev call k ρ w) := by
  rw [ex]; rfl
def remS (i : Nat) (o : Option (List D)) (ρ : Env) (r : R D) : R Fl := match o with
  | some xs => r.st ρ fun y w => if plain y && plains xs then (opt (eraseFirst y xs) w).st ρ fun ys w => .ok (.nx (ρ.set i (.ow (.lst ys)))) w else .bad
  | none => .bad
@[simp] theorem ex_rem (i : Nat) (e : E) : ex call (.rem i e) ρ w = remS i (ownList ρ i) ρ (ev call e ρ w) := by
  rw [ex]; unfold remS; cases ownList ρ i <;> rfl
@[simp] theorem ex_parE (i j : Nat) (hd : List Nat) : ex call (.parE i j hd) ρ w = .ok (.nx (((freezeAt hd 0 ρ).set i (.ow (.lst []))).set j (.sh (.lst [])))) w := by rw [ex]
@[simp] theorem ownList_0 (xs : List D) (ρ : List Slot) : ownList (.ow (.lst xs) :: ρ) 0 = some xs := rfl
@[simp] theorem ownList_succ (s : Slot) (ρ : List Slot) (i : Nat) : ownList (s :: ρ) (i + 1) = ownList ρ i := by simp [ownList]
@[simp] theorem cm_inT (kvs : List (List Int × D)) (a b : Int) : cmD .isin (.tup [.int a, .int b]) (.dT kvs) w = .ok (.bl (valT kvs [a, b]).isSome) w := rfl
@[simp] theorem cm_notinT (kvs : List (List Int × D)) (a b : Int) : cmD .notin (.tup [.int a, .int b]) (.dT kvs) w = .ok (.bl (!(valT kvs [a, b]).isSome)) w := rfl
@[simp] theorem idx_dT (kvs : List (List Int × D)) (a b : Int) : idxD (.dT kvs) (.tup [.int a, .int b]) = valT kvs [a, b] := rfl
@[simp] theorem idx_dK (kvs : List (Int × D)) (a : Int) : idxD (.dK kvs) (.int a) = valK kvs a := rfl
end
/-! ### tables by pairs of numbers -/
def tab (ks : List (Nat × Nat)) (f : Nat → Nat → D) : List (List Int × D) := ks.map fun k => ([(k.1 : Int), (k.2 : Int)], f k.1 k.2)
theorem valT_tab (f : Nat → Nat → D) {x y : Int} {a b : Nat} (hx : x = (a : Int)) (hy : y = (b : Int)) : ∀ ks : List (Nat × Nat), valT (tab ks f) [x, y] = if (a, b) ∈ ks then some (f a b) else none
  | [] => rfl
  | (c, d) :: ks => by
    subst hx hy
    have ih := valT_tab f (x := (a : Int)) (y := (b : Int)) rfl rfl ks
    unfold valT tab at ih ⊢
    rw [List.map_cons, List.find?_cons]
    by_cases h : (c, d) = (a, b)
    · cases h
      simp
    · have h2 : ¬ ([(c : Int), (d : Int)] = [(a : Int), (b : Int)]) := fun z => h (by simp at z; rw [show c = a by omega, show d = b by omega])
      have h3 : ¬ (a, b) = (c, d) := fun z => h z.symm
      simp only [h2, decide_false]
      rw [ih]
      simp only [List.mem_cons, h3, false_or]
theorem putT_tab (f : Nat → Nat → D) {ks : List (Nat × Nat)} {a b : Nat} {v : D} (h : (a, b) ∉ ks) (hv : v = f a b) : putT (tab ks f) [(a : Int), (b : Int)] v = tab (ks ++ [(a, b)]) f := by
  have e : ((tab ks f).any fun kv => decide (kv.1 = [(a : Int), (b : Int)])) = false := by
    rw [List.any_eq_false]
    intro x hx
    obtain ⟨⟨c, d⟩, h1, rfl⟩ := List.mem_map.mp hx
    simp
    intro z1 z2
    rw [show c = a by omega, show d = b by omega] at h1
    exact h h1
  unfold putT
  rw [e, if_neg (by simp), hv]
  simp [tab]
theorem tab_congr {f g : Nat → Nat → D} {ks : List (Nat × Nat)} (h : ∀ a b, (a, b) ∈ ks → f a b = g a b) : tab ks f = tab ks g := by
  unfold tab
  exact List.map_congr_left fun x hx => by rw [h x.1 x.2 hx]
theorem tab_flats (f : Nat → Nat → D) (hf : ∀ a b, flat (f a b) = true) : ∀ ks : List (Nat × Nat), flats ((tab ks f).map (·.2)) = true
  | [] => rfl
  | k :: ks => by
    show (flat (f k.1 k.2) && flats ((tab ks f).map (·.2))) = true
    rw [hf, tab_flats f hf ks]
    rfl
/-! ### the least of some -/
def minQ : Rat → List Rat → Rat
  | m, [] => m
  | m, x :: xs => minQ (if x < m then x else m) xs
def least : List Rat → Rat
  | [] => 0
  | x :: xs => minQ x xs
theorem minQ_le : ∀ (l : List Rat) (a : Rat), minQ a l ≤ a ∧ ∀ x ∈ l, minQ a l ≤ x
  | [], a => ⟨Rat.le_refl, by simp⟩
  | y :: l, a => by
    have h := minQ_le l (if y < a then y else a)
    rw [minQ]
    have h1 := h.1
    refine ⟨?_, ?_⟩
    · split at h1 <;> grind
    · intro x hx
      rcases List.mem_cons.mp hx with rfl | hx
      · split at h1 <;> grind
      · exact h.2 x hx
theorem minQ_mem : ∀ (l : List Rat) (a : Rat), minQ a l ∈ a :: l
  | [], a => by simp [minQ]
  | y :: l, a => by
    rw [minQ]
    have h := minQ_mem l (if y < a then y else a)
    rcases List.mem_cons.mp h with h | h
    · rw [h]
      split <;> simp
    · exact List.mem_cons_of_mem _ (List.mem_cons_of_mem _ h)
theorem least_mem {l : List Rat} (h : l ≠ []) : least l ∈ l := by
  cases l with
  | nil => exact absurd rfl h
  | cons x xs => exact minQ_mem xs x
theorem least_le {l : List Rat} {x : Rat} (h : x ∈ l) : least l ≤ x := by
  cases l with
  | nil => cases h
  | cons y ys =>
    rcases List.mem_cons.mp h with rfl | h
    · exact (minQ_le ys _).1
    · exact (minQ_le ys y).2 x h
theorem least_eq {l : List Rat} {m : Rat} (h1 : m ∈ l) (h2 : ∀ x ∈ l, m ≤ x) : least l = m :=
  Rat.le_antisymm (least_le h1) (h2 _ (least_mem (List.ne_nil_of_mem h1)))
theorem minQ_append (a : Rat) : ∀ (l m : List Rat), minQ a (l ++ m) = minQ (minQ a l) m
  | [], m => rfl
  | x :: l, m => by rw [List.cons_append, minQ, minQ_append _ l m]; rfl
/-! ### fractions -/
theorem Sm.of_mem {k : Nat} {l : List Rat} (h : ∀ q ∈ l, Sm k q) (hl : l ≠ []) : Sm k (least l) := h _ (least_mem hl)
theorem minQ_sm {k : Nat} {a : Rat} {l : List Rat} (ha : Sm k a) (h : ∀ q ∈ l, Sm k q) : Sm k (minQ a l) := by
  rcases List.mem_cons.mp (minQ_mem l a) with z | z
  · rw [z]; exact ha
  · exact h _ z
section
variable {w : W}
theorem r_less (n : Nat) {a b : Rat} (ha : Sm 3990 a) (hb : Sm 3990 b) : run T0 (n + 1) f_less [enQ a, enQ b] w = .ok (.bl (decide (a < b))) w := by
  rw [run_fn (fn := b_less) rfl rfl rfl]
  simp [b_less, mkEnv, bin_mul (ha.n.big (by decide)) (hb.d.big (by decide)), bin_mul (hb.n.big (by decide)) (ha.d.big (by decide))]
  rw [lt_frac (den_pos a) (den_pos b), dv, dv]
theorem r_lbel (n : Nat) {a b : Rat} (ha : Sm 3990 a) (hb : Sm 3990 b) : run T0 (n + 1) f__law_below [enQ a, enQ b] w = .ok (.bl (decide (a < b))) w := by
  rw [run_fn (fn := b__law_below) rfl rfl rfl]
  simp [b__law_below, mkEnv, bin_mul (ha.n.big (by decide)) (hb.d.big (by decide)), bin_mul (hb.n.big (by decide)) (ha.d.big (by decide))]
  rw [lt_frac (den_pos a) (den_pos b), dv, dv]
theorem r_times (n : Nat) {a : Rat} {c : Int} (ha : Sm 3990 a) (hc : Si 3990 c) : run T0 (n + 3) f_times [enQ a, .int c] w = .ok (enQ (a * (c : Rat))) w := by
  rw [run_fn (fn := b_times) rfl rfl rfl]
  simp [b_times, mkEnv, bin_mul (ha.n.big (by decide)) (hc.big (by decide))]
  rw [r_lowest _ _ _ (den_pos a) (ha.d.big (by decide)), scale_frac (den_pos a), dv]
  rfl
theorem r_minus (n : Nat) {a b : Rat} (ha : Sm 1900 a) (hb : Sm 1900 b) : run T0 (n + 4) f_minus [enQ a, enQ b] w = .ok (enQ (a - b)) w := by
  rw [run_fn (fn := b_minus) rfl rfl rfl]
  have h := r_plusF n ha.fr (⟨hb.fr.p, hb.n.neg, hb.d⟩ : Frc 1900 (-b.num) b.den) w
  rw [← Rat.neg_divInt, dv, dv, ← Rat.sub_eq_add_neg] at h
  have h' : run T0 (n + 3) f_plus [enQ a, .tup [.int (-b.num), .int b.den]] w = .ok (enQ (a - b)) w := h
  simp [b_minus, mkEnv, h']
theorem r_over (n : Nat) {a : Rat} {c : Int} (ha : Sm 1900 a) (h0 : 0 < c) (hc : Si 1900 c) : run T0 (n + 3) f_over [enQ a, .int c] w = .ok (enQ (a / (c : Rat))) w := by
  rw [run_fn (fn := b_over) rfl rfl rfl]
  simp [b_over, mkEnv, bin_mul (ha.d.big (by decide)) (hc.big (by decide))]
  rw [r_lowest _ _ _ (Int.mul_pos (den_pos a) h0) ((ha.d.mul hc).big (by decide))]
  have hc' : (c : Rat) ≠ 0 := by have := c_pp h0; grind
  have hd' : ((a.den : Int) : Rat) ≠ 0 := by have := c_pp (den_pos a); grind
  have : Rat.divInt a.num (a.den * c) = a / c := by
    rw [Rat.divInt_eq_div, Rat.intCast_mul]
    conv => rhs; rw [← dv a, Rat.divInt_eq_div]
    grind
  rw [this]
  rfl
theorem Sm.over {k j : Nat} {a : Rat} {c : Int} (ha : Sm k a) (h0 : 0 < c) (hc : Si j c) : Sm (k + j) (a / (c : Rat)) := by
  have hc' : (c : Rat) ≠ 0 := by have := c_pp h0; grind
  have hd' : ((a.den : Int) : Rat) ≠ 0 := by have := c_pp (den_pos a); grind
  have : Rat.divInt a.num (a.den * c) = a / c := by
    rw [Rat.divInt_eq_div, Rat.intCast_mul]
    conv => rhs; rw [← dv a, Rat.divInt_eq_div]
    grind
  rw [← this]
  exact Sm.div (Int.mul_pos (den_pos a) h0) (ha.n.mono (by omega)) (ha.d.mul hc)
theorem cut_1 {α : Type} (x : α) (xs : List α) : cutL (x :: xs) (some 1) none = xs := by
  simp [cutL, sIx]
theorem slc_tail (x : D) (xs : List D) : slcO (.lst (x :: xs)) (some 1) none = some (.lst xs) := by
  show some (D.lst (cutL (x :: xs) (some 1) none)) = _
  rw [cut_1]
theorem idx_l0 (x : D) (xs : List D) : idxD (.lst (x :: xs)) (.int 0) = some x := by
  simp [idxD, atI, ixN]
theorem r_smallest (n : Nat) {l : List Rat} (hl : l ≠ []) (h : ∀ q ∈ l, Sm 3990 q) : run T0 (n + 2) f_smallest [.lst (l.map enQ)] w = .ok (enQ (least l)) w := by
  cases l with
  | nil => exact absurd rfl hl
  | cons x xs =>
    have hx := h x List.mem_cons_self
    have hxs : ∀ q ∈ xs, Sm 3990 q := fun q z => h q (List.mem_cons_of_mem _ z)
    rw [run_fn (fn := b_smallest) rfl rfl rfl]
    have key := for_enc (call := run T0 (n + 1)) (tg := .nm 2) (body := x_smallest_1) (enc := enQ)
      (fun pre ρ w' => w' = w ∧ ∃ y, ρ = [.sh (.lst (enQ x :: xs.map enQ)), .sh (enQ (minQ x pre)), os y]) xs [] (ρ := [.sh (.lst (enQ x :: xs.map enQ)), .sh (enQ x), .no]) (w := w)
      ⟨rfl, none, rfl⟩ ?_
    · obtain ⟨ρ', w', e, rfl, y, rfl⟩ := key
      simp [b_smallest, mkEnv, idx_l0, slc_tail, e, least]
    · rintro pre q ρ w' hp ⟨rfl, y, rfl⟩
      have hp2 : pre ++ [q] <+: xs := by simpa using hp
      refine ⟨_, _, ?_, rfl, some (enQ q), rfl⟩
      have s1 := hxs q (hp2.subset (by simp))
      have s2 := minQ_sm hx fun z hz => hxs z (hp2.subset (List.mem_append_left _ hz))
      rw [minQ_append]
      simp [stepF, x_smallest_1, r_less n s1 s2, minQ]
      split <;> simp
theorem minQ_self (x : Rat) (xs : List Rat) : minQ x (x :: xs) = minQ x xs := by
  rw [minQ, if_neg Rat.lt_irrefl]
theorem r_lleast (n : Nat) {l : List Rat} (hl : l ≠ []) (h : ∀ q ∈ l, Sm 3990 q) : run T0 (n + 2) f__law_least [.lst (l.map enQ)] w = .ok (enQ (least l)) w := by
  cases l with
  | nil => exact absurd rfl hl
  | cons x xs =>
    have hx := h x List.mem_cons_self
    rw [run_fn (fn := b__law_least) rfl rfl rfl]
    have key := for_enc (call := run T0 (n + 1)) (tg := .nm 2) (body := x__law_least_1) (enc := enQ)
      (fun pre ρ w' => w' = w ∧ ∃ y, ρ = [.sh (.lst (enQ x :: xs.map enQ)), .sh (enQ (minQ x pre)), os y]) (x :: xs) [] (ρ := [.sh (.lst (enQ x :: xs.map enQ)), .sh (enQ x), .no]) (w := w)
      ⟨rfl, none, rfl⟩ ?_
    · obtain ⟨ρ', w', e, rfl, y, rfl⟩ := key
      rw [List.map_cons] at e
      simp [minQ_self] at e
      simp [b__law_least, mkEnv, idx_l0, e, least]
    · rintro pre q ρ w' hp ⟨rfl, y, rfl⟩
      have hp2 : pre ++ [q] <+: x :: xs := by simpa using hp
      refine ⟨_, _, ?_, rfl, some (enQ q), rfl⟩
      have s1 := h q (hp2.subset (by simp))
      have s2 := minQ_sm hx fun z hz => h z (hp2.subset (List.mem_append_left _ hz))
      rw [minQ_append]
      simp [stepF, x__law_least_1, r_lbel n s1 s2, minQ]
      split <;> simp
end
end SF

namespace SF
/-! ### texts: parts and joints -/
theorem split_last {c : Nat} : ∀ {p acc : List Nat}, c ∉ p → splitS c acc p = [acc ++ p]
  | [], acc, _ => by simp [splitS]
  | x :: p, acc, h => by
    simp only [List.mem_cons, not_or] at h
    rw [splitS, if_neg (fun z => h.1 z.symm), split_last h.2]
    simp
theorem split_app {c : Nat} (r : List Nat) : ∀ {p acc : List Nat}, c ∉ p → splitS c acc (p ++ c :: r) = (acc ++ p) :: splitS c [] r
  | [], acc, _ => by simp [splitS]
  | x :: p, acc, h => by
    simp only [List.mem_cons, not_or] at h
    rw [List.cons_append, splitS, if_neg (fun z => h.1 z.symm), split_app r h.2]
    simp
theorem split_joinS {c : Nat} : ∀ {ws : List (List Nat)}, ws ≠ [] → (∀ w ∈ ws, c ∉ w) → splitS c [] (joinS [c] ws) = ws
  | [], h, _ => absurd rfl h
  | [x], _, h => by rw [joinS, split_last (h x (by simp))]; simp
  | x :: y :: r, _, h => by
    rw [joinS, List.append_assoc, List.singleton_append, split_app _ (h x (by simp)), split_joinS (by simp) fun w hw => h w (List.mem_cons_of_mem _ hw)]
    simp
theorem split_ne (c : Nat) : ∀ (l acc : List Nat), splitS c acc l ≠ []
  | [], acc => by simp [splitS]
  | x :: l, acc => by
    rw [splitS]
    split
    · simp
    · exact split_ne c l _
theorem join_splitS (c : Nat) : ∀ (l acc : List Nat), joinS [c] (splitS c acc l) = acc ++ l
  | [], acc => by simp [splitS, joinS]
  | x :: l, acc => by
    rw [splitS]
    split
    · rename_i h
      have ih := join_splitS c l []
      cases hs : splitS c [] l with
      | nil => exact absurd hs (split_ne c l [])
      | cons y r =>
        rw [hs] at ih
        rw [joinS, ih, h]
        simp
    · rw [join_splitS c l]
      simp
theorem split_mem {c : Nat} : ∀ {l acc w : List Nat}, w ∈ splitS c acc l → w.length ≤ acc.length + l.length ∧ ∀ x ∈ w, x ∈ acc ∨ x ∈ l
  | [], acc, w, h => by
    simp [splitS] at h
    subst h
    exact ⟨by simp, fun x hx => .inl hx⟩
  | y :: l, acc, w, h => by
    rw [splitS] at h
    split at h
    · rcases List.mem_cons.mp h with rfl | h
      · exact ⟨by simp, fun x hx => .inl hx⟩
      · obtain ⟨h1, h2⟩ := split_mem h
        refine ⟨by simp at h1 ⊢; omega, fun x hx => .inr ?_⟩
        rcases h2 x hx with z | z
        · cases z
        · exact List.mem_cons_of_mem _ z
    · obtain ⟨h1, h2⟩ := split_mem h
      refine ⟨by simp at h1 ⊢; omega, fun x hx => ?_⟩
      rcases h2 x hx with z | z
      · rcases List.mem_append.mp z with z | z
        · exact .inl z
        · simp at z; exact .inr (by simp [z])
      · exact .inr (List.mem_cons_of_mem _ z)
theorem split_len (c : Nat) : ∀ (l acc : List Nat), (splitS c acc l).length ≤ l.length + 1
  | [], acc => by simp [splitS]
  | x :: l, acc => by
    rw [splitS]
    split
    · have := split_len c l []
      simp
      omega
    · have := split_len c l (acc ++ [x])
      simp
      omega
/-! ### numbers as texts -/
/-- the number of a word -/
def plainS (w : List Nat) : List Nat := if w.take 1 = [45] then w.drop 1 else w
def pN (w : List Nat) : Option Int := if (1 ≤ (plainS w).length ∧ (plainS w).length ≤ 3) ∧ dgs (plainS w) = true ∧ (cpsInt w).map intCps = some w then cpsInt w else none
theorem pN_back {w : List Nat} {v : Int} (h : pN w = some v) : intCps v = w := by
  unfold pN at h
  split at h
  · rename_i q
    have := q.2.2
    rw [h] at this
    exact Option.some.inj this
  · cases h
def okNum (v : Int) : Bool := decide (pN (intCps v) = some v) && !(intCps v).contains 32 && !(intCps v).contains 42 && decide ((intCps v).length ≤ 4) && (intCps v).all (fun c => decide (c < 256))
theorem okNum_all : (List.range 1999).all (fun k => okNum ((k : Int) - 999)) = true := by decide +kernel
theorem okNum_of {v : Int} (h1 : -999 ≤ v) (h2 : v ≤ 999) : okNum v = true := by
  have := List.all_eq_true.mp okNum_all (v + 999).toNat (by rw [List.mem_range]; omega)
  rw [show ((v + 999).toNat : Int) - 999 = v by omega] at this
  exact this
structure NumOk (v : Int) : Prop where
  back : pN (intCps v) = some v
  n32 : 32 ∉ intCps v
  n42 : 42 ∉ intCps v
  len : (intCps v).length ≤ 4
  cps : ∀ c ∈ intCps v, c < 256
theorem numOk {v : Int} (h1 : -999 ≤ v) (h2 : v ≤ 999) : NumOk v := by
  have h := okNum_of h1 h2
  simp only [okNum, Bool.and_eq_true, decide_eq_true_eq, Bool.not_eq_true', List.all_eq_true] at h
  obtain ⟨⟨⟨⟨a, b⟩, c⟩, d⟩, e⟩ := h
  exact ⟨a, fun z => by simp [z] at b, fun z => by simp [z] at c, d, fun x hx => by simpa using e x hx⟩
/-! ### entries, series as texts -/
def wrE (e : En) : List Nat := intCps e.1 ++ (if e.2 = 1 then [] else 42 :: intCps e.2)
def wrS (s : List En) : List Nat := joinS [32] (s.map wrE)
def eN (w : List Nat) : Option En :=
  if 2 < (splitS 42 [] w).length ∨ (splitS 42 [] w).drop 1 = [[49]] then none
  else match splitS 42 [] w with
    | [a] => (pN a).map fun x => (x, 1)
    | [a, b] => match pN a with
      | some x => (pN b).map fun y => (x, y)
      | none => none
    | _ => none
def mapO {α β : Type} (g : α → Option β) : List α → Option (List β)
  | [] => some []
  | x :: xs => match g x with
    | some y => (mapO g xs).map (y :: ·)
    | none => none
instance (s : List En) : Decidable (SerOk s) := decidable_of_iff (1 ≤ s.length ∧ s.length ≤ 14 ∧ ∀ e ∈ s, -999 ≤ e.1 ∧ e.1 ≤ 999 ∧ 1 ≤ e.2 ∧ e.2 ≤ 9) ⟨fun h => ⟨h.1, h.2.1, fun e he => have q := h.2.2 e he; ⟨q.1, q.2.1, q.2.2.1, q.2.2.2⟩⟩, fun h => ⟨h.pos, h.len, fun e he => have q := h.en e he; ⟨q.lo, q.hi, q.w1, q.w9⟩⟩⟩
def sN (t : List Nat) : Option (List En) := match mapO eN (splitS 32 [] t) with
  | some s => if SerOk s then some s else none
  | none => none
theorem eN_back {w : List Nat} {e : En} (h : eN w = some e) : wrE e = w := by
  unfold eN at h
  split at h
  · cases h
  · rename_i hc
    have hj := join_splitS 42 w []
    rw [List.nil_append] at hj
    split at h
    · rename_i a ha
      rw [ha] at hj
      cases hp : pN a with
      | none => rw [hp] at h; cases h
      | some x =>
        rw [hp] at h
        cases h
        rw [joinS] at hj
        simp [wrE, pN_back hp, hj]
    · rename_i a b ha
      rw [ha] at hj
      cases hp : pN a with
      | none => rw [hp] at h; cases h
      | some x =>
        rw [hp] at h
        simp only at h
        cases hq : pN b with
        | none => rw [hq] at h; cases h
        | some y =>
          rw [hq] at h
          cases h
          have h1 : ¬ y = 1 := fun z => hc (.inr (by
            rw [ha]
            have := pN_back hq
            rw [z] at this
            rw [← this]
            rfl))
          simp only [wrE, h1, if_false, pN_back hp, pN_back hq]
          rw [← hj]
          simp [joinS]
    · cases h
theorem eN_wr {e : En} (h : EnOk e) : eN (wrE e) = some e := by
  have n1 := numOk h.lo h.hi
  have n2 := numOk (v := e.2) (by have := h.w1; omega) (by have := h.w9; omega)
  obtain ⟨v, k⟩ := e
  by_cases hk : k = 1
  · have hw : wrE (v, k) = intCps v := by simp [wrE, hk]
    rw [hw]
    have hs : splitS 42 [] (intCps v) = [intCps v] := by rw [split_last n1.n42]; simp
    unfold eN
    rw [hs, if_neg (by simp)]
    simp only
    rw [n1.back, hk]
    rfl
  · have hw : wrE (v, k) = intCps v ++ 42 :: intCps k := by simp [wrE, hk]
    rw [hw]
    have hs : splitS 42 [] (intCps v ++ 42 :: intCps k) = [intCps v, intCps k] := by
      rw [split_app _ n1.n42, split_last n2.n42]
      simp
    have h49 : intCps k ≠ [49] := fun z => hk (by
      have := n2.back
      rw [z] at this
      have e : pN [49] = some 1 := by decide
      rw [e] at this
      exact (Option.some.inj this).symm)
    unfold eN
    rw [hs, if_neg (by simp [h49])]
    simp only
    rw [n1.back, n2.back]
    rfl
theorem mapO_some {α β : Type} {g : α → Option β} {f : β → α} (h : ∀ a b, g a = some b → f b = a) : ∀ {xs : List α} {ys : List β}, mapO g xs = some ys → ys.map f = xs
  | [], ys, e => by simp [mapO] at e; subst e; rfl
  | x :: xs, ys, e => by
    rw [mapO] at e
    cases hx : g x with
    | none => rw [hx] at e; cases e
    | some y =>
      rw [hx] at e
      simp only at e
      cases hr : mapO g xs with
      | none => rw [hr] at e; cases e
      | some zs =>
        rw [hr] at e
        cases e
        rw [List.map_cons, h x y hx, mapO_some h hr]
theorem mapO_map {α β : Type} {g : α → Option β} {f : β → α} : ∀ {ys : List β}, (∀ y ∈ ys, g (f y) = some y) → mapO g (ys.map f) = some ys
  | [], _ => rfl
  | y :: ys, h => by
    rw [List.map_cons, mapO, h y List.mem_cons_self, mapO_map fun z hz => h z (List.mem_cons_of_mem _ hz)]
    rfl
/-- what is parsed is written so -/
theorem sN_back {t : List Nat} {s : List En} (h : sN t = some s) : wrS s = t ∧ SerOk s := by
  unfold sN at h
  split at h
  · rename_i s' hm
    split at h
    · rename_i hs
      cases h
      refine ⟨?_, hs⟩
      unfold wrS
      rw [mapO_some (f := wrE) (fun a b => eN_back) hm]
      have := join_splitS 32 t []
      simpa using this
    · cases h
  · cases h
theorem wrE_32 {e : En} (h : EnOk e) : 32 ∉ wrE e := by
  have n1 := numOk h.lo h.hi
  have n2 := numOk (v := e.2) (by have := h.w1; omega) (by have := h.w9; omega)
  unfold wrE
  intro z
  rcases List.mem_append.mp z with z | z
  · exact n1.n32 z
  · split at z
    · cases z
    · rcases List.mem_cons.mp z with z | z
      · cases z
      · exact n2.n32 z
/-- what is written is parsed so -/
theorem sN_wr {s : List En} (h : SerOk s) : sN (wrS s) = some s := by
  have hne : s.map wrE ≠ [] := by
    intro z
    have := h.pos
    rw [List.map_eq_nil_iff] at z
    rw [z] at this
    simp at this
  have hs : splitS 32 [] (wrS s) = s.map wrE := split_joinS hne fun w hw => by
    obtain ⟨e, he, rfl⟩ := List.mem_map.mp hw
    exact wrE_32 (h.en e he)
  unfold sN
  rw [hs, mapO_map fun e he => eN_wr (h.en e he)]
  simp [h]
theorem wrE_len {e : En} (h : EnOk e) : (wrE e).length ≤ 9 ∧ ∀ c ∈ wrE e, c < 256 := by
  have n1 := numOk h.lo h.hi
  have n2 := numOk (v := e.2) (by have := h.w1; omega) (by have := h.w9; omega)
  have a := n1.len
  have b := n2.len
  unfold wrE
  refine ⟨?_, fun c hc => ?_⟩
  · rw [List.length_append]
    split
    · simp; omega
    · simp; omega
  · rcases List.mem_append.mp hc with z | z
    · exact n1.cps c z
    · split at z
      · cases z
      · rcases List.mem_cons.mp z with z | z
        · omega
        · exact n2.cps c z
theorem joinS_len (sep : List Nat) : ∀ ws : List (List Nat), (joinS sep ws).length ≤ (ws.map List.length).sum + ws.length * sep.length
  | [] => by simp [joinS]
  | [x] => by simp [joinS]
  | x :: y :: r => by
    have := joinS_len sep (y :: r)
    rw [joinS, List.length_append, List.length_append, List.map_cons, List.sum_cons, List.length_cons, Nat.add_mul]
    omega
theorem joinS_mem {sep : List Nat} {p : Nat → Prop} (hs : ∀ c ∈ sep, p c) : ∀ {ws : List (List Nat)}, (∀ w ∈ ws, ∀ c ∈ w, p c) → ∀ c ∈ joinS sep ws, p c
  | [], _, c, hc => by simp [joinS] at hc
  | [x], h, c, hc => h x (by simp) c (by simpa [joinS] using hc)
  | x :: y :: r, h, c, hc => by
    rw [joinS] at hc
    rcases List.mem_append.mp hc with hc | hc
    · rcases List.mem_append.mp hc with hc | hc
      · exact h x (by simp) c hc
      · exact hs c hc
    · exact joinS_mem hs (fun w hw => h w (List.mem_cons_of_mem _ hw)) c hc
theorem sum_len {ws : List (List Nat)} {k : Nat} (h : ∀ w ∈ ws, w.length ≤ k) : (ws.map List.length).sum ≤ ws.length * k := by
  induction ws with
  | nil => simp
  | cons x r ih =>
    have := h x (by simp)
    have := ih fun w hw => h w (List.mem_cons_of_mem _ hw)
    rw [List.map_cons, List.sum_cons, List.length_cons, Nat.add_mul]
    omega
theorem wrS_len {s : List En} (h : SerOk s) : ((s.map wrE).map List.length).sum + (s.map wrE).length * 1 ≤ 140 ∧ (wrS s).length ≤ 140 ∧ ∀ c ∈ wrS s, c < 256 := by
  have hl := h.len
  have a := sum_len (ws := s.map wrE) (k := 9) fun w hw => by
    obtain ⟨e, he, rfl⟩ := List.mem_map.mp hw
    exact (wrE_len (h.en e he)).1
  have b := joinS_len [32] (s.map wrE)
  rw [List.length_map] at a b ⊢
  have b' : (wrS s).length ≤ ((s.map wrE).map List.length).sum + s.length * 1 := b
  refine ⟨by omega, by omega, joinS_mem (by simp) fun w hw => ?_⟩
  obtain ⟨e, he, rfl⟩ := List.mem_map.mp hw
  exact (wrE_len (h.en e he)).2
end SF

namespace SF
/-! ### evaluation of texts -/
def Uni (s : List Nat) : Prop := ∀ c ∈ s, c < 1114112
theorem Uni.plain {s : List Nat} (h : Uni s) (k : Nat) : plainAt k (.str s) = true := by
  cases k <;> (simp only [plainAt]; exact List.all_eq_true.mpr fun c hc => decide_eq_true (h c hc))
theorem uni_of {s : List Nat} (h : ∀ c ∈ s, c < 256) : Uni s := fun c hc => by have := h c hc; omega
theorem Uni.sub {s t : List Nat} (h : Uni s) (hs : ∀ c ∈ t, c ∈ s) : Uni t := fun c hc => h c (hs c hc)
section
variable {w : W}
theorem cm_eqS {a b : List Nat} (ha : Uni a) (hb : Uni b) : cmD .eq (.str a) (.str b) w = .ok (.bl (decide (a = b))) w := by
  simp only [cmD, cmpD, ha.plain 8, hb.plain 8, Bool.and_self, if_true, eqD, Option.map_some, opt_some]
  congr 2
  by_cases h : a = b <;> simp [h]
theorem cm_neStr {a b : List Nat} (ha : Uni a) (hb : Uni b) : cmD .ne (.str a) (.str b) w = .ok (.bl (!decide (a = b))) w := by
  simp only [cmD, cmpD, ha.plain 8, hb.plain 8, Bool.and_self, if_true, eqD, Option.map_some, opt_some]
  congr 2
  by_cases h : a = b <;> simp [h]
theorem eqDs_str : ∀ a b : List (List Nat), eqDs (a.map .str) (b.map .str) = decide (a = b)
  | [], [] => rfl
  | [], _ :: _ => rfl
  | _ :: _, [] => rfl
  | x :: a, y :: b => by
    simp only [List.map_cons, eqDs, eqDs_str a b, eqD]
    by_cases h1 : x = y <;> by_cases h2 : a = b <;> simp [h1, h2]
theorem plains_str {a : List (List Nat)} (h : ∀ x ∈ a, Uni x) (k : Nat) : plainsAt k (a.map .str) = true := by
  induction a with
  | nil => simp [plainsAt]
  | cons x a ih =>
    simp only [List.map_cons, plainsAt, (h x (by simp)).plain k, ih fun y hy => h y (List.mem_cons_of_mem _ hy), Bool.and_self]
theorem cm_eqL {a b : List (List Nat)} (ha : ∀ x ∈ a, Uni x) (hb : ∀ x ∈ b, Uni x) : cmD .eq (.lst (a.map .str)) (.lst (b.map .str)) w = .ok (.bl (decide (a = b))) w := by
  simp only [cmD, cmpD, plainAt, plains_str ha 7, plains_str hb 7, Bool.and_self, if_true, eqD, eqDs_str, Option.map_some, opt_some]
theorem slc_s1 {s : List Nat} (h : s.length ≤ 600) : slcO (.str s) none (some 1) = some (.str (s.take 1)) := by
  simp only [slcO, if_pos (lim14 (show s.length ≤ 1000 by omega)), cutL]
  congr 2
  have : sIx s.length s.length (some 1) = min 1 s.length := rfl
  rw [this]
  cases s with
  | nil => rfl
  | cons c r => simp [sIx]
theorem slc_s2 {s : List Nat} (h : s.length ≤ 600) : slcO (.str s) (some 1) none = some (.str s.tail) := by
  simp only [slcO, if_pos (lim14 (show s.length ≤ 1000 by omega)), cutL]
  congr 2
  have : sIx s.length 0 (some 1) = min 1 s.length := rfl
  rw [this]
  cases s with
  | nil => rfl
  | cons c r => simp [sIx]
theorem charsD_str (s : List Nat) : charsD (.str s) = some (s.map fun c => .str [c]) := rfl
theorem len_s {s : List Nat} (h : s.length ≤ 1000) : bltD .len [.str s] = some (.int (s.length : Int)) := by
  simp only [bltD, lenD, if_pos (lim14 h), Option.map_some]
theorem int_s {s : List Nat} (h : s.length ≤ 600) : bltD .int [.str s] = (cpsInt s).map .int := by
  simp only [bltD, if_pos h]
theorem str_i {v : Int} (h : v.natAbs < 1000000) : bltD .str [.int v] = some (.str (intCps v)) := by
  have : v.natAbs < 2 ^ 1900 := Nat.lt_of_lt_of_le h (Nat.le_trans (by decide : 1000000 ≤ 2 ^ 20) (Nat.pow_le_pow_right (by decide) (by decide)))
  simp only [bltD, if_pos this]
theorem in_dig (c : Nat) : cmD .isin (.str [c]) (.str [48, 49, 50, 51, 52, 53, 54, 55, 56, 57]) w = .ok (.bl (decide (48 ≤ c) && decide (c ≤ 57))) w := by
  simp only [cmD, cmpD, inD, Option.map_some, opt_some]
  congr 2
  by_cases h : 48 ≤ c ∧ c ≤ 57
  · have : c = 48 ∨ c = 49 ∨ c = 50 ∨ c = 51 ∨ c = 52 ∨ c = 53 ∨ c = 54 ∨ c = 55 ∨ c = 56 ∨ c = 57 := by omega
    rcases this with rfl | rfl | rfl | rfl | rfl | rfl | rfl | rfl | rfl | rfl <;> decide
  · have h2 : c ∉ [48, 49, 50, 51, 52, 53, 54, 55, 56, 57] := by
      intro z
      simp at z
      omega
    rw [decide_eq_false h2]
    by_cases h3 : 48 ≤ c
    · simp [h3, show ¬ c ≤ 57 from fun z => h ⟨h3, z⟩]
    · simp [h3]
end
theorem dval3 : ∀ {l : List Nat}, l.length ≤ 3 → dgs l = true → dval l < 1000
  | [], _, _ => by decide
  | [a], _, h => by simp [dgs] at h; simp [dval]; omega
  | [a, b], _, h => by simp [dgs] at h; simp [dval]; omega
  | [a, b, c], _, h => by simp [dgs] at h; simp [dval]; omega
  | _ :: _ :: _ :: _ :: _, h, _ => by simp at h
theorem cps_some {s : List Nat} (h1 : 1 ≤ (plainS s).length) (h3 : (plainS s).length ≤ 3) (hd : dgs (plainS s) = true) : ∃ v, cpsInt s = some v ∧ v.natAbs < 1000 ∧ s.length ≤ 4 := by
  unfold plainS at h1 h3 hd
  cases s with
  | nil => simp at h1
  | cons c r =>
    by_cases hc : c = 45
    · subst hc
      simp only [List.take_succ_cons, List.take_zero, if_true, List.drop_succ_cons, List.drop_zero] at h1 h3 hd
      have hne : r.isEmpty = false := by cases r <;> simp at h1 ⊢
      refine ⟨-(dval r : Int), by simp [cpsInt, hne, hd], ?_, by simp; omega⟩
      have := dval3 h3 hd
      omega
    · have : ¬ ((c :: r).take 1 = [45]) := by simp [hc]
      rw [if_neg this] at h1 h3 hd
      refine ⟨(dval (c :: r) : Int), ?_, ?_, by simp at h3 ⊢; omega⟩
      · unfold cpsInt
        split
        · rename_i e; cases e
        · rename_i e; cases e; exact absurd rfl hc
        · rename_i e; cases e; rw [if_pos hd]
      · have := dval3 h3 hd
        omega
section
variable {n : Nat} {w : W}
theorem r_parse_number {s : List Nat} (hl : s.length ≤ 600) (hu : Uni s) : run T0 (n + 1) f_parse_number [.str s] w = (match pN s with | some v => .ok (.int v) w | none => .exc 5 w) := by
  have u1 : Uni (s.take 1) := hu.sub fun c hc => List.mem_of_mem_take hc
  have u45 : Uni [45] := by intro c hc; simp at hc; omega
  have pl : (plainS s).length ≤ 600 := by
    unfold plainS
    split
    · simp; omega
    · exact hl
  have e1 : tst (cmD .eq (.str (s.take 1)) (.str [45]) w) (fun w => R.ok (D.str s.tail) w) (fun w => .ok (.str s) w) = .ok (.str (plainS s)) w := by
    rw [cm_eqS u1 u45]
    simp only [tst_ok, decide_eq_true_eq]
    unfold plainS
    rw [List.drop_one]
    split <;> rfl
  have lc : lcD (run T0 n) x_parse_number_1 (.nm 2) (.bl true) [.sh (.str s), .sh (.str (plainS s)), .no] (.lst ((plainS s).map fun c => .str [c])) w = .ok (.lst ((plainS s).map fun c => .bl (decide (48 ≤ c) && decide (c ≤ 57)))) w := by
    refine lcD_map (fun c => .bl (decide (48 ≤ c) && decide (c ≤ 57))) (lim14 (by omega)) fun c _ => ?_
    simp [stepL, calm, x_parse_number_1, in_dig]
  have al : bltD .all [.lst ((plainS s).map fun c => .bl (decide (48 ≤ c) && decide (c ≤ 57)))] = some (.bl (dgs (plainS s))) := blt_all _ _
  rw [run_fn (fn := b_parse_number) rfl rfl rfl]
  by_cases h13 : 1 ≤ (plainS s).length ∧ (plainS s).length ≤ 3
  · have q1 : (1 : Int) ≤ ((plainS s).length : Int) := by omega
    have q2 : ((plainS s).length : Int) ≤ 3 := by omega
    cases hd : dgs (plainS s) with
    | false =>
      have hp : pN s = none := by
        unfold pN
        rw [if_neg (by rw [hd]; simp)]
      rw [hp]
      simp [b_parse_number, mkEnv, partR, slc_s1 hl, slc_s2 hl, e1, len_s (show (plainS s).length ≤ 1000 by omega), q1, q2, charsD_str, lc, al, hd]
    | true =>
      obtain ⟨v, hv, hb, hl4⟩ := cps_some h13.1 h13.2 hd
      have i1 : bltD .int [.str s] = some (.int v) := by rw [int_s hl, hv]; rfl
      have i2 := str_i (v := v) (by omega)
      have uv : Uni (intCps v) := uni_of (numOk (by omega) (by omega)).cps
      have c1 := cm_neStr (w := w) uv hu
      by_cases hq : intCps v = s
      · have hp : pN s = some v := by
          unfold pN
          rw [if_pos ⟨h13, hd, by rw [hv, Option.map_some, hq]⟩, hv]
        rw [hp]
        have c2 := cm_neStr (w := w) hu hu
        simp [c2, b_parse_number, mkEnv, partR, slc_s1 hl, slc_s2 hl, e1, len_s (show (plainS s).length ≤ 1000 by omega), q1, q2, charsD_str, lc, al, hd, i1, i2, c1, hq]
      · have hp : pN s = none := by
          unfold pN
          rw [if_neg (by
            rintro ⟨_, _, z⟩
            rw [hv, Option.map_some] at z
            exact hq (Option.some.inj z))]
        rw [hp]
        simp [b_parse_number, mkEnv, partR, slc_s1 hl, slc_s2 hl, e1, len_s (show (plainS s).length ≤ 1000 by omega), q1, q2, charsD_str, lc, al, hd, i1, i2, c1, hq]
  · have hp : pN s = none := by
      unfold pN
      rw [if_neg (fun z => h13 z.1)]
    rw [hp]
    by_cases q1 : (1 : Int) ≤ ((plainS s).length : Int)
    · have q2 : ¬ (((plainS s).length : Int) ≤ 3) := by omega
      simp [b_parse_number, mkEnv, partR, slc_s1 hl, slc_s2 hl, e1, len_s (show (plainS s).length ≤ 1000 by omega), q1, q2]
    · simp [b_parse_number, mkEnv, partR, slc_s1 hl, slc_s2 hl, e1, len_s (show (plainS s).length ≤ 1000 by omega), q1]
theorem slc_l1 (xs : List D) : slcO (.lst xs) (some 1) none = some (.lst xs.tail) := by
  simp only [slcO, cutL]
  congr 2
  have : sIx xs.length 0 (some 1) = min 1 xs.length := rfl
  rw [this]
  cases xs with
  | nil => rfl
  | cons c r => simp [sIx]
theorem split_s {s : List Nat} {c : Nat} (h : s.length ≤ 600) (hc : c < 256) : splitD (.str s) (.str [c]) = some (.lst ((splitS c [] s).map .str)) := by
  simp only [splitD, if_pos (And.intro (lim14 (show s.length ≤ 1000 by omega)) hc)]
def okR (o : Option D) (w : W) : R D := match o with
  | some d => .ok d w
  | none => .exc 5 w
theorem r_parse_entry {s : List Nat} (hl : s.length ≤ 600) (hu : Uni s) : run T0 (n + 2) f_parse_entry [.str s] w = okR ((eN s).map enE) w := by
  have mem : ∀ x ∈ splitS 42 [] s, x.length ≤ 600 ∧ Uni x := fun x hx => by
    obtain ⟨h1, h2⟩ := split_mem hx
    exact ⟨by simp at h1; omega, hu.sub fun c hc => (h2 c hc).elim (fun z => nomatch z) fun z => z⟩
  have u49 : ∀ x ∈ [[49]], Uni x := by intro x hx; simp at hx; subst hx; intro c hc; simp at hc; omega
  have sp := split_s (c := 42) hl (by decide)
  have t1 : (List.map D.str (splitS 42 [] s)).tail = (splitS 42 [] s).tail.map .str := by rw [List.map_tail]
  have ce : cmD .eq (.lst ((splitS 42 [] s).tail.map .str)) (.lst [.str [49]]) w = .ok (.bl (decide ((splitS 42 [] s).tail = [[49]]))) w := cm_eqL (b := [[49]]) (fun x hx => (mem x (List.mem_of_mem_tail hx)).2) u49
  rw [run_fn (fn := b_parse_entry) rfl rfl rfl]
  unfold eN
  rw [List.drop_one]
  by_cases h2 : 2 < (splitS 42 [] s).length
  · rw [if_pos (.inl h2)]
    have q : (2 : Int) < ((splitS 42 [] s).length : Int) := by omega
    simp [b_parse_entry, mkEnv, sp, q, okR, h2]
  · have q : ¬ ((2 : Int) < ((splitS 42 [] s).length : Int)) := by omega
    by_cases h3 : (splitS 42 [] s).tail = [[49]]
    · rw [if_pos (.inr h3)]
      rw [h3] at ce t1
      have ce2 : cmD .eq (.lst [.str [49]]) (.lst [.str [49]]) w = .ok (.bl true) w := by rw [decide_eq_true rfl] at ce; exact ce
      simp [b_parse_entry, mkEnv, sp, q, okR, h2, partR, slc_l1, t1, ce2]
    · rw [if_neg (by rintro (z | z) <;> contradiction)]
      rw [decide_eq_false h3] at ce
      cases hs : splitS 42 [] s with
      | nil => exact absurd hs (split_ne 42 s [])
      | cons a r =>
        rw [hs] at sp t1 ce mem h2
        cases r with
        | nil =>
          obtain ⟨l1, u1⟩ := mem a (by simp)
          have pa := r_parse_number (n := n) (w := w) l1 u1
          have i0 : idxD (.lst [D.str a]) (.int 0) = some (.str a) := rfl
          simp only [List.map_cons, List.map_nil, List.tail_cons] at sp t1 ce
          simp [b_parse_entry, mkEnv, sp, partR, slc_l1, ce, i0, pa]
          cases pN a <;> simp [okR, enE]
        | cons b r =>
          cases r with
          | cons c r => simp at h2
          | nil =>
            obtain ⟨l1, u1⟩ := mem a (by simp)
            obtain ⟨l2, u2⟩ := mem b (by simp)
            have pa := r_parse_number (n := n) (w := w) l1 u1
            have pb := r_parse_number (n := n) (w := w) l2 u2
            have i0 : idxD (.lst [D.str a, .str b]) (.int 0) = some (.str a) := rfl
            have i1 : idxD (.lst [D.str a, .str b]) (.int 1) = some (.str b) := rfl
            simp only [List.map_cons, List.map_nil, List.tail_cons] at sp t1 ce
            simp [b_parse_entry, mkEnv, sp, partR, slc_l1, ce, i0, i1, pa, pb]
            cases pN a with
            | none => simp [okR]
            | some x => cases hb : pN b <;> rw [hb] at pb <;> simp [okR, enE, pb]
end
end SF

namespace SF
mutual
theorem eqD_self : ∀ (n : Nat) (d : D), plainAt n d = true → eqD d d = true
  | _, .non, _ => rfl
  | _, .bl b, _ => by simp [eqD]
  | _, .int i, _ => by simp [eqD]
  | _, .str s, _ => by simp [eqD]
  | 0, .tup ds, p => by simp [plainAt] at p
  | n + 1, .tup ds, p => by rw [eqD]; exact eqDs_self n ds (by simpa [plainAt] using p)
  | 0, .lst ds, p => by simp [plainAt] at p
  | n + 1, .lst ds, p => by rw [eqD]; exact eqDs_self n ds (by simpa [plainAt] using p)
  | _, .dT _, p => by simp [plainAt] at p
  | _, .dK _, p => by simp [plainAt] at p
  | _, .dr, p => by simp [plainAt] at p
  | _, .ob, p => by simp [plainAt] at p
  | _, .ex _, p => by simp [plainAt] at p
theorem eqDs_self : ∀ (n : Nat) (ds : List D), plainsAt n ds = true → eqDs ds ds = true
  | _, [], _ => rfl
  | n, d :: ds, p => by
    simp only [plainsAt, Bool.and_eq_true] at p
    rw [eqDs, eqD_self n d p.1, eqDs_self n ds p.2]
    rfl
end
theorem cm_self {d : D} {w : W} (h : plain d = true) : cmD .ne d d w = .ok (.bl false) w := by
  simp only [cmD, cmpD, h, Bool.and_self, if_true, eqD_self 8 d h]
  rfl
theorem plain_enS (s : List En) : plain (enS s) = true := by
  show plainAt 8 (.lst (s.map enE)) = true
  rw [plainAt]
  induction s with
  | nil => simp [plainsAt]
  | cons e s ih => simp only [List.map_cons, plainsAt, ih, Bool.and_true]; simp [enE, plainAt, plainsAt]
def tryR (i j : Nat) : R Fl → R Fl
  | .ok (.xc k ρ') w => if k < 7 then .ok (.nx (((ρ'.set i (.sh (.ex k))).set j (.sh (.ex k))).set i .no)) w else .bad
  | r => r
@[simp] theorem tryR_xc (i j k : Nat) (ρ : Env) (w : W) : tryR i j (.ok (.xc k ρ) w) = if k < 7 then .ok (.nx (((ρ.set i (.sh (.ex k))).set j (.sh (.ex k))).set i .no)) w else .bad := rfl
@[simp] theorem tryR_nx (i j : Nat) (ρ : Env) (w : W) : tryR i j (.ok (.nx ρ) w) = .ok (.nx ρ) w := rfl
@[simp] theorem ex_try {call : Nat → List D → W → R D} {ρ : Env} {w : W} (body : List S) (i j : Nat) : ex call (.tryE body 0 i [.asg j (.var i) false []]) ρ w = tryR i j (exs call body ρ w) := by
  rw [ex]
  simp only [if_true]
  cases exs call body ρ w with
  | ok f w1 => cases f <;> rfl
  | exc c w1 => rfl
  | bad => rfl
def asgXD (call : Nat → List D → W → R D) (i f : Nat) (ρ : Env) (x : D) (w : W) : R Fl := match itemsD x with
  | some xs => if xs.length ≤ LIM then (mapC call f xs w).st ρ fun ys w => .ok (.nx ((freezeAt [] 0 ρ).set i (.sh (.lst ys)))) w else .bad
  | none => .bad
section
variable {call : Nat → List D → W → R D} {ρ : Env} {w : W}
@[simp] theorem ex_asgX (i f t : Nat) (it : E) : ex call (.asgX i f t it) ρ w = (ev call it ρ w).st ρ fun x w => asgXD call i f ρ x w := by
  rw [ex]
  rfl
theorem mapC_mapO {α : Type} {f : Nat} {g : List Nat → Option α} {enc : α → D} : ∀ {ws : List (List Nat)}, (∀ x ∈ ws, call f [.str x] w = okR ((g x).map enc) w) →
    mapC call f (ws.map .str) w = (match mapO g ws with | some ys => .ok (ys.map enc) w | none => .exc 5 w)
  | [], _ => rfl
  | x :: ws, h => by
    have ih := mapC_mapO (enc := enc) (g := g) fun y hy => h y (List.mem_cons_of_mem _ hy)
    rw [List.map_cons, mapC, h x (by simp), mapO]
    cases g x with
    | none => rfl
    | some y =>
      simp only [Option.map_some, okR, bind_ok]
      rw [ih]
      cases mapO g ws with
      | none => rfl
      | some ys => rfl
theorem isb_ex (c : Nat) : isbD none (.ex c) = some false := rfl
theorem isb_non : isbD none .non = some true := rfl
@[simp] theorem flat_ex (c : Nat) : flat (.ex c) = true := rfl
end
section
variable {n : Nat} {w : W}
theorem r_is_entryB (e : En) : run T0 (n + 2) f_is_entry [enE e] w = .ok (.bl (decide (-999 ≤ e.1 ∧ e.1 ≤ 999) && decide (1 ≤ e.2 ∧ e.2 ≤ 9))) w := by
  rw [run_fn (fn := b_is_entry) rfl rfl rfl]
  simp [b_is_entry, mkEnv, isiD, enE, r_is_int]
  by_cases h : -999 ≤ e.1 ∧ e.1 ≤ 999 <;> simp [h]
theorem all_ok (s : List En) : (s.all fun e => decide (-999 ≤ e.1 ∧ e.1 ≤ 999) && decide (1 ≤ e.2 ∧ e.2 ≤ 9)) = true ↔ ∀ e ∈ s, EnOk e := by
  rw [List.all_eq_true]
  constructor
  · intro h e he
    have := h e he
    simp only [Bool.and_eq_true, decide_eq_true_eq] at this
    exact ⟨this.1.1, this.1.2, this.2.1, this.2.2⟩
  · intro h e he
    have q := h e he
    simp only [Bool.and_eq_true, decide_eq_true_eq]
    exact ⟨⟨q.lo, q.hi⟩, q.w1, q.w9⟩
theorem r_is_seriesB {s : List En} (hl : s.length ≤ 1000) : run T0 (n + 3) f_is_series [enS s] w = .ok (.bl (decide (SerOk s))) w := by
  have lc : ∀ ρ : Env, ρ = [.sh (enS s), .no] → lcD (run T0 (n + 2)) (.call f_is_entry [.var 1]) (.nm 1) (.bl true) ρ (.lst (s.map enE)) w = .ok (.lst (s.map fun e => .bl (decide (-999 ≤ e.1 ∧ e.1 ≤ 999) && decide (1 ≤ e.2 ∧ e.2 ≤ 9)))) w := by
    rintro _ rfl
    refine lcD_map (fun e => .bl (decide (-999 ≤ e.1 ∧ e.1 ≤ 999) && decide (1 ≤ e.2 ∧ e.2 ≤ 9))) (lim14 hl) fun e he => ?_
    simp [stepL, calm, r_is_entryB]
  have al := blt_all (fun e : En => decide (-999 ≤ e.1 ∧ e.1 ≤ 999) && decide (1 ≤ e.2 ∧ e.2 ≤ 9)) s
  have ao := all_ok s
  have lcx := lc _ rfl
  generalize (s.all fun e => decide (-999 ≤ e.1 ∧ e.1 ≤ 999) && decide (1 ≤ e.2 ∧ e.2 ≤ 9)) = b at al ao
  generalize (s.map fun e : En => D.bl (decide (-999 ≤ e.1 ∧ e.1 ≤ 999) && decide (1 ≤ e.2 ∧ e.2 ≤ 9))) = L at al lcx
  rw [run_fn (fn := b_is_series) rfl rfl rfl]
  by_cases h1 : (1 : Int) ≤ s.length
  · by_cases h2 : (s.length : Int) ≤ 14
    · have : decide (SerOk s) = b := by
        by_cases hb : b = true
        · rw [hb]
          exact decide_eq_true ⟨by omega, by omega, ao.mp hb⟩
        · rw [Bool.not_eq_true] at hb
          rw [hb]
          exact decide_eq_false fun z => by
            have := ao.mpr z.en
            rw [hb] at this
            cases this
      rw [this]
      simp only [enS] at lcx
      simp [b_is_series, mkEnv, isiD, enS, h1, h2, lcx, al]
    · rw [decide_eq_false (fun z : SerOk s => by have := z.len; omega)]
      simp [b_is_series, mkEnv, isiD, enS, h1, h2]
  · rw [decide_eq_false (fun z : SerOk s => by have := z.pos; omega)]
    simp [b_is_series, mkEnv, isiD, enS, h1]
theorem mapO_len {α β : Type} {g : α → Option β} : ∀ {xs : List α} {ys : List β}, mapO g xs = some ys → ys.length = xs.length
  | [], ys, e => by simp [mapO] at e; subst e; rfl
  | x :: xs, ys, e => by
    rw [mapO] at e
    cases hx : g x with
    | none => rw [hx] at e; cases e
    | some y =>
      rw [hx] at e
      simp only at e
      cases hr : mapO g xs with
      | none => rw [hr] at e; cases e
      | some zs =>
        rw [hr] at e
        cases e
        simp [mapO_len hr]
theorem r_parse_series {t : List Nat} (hl : t.length ≤ 600) (hu : Uni t) : run T0 (n + 4) f_parse_series [.str t] w = okR ((sN t).map enS) w := by
  have mem : ∀ x ∈ splitS 32 [] t, x.length ≤ 600 ∧ Uni x := fun x hx => by
    obtain ⟨h1, h2⟩ := split_mem hx
    exact ⟨by simp at h1; omega, hu.sub fun c hc => (h2 c hc).elim (fun z => nomatch z) fun z => z⟩
  have sp := split_s (c := 32) hl (by decide)
  have ln := split_len 32 t []
  have mc := mapC_mapO (call := run T0 (n + 3)) (w := w) (f := f_parse_entry) (g := eN) (enc := enE) (ws := splitS 32 [] t) fun x hx => r_parse_entry (n := n + 1) (mem x hx).1 (mem x hx).2
  have ax : ∀ ρ : Env, asgXD (run T0 (n + 3)) 1 f_parse_entry ρ (.lst ((splitS 32 [] t).map .str)) w = (mapC (run T0 (n + 3)) f_parse_entry ((splitS 32 [] t).map .str) w).st ρ fun ys w => .ok (.nx ((freezeAt [] 0 ρ).set 1 (.sh (.lst ys)))) w := fun ρ => by
    simp only [asgXD, itemsD_lst]
    rw [if_pos (lim14 (by simp; omega))]
  rw [run_fn (fn := b_parse_series) rfl rfl rfl]
  unfold sN
  cases hm : mapO eN (splitS 32 [] t) with
  | none =>
    rw [hm] at mc
    simp only at mc
    simp [b_parse_series, mkEnv, isiD, sp, ax, mc, okR]
  | some s =>
    rw [hm] at mc
    simp only at mc
    have hs := r_is_seriesB (n := n) (w := w) (s := s) (by rw [mapO_len hm]; omega)
    simp only [enS] at hs
    by_cases ho : SerOk s
    · rw [decide_eq_true ho] at hs
      simp [b_parse_series, mkEnv, isiD, sp, ax, mc, okR, hs, ho, enS]
    · rw [decide_eq_false ho] at hs
      simp [b_parse_series, mkEnv, isiD, sp, ax, mc, okR, hs, ho]
theorem r_err5 : run T0 (n + 1) f__law_error [.ex 5] w = .ok (.str [116, 101, 120, 116]) w := by rfl
theorem r_parsed {t : List Nat} (hl : t.length ≤ 600) (hu : Uni t) : run T0 (n + 5) f__law_parsed [.str t] w = .ok (match sN t with | some s => enS s | none => .str [116, 101, 120, 116]) w := by
  have p := r_parse_series (n := n) (w := w) hl hu
  rw [run_fn (fn := b__law_parsed) rfl rfl rfl]
  cases hs : sN t with
  | none =>
    rw [hs] at p
    simp only [Option.map_none, okR] at p
    simp [b__law_parsed, mkEnv, p, isb_ex, r_err5]
  | some s =>
    rw [hs] at p
    simp only [Option.map_some, okR] at p
    simp [b__law_parsed, mkEnv, p, isb_non]
theorem strs_map {α : Type} (f : α → List Nat) (xs : List α) : «strs» (xs.map fun x => .str (f x)) = some (xs.map f) := by
  induction xs with
  | nil => rfl
  | cons x xs ih => simp [«strs», ih, strOf]
theorem join_s {α : Type} (f : α → List Nat) {xs : List α} {sep : List Nat} (h : ((xs.map f).map List.length).sum + (xs.map f).length * sep.length ≤ 1000) : joinD (.str sep) (.lst (xs.map fun x => .str (f x))) = some (.str (joinS sep (xs.map f))) := by
  simp only [joinD, strs_map]
  rw [if_pos (lim14 h)]
theorem add_ss {a b : List Nat} (h : a.length + b.length ≤ 1000) : binD .add (.str a) (.str b) = some (.str (a ++ b)) := by
  simp only [binD, if_pos (lim14 h)]
theorem fmt_i {v : Int} (h : v.natAbs < 1000000) : fmtD (.int v) = some (intCps v) := by
  have : v.natAbs < 2 ^ 1900 := Nat.lt_of_lt_of_le h (Nat.le_trans (by decide : 1000000 ≤ 2 ^ 20) (Nat.pow_le_pow_right (by decide) (by decide)))
  simp only [fmtD, if_pos this]
theorem r_written {s : List En} (h : SerOk s) : run T0 (n + 1) f__law_written [enS s] w = .ok (.str (wrS s)) w := by
  have lc : lcD (run T0 n) x__law_written_1 (.tp [1, 2]) (.bl true) [.sh (enS s), .no, .no] (.lst (s.map enE)) w = .ok (.lst (s.map fun e => .str (wrE e))) w := by
    refine lcD_map (fun e => .str (wrE e)) (lim14 (by have := h.len; omega)) fun e he => ?_
    have q := h.en e he
    have n1 := numOk q.lo q.hi
    have n2 := numOk (v := e.2) (by have := q.w1; omega) (by have := q.w9; omega)
    have s1 := str_i (v := e.1) (by have := q.lo; have := q.hi; omega)
    have s2 := str_i (v := e.2) (by have := q.w1; have := q.w9; omega)
    have l1 := n1.len
    have l2 := n2.len
    have a2 := add_ss (a := [42]) (b := intCps e.2) (by simp; omega)
    by_cases h1 : e.2 = 1
    · have a1 := add_ss (a := intCps e.1) (b := []) (by simp; omega)
      simp [stepL, calm, x__law_written_1, enE, s1, h1, a1, wrE]
    · have a1 := add_ss (a := intCps e.1) (b := 42 :: intCps e.2) (by simp; omega)
      simp only [List.cons_append, List.nil_append] at a2
      simp [stepL, calm, x__law_written_1, enE, s1, s2, h1, a1, a2, wrE]
  have j := join_s wrE (xs := s) (sep := [32]) (by have := (wrS_len h).1; simp only [List.length_singleton]; omega)
  rw [run_fn (fn := b__law_written) rfl rfl rfl]
  simp only [enS] at lc ⊢
  simp [b__law_written, mkEnv, lc, j, wrS]
theorem r_format_series {s : List En} (h : SerOk s) : run T0 (n + 5) f_format_series [enS s] w = .ok (.str (wrS s)) w := by
  have lc : lcD (run T0 (n + 4)) x_format_series_1 (.tp [1, 2]) (.bl true) [.sh (enS s), .no, .no] (.lst (s.map enE)) w = .ok (.lst (s.map fun e => .str (wrE e))) w := by
    refine lcD_map (fun e => .str (wrE e)) (lim14 (by have := h.len; omega)) fun e he => ?_
    have q := h.en e he
    have s1 := str_i (v := e.1) (by have := q.lo; have := q.hi; omega)
    have f1 := fmt_i (v := e.1) (by have := q.lo; have := q.hi; omega)
    have f2 := fmt_i (v := e.2) (by have := q.w1; have := q.w9; omega)
    by_cases h1 : e.2 = 1
    · simp [stepL, calm, x_format_series_1, enE, s1, h1, wrE]
    · simp [stepL, calm, x_format_series_1, enE, f1, f2, h1, wrE]
  have j := join_s wrE (xs := s) (sep := [32]) (by have := (wrS_len h).1; simp only [List.length_singleton]; omega)
  rw [run_fn (fn := b_format_series) rfl rfl rfl]
  have ck := r_check_series (n := n) (w := w) h
  simp only [enS] at lc ck ⊢
  simp [b_format_series, mkEnv, ck, lc, j, wrS]
end
end SF

namespace SF
/-! ### the cut as a text -/
theorem joinS_snoc {sep x : List Nat} : ∀ {ws : List (List Nat)}, ws ≠ [] → joinS sep (ws ++ [x]) = joinS sep ws ++ sep ++ x
  | [], h => absurd rfl h
  | [y], _ => by simp [joinS]
  | y :: z :: r, _ => by
    have := joinS_snoc (sep := sep) (x := x) (ws := z :: r) (by simp)
    rw [List.cons_append, List.cons_append, joinS, joinS, ← List.cons_append, this]
    simp
/-- the words of a cut -/
def cw (s : List En) (c : List Nat) (k : Nat) : List Nat := (if k ∈ c then [124, 32] else []) ++ intCps ((s[k]?.map (·.1)).getD 0)
theorem en_get {s : List En} (h : SerOk s) (k : Nat) : -999 ≤ (s[k]?.map (·.1)).getD 0 ∧ (s[k]?.map (·.1)).getD 0 ≤ 999 := by
  by_cases hk : k < s.length
  · rw [List.getElem?_eq_getElem hk]
    have := h.en _ (List.getElem_mem hk)
    exact ⟨this.lo, this.hi⟩
  · rw [List.getElem?_eq_none (by omega)]
    simp
theorem cw_len {s : List En} (h : SerOk s) (c : List Nat) (k : Nat) : (cw s c k).length ≤ 6 ∧ ∀ x ∈ cw s c k, x < 256 := by
  have n1 := numOk (en_get h k).1 (en_get h k).2
  have := n1.len
  unfold cw
  refine ⟨by rw [List.length_append]; split <;> simp <;> omega, fun x hx => ?_⟩
  rcases List.mem_append.mp hx with z | z
  · split at z
    · simp at z; omega
    · cases z
  · exact n1.cps x z
def wrC (s : List En) (c : List Nat) (m : Nat) : List Nat := joinS [32] ((List.range m).map (cw s c))
theorem wrC_len {s : List En} (h : SerOk s) (c : List Nat) {m : Nat} (hm : m ≤ 14) : (((List.range m).map (cw s c)).map List.length).sum + ((List.range m).map (cw s c)).length * 1 ≤ 100 ∧ (wrC s c m).length ≤ 100 ∧ ∀ x ∈ wrC s c m, x < 256 := by
  have a := sum_len (ws := (List.range m).map (cw s c)) (k := 6) fun w hw => by
    obtain ⟨e, _, rfl⟩ := List.mem_map.mp hw
    exact (cw_len h c e).1
  have b := joinS_len [32] ((List.range m).map (cw s c))
  rw [List.length_map, List.length_range] at a b ⊢
  have b' : (wrC s c m).length ≤ (((List.range m).map (cw s c)).map List.length).sum + m * 1 := b
  refine ⟨by omega, by omega, joinS_mem (by simp) fun w hw => ?_⟩
  obtain ⟨e, _, rfl⟩ := List.mem_map.mp hw
  exact (cw_len h c e).2
theorem wrC_succ (s : List En) {c : List Nat} (h0 : 0 ∉ c) (m : Nat) : wrC s c (m + 1) = (wrC s c m ++ (if m = 0 then [] else if m ∈ c then [32, 124, 32] else [32])) ++ intCps ((s[m]?.map (·.1)).getD 0) := by
  unfold wrC
  cases m with
  | zero => simp [joinS, cw, h0, List.range_succ]
  | succ m =>
    rw [List.range_succ, List.map_append, List.map_singleton, joinS_snoc (by simp)]
    unfold cw
    by_cases hc : m + 1 ∈ c <;> simp [hc]
theorem cut0 {N : Nat} {c : List Nat} (h : CutOk N c) : 0 ∉ c := fun z => by have := (h.rg 0 z).1; omega
theorem memD_int (x : Nat) (c : List Nat) : memD (.int (x : Int)) (c.map fun (k : Nat) => D.int (k : Int)) = decide (x ∈ c) := by
  induction c with
  | nil => rfl
  | cons y c ih =>
    have e : eqD (.int (y : Int)) (.int (x : Int)) = decide (x = y) := by
      rw [eqD]
      by_cases h : x = y
      · simp [h]
      · have : ¬ ((y : Int) = (x : Int)) := by omega
        simp [h, this]
    unfold memD at ih ⊢
    rw [List.map_cons, List.any_cons, ih, e]
    by_cases h1 : x = y <;> by_cases h2 : x ∈ c <;> simp [h1, h2]
theorem in_cut {w : W} (x : Nat) (c : List Nat) : cmD .isin (.int (x : Int)) (enC c) w = .ok (.bl (decide (x ∈ c))) w := by
  have a : (c.map fun (k : Nat) => D.int (k : Int)).all scal = true := by
    induction c with
    | nil => rfl
    | cons y c ih => simpa [scal] using ih
  simp only [cmD, cmpD, enC, inD, scal, a, Bool.and_self, if_true, memD_int]
  rfl
section
variable {n : Nat} {w : W}
theorem ixN_nat {m k : Nat} (h : k < m) : ixN m (k : Int) = some k := by
  have h2 : (k : Int) < (m : Int) := by omega
  simp [ixN, h2]
theorem cw_nil (s : List En) : (s.map fun e => D.str (intCps e.1)) = (List.range s.length).map fun k => D.str (cw s [] k) := by
  refine List.ext_getElem? fun k => ?_
  rw [List.getElem?_map, List.getElem?_map]
  by_cases hk : k < s.length
  · rw [List.getElem?_eq_getElem hk, List.getElem?_range hk]
    simp [cw, hk]
  · rw [List.getElem?_eq_none (by omega), List.getElem?_eq_none (by simp; omega)]
    rfl
theorem cw_set (s : List En) {pr : List Nat} {x N : Nat} (hx : x ∉ pr) : ((List.range N).map fun k => D.str (cw s pr k)).set x (.str ([124, 32] ++ cw s pr x)) = (List.range N).map fun k => D.str (cw s (pr ++ [x]) k) := by
  refine List.ext_getElem? fun k => ?_
  rw [List.getElem?_set]
  by_cases hk : k < N
  · by_cases hkx : x = k
    · subst hkx
      simp [hk, cw, hx]
    · have : ¬ k = x := fun z => hkx z.symm
      simp [hk, hkx, cw, this]
  · by_cases hkx : x = k
    · subst hkx
      simp [hk]
    · simp [hkx, hk]
theorem flats_str {α : Type} (f : α → List Nat) (l : List α) : flats (l.map fun x => D.str (f x)) = true := by
  induction l with
  | nil => rfl
  | cons e l ih => simp [ih]
theorem r_format_cut {s : List En} (h : SerOk s) {c : List Nat} (hc : CutOk s.length c) : run T0 (n + 5) f_format_cut [enS s, enC c] w = .ok (.str (wrC s c s.length)) w := by
  have hN := h.len
  have lc : lcD (run T0 (n + 4)) x_format_cut_1 (.tp [3, 4]) (.bl true) [.sh (enS s), .sh (enC c), .no, .no, .no, .no] (.lst (s.map enE)) w = .ok (.lst (s.map fun e => .str (intCps e.1))) w := by
    refine lcD_map (enc := enE) (fun (e : En) => D.str (intCps e.1)) (lim14 (show s.length ≤ 1000 by omega)) fun e he => ?_
    have q := h.en e he
    have s1 := str_i (v := e.1) (by have := q.lo; have := q.hi; omega)
    simp [stepL, calm, x_format_cut_1, enE, s1]
  rw [cw_nil] at lc
  obtain ⟨ρ1, w1, e1, hI⟩ := for_enc (call := run T0 (n + 4)) (tg := .nm 5) (body := x_format_cut_2) (enc := fun (k : Nat) => D.int (k : Int)) (w := w)
    (ρ := [.sh (enS s), .sh (enC c), .ow (.lst ((List.range s.length).map fun k => .str (cw s [] k))), .no, .no, .no])
    (fun pr ρ w1 => w1 = w ∧ ∃ o, ρ = [.sh (enS s), .sh (enC c), .ow (.lst ((List.range s.length).map fun k => .str (cw s pr k))), .no, .no, o]) c [] ⟨rfl, _, rfl⟩ (by
      rintro pr x ρ w2 hp ⟨rfl, o, rfl⟩
      rw [List.nil_append] at hp
      have hx : x ∉ pr := by
        have := hc.inc.sublist hp.sublist
        rw [List.pairwise_append] at this
        intro z
        have := this.2.2 x z x (by simp)
        omega
      have hxN : x < s.length := (hc.rg x (hp.subset (by simp))).2
      have ix : idxD (.lst ((List.range s.length).map fun k => .str (cw s pr k))) (.int (x : Int)) = some (.str (cw s pr x)) := idx_lst (by simp [hxN])
      have ad := add_ss (a := [124, 32]) (b := cw s pr x) (by have := (cw_len h pr x).1; simp; omega)
      have sd : setD (.lst ((List.range s.length).map fun k => .str (cw s pr k))) (.int (x : Int)) (.str ([124, 32] ++ cw s pr x)) = some (.lst ((List.range s.length).map fun k => .str (cw s (pr ++ [x]) k))) := by
        simp only [setD, List.length_map, List.length_range, ixN_nat hxN, cw_set s hx]
      refine ⟨[.sh (enS s), .sh (enC c), .ow (.lst ((List.range s.length).map fun k => .str (cw s (pr ++ [x]) k))), .no, .no, .sh (.int (x : Int))], w2, ?_, rfl, _, rfl⟩
      simp only [List.cons_append, List.nil_append] at ad sd
      simp [stepF, x_format_cut_2, ix, ad, sd])
  obtain ⟨rfl, o, rfl⟩ := hI
  rw [List.nil_append] at e1
  have j := join_s (cw s c) (xs := List.range s.length) (sep := [32]) (by have := (wrC_len h c hN).1; simp only [List.length_singleton]; omega)
  have ow : ownable (.lst ((List.range s.length).map fun k => .str (cw s [] k))) = true := flats_str _ _
  have ck := r_check_series (n := n) (w := w1) h
  have cc := r_check_cut (n := n + 1) (w := w1) h hc
  rw [run_fn (fn := b_format_cut) rfl rfl rfl]
  simp only [enS, enC] at lc ck cc e1 ⊢
  simp [b_format_cut, mkEnv, ck, cc, lc, asgD_ow _ _ _ ow, e1, j, wrC]
end
end SF

namespace SF
/-! ### numbers from a to b -/
def rg (a b : Nat) : List Nat := List.range' a (b - a)
@[simp] theorem mem_rg {a b x : Nat} : x ∈ rg a b ↔ a ≤ x ∧ x < b := by
  unfold rg
  rw [List.mem_range'_1]
  omega
theorem rg_nodup (a b : Nat) : (rg a b).Nodup := List.nodup_range'
theorem rg_sorted (a b : Nat) : (rg a b).Pairwise (· < ·) := List.pairwise_lt_range'
@[simp] theorem rg_length (a b : Nat) : (rg a b).length = b - a := by simp [rg]
theorem rg_nil {a b : Nat} (h : b ≤ a) : rg a b = [] := by
  unfold rg
  rw [show b - a = 0 by omega]
  rfl
theorem rg_cons {a b : Nat} (h : a < b) : rg a b = a :: rg (a + 1) b := by
  unfold rg
  rw [show b - a = (b - (a + 1)) + 1 by omega, List.range'_succ]
theorem rg_snoc {a b : Nat} (h : a ≤ b) : rg a (b + 1) = rg a b ++ [b] := by
  unfold rg
  rw [show b + 1 - a = (b - a) + 1 by omega, List.range'_concat]
  congr 2
  omega
theorem rg_app {a b c : Nat} (h1 : a ≤ b) (h2 : b ≤ c) : rg a c = rg a b ++ rg b c := by
  unfold rg
  rw [show c - a = (b - a) + (c - b) by omega, ← List.range'_append_1]
  rw [show a + (b - a) = b by omega]
theorem rangeN {x y : Int} {a b : Nat} (hx : x = (a : Int)) (hy : y = (b : Int)) (ha : a ≤ 1000) (hb : b ≤ 1000) : rangeL x y 1 = some ((rg a b).map fun (k : Nat) => D.int (k : Int)) := by
  subst hx hy
  unfold rangeL
  rw [if_pos (by omega), if_pos rfl]
  unfold rg
  rw [List.range'_eq_map_range, List.map_map]
  congr 1
  rw [show ((b : Int) - (a : Int)).toNat = b - a by omega]
  apply List.map_congr_left
  intro k _
  simp
theorem pre_notin {α : Type} {pre : List α} {x : α} {l : List α} (h : pre ++ [x] <+: l) (hn : l.Nodup) : x ∉ pre := by
  have := h.sublist.nodup hn
  rw [List.nodup_append] at this
  intro z
  exact this.2.2 x z x (by simp) rfl
theorem pre_mem {α : Type} {pre : List α} {x : α} {l : List α} (h : pre ++ [x] <+: l) : x ∈ l := h.subset (by simp)
theorem pre_sub {α : Type} {pre : List α} {x y : α} {l : List α} (h : pre ++ [x] <+: l) (hy : y ∈ pre) : y ∈ l := h.subset (List.mem_append_left _ hy)
theorem pre_len {α : Type} {pre : List α} {x : α} {l : List α} (h : pre ++ [x] <+: l) : pre.length < l.length := by
  have := h.length_le
  rw [List.length_append] at this
  simp at this
  omega
theorem flatMap_len {α β : Type} {f : α → List β} {c : Nat} : ∀ {l : List α}, (∀ x ∈ l, (f x).length ≤ c) → (l.flatMap f).length ≤ l.length * c
  | [], _ => by simp
  | x :: l, h => by
    rw [List.flatMap_cons, List.length_append, List.length_cons, Nat.add_mul]
    have h1 := h x List.mem_cons_self
    have h2 := flatMap_len (l := l) fun y z => h y (List.mem_cons_of_mem _ z)
    omega
theorem tab_len (ks : List (Nat × Nat)) (f : Nat → Nat → D) : (tab ks f).length = ks.length := by simp [tab]
theorem LIM_eq : LIM = 100000 := rfl
/-- a loop over numbers -/
theorem for_nat {call : Nat → List D → W → R D} {tg : Tg} {body : List S} (I : List Nat → Env → W → Prop) (xs : List Nat) {ρ : Env} {w : W} (h0 : I [] ρ w)
    (hs : ∀ (pr : List Nat) (x : Nat) ρ w, pr ++ [x] <+: xs → I pr ρ w → ∃ ρ' w', stepF call tg body (.int (x : Int)) ρ w = .ok (.nx ρ') w' ∧ I (pr ++ [x]) ρ' w') :
    ∃ ρ' w', forX call tg body (xs.map fun (k : Nat) => D.int (k : Int)) ρ w = .ok (.nx ρ') w' ∧ I xs ρ' w' := by
  obtain ⟨ρ', w', e, h⟩ := for_enc (enc := fun (k : Nat) => D.int (k : Int)) I xs [] h0 (fun pr x ρ w hp hi => hs pr x ρ w (by simpa using hp) hi)
  exact ⟨ρ', w', e, by simpa using h⟩
/-! ### the costs of all pieces -/
def cst (sq : Bool) (s : List En) (i j : Nat) : Rat := pc sq (slice s i j)
def cKeys (N : Nat) : List (Nat × Nat) := (rg 0 N).flatMap fun i => (rg (i + 1) (N + 1)).map fun j => (i, j)
theorem mem_cKeys {N i j : Nat} : (i, j) ∈ cKeys N ↔ i < j ∧ j ≤ N := by
  unfold cKeys
  simp only [List.mem_flatMap, mem_rg, List.mem_map]
  constructor
  · rintro ⟨a, h1, b, h2, h3⟩
    cases h3
    omega
  · intro h
    exact ⟨i, by omega, j, by omega, rfl⟩
def cD (sq : Bool) (s : List En) : D := .dT (tab (cKeys s.length) fun i j => enQ (cst sq s i j))
theorem flat_tabQ {f : Nat → Nat → Rat} (ks : List (Nat × Nat)) : flats ((tab ks fun i j => enQ (f i j)).map (·.2)) = true := tab_flats _ (fun _ _ => rfl) ks
section
variable {n : Nat} {w : W}
theorem set_tab {i : Nat} {ks : List (Nat × Nat)} {f : Nat → Nat → D} {a b : Nat} {x y : Int} {v : D} (hx : x = (a : Int)) (hy : y = (b : Int)) (h : (a, b) ∉ ks) (hl : ks.length < 100000) (hv : v = f a b) : setD (.dT (tab ks f)) (.tup [.int x, .int y]) v = some (.dT (tab (ks ++ [(a, b)]) f)) := by
  subst hx hy
  have e : (tab ks f).length < LIM := by rw [tab_len, LIM_eq]; exact hl
  simp [setD, «ints», intOf, e, putT_tab f h hv]
theorem r_piece_costs (sq : Bool) {s : List En} (h : SerOk s) : run T0 (n + 4) f_piece_costs [kd sq, enS s] w = .ok (cD sq s) w := by
  rw [run_fn (fn := b_piece_costs) rfl rfl rfl]
  have hl := h.len
  have hp := h.pos
  obtain ⟨f, hf⟩ : ∃ f : Nat → Nat → D, f = fun i j => enQ (cst sq s i j) := ⟨_, rfl⟩
  have outer := for_nat (call := run T0 (n + 3)) (tg := .nm 4) (body := x_piece_costs_2)
    (fun pre ρ w' => w' = w ∧ ∃ y1 y2, ρ = [.sh (kd sq), .sh (enS s), .sh (.int (s.length : Int)), .ow (.dT (tab (pre.flatMap fun i => (rg (i + 1) (s.length + 1)).map fun j => (i, j)) f)), os y1, os y2])
    (rg 0 s.length) (ρ := [.sh (kd sq), .sh (enS s), .sh (.int (s.length : Int)), .ow (.dT []), .no, .no]) (w := w) ⟨rfl, none, none, rfl⟩ ?_
  · obtain ⟨ρ', w', e, rfl, y1, y2, rfl⟩ := outer
    simp [b_piece_costs, mkEnv, len_enS, rangeN (x := 0) (a := 0) (b := s.length) rfl rfl (by omega) (by omega), e, cD, cKeys, hf]
  · rintro pre i ρ w' hpre ⟨rfl, y1, y2, rfl⟩
    have hi := pre_mem hpre
    rw [mem_rg] at hi
    have hni := pre_notin hpre (rg_nodup _ _)
    have hlen := pre_len hpre
    rw [rg_length] at hlen
    generalize hK : (pre.flatMap fun i => (rg (i + 1) (s.length + 1)).map fun j => (i, j)) = K
    have hKi : ∀ j, (i, j) ∉ K := fun j z => by
      rw [← hK] at z
      simp only [List.mem_flatMap, List.mem_map] at z
      obtain ⟨a, h1, b, h2, h3⟩ := z
      cases h3
      exact hni h1
    have hKl : K.length ≤ 14 * 14 := by
      rw [← hK]
      refine Nat.le_trans (flatMap_len (c := 14) fun x hx => ?_) (Nat.mul_le_mul_right _ (by omega))
      simp
      omega
    have inner := for_nat (call := run T0 (n + 3)) (tg := .nm 5) (body := x_piece_costs_1)
      (fun pre2 ρ w2 => w2 = w' ∧ ∃ y2, ρ = [.sh (kd sq), .sh (enS s), .sh (.int (s.length : Int)), .ow (.dT (tab (K ++ pre2.map fun j => (i, j)) f)), .sh (.int (i : Int)), os y2])
      (rg (i + 1) (s.length + 1)) (ρ := [.sh (kd sq), .sh (enS s), .sh (.int (s.length : Int)), .ow (.dT (tab K f)), .sh (.int (i : Int)), os y2]) (w := w') ⟨rfl, y2, by simp⟩ ?_
    · obtain ⟨ρ', w2, e, rfl, y2', rfl⟩ := inner
      refine ⟨_, _, ?_, rfl, some (.int (i : Int)), y2', rfl⟩
      have t := rangeN (x := (i : Int) + 1) (y := (s.length : Int) + 1) (a := i + 1) (b := s.length + 1) (by simp) (by simp) (by omega) (by omega)
      rw [List.flatMap_append, hK]
      simp [stepF, x_piece_costs_2, t, e]
    · rintro pre2 j ρ w2 hpre2 ⟨rfl, y2, rfl⟩
      have hj := pre_mem hpre2
      rw [mem_rg] at hj
      have hnj := pre_notin hpre2 (rg_nodup _ _)
      have hlen2 := pre_len hpre2
      rw [rg_length] at hlen2
      refine ⟨_, _, ?_, rfl, some (.int (j : Int)), rfl⟩
      have hs := r_piece_cost (n := n) (w := w2) sq (h.slice (a := i) (b := j) (by omega) (by omega))
      have hsl := slc_nat s (a := i) (b := j) (by omega) (by omega)
      have hset := set_tab (i := 3) (ks := K ++ pre2.map fun j => (i, j)) (f := f) (a := i) (b := j) (x := (i : Int)) (y := (j : Int)) (v := enQ (pc sq (slice s i j))) rfl rfl (by
        rw [List.mem_append]
        rintro (z | z)
        · exact hKi j z
        · simp at z
          exact hnj z) (by simp; omega) (by rw [hf]; rfl)
      simp [stepF, x_piece_costs_1, hsl, hs, hset]
end
end SF

namespace SF
theorem pre_rg : ∀ {pre : List Nat} {x a b : Nat}, pre ++ [x] <+: rg a b → pre = rg a x ∧ a ≤ x ∧ x < b
  | [], x, a, b, h => by
    by_cases hab : a < b
    · rw [rg_cons hab, List.nil_append, List.cons_prefix_cons] at h
      rw [h.1, rg_nil (Nat.le_refl a)]
      exact ⟨rfl, Nat.le_refl a, hab⟩
    · rw [rg_nil (by omega)] at h
      simp at h
  | y :: pre, x, a, b, h => by
    by_cases hab : a < b
    · rw [rg_cons hab, List.cons_append, List.cons_prefix_cons] at h
      obtain ⟨h1, h2, h3⟩ := pre_rg h.2
      rw [h.1, h1]
      exact ⟨by rw [← rg_cons (by omega)], by omega, h3⟩
    · rw [rg_nil (by omega)] at h
      simp at h
/-! ### the least costs from a place on -/
def ends (N p i : Nat) : List Nat := if p = 0 then [N] else rg (i + 1) (N - p + 1)
def mC (c : Nat → Nat → Rat) (N : Nat) : Nat → Nat → Rat
  | 0, _ => 0
  | p + 1, i => least ((ends N p i).map fun b => c i b + mC c N p b)
theorem mC_pos {c : Nat → Nat → Rat} {N x i : Nat} (h : 1 ≤ x) : mC c N x i = least ((ends N (x - 1) i).map fun b => c i b + mC c N (x - 1) b) := by
  obtain ⟨p, rfl⟩ : ∃ p, x = p + 1 := ⟨x - 1, by omega⟩
  rfl
/-- the keys of the table: so many pieces from a place on -/
def Key2 (N p i : Nat) : Prop := (p = 0 ∧ i = N) ∨ (1 ≤ p ∧ p + i ≤ N)
def tKeys (N : Nat) : List (Nat × Nat) := (0, N) :: (rg 1 (N + 1)).flatMap fun p => (rg 0 (N - p + 1)).map fun i => (p, i)
theorem mem_tKeys {N p i : Nat} : (p, i) ∈ tKeys N ↔ Key2 N p i := by
  unfold tKeys Key2
  simp only [List.mem_cons, List.mem_flatMap, mem_rg, List.mem_map, Prod.mk.injEq]
  constructor
  · rintro (h | ⟨a, h1, b, h2, h3, h4⟩)
    · exact .inl h
    · omega
  · rintro (h | h)
    · exact .inl h
    · exact .inr ⟨p, by omega, i, by omega, rfl, rfl⟩
theorem ends_ok {N p i b : Nat} (h : p + 1 + i ≤ N) (hb : b ∈ ends N p i) : i < b ∧ b ≤ N ∧ Key2 N p b := by
  unfold ends at hb
  unfold Key2
  split at hb
  · simp at hb
    omega
  · rw [mem_rg] at hb
    omega
theorem ends_ne {N p i : Nat} (h : p + 1 + i ≤ N) : ends N p i ≠ [] := by
  unfold ends
  split
  · simp
  · rw [rg_cons (by omega)]
    simp
theorem mC_sm {c : Nat → Nat → Rat} {N : Nat} (hc : ∀ i j, i < j → j ≤ N → Sm 40 (c i j)) : ∀ p i, Key2 N p i → Sm (41 * p + 1) (mC c N p i)
  | 0, i, _ => by
    show Sm 1 0
    constructor <;> decide
  | p + 1, i, h => by
    have hk : p + 1 + i ≤ N := by rcases h with h | h <;> omega
    refine Sm.of_mem (fun q z => ?_) (by simpa using ends_ne hk)
    obtain ⟨b, hb, rfl⟩ := List.mem_map.mp z
    obtain ⟨h1, h2, h3⟩ := ends_ok hk hb
    exact ((hc i b h1 h2).add (mC_sm hc p b h3)).mono (by omega)
theorem key_le {N p i : Nat} (h : Key2 N p i) : p ≤ N ∧ i ≤ N := by
  unfold Key2 at h
  omega
theorem cst_sm (sq : Bool) {s : List En} (h : SerOk s) : ∀ i j, i < j → j ≤ s.length → Sm 40 (cst sq s i j) := fun i j h1 h2 => pc_sm sq (h.slice h1 h2)
theorem mC_sm' (sq : Bool) {s : List En} (h : SerOk s) {p i : Nat} (hk : Key2 s.length p i) : Sm 600 (mC (cst sq s) s.length p i) := by
  have := h.len
  have := key_le hk
  exact (mC_sm (cst_sm sq h) p i hk).mono (by omega)
theorem filter_ends {N p i : Nat} (h : p + 1 + i ≤ N) (q : Nat → Bool) (hq : ∀ b, i < b → b ≤ N → (q b = true ↔ Key2 N p b)) : (rg (i + 1) (N - p + 1)).filter q = ends N p i := by
  unfold ends
  split
  · rename_i hp
    subst hp
    rw [Nat.sub_zero, rg_snoc (by omega), List.filter_append]
    have e1 : (rg (i + 1) N).filter q = [] := by
      rw [List.filter_eq_nil_iff]
      intro b hb
      rw [mem_rg] at hb
      rw [hq b (by omega) (by omega)]
      unfold Key2
      omega
    have e2 : q N = true := (hq N (by omega) (by omega)).mpr (.inl ⟨rfl, rfl⟩)
    rw [e1]
    simp [e2]
  · rw [List.filter_eq_self]
    intro b hb
    rw [mem_rg] at hb
    rw [hq b (by omega) (by omega)]
    exact .inr ⟨by omega, by omega⟩
def tabM (sq : Bool) (s : List En) (ks : List (Nat × Nat)) : D := .dT (tab ks fun p i => enQ (mC (cst sq s) s.length p i))
def tD2 (sq : Bool) (s : List En) : D := tabM sq s (tKeys s.length)
@[simp] theorem plains_Q (n : Nat) (l : List Rat) : plainsAt (n + 2) (l.map enQ) = true := by
  induction l with
  | nil => simp [plainsAt]
  | cons q l ih => simp [plainsAt, ih, enQ, plainAt]
theorem eqDs_nil (l : List D) : eqDs l [] = l.isEmpty := by cases l <;> rfl
section
variable {n : Nat} {w : W}
theorem cm_neNil (l : List Rat) : cmD .ne (.lst (l.map enQ)) (.lst []) w = .ok (.bl (!l.isEmpty)) w := by
  have : cmpD .ne (.lst (l.map enQ)) (.lst []) = some (!l.isEmpty) := by
    simp [cmpD, plainAt, plainsAt, eqD, eqDs_nil]
  rw [cmD, this]
  rfl
theorem flats_Q (l : List Rat) : flats (l.map enQ) = true := by
  induction l with
  | nil => rfl
  | cons q l ih => simp [ih]
theorem valT_yes {f : Nat → Nat → D} {ks : List (Nat × Nat)} {x y : Int} {a b : Nat} (hx : x = (a : Int)) (hy : y = (b : Int)) (h : (a, b) ∈ ks) : valT (tab ks f) [x, y] = some (f a b) := by
  rw [valT_tab f hx hy, if_pos h]
theorem r_rows_of (sq : Bool) {s : List En} (h : SerOk s) : run T0 (n + 5) f_rows_of [kd sq, enS s] w = .ok (.tup [cD sq s, tD2 sq s]) w := by
  rw [run_fn (fn := b_rows_of) rfl rfl rfl]
  have hl := h.len
  have hp := h.pos
  obtain ⟨N, hN⟩ : ∃ N, N = s.length := ⟨_, rfl⟩
  obtain ⟨f, hf⟩ : ∃ f : Nat → Nat → D, f = fun p i => enQ (mC (cst sq s) N p i) := ⟨_, rfl⟩
  obtain ⟨CD, hCD⟩ : ∃ CD, CD = cD sq s := ⟨_, rfl⟩
  have hcost : ∀ i j : Nat, i < j → j ≤ N → idxD CD (.tup [.int (i : Int), .int (j : Int)]) = some (enQ (cst sq s i j)) := fun i j h1 h2 => by
    rw [hCD, cD, idx_dT, valT_yes rfl rfl (mem_cKeys.mpr ⟨h1, by omega⟩)]
  have levels := for_nat (call := run T0 (n + 4)) (tg := .nm 5) (body := x_rows_of_3)
    (fun pre ρ w' => w' = w ∧ ∃ y1 y2 y3 y4, ρ = [.sh (kd sq), .sh (enS s), .sh CD, .sh (.int (N : Int)), .ow (.dT (tab ((0, N) :: pre.flatMap fun p => (rg 0 (N - p + 1)).map fun i => (p, i)) f)), os y1, os y2, y3, os y4] ∧ (y3 = .no ∨ ∃ d, y3 = .ow d))
    (rg 1 (N + 1)) (ρ := [.sh (kd sq), .sh (enS s), .sh CD, .sh (.int (N : Int)), .ow (.dT [([0, (N : Int)], enQ 0)]), .no, .no, .no, .no]) (w := w)
    ⟨rfl, none, none, .no, none, by simp [tab, hf, mC], .inl rfl⟩ ?_
  · obtain ⟨ρ', w', e, rfl, y1, y2, y3, y4, rfl, -⟩ := levels
    have hpc := r_piece_costs (n := n) (w := w') sq h
    rw [← hCD] at hpc
    have hdone : doneD true (.tup [.int 0, .int (s.length : Int)]) (.tup [.int 0, .int 1]) = some (.dT [([0, (s.length : Int)], enQ 0)]) := by
      simp [doneD, «ints», intOf, enQ]
    have hown : ownable (.dT [([0, (s.length : Int)], enQ 0)]) = true := by simp [ownable]
    have ht := rangeN (x := 1) (y := (s.length : Int) + 1) (a := 1) (b := s.length + 1) rfl (by simp) (by omega) (by omega)
    rw [hN] at e
    have hCf : flat CD = false := by rw [hCD]; rfl
    simp [b_rows_of, mkEnv, hpc, len_enS, hdone, asgD_ow _ _ _ hown, hCf, ht, e]
    rw [hCD, tD2, tabM, hf, hN]
    simp [tKeys]
  · rintro pre x ρ w' hpre ⟨rfl, y1, y2, y3, y4, rfl, hy3⟩
    obtain ⟨rfl, hx1, hx2⟩ := pre_rg hpre
    obtain ⟨K, hK⟩ : ∃ K, K = (0, N) :: (rg 1 x).flatMap fun p => (rg 0 (N - p + 1)).map fun i => (p, i) := ⟨_, rfl⟩
    have memK : ∀ p i, (p, i) ∈ K ↔ Key2 N p i ∧ p < x := fun p i => by
      rw [hK]
      unfold Key2
      simp only [List.mem_cons, List.mem_flatMap, mem_rg, List.mem_map, Prod.mk.injEq]
      constructor
      · rintro (h | ⟨a, h1, b, h2, h3, h4⟩) <;> omega
      · rintro ⟨h | h, h2⟩
        · exact .inl h
        · exact .inr ⟨p, by omega, i, by omega, rfl, rfl⟩
    have hKl : K.length ≤ 300 := by
      rw [hK, List.length_cons]
      have := flatMap_len (c := 15) (l := rg 1 x) (f := fun p => (rg 0 (N - p + 1)).map fun i => (p, i)) (fun p hp => by simp; omega)
      rw [rg_length] at this
      omega
    rw [← hK]
    have starts := for_nat (call := run T0 (n + 4)) (tg := .nm 6) (body := x_rows_of_2)
      (fun pre2 ρ w2 => w2 = w' ∧ ∃ y2 y3 y4, ρ = [.sh (kd sq), .sh (enS s), .sh CD, .sh (.int (N : Int)), .ow (.dT (tab (K ++ pre2.map fun i => (x, i)) f)), .sh (.int (x : Int)), os y2, y3, os y4] ∧ (y3 = .no ∨ ∃ d, y3 = .ow d))
      (rg 0 (N - x + 1)) (ρ := [.sh (kd sq), .sh (enS s), .sh CD, .sh (.int (N : Int)), .ow (.dT (tab K f)), .sh (.int (x : Int)), os y2, y3, os y4]) (w := w') ⟨rfl, y2, y3, y4, by simp, hy3⟩ ?_
    · obtain ⟨ρ', w2, e, rfl, y2', y3', y4', rfl, hy3'⟩ := starts
      refine ⟨_, _, ?_, rfl, some (.int (x : Int)), y2', y3', y4', rfl, hy3'⟩
      have ht := rangeN (x := 0) (y := (N : Int) - (x : Int) + 1) (a := 0) (b := N - x + 1) rfl (by omega) (by omega) (by omega)
      rw [List.flatMap_append, ← List.cons_append, ← hK]
      rcases hy3 with rfl | ⟨d, rfl⟩ <;> simp [stepF, x_rows_of_3, ht, e]
    · rintro pre2 i ρ w2 hpre2 ⟨rfl, y2, y3, y4, rfl, hy3⟩
      obtain ⟨rfl, -, hi2⟩ := pre_rg hpre2
      obtain ⟨K2, hK2⟩ : ∃ K2, K2 = K ++ (rg 0 i).map fun i => (x, i) := ⟨_, rfl⟩
      have memK2 : ∀ b, (x - 1, b) ∈ K2 ↔ Key2 N (x - 1) b := fun b => by
        rw [hK2, List.mem_append, memK]
        constructor
        · rintro (z | z)
          · exact z.1
          · simp at z
            omega
        · intro z
          exact .inl ⟨z, by omega⟩
      have nK2 : (x, i) ∉ K2 := by
        rw [hK2, List.mem_append, memK]
        simp
      have hK2l : K2.length ≤ 400 := by rw [hK2]; simp; omega
      rw [← hK2]
      have borders := for_nat (call := run T0 (n + 4)) (tg := .nm 8) (body := x_rows_of_1)
        (fun pre3 ρ w3 => w3 = w2 ∧ ∃ y4, ρ = [.sh (kd sq), .sh (enS s), .sh CD, .sh (.int (N : Int)), .ow (.dT (tab K2 f)), .sh (.int (x : Int)), .sh (.int (i : Int)), .ow (.lst (((pre3.filter fun b => decide ((x - 1, b) ∈ K2)).map fun b => cst sq s i b + mC (cst sq s) N (x - 1) b).map enQ)), os y4])
        (rg (i + 1) (N - (x - 1) + 1)) (ρ := [.sh (kd sq), .sh (enS s), .sh CD, .sh (.int (N : Int)), .ow (.dT (tab K2 f)), .sh (.int (x : Int)), .sh (.int (i : Int)), .ow (.lst []), os y4]) (w := w2) ⟨rfl, y4, by simp⟩ ?_
      · obtain ⟨ρ', w3, e, rfl, y4', rfl⟩ := borders
        rw [filter_ends (p := x - 1) (by omega) _ (fun b _ _ => by rw [decide_eq_true_eq, memK2])] at e
        have hne : (ends N (x - 1) i).map (fun b => cst sq s i b + mC (cst sq s) N (x - 1) b) ≠ [] := by
          simpa using ends_ne (N := N) (p := x - 1) (i := i) (by omega)
        have hval : enQ (least ((ends N (x - 1) i).map fun b => cst sq s i b + mC (cst sq s) N (x - 1) b)) = f x i := by
          rw [hf]
          show _ = enQ (mC (cst sq s) N x i)
          rw [mC_pos hx1]
        have hsm : ∀ q ∈ (ends N (x - 1) i).map (fun b => cst sq s i b + mC (cst sq s) N (x - 1) b), Sm 3990 q := fun q z => by
          obtain ⟨b, hb, rfl⟩ := List.mem_map.mp z
          obtain ⟨h1, h2, h3⟩ := ends_ok (N := N) (p := x - 1) (i := i) (by omega) hb
          have := mC_sm' sq h (p := x - 1) (i := b) (by rw [← hN]; exact h3)
          rw [← hN] at this
          exact ((cst_sm sq h i b h1 (by omega)).add this).mono (by decide)
        have hsml := r_smallest (n := n + 2) (w := w3) hne hsm
        have hnn := cm_neNil (w := w3) ((ends N (x - 1) i).map (fun b => cst sq s i b + mC (cst sq s) N (x - 1) b))
        generalize (ends N (x - 1) i).map (fun b => cst sq s i b + mC (cst sq s) N (x - 1) b) = ways at *
        have hemp : ways.isEmpty = false := by cases ways <;> simp at hne ⊢
        have ht := rangeN (x := (i : Int) + 1) (y := (N : Int) - (x : Int) + 2) (a := i + 1) (b := N - (x - 1) + 1) (by simp) (by omega) (by omega) (by omega)
        have hset := set_tab (i := 4) (ks := K2) (f := f) (a := x) (b := i) (x := (x : Int)) (y := (i : Int)) (v := enQ (least ways)) rfl rfl nK2 (by omega) hval
        refine ⟨_, _, ?_, rfl, some (.int (i : Int)), .ow (.lst (ways.map enQ)), y4', rfl, .inr ⟨_, rfl⟩⟩
        rw [List.map_append, ← List.append_assoc, ← hK2]
        rcases hy3 with rfl | ⟨d, rfl⟩ <;> simp [stepF, x_rows_of_2, ht, e, hnn, hemp, hsml, hset]
      · rintro pre3 b ρ w3 hpre3 ⟨rfl, y4, rfl⟩
        have hb := pre_mem hpre3
        rw [mem_rg] at hb
        have hl3 := pre_len hpre3
        rw [rg_length] at hl3
        have hv := valT_tab f (x := (x : Int) - 1) (y := (b : Int)) (a := x - 1) (b := b) (by omega) rfl K2
        rw [List.filter_append, List.map_append, List.map_append]
        by_cases c : (x - 1, b) ∈ K2
        · rw [if_pos c] at hv
          have hk := (memK2 b).mp c
          have s1 := cst_sm sq h i b (by omega) (by omega)
          have s2 := mC_sm' sq h (p := x - 1) (i := b) (by rw [← hN]; exact hk)
          rw [← hN] at s2
          have hpl := r_plus (n := n + 1) (s1.mono (by decide : 40 ≤ 1900)) (s2.mono (by decide : 600 ≤ 1900)) w3
          have hv' : valT (tab K2 f) [(x : Int) - 1, (b : Int)] = some (enQ (mC (cst sq s) N (x - 1) b)) := by rw [hv, hf]
          have hc := hcost i b (by omega) (by omega)
          refine ⟨_, _, ?_, rfl, some (.int (b : Int)), rfl⟩
          simp [stepF, x_rows_of_1, hv', hc, hpl, c]
          rw [appS_ok _ _ _ rfl (by
            rw [LIM_eq]
            have := List.length_filter_le (fun b => decide ((x - 1, b) ∈ K2)) pre3
            simp
            omega)]
          simp
        · rw [if_neg c] at hv
          refine ⟨_, _, ?_, rfl, some (.int (b : Int)), rfl⟩
          simp [stepF, x_rows_of_1, hv, c]
end
end SF

namespace SF
section
variable {call : Nat → List D → W → R D} {ρ : Env} {w : W}
/-! ### comprehensions with a condition -/
theorem stepL_if {elt cond : E} {tg : Tg} {d y : D} {ρ' : Env} {b : Bool} (h1 : bindTg tg d ρ = some ρ') (h2 : ev call cond ρ' w = .ok (.bl b) w) (h3 : b = true → ev call elt ρ' w = .ok y w) : stepL call elt tg cond ρ d w = .ok (if b = true then some y else none) w := by
  unfold stepL
  rw [h1]
  cases b with
  | true => simp [h2, calm, h3]
  | false => simp [h2, calm]
theorem lc_fm {α : Type} {elt cond : E} {tg : Tg} {enc : α → D} (p : α → Bool) (f : α → D) : ∀ {xs : List α}, (∀ x ∈ xs, stepL call elt tg cond ρ (enc x) w = .ok (if p x = true then some (f x) else none) w) → lcX call elt tg cond ρ (xs.map enc) w = .ok ((xs.filter p).map f) w
  | [], _ => rfl
  | x :: xs, h => by
    unfold lcX
    rw [List.map_cons, lcRun, h x List.mem_cons_self]
    simp only []
    have ih := lc_fm (xs := xs) p f fun y hy => h y (List.mem_cons_of_mem _ hy)
    unfold lcX at ih
    rw [ih]
    by_cases c : p x = true
    · simp [c]
    · simp [c]
theorem lcD_fm {α : Type} {elt cond : E} {tg : Tg} {enc : α → D} (p : α → Bool) (f : α → D) {xs : List α} (hl : xs.length ≤ LIM) (h : ∀ x ∈ xs, stepL call elt tg cond ρ (enc x) w = .ok (if p x = true then some (f x) else none) w) : lcD call elt tg cond ρ (.lst (xs.map enc)) w = .ok (.lst ((xs.filter p).map f)) w := by
  unfold lcD
  simp only [itemsD]
  rw [if_pos (by simpa using hl), lc_fm p f h]
  rfl
end
/-! ### least costs -/
/-- the least cost with so many pieces -/
def lcst (sq : Bool) (s : List En) (p : Nat) : Rat := mC (cst sq s) s.length p 0
def lcsts (sq : Bool) (s : List En) : List Rat := (rg 1 (s.length + 1)).map (lcst sq s)
theorem lcst_sm (sq : Bool) {s : List En} (h : SerOk s) {p : Nat} (h1 : 1 ≤ p) (h2 : p ≤ s.length) : Sm 600 (lcst sq s p) := mC_sm' sq h (.inr ⟨h1, by omega⟩)
theorem lcsts_get (sq : Bool) (s : List En) {k : Nat} (h : k < s.length) : (lcsts sq s)[k]? = some (lcst sq s (k + 1)) := by
  unfold lcsts rg
  rw [List.getElem?_map, List.getElem?_range' (by omega)]
  simp
  congr 1
  omega
theorem lcsts_len (sq : Bool) (s : List En) : (lcsts sq s).length = s.length := by simp [lcsts]
section
variable {n : Nat} {w : W}
theorem r_check_pieces {s : List En} {p : Nat} (h1 : 1 ≤ p) (h2 : p ≤ s.length) : run T0 (n + 2) f_check_pieces [enS s, .int (p : Int)] w = .ok .non w := by
  rw [run_fn (fn := b_check_pieces) rfl rfl rfl]
  have q1 : (1 : Int) ≤ (p : Int) := by omega
  have q2 : (p : Int) ≤ (s.length : Int) := by omega
  simp [b_check_pieces, mkEnv, len_enS, r_is_int, q1, q2]
theorem r_check_all (sq : Bool) {s : List En} (h : SerOk s) {p : Nat} (h1 : 1 ≤ p) (h2 : p ≤ s.length) : run T0 (n + 5) f_check_all [kd sq, enS s, .int (p : Int)] w = .ok .non w := by
  rw [run_fn (fn := b_check_all) rfl rfl rfl]
  simp [b_check_all, mkEnv, r_check_kind, r_check_series h, r_check_pieces h1 h2]
theorem idx_tD2 (sq : Bool) (s : List En) {x y : Int} {p i : Nat} (hx : x = (p : Int)) (hy : y = (i : Int)) (h : Key2 s.length p i) : idxD (tD2 sq s) (.tup [.int x, .int y]) = some (enQ (mC (cst sq s) s.length p i)) := by
  rw [tD2, tabM, idx_dT, valT_yes hx hy (mem_tKeys.mpr h)]
theorem r_least_cost (sq : Bool) {s : List En} (h : SerOk s) {p : Nat} (h1 : 1 ≤ p) (h2 : p ≤ s.length) : run T0 (n + 6) f_least_cost [kd sq, enS s, .int (p : Int)] w = .ok (enQ (lcst sq s p)) w := by
  rw [run_fn (fn := b_least_cost) rfl rfl rfl]
  have e := idx_tD2 sq s (x := (p : Int)) (y := 0) (p := p) (i := 0) rfl rfl (.inr ⟨h1, by omega⟩)
  simp [b_least_cost, mkEnv, r_check_all sq h h1 h2, r_rows_of sq h, e, lcst]
theorem r_all_costs (sq : Bool) {s : List En} (h : SerOk s) : run T0 (n + 6) f_all_costs [kd sq, enS s] w = .ok (.lst ((lcsts sq s).map enQ)) w := by
  rw [run_fn (fn := b_all_costs) rfl rfl rfl]
  have hl := h.len
  have hf : flat (tD2 sq s) = false := rfl
  have ht := rangeN (x := 1) (y := (s.length : Int) + 1) (a := 1) (b := s.length + 1) rfl (by simp) (by omega) (by omega)
  have l1 : lcD (run T0 (n + 5)) x_all_costs_1 (.nm 3) (.bl true) [.sh (kd sq), .sh (enS s), .sh (tD2 sq s), .no] (.lst ((rg 1 (s.length + 1)).map fun (k : Nat) => D.int (k : Int))) w = .ok (.lst ((rg 1 (s.length + 1)).map fun p => enQ (lcst sq s p))) w := by
    refine lcD_map (fun p => enQ (lcst sq s p)) (lim14 (by simp; omega)) fun p hp => ?_
    rw [mem_rg] at hp
    have e := idx_tD2 sq s (x := (p : Int)) (y := 0) (p := p) (i := 0) rfl rfl (.inr ⟨hp.1, by omega⟩)
    simp [stepL, calm, x_all_costs_1, e, lcst]
  simp [b_all_costs, mkEnv, r_rows_of sq h, hf, len_enS, ht, l1]
  simp [lcsts]
theorem r_least_costs (sq : Bool) {s : List En} (h : SerOk s) : run T0 (n + 7) f_least_costs [kd sq, enS s] w = .ok (.lst ((lcsts sq s).map enQ)) w := by
  rw [run_fn (fn := b_least_costs) rfl rfl rfl]
  simp [b_least_costs, mkEnv, r_check_kind, r_check_series h, r_all_costs sq h]
theorem r_pieces_of {s : List En} (h : SerOk s) {c : List Nat} (hc : CutOk s.length c) : run T0 (n + 5) f_pieces_of [enS s, enC c] w = .ok (.lst ((pieces s 0 c).map enS)) w := by
  rw [run_fn (fn := b_pieces_of) rfl rfl rfl]
  have hl := h.len
  have hcl := hc.len
  simp [b_pieces_of, mkEnv, r_check_series h, r_check_cut h hc, r_parts (n := n + 3) (by omega : s.length ≤ 100) (by omega : c.length ≤ 100) (fun x z => by have := (hc.rg x z).2; omega)]
/-! ### stretches -/
def stch (s : List En) : Nat := 1 + ((rg 0 (s.length - 1)).filter fun k => !decide ((s[k]?.getD (0, 0)).1 = (s[k + 1]?.getD (0, 0)).1)).length
theorem idx_enS {s : List En} {k : Nat} (h : k < s.length) : idxD (enS s) (.int (k : Int)) = some (enE (s[k]?.getD (0, 0))) := by
  have e : s[k]? = some s[k] := List.getElem?_eq_getElem h
  rw [enS, idx_lst (d := enE s[k])]
  · rw [e]; rfl
  · rw [List.getElem?_map, e]; rfl
@[simp] theorem idx_enE0 (e : En) : idxD (enE e) (.int 0) = some (.int e.1) := rfl
@[simp] theorem idx_enE1 (e : En) : idxD (enE e) (.int 1) = some (.int e.2) := rfl
theorem r_stretches {s : List En} (h : SerOk s) : run T0 (n + 5) f_stretches [enS s] w = .ok (.int (stch s : Int)) w := by
  rw [run_fn (fn := b_stretches) rfl rfl rfl]
  have hl := h.len
  have hp := h.pos
  have ht := rangeN (x := 0) (y := (s.length : Int) - 1) (a := 0) (b := s.length - 1) rfl (by omega) (by omega) (by omega)
  have l1 : lcD (run T0 (n + 4)) x_stretches_1 (.nm 1) x_stretches_2 [.sh (enS s), .no] (.lst ((rg 0 (s.length - 1)).map fun (k : Nat) => D.int (k : Int))) w = .ok (.lst (((rg 0 (s.length - 1)).filter fun k => !decide ((s[k]?.getD (0, 0)).1 = (s[k + 1]?.getD (0, 0)).1)).map fun (k : Nat) => D.int (k : Int))) w := by
    refine lcD_fm _ (fun (k : Nat) => D.int (k : Int)) (lim14 (by simp; omega)) fun k hk => ?_
    rw [mem_rg] at hk
    have i1 := idx_enS (s := s) (k := k) (by omega)
    have i2 := idx_enS (s := s) (k := k + 1) (by omega)
    have e2 : ((k + 1 : Nat) : Int) = (k : Int) + 1 := by omega
    rw [e2] at i2
    exact stepL_if rfl (by simp [x_stretches_2, i1, i2]) fun _ => by simp [x_stretches_1]
  simp [b_stretches, mkEnv, r_check_series h, len_enS, ht, l1, stch]
theorem r_fewest_exact (sq : Bool) {s : List En} (h : SerOk s) : run T0 (n + 6) f_fewest_exact [kd sq, enS s] w = .ok (.int (stch s : Int)) w := by
  rw [run_fn (fn := b_fewest_exact) rfl rfl rfl]
  simp [b_fewest_exact, mkEnv, r_check_kind, r_stretches h]
/-! ### fitted -/
def fitL (sq : Bool) (s : List En) (c : List Nat) : List Rat := (pieces s 0 c).flatMap fun p => List.replicate p.length (levL sq p)
theorem flatMap_map' {α β γ : Type} (f : α → List β) (g : β → γ) : ∀ l : List α, (l.flatMap f).map g = l.flatMap fun x => (f x).map g
  | [] => rfl
  | x :: l => by rw [List.flatMap_cons, List.map_append, flatMap_map' f g l, List.flatMap_cons]
theorem slice_len {α : Type} (s : List α) {a b : Nat} (hb : b ≤ s.length) : (slice s a b).length = b - a := by
  simp [slice]
  omega
theorem pieces_total {α : Type} (s : List α) : ∀ (c : List Nat) (a : Nat), a ≤ s.length → (a :: c).Pairwise (· < ·) → (∀ x ∈ c, x < s.length) → ((pieces s a c).map List.length).sum = s.length - a
  | [], a, ha, _, _ => by simp [pieces, slice_len]
  | b :: c, a, ha, hi, hx => by
    have h1 : a < b := List.rel_of_pairwise_cons hi List.mem_cons_self
    have h2 := hx b List.mem_cons_self
    rw [pieces, List.map_cons, List.sum_cons, pieces_total s c b (by omega) hi.tail fun x z => hx x (List.mem_cons_of_mem _ z), slice_len s (by omega)]
    omega
theorem fit_len (sq : Bool) : ∀ l : List (List En), (l.flatMap fun p => List.replicate p.length (levL sq p)).length = (l.map List.length).sum
  | [] => rfl
  | p :: l => by
    rw [List.flatMap_cons, List.length_append, fit_len sq l]
    simp
theorem r_levels' (sq : Bool) {s : List En} (h : SerOk s) : run T0 (n + 4) f_levels [kd sq, enS s] w = .ok (.tup [enQ (levL sq s), enQ (levH sq s)]) w := by
  rw [r_levels sq h]
  cases sq
  · simp [levL, levH, enQ_int, fr]
  · simp [levL, levH]
theorem r_fitted (sq : Bool) {s : List En} (h : SerOk s) {c : List Nat} (hc : CutOk s.length c) : run T0 (n + 5) f_fitted [kd sq, enS s, enC c] w = .ok (.lst ((fitL sq s c).map enQ)) w := by
  rw [run_fn (fn := b_fitted) rfl rfl rfl]
  have hl := h.len
  have hp := h.pos
  have hcl := hc.len
  have hasc : (0 :: c).Pairwise (· < ·) := List.pairwise_cons.mpr ⟨fun x z => (hc.rg x z).1, hc.inc⟩
  have hpc : ∀ p ∈ pieces s 0 c, SerOk p := pieces_ok h c 0 (by omega) hasc fun x z => (hc.rg x z).2
  have htot := pieces_total s c 0 (by omega) hasc fun x z => (hc.rg x z).2
  have key := for_enc (call := run T0 (n + 4)) (tg := .nm 4) (body := x_fitted_1) (enc := enS)
    (fun pre ρ w' => w' = w ∧ ∃ y, ρ = [.sh (kd sq), .sh (enS s), .sh (enC c), .ow (.lst ((pre.flatMap fun p => List.replicate p.length (levL sq p)).map enQ)), os y]) (pieces s 0 c) [] (ρ := [.sh (kd sq), .sh (enS s), .sh (enC c), .ow (.lst []), .no]) (w := w)
    ⟨rfl, none, by simp⟩ ?_
  · obtain ⟨ρ', w', e, rfl, y, rfl⟩ := key
    simp at e
    simp [b_fitted, mkEnv, r_check_kind, r_check_series h, r_check_cut h hc, r_parts (n := n + 3) (w := w') (by omega : s.length ≤ 100) (by omega : c.length ≤ 100) (fun x z => by have := (hc.rg x z).2; omega), e, fitL]
  · rintro pre p ρ w' hpp ⟨rfl, y, rfl⟩
    have hpre : pre ++ [p] <+: pieces s 0 c := by simpa using hpp
    have hpk := hpc p (pre_mem hpre)
    have hpl := hpk.len
    refine ⟨_, _, ?_, rfl, some (enS p), rfl⟩
    have hrep : binD .mul (.lst [enQ (levL sq p)]) (.int (p.length : Int)) = some (.lst (List.replicate p.length (enQ (levL sq p)))) := by
      show (if 0 ≤ (p.length : Int) ∧ (p.length : Int) < 100000 ∧ 1 * (p.length : Int).toNat ≤ LIM then some (D.lst (List.replicate (p.length : Int).toNat [enQ (levL sq p)]).flatten) else none) = _
      rw [LIM_eq, if_pos (by omega)]
      congr 2
      simp
    have hbound : ((pre.flatMap fun p => List.replicate p.length (levL sq p)).map enQ).length + (List.replicate p.length (enQ (levL sq p))).length ≤ LIM := by
      rw [LIM_eq, List.length_map, fit_len, List.length_replicate]
      obtain ⟨t, ht⟩ := hpre
      rw [← ht] at htot
      simp at htot
      omega
    have hfl : flats (List.replicate p.length (enQ (levL sq p))) = true := by
      rw [← List.map_replicate]
      exact flats_Q _
    rw [List.flatMap_append]
    simp [stepF, x_fitted_1, r_levels' (n := n) sq hpk, len_enS, hrep]
    rw [extS_ok _ _ _ hfl hbound]
    simp
end
end SF

namespace SF
/-! ### cuts of a stretch of places -/
def seg (c : Nat → Nat → Rat) : Nat → List Nat → Nat → Rat
  | i, [], b => c i b
  | i, x :: L, b => c i x + seg c x L b
def Asc : Nat → List Nat → Nat → Prop
  | i, [], b => i < b
  | i, x :: L, b => i < x ∧ Asc x L b
theorem asc_len : ∀ {L : List Nat} {i b : Nat}, Asc i L b → i + L.length + 1 ≤ b
  | [], i, b, h => by simp [Asc] at h; simp; omega
  | x :: L, i, b, h => by
    have := asc_len h.2
    have := h.1
    simp
    omega
theorem asc_lt {L : List Nat} {i b : Nat} (h : Asc i L b) : i < b := by have := asc_len h; omega
theorem asc_mem : ∀ {L : List Nat} {i b x : Nat}, Asc i L b → x ∈ L → i < x ∧ x < b
  | y :: L, i, b, x, h, hx => by
    rcases List.mem_cons.mp hx with rfl | hx
    · exact ⟨h.1, asc_lt h.2⟩
    · have := asc_mem h.2 hx
      have := h.1
      omega
theorem asc_cut {N : Nat} : ∀ {L : List Nat} {i : Nat}, Asc i L N ↔ i < N ∧ L.Pairwise (· < ·) ∧ ∀ x ∈ L, i < x ∧ x < N
  | [], i => by simp [Asc]
  | y :: L, i => by
    rw [Asc, asc_cut (L := L), List.pairwise_cons]
    simp only [List.mem_cons, forall_eq_or_imp]
    constructor
    · rintro ⟨h1, h2, h3, h4⟩
      exact ⟨by omega, ⟨fun x hx => (h4 x hx).1, h3⟩, ⟨h1, h2⟩, fun x hx => by have := h4 x hx; omega⟩
    · rintro ⟨h1, ⟨h2, h3⟩, ⟨h4, h5⟩, h6⟩
      exact ⟨h4, h5, h3, fun x hx => ⟨h2 x hx, (h6 x hx).2⟩⟩
theorem asc_ok {N : Nat} {L : List Nat} (hN : 1 ≤ N) : Asc 0 L N ↔ CutOk N L := by
  rw [asc_cut]
  constructor
  · rintro ⟨h1, h2, h3⟩
    exact ⟨h2, fun x hx => by have := h3 x hx; omega⟩
  · rintro ⟨h1, h2⟩
    exact ⟨by omega, h1, fun x hx => by have := h2 x hx; omega⟩
theorem seg_append (c : Nat → Nat → Rat) (x b : Nat) (R : List Nat) : ∀ (L : List Nat) (i : Nat), seg c i (L ++ x :: R) b = seg c i L x + seg c x R b
  | [], i => rfl
  | y :: L, i => by
    rw [List.cons_append, seg, seg_append c x b R L y, seg]
    grind
theorem asc_append {x b : Nat} {R : List Nat} : ∀ {L : List Nat} {i : Nat}, Asc i (L ++ x :: R) b ↔ Asc i L x ∧ Asc x R b
  | [], i => by simp [Asc]
  | y :: L, i => by
    rw [List.cons_append, Asc, asc_append (L := L), Asc]
    constructor
    · rintro ⟨h1, h2, h3⟩; exact ⟨⟨h1, h2⟩, h3⟩
    · rintro ⟨⟨h1, h2⟩, h3⟩; exact ⟨h1, h2, h3⟩
theorem mC_one (c : Nat → Nat → Rat) (N i : Nat) : mC c N 1 i = c i N := by
  show least ([N].map fun b => c i b + 0) = _
  simp [least, minQ]
  grind
theorem mC_le (c : Nat → Nat → Rat) (N : Nat) : ∀ (L : List Nat) (i : Nat), Asc i L N → mC c N (L.length + 1) i ≤ seg c i L N
  | [], i, h => by
    rw [List.length_nil, mC_one]
    exact Rat.le_refl
  | x :: L, i, h => by
    have ih := mC_le c N L x h.2
    have hl := asc_len h.2
    have h1 := h.1
    have : mC c N ((x :: L).length + 1) i ≤ c i x + mC c N (L.length + 1) x := by
      refine least_le (List.mem_map.mpr ⟨x, ?_, rfl⟩)
      unfold ends
      rw [if_neg (by simp), mem_rg, List.length_cons]
      omega
    rw [seg]
    grind
theorem mC_att (c : Nat → Nat → Rat) (N : Nat) : ∀ (p i : Nat), 1 ≤ p → p + i ≤ N → ∃ L, Asc i L N ∧ L.length + 1 = p ∧ seg c i L N = mC c N p i
  | 0, i, h, _ => by omega
  | 1, i, _, h => ⟨[], by simp [Asc]; omega, rfl, by rw [mC_one]; rfl⟩
  | p + 2, i, _, h => by
    have hne := ends_ne (N := N) (p := p + 1) (i := i) (by omega)
    have hm := least_mem (l := (ends N (p + 1) i).map fun b => c i b + mC c N (p + 1) b) (by simpa using hne)
    obtain ⟨b, hb, e⟩ := List.mem_map.mp hm
    obtain ⟨h1, h2, h3⟩ := ends_ok (by omega) hb
    obtain ⟨L, q1, q2, q3⟩ := mC_att c N (p + 1) b (by omega) (by unfold Key2 at h3; omega)
    refine ⟨b :: L, ⟨h1, q1⟩, by simp [q2], ?_⟩
    rw [seg, q3]
    exact e
/-- more pieces do not cost more -/
theorem mC_more {c : Nat → Nat → Rat} {N : Nat} (sup : ∀ i b j, i < b → b < j → j ≤ N → c i b + c b j ≤ c i j) : ∀ (p i : Nat), 1 ≤ p → p + 1 + i ≤ N → mC c N (p + 1) i ≤ mC c N p i
  | 0, _, h, _ => by omega
  | 1, i, _, h => by
    rw [mC_one]
    have h1 := mC_le c N [i + 1] i ⟨by omega, by simp [Asc]; omega⟩
    have h2 := sup i (i + 1) N (by omega) (by omega) (by omega)
    simp only [seg, List.length_cons, List.length_nil] at h1
    exact Rat.le_trans h1 h2
  | p + 2, i, _, h => by
    obtain ⟨L, q1, q2, q3⟩ := mC_att c N (p + 2) i (by omega) (by omega)
    cases L with
    | nil => simp at q2
    | cons b L =>
      rw [seg] at q3
      have hbl := asc_len q1.2
      have hib := q1.1
      simp at q2
      have le0 := mC_le c N L b q1.2
      rw [q2] at le0
      by_cases c1 : b + p + 2 ≤ N
      · have ih := mC_more sup (p + 1) b (by omega) (by omega)
        have : mC c N (p + 3) i ≤ c i b + mC c N (p + 2) b := by
          refine least_le (List.mem_map.mpr ⟨b, ?_, rfl⟩)
          unfold ends
          rw [if_neg (by simp), mem_rg]
          omega
        show mC c N (p + 3) i ≤ _
        have ih' : mC c N (p + 2) b ≤ mC c N (p + 1) b := ih
        grind
      · have h1 := mC_le c N ((b - 1) :: b :: L) i ⟨by omega, by omega, q1.2⟩
        have h2 := sup i (b - 1) b (by omega) (by omega) (by omega)
        simp only [seg, List.length_cons] at h1
        rw [show L.length + 1 + 1 + 1 = p + 2 + 1 by omega] at h1
        grind
theorem mC_anti {c : Nat → Nat → Rat} {N : Nat} (sup : ∀ i b j, i < b → b < j → j ≤ N → c i b + c b j ≤ c i j) {p q i : Nat} (h1 : 1 ≤ p) (h2 : p ≤ q) (h3 : q + i ≤ N) : mC c N q i ≤ mC c N p i := by
  obtain ⟨d, rfl⟩ : ∃ d, q = p + d := ⟨q - p, by omega⟩
  clear h2
  induction d with
  | zero => exact Rat.le_refl
  | succ d ih => exact Rat.le_trans (mC_more sup (p + d) i (by omega) (by omega)) (ih (by omega))
/-- costs up to a factor -/
theorem mC_scale {c c' : Nat → Nat → Rat} {N : Nat} {k : Rat} (hk : 0 ≤ k) (h : ∀ i j, i < j → j ≤ N → c i j ≤ k * c' i j) {p i : Nat} (h1 : 1 ≤ p) (h2 : p + i ≤ N) : mC c N p i ≤ k * mC c' N p i := by
  have key : ∀ (L : List Nat) (i : Nat), Asc i L N → seg c i L N ≤ k * seg c' i L N := by
    intro L
    induction L with
    | nil => intro i hi; exact h i N hi (Nat.le_refl _)
    | cons x L ih =>
      intro i hi
      have h3 := ih x hi.2
      have h4 := h i x hi.1 (by have := asc_lt hi.2; omega)
      simp only [seg]
      grind
  obtain ⟨L, q1, q2, q3⟩ := mC_att c' N p i h1 h2
  have h3 := mC_le c N L i q1
  rw [q2] at h3
  rw [← q3]
  exact Rat.le_trans h3 (key L i q1)
theorem mC_congr {c c' : Nat → Nat → Rat} {N : Nat} (h : ∀ i j, i < j → j ≤ N → c i j = c' i j) {p i : Nat} (h1 : 1 ≤ p) (h2 : p + i ≤ N) : mC c N p i = mC c' N p i := by
  have a := mC_scale (c := c) (c' := c') (k := 1) (by grind) (fun i j a b => by rw [h i j a b]; grind) h1 h2
  have b := mC_scale (c := c') (c' := c) (k := 1) (by grind) (fun i j a b => by rw [h i j a b]; grind) h1 h2
  exact Rat.le_antisymm (by grind) (by grind)
theorem mC_nn {c : Nat → Nat → Rat} {N : Nat} (h : ∀ i j, i < j → j ≤ N → 0 ≤ c i j) {p i : Nat} (h1 : 1 ≤ p) (h2 : p + i ≤ N) : 0 ≤ mC c N p i := by
  have key : ∀ (L : List Nat) (i : Nat), Asc i L N → 0 ≤ seg c i L N := by
    intro L
    induction L with
    | nil => intro i hi; exact h i N hi (Nat.le_refl _)
    | cons x L ih =>
      intro i hi
      have h3 := ih x hi.2
      have h4 := h i x hi.1 (by have := asc_lt hi.2; omega)
      simp only [seg]
      grind
  obtain ⟨L, q1, q2, q3⟩ := mC_att c N p i h1 h2
  rw [← q3]
  exact key L i q1
/-! ### pieces -/
theorem slice_app {α : Type} (s : List α) {a b d : Nat} (h1 : a ≤ b) (h2 : b ≤ d) : slice s a d = slice s a b ++ slice s b d := by
  unfold slice
  rw [show d - a = (b - a) + (d - b) by omega, List.take_add, List.drop_drop]
  congr 3
  omega
theorem Fx_app (sq : Bool) (s t : List En) (x : Rat) : Fx sq (s ++ t) x = Fx sq s x + Fx sq t x := by
  unfold Fx
  rw [List.map_append, List.sum_append]
theorem Fx_nn (sq : Bool) {x : Rat} : ∀ {l : List En}, (∀ e ∈ l, 0 ≤ e.2) → 0 ≤ Fx sq l x
  | [], _ => by simp [Fx]
  | e :: l, h => by
    rw [Fx_cons]
    have h1 := Fx_nn sq (x := x) (l := l) fun y z => h y (List.mem_cons_of_mem _ z)
    have h2 := c_nn (h e List.mem_cons_self)
    have h3 : 0 ≤ dist sq ((e.1 : Rat) - x) := by
      cases sq
      · show 0 ≤ absR _
        unfold absR
        grind
      · exact sq_nn _
    have := mul_nn h3 h2
    grind
theorem pc_nn (sq : Bool) {s : List En} (h : SerOk s) : 0 ≤ pc sq s := by
  rw [← (best sq h).low]
  exact Fx_nn sq h.nn
theorem cst_nn (sq : Bool) {s : List En} (h : SerOk s) : ∀ i j, i < j → j ≤ s.length → 0 ≤ cst sq s i j := fun i j h1 h2 => pc_nn sq (h.slice h1 h2)
theorem pc_sup (sq : Bool) {s t : List En} (h : SerOk (s ++ t)) (hs : SerOk s) (ht : SerOk t) : pc sq s + pc sq t ≤ pc sq (s ++ t) := by
  have b := best sq h
  have e := b.low
  rw [Fx_app] at e
  have h1 := (best sq hs).min (levL sq (s ++ t))
  have h2 := (best sq ht).min (levL sq (s ++ t))
  grind
theorem cst_sup (sq : Bool) {s : List En} (h : SerOk s) : ∀ i b j, i < b → b < j → j ≤ s.length → cst sq s i b + cst sq s b j ≤ cst sq s i j := fun i b j h1 h2 h3 => by
  have e := slice_app s (a := i) (b := b) (d := j) (by omega) (by omega)
  unfold cst
  rw [e]
  refine pc_sup sq ?_ (h.slice h1 (by omega)) (h.slice h2 h3)
  rw [← e]
  exact h.slice (by omega) h3
theorem seg_pieces (sq : Bool) (s : List En) : ∀ (c : List Nat) (a : Nat), ((pieces s a c).map (pc sq)).sum = seg (cst sq s) a c s.length
  | [], a => by
    simp [pieces, seg, cst]
    grind
  | b :: c, a => by
    rw [pieces, List.map_cons, List.sum_cons, seg_pieces sq s c b, seg]
    rfl
theorem cutCost_seg (sq : Bool) (s : List En) (c : List Nat) : cutCost sq s c = seg (cst sq s) 0 c s.length := seg_pieces sq s c 0
theorem lcst_le (sq : Bool) {s : List En} {c : List Nat} (hN : 1 ≤ s.length) (hc : CutOk s.length c) : lcst sq s (c.length + 1) ≤ cutCost sq s c := by
  rw [cutCost_seg]
  exact mC_le _ _ c 0 ((asc_ok hN).mpr hc)
theorem lcst_att (sq : Bool) {s : List En} {p : Nat} (h1 : 1 ≤ p) (h2 : p ≤ s.length) : ∃ c, CutOk s.length c ∧ c.length + 1 = p ∧ cutCost sq s c = lcst sq s p := by
  obtain ⟨L, q1, q2, q3⟩ := mC_att (cst sq s) s.length p 0 h1 (by omega)
  exact ⟨L, (asc_ok (by omega)).mp q1, q2, by rw [cutCost_seg, q3]; rfl⟩
theorem lcst_anti (sq : Bool) {s : List En} (h : SerOk s) {p q : Nat} (h1 : 1 ≤ p) (h2 : p ≤ q) (h3 : q ≤ s.length) : lcst sq s q ≤ lcst sq s p := mC_anti (cst_sup sq h) h1 h2 (by omega)
theorem lcst_nn (sq : Bool) {s : List En} (h : SerOk s) {p : Nat} (h1 : 1 ≤ p) (h2 : p ≤ s.length) : 0 ≤ lcst sq s p := mC_nn (cst_nn sq h) h1 (by omega)
theorem lcst_one (sq : Bool) (s : List En) : lcst sq s 1 = pc sq s := by
  unfold lcst
  rw [mC_one]
  simp [cst, slice]
end SF

namespace SF
/-! ### what laws draw -/
section
variable {call : Nat → List D → W → R D} {ρ : Env}
theorem lc_draw {elt cond : E} {tg : Tg} : ∀ {xs : List Nat} {w : W}, (∀ (x : Nat) (w : W), x ∈ xs → w.nums ≠ [] → ∃ (b : Bool) (w' : W), w'.nums ≠ [] ∧ stepL call elt tg cond ρ (.int (x : Int)) w = .ok (if b = true then some (.int (x : Int)) else none) w') → w.nums ≠ [] →
    ∃ (c : List Nat) (w' : W), c.Sublist xs ∧ w'.nums ≠ [] ∧ lcX call elt tg cond ρ (xs.map fun (k : Nat) => D.int (k : Int)) w = .ok (c.map fun (k : Nat) => D.int (k : Int)) w'
  | [], w, _, hw => ⟨[], w, .slnil, hw, rfl⟩
  | x :: xs, w, h, hw => by
    obtain ⟨b, w1, h1, e1⟩ := h x w List.mem_cons_self hw
    obtain ⟨c, w2, s2, h2, e2⟩ := lc_draw (xs := xs) (w := w1) (fun y w z => h y w (List.mem_cons_of_mem _ z)) h1
    unfold lcX at e2 ⊢
    rw [List.map_cons, lcRun, e1]
    simp only []
    rw [e2]
    cases b with
    | true => exact ⟨x :: c, w2, s2.cons_cons x, h2, by simp⟩
    | false => exact ⟨c, w2, s2.cons x, h2, by simp⟩
theorem lcD_draw {elt cond : E} {tg : Tg} {xs : List Nat} {w : W} (hl : xs.length ≤ LIM) (h : ∀ (x : Nat) (w : W), x ∈ xs → w.nums ≠ [] → ∃ (b : Bool) (w' : W), w'.nums ≠ [] ∧ stepL call elt tg cond ρ (.int (x : Int)) w = .ok (if b = true then some (.int (x : Int)) else none) w') (hw : w.nums ≠ []) :
    ∃ (c : List Nat) (w' : W), c.Sublist xs ∧ w'.nums ≠ [] ∧ lcD call elt tg cond ρ (.lst (xs.map fun (k : Nat) => D.int (k : Int))) w = .ok (.lst (c.map fun (k : Nat) => D.int (k : Int))) w' := by
  obtain ⟨c, w', h1, h2, h3⟩ := lc_draw h hw
  refine ⟨c, w', h1, h2, ?_⟩
  unfold lcD
  simp only [itemsD]
  rw [if_pos (by simpa using hl), h3]
  rfl
end
theorem cut_sub {N : Nat} {c : List Nat} (h : c.Sublist (rg 1 N)) : CutOk N c :=
  ⟨(rg_sorted 1 N).sublist h, fun x hx => by have := mem_rg.mp (h.subset hx); omega⟩
theorem blt_tup (xs : List D) : bltD .tuple [.lst xs] = some (.tup xs) := rfl
theorem nums0 (nums : List Int) : (W.mk (if nums = [] then [0] else nums) 0 .non [] []).nums ≠ [] := by
  show (if nums = [] then [0] else nums) ≠ []
  split
  · simp
  · assumption
theorem r_lscaleQ (n : Nat) {w : W} {a : Rat} {c : Int} (ha : Sm 3990 a) (hc : Si 3990 c) : run T0 (n + 2) f__law_scale [enQ a, .int c] w = .ok (enQ (a * (c : Rat))) w := by
  rw [run_fn (fn := b__law_scale) rfl rfl rfl]
  simp [b__law_scale, mkEnv, bin_mul (ha.n.big (by decide)) (hc.big (by decide))]
  rw [r_low _ _ _ (den_pos a) (ha.d.big (by decide)), scale_frac (den_pos a), dv]
  rfl
theorem Sm.scale {j k : Nat} {a : Rat} {c : Int} (hj : 1 ≤ j) (ha : Sm k a) (hc : Si j c) : Sm (k + j) (a * (c : Rat)) := ha.mul (Sm_int hj hc)
theorem idx_Q {l : List Rat} {k : Nat} {q : Rat} (h : l[k]? = some q) : idxD (.lst (l.map enQ)) (.int (k : Int)) = some (enQ q) := idx_lst (by rw [List.getElem?_map, h]; rfl)
theorem cut_sm (sq : Bool) {s : List En} (h : SerOk s) {c : List Nat} (hc : CutOk s.length c) : Sm 600 (cutCost sq s c) := by
  have hl := h.len
  have hp := h.pos
  have hcl := hc.len
  have hpc : ∀ p ∈ pieces s 0 c, SerOk p := pieces_ok h c 0 (by omega) (List.pairwise_cons.mpr ⟨fun x z => (hc.rg x z).1, hc.inc⟩) fun x z => (hc.rg x z).2
  refine (sum_sm (k := 40) fun q z => ?_).mono ?_
  · obtain ⟨p, h1, rfl⟩ := List.mem_map.mp z
    exact pc_sm sq (hpc p h1)
  · rw [List.length_map, pieces_len]
    omega
end SF

namespace SF
/-! ### fractions as texts -/
def okN2 (v : Int) : Bool := decide ((intCps v).length ≤ 6) && (intCps v).all (fun c => decide (c < 256))
theorem okN2_all : (List.range 4001).all (fun k => okN2 ((k : Int) - 2000)) = true := by decide +kernel
theorem okN2_of {v : Int} (h1 : -2000 ≤ v) (h2 : v ≤ 2000) : (intCps v).length ≤ 6 ∧ ∀ c ∈ intCps v, c < 256 := by
  have := List.all_eq_true.mp okN2_all (v + 2000).toNat (by rw [List.mem_range]; omega)
  rw [show ((v + 2000).toNat : Int) - 2000 = v by omega] at this
  simp only [okN2, Bool.and_eq_true, decide_eq_true_eq, List.all_eq_true] at this
  exact this
def wrF (a b : Int) : List Nat := intCps a ++ (if b = 1 then [] else 47 :: intCps b)
section
variable {n : Nat} {w : W}
theorem r_format_fraction {a b : Int} (ha : a.natAbs < 1000000) (h1 : 1 ≤ b) (hb : b.natAbs < 1000000) (hg : Int.gcd a b = 1) : run T0 (n + 2) f_format_fraction [.tup [.int a, .int b]] w = .ok (.str (wrF a b)) w := by
  have lc1 : lcD (run T0 (n + 1)) x_format_fraction_1 (.nm 1) (.bl true) [.sh (.tup [.int a, .int b]), .no] (.tup [.int a, .int b]) w = .ok (.lst [.bl true, .bl true]) w :=
    lcD_mapT (enc := D.int) (xs := [a, b]) (fun _ => .bl true) (lim14 (by simp)) fun x _ => by simp [stepL, calm, x_format_fraction_1, isiD]
  have lc2 : lcD (run T0 (n + 1)) x_format_fraction_2 (.nm 1) (.bl true) [.sh (.tup [.int a, .int b]), .no] (.tup [.int a, .int b]) w = .ok (.lst [.bl false, .bl false]) w :=
    lcD_mapT (enc := D.int) (xs := [a, b]) (fun _ => .bl false) (lim14 (by simp)) fun x _ => by simp [stepL, calm, x_format_fraction_2, isiD]
  have al : bltD .all [.lst [.bl true, .bl true]] = some (.bl true) := rfl
  have ii : cmD .isin (.bl true) (.lst [.bl false, .bl false]) w = .ok (.bl false) w := by simp [cmD, cmpD, inD, plainAt, plainsAt, memD, eqD]
  have cm := r_common n a b w
  rw [hg] at cm
  have nb : ¬ b < 1 := by omega
  have s1 := str_i ha
  have f1 := fmt_i ha
  have f2 := fmt_i hb
  rw [run_fn (fn := b_format_fraction) rfl rfl rfl]
  by_cases hb1 : b = 1
  · subst hb1
    simp [b_format_fraction, mkEnv, isiD, lc1, lc2, al, ii, cm, s1, wrF]
  · simp [b_format_fraction, mkEnv, isiD, lc1, lc2, al, ii, cm, nb, f1, f2, hb1, wrF]
end
theorem low_bounds {a b : Int} (h : 0 < b) : (Rat.divInt a b).num.natAbs ≤ a.natAbs ∧ (1 : Int) ≤ ((Rat.divInt a b).den : Int) ∧ ((Rat.divInt a b).den : Int) ≤ b ∧ Int.gcd (Rat.divInt a b).num ((Rat.divInt a b).den : Int) = 1 := by
  have e1 : (Rat.divInt a b).num = a / (Int.gcd a b : Int) := by
    rw [Rat.num_divInt, Int.gcd_comm, Int.sign_eq_one_of_pos h, Int.one_mul]
  have e2 : ((Rat.divInt a b).den : Int) = b / (Int.gcd a b : Int) := by
    rw [Rat.den_divInt, if_neg (by omega), Int.gcd_comm, Int.natCast_ediv]
    congr 1
    omega
  refine ⟨?_, ?_, ?_, ?_⟩
  · rw [e1]
    have : ((Int.gcd a b : Int)) ∣ a := Int.gcd_dvd_left _ _
    obtain ⟨k, hk⟩ := this
    have g0 : 0 < Int.gcd a b := Int.gcd_pos_of_ne_zero_right _ (by omega)
    generalize Int.gcd a b = g at *
    subst hk
    rw [Int.mul_ediv_cancel_left _ (by omega), Int.natAbs_mul]
    have : 1 * k.natAbs ≤ (g : Int).natAbs * k.natAbs := Nat.mul_le_mul_right _ (by omega)
    omega
  · have := (Rat.divInt a b).den_pos
    omega
  · rw [e2]
    exact Int.ediv_le_self _ (by omega)
  · exact (Rat.divInt a b).reduced
end SF

namespace SF
/-! ### what is rejected -/
def txt : D := .str [116, 101, 120, 116]
def oddT : List (List Nat) := [[], [32], [49, 32], [32, 49], [49, 32, 32, 50], [48, 49], [43, 49], [45, 48], [45, 45, 49], [97], [49, 42], [42, 49], [49, 42, 49], [49, 42, 48], [49, 42, 49, 48], [49, 42, 48, 50], [49, 42, 50, 42, 51], [49, 32, 42, 50], [49, 48, 48, 48], [45, 49, 48, 48, 48], [49, 46, 48], [49, 42, 45, 50], [48, 32, 48, 32, 48, 32, 48, 32, 48, 32, 48, 32, 48, 32, 48, 32, 48, 32, 48, 32, 48, 32, 48, 32, 48, 32, 48, 32, 48]]
theorem oddT_ok : oddT.all (fun t => decide (t.length ≤ 600) && t.all (fun c => decide (c < 256)) && (sN t).isNone) = true := by decide +kernel
section
variable {n : Nat} {w : W}
theorem odd_str {t : List Nat} (h : t ∈ oddT) : run T0 (n + 5) f__law_parsed [.str t] w = .ok txt w := by
  have := List.all_eq_true.mp oddT_ok t h
  simp only [Bool.and_eq_true, decide_eq_true_eq, List.all_eq_true, Option.isNone_iff_eq_none] at this
  rw [r_parsed this.1.1 (uni_of this.1.2), this.2]
  rfl
theorem odd_non : run T0 (n + 5) f__law_parsed [.non] w = .ok txt w := by rfl
theorem odd_int : run T0 (n + 5) f__law_parsed [.int 5] w = .ok txt w := by rfl
def odds : List D := .non :: .int 5 :: oddT.map .str
theorem odd_all {d : D} (h : d ∈ odds) : run T0 (n + 5) f__law_parsed [d] w = .ok txt w := by
  unfold odds at h
  rcases List.mem_cons.mp h with rfl | h
  · exact odd_non
  · rcases List.mem_cons.mp h with rfl | h
    · exact odd_int
    · obtain ⟨t, ht, rfl⟩ := List.mem_map.mp h
      exact odd_str ht
theorem lc_const {call : Nat → List D → W → R D} {elt : E} {tg : Tg} {ρ : Env} {xs : List D} {v : D} (hl : xs.length ≤ 1000) (h : ∀ d ∈ xs, stepL call elt tg (.bl true) ρ d w = .ok (some v) w) : lcD call elt tg (.bl true) ρ (.lst xs) w = .ok (.lst (xs.map fun _ => v)) w := by
  have := lcD_map (call := call) (elt := elt) (tg := tg) (ρ := ρ) (w := w) (enc := fun d : D => d) (fun _ => v) (xs := xs) (lim14 hl) h
  simpa using this
theorem good1 : run T0 (n + 5) f__law_parsed [.str [53, 32, 45, 53, 42, 57, 32, 48]] w = .ok (.lst [.tup [.int 5, .int 1], .tup [.int (-5), .int 9], .tup [.int 0, .int 1]]) w := by
  rw [r_parsed (by decide) (uni_of (by decide)), show sN [53, 32, 45, 53, 42, 57, 32, 48] = some [(5, 1), (-5, 9), (0, 1)] by decide +kernel]
  rfl
def fracs : List D := [.non, .int 5, .tup [.int 1], .lst [.int 1, .int 2], .tup [.int 1, .int 0], .tup [.int 2, .int 4], .tup [.int 1, .int (-1)], .tup [.bl true, .int 1], .tup [.int 1, .bl true], .tup [.int 1, .non], .tup [.str [49], .int 2], .tup [.int 0, .int 2]]
theorem frac_all {d : D} (h : d ∈ fracs) : run T0 12 f__law_fraction [d] w = .ok (.lst [txt]) w := by
  simp only [fracs, List.mem_cons, List.not_mem_nil, or_false] at h
  rcases h with rfl | rfl | rfl | rfl | rfl | rfl | rfl | rfl | rfl | rfl | rfl | rfl <;> rfl
theorem good2 : run T0 12 f__law_fraction [.tup [.int 0, .int 1]] w = .ok (.str [48]) w := by rfl
theorem good3 : run T0 12 f__law_fraction [.tup [.int (-3), .int 2]] w = .ok (.str [45, 51, 47, 50]) w := by rfl
theorem cm_selfE {d : D} (h : plain d = true) : cmD .eq d d w = .ok (.bl true) w := by
  simp only [cmD, cmpD, h, Bool.and_self, if_true, eqD_self 8 d h]
  rfl
theorem r_rejected : run T0 13 f__law_rejected [] w = .ok (.bl true) w := by
  have m15 : binD .mul (.lst [.str [48]]) (.int 15) = some (.lst (List.replicate 15 (.str [48]))) := rfl
  have j15 : joinD (.str [32]) (.lst (List.replicate 15 (.str [48]))) = some (.str [48, 32, 48, 32, 48, 32, 48, 32, 48, 32, 48, 32, 48, 32, 48, 32, 48, 32, 48, 32, 48, 32, 48, 32, 48, 32, 48, 32, 48]) := rfl
  generalize (.lst (List.replicate 15 (.str [48])) : D) = Z at m15 j15
  have lc1 : lcD (run T0 12) x__law_rejected_1 (.nm 1) (.bl true) [.sh (.lst odds), .no] (.lst odds) w = .ok (.lst (odds.map fun _ => txt)) w := by
    refine lc_const (by decide) fun d hd => ?_
    simp [stepL, calm, x__law_rejected_1, odd_all (n := 7) hd]
  have m25 : binD .mul (.lst [.str [116, 101, 120, 116]]) (.int 25) = some (.lst (odds.map fun _ => txt)) := rfl
  have c25 : cmD .ne (.lst (odds.map fun _ => txt)) (.lst (odds.map fun _ => txt)) w = .ok (.bl false) w := cm_self rfl
  have g1 := good1 (n := 7) (w := w)
  have cg : cmD .ne (.lst [.tup [.int 5, .int 1], .tup [.int (-5), .int 9], .tup [.int 0, .int 1]]) (.lst [.tup [.int 5, .int 1], .tup [.int (-5), .int 9], .tup [.int 0, .int 1]]) w = .ok (.bl false) w := cm_self rfl
  have lc2 : lcD (run T0 12) x__law_rejected_2 (.nm 1) (.bl true) [.sh (.lst fracs), .no] (.lst fracs) w = .ok (.lst (fracs.map fun _ => .lst [txt])) w := by
    refine lc_const (by decide) fun d hd => ?_
    simp [stepL, calm, x__law_rejected_2, frac_all hd]
  have m12 : binD .mul (.lst [.lst [.str [116, 101, 120, 116]]]) (.int 12) = some (.lst (fracs.map fun _ => .lst [txt])) := rfl
  have c12 : cmD .eq (.lst (fracs.map fun _ => .lst [txt])) (.lst (fracs.map fun _ => .lst [txt])) w = .ok (.bl true) w := cm_selfE rfl
  have q2 : cmD .eq (.str [48]) (.str [48]) w = .ok (.bl true) w := cm_selfE rfl
  have q3 : cmD .eq (.str [45, 51, 47, 50]) (.str [45, 51, 47, 50]) w = .ok (.bl true) w := cm_selfE rfl
  generalize hA : (.lst (odds.map fun _ => txt) : D) = A at lc1 m25 c25
  generalize hB : (.lst (fracs.map fun _ => .lst [txt]) : D) = B at lc2 m12 c12
  simp only [odds, oddT, List.map_cons, List.map_nil] at lc1
  simp only [fracs] at lc2
  rw [run_fn (fn := b__law_rejected) rfl rfl rfl]
  simp [b__law_rejected, mkEnv, m15, j15, lc1, m25, c25, g1, cg, lc2, m12, c12, good2, good3, q2, q3]
end
end SF

namespace SF.k12
def x_law_1 : E := .var 5
def x_law_2 : E := .cmp .eq (.call f__law_draw [.var 1, .int 3]) (.int 0)
def x_law_3 : List S := [.asg 7 (.ife (.cmp .isin (.var 5) (.var 4)) (.str [32, 124, 32]) (.str [32])) false [], .asg 6 (.bin .add (.bin .add (.var 6) (.ife (.cmp .gt (.var 5) (.int 0)) (.var 7) (.str []))) (.blt .str [.idx (.idx (.var 2) (.var 5)) (.int 0)])) false []]
def x_law_4 : List S := [.asg 10 (.call f__law_draw [.var 1, .bin .add (.blt .len [.var 3]) (.int 1)]) false [], .asg 7 (.call f__law_pick [.var 1, .lst [.str [48], .str [49], .str [57], .str [32], .str [45], .str [42], .str [120], .str []]]) false [], .asg 11 (.call f__law_pick [.var 1, .lst [.bin .add (.bin .add (.slc (.var 3) .non (.var 10)) (.var 7)) (.slc (.var 3) (.bin .add (.var 10) (.int 1)) .non), .bin .add (.bin .add (.slc (.var 3) .non (.var 10)) (.var 7)) (.slc (.var 3) (.var 10) .non)]]) false [], .asg 12 (.call f__law_parsed [.var 11]) false [], .ife (.and (.cmp .ne (.var 12) (.str [116, 101, 120, 116])) (.cmp .ne (.var 11) (.call f__law_written [.var 12]))) [.ret (.bl false)] []]
/-- the law, behind draws = _law_start(script) -/
def b_law : Fn := ⟨1, 13, [
   .asg 2 (.call f__law_series [.var 1, .int 8]) false [],
   .asg 3 (.call f_format_series [.var 2]) false [],
   .ife (.or (.cmp .ne (.var 3) (.call f__law_written [.var 2])) (.cmp .ne (.call f_parse_series [.var 3]) (.var 2))) [.ret (.bl false)] [],
   .asg 4 (.blt .tuple [.lc x_law_1 (.nm 5) (.rng (.int 1) (.blt .len [.var 2]) (.int 1)) x_law_2 [5]]) false [],
   .asg 6 (.str []) false [],
   .for (.nm 5) (.rng (.int 0) (.blt .len [.var 2]) (.int 1)) [] x_law_3,
   .ife (.cmp .ne (.call f_format_cut [.var 2, .var 4]) (.var 6)) [.ret (.bl false)] [],
   .asg 8 (.call f__law_low [.bin .sub (.call f__law_draw [.var 1, .int 4000]) (.int 2000), .bin .add (.int 1) (.call f__law_draw [.var 1, .int 30])]) false [],
   .ife (.cmp .ne (.call f_format_fraction [.var 8]) (.bin .add (.blt .str [.idx (.var 8) (.int 0)]) (.ife (.cmp .eq (.idx (.var 8) (.int 1)) (.int 1)) (.str []) (.bin .add (.str [47]) (.blt .str [.idx (.var 8) (.int 1)]))))) [.ret (.bl false)] [],
   .for (.nm 9) (.rng (.int 0) (.int 10) (.int 1)) [] x_law_4,
   .ret (.call f__law_rejected [])]⟩ -- script draws series text cut place words mark value turn at other found
end SF.k12

namespace SF.k12
open SF
theorem slc_ex {t : List Nat} (l h : Option Int) (ht : t.length ≤ 600) : ∃ r, slcO (.str t) l h = some (.str r) ∧ r.length ≤ t.length ∧ ∀ c ∈ r, c ∈ t := by
  refine ⟨cutL t l h, ?_, ?_, fun c hc => ?_⟩
  · simp only [slcO, if_pos (lim14 (show t.length ≤ 1000 by omega))]
  · unfold cutL
    rw [List.length_take, List.length_drop]
    omega
  · unfold cutL at hc
    exact List.mem_of_mem_drop (List.mem_of_mem_take hc)
def marks : List D := [.str [48], .str [49], .str [57], .str [32], .str [45], .str [42], .str [120], .str []]
theorem mkOk {d : D} (h : d ∈ marks) : ∃ m : List Nat, d = .str m ∧ m.length ≤ 1 ∧ ∀ c ∈ m, c < 256 := by
  simp only [marks, List.mem_cons, List.not_mem_nil, or_false] at h
  rcases h with rfl | rfl | rfl | rfl | rfl | rfl | rfl | rfl <;> exact ⟨_, rfl, by decide, by decide⟩
theorem cm_neT (s : List En) {w : W} : cmD .ne (enS s) (.str [116, 101, 120, 116]) w = .ok (.bl true) w := by
  have h1 := plain_enS s
  have h2 : plain (.str [116, 101, 120, 116]) = true := by decide
  simp only [cmD, cmpD, h1, h2, Bool.and_self, if_true]
  rfl
theorem exs_app {call : Nat → List D → W → R D} : ∀ (a b : List S) (ρ : SF.Env) (w : W), exs call (a ++ b) ρ w = (exs call a ρ w).sq fun ρ w => exs call b ρ w
  | [], b, ρ, w => by rw [List.nil_append, exs, sq_nx]
  | s :: a, b, ρ, w => by
    rw [List.cons_append, exs, exs]
    cases ex call s ρ w with
    | ok f w1 =>
      cases f with
      | nx ρ1 => rw [sq_nx, sq_nx, exs_app a b ρ1 w1]
      | rt d => rfl
      | xc c ρ1 => rfl
    | exc c w1 => rfl
    | bad => rfl
def lastC : E := .and (.cmp .ne (.var 12) (.str [116, 101, 120, 116])) (.cmp .ne (.var 11) (.call f__law_written [.var 12]))
theorem body4 : x_law_4 = x_law_4.take 4 ++ [.ife lastC [.ret (.bl false)] []] := rfl
def fracE : E := .bin .add (.blt .str [.idx (.var 8) (.int 0)]) (.ife (.cmp .eq (.idx (.var 8) (.int 1)) (.int 1)) (.str []) (.bin .add (.str [47]) (.blt .str [.idx (.var 8) (.int 1)])))
theorem bodyL : b_law.body = b_law.body.take 8 ++ [.ife (.cmp .ne (.call f_format_fraction [.var 8]) fracE) [.ret (.bl false)] [], .for (.nm 9) (.rng (.int 0) (.int 10) (.int 1)) [] x_law_4, .ret (.call f__law_rejected [])] := rfl
def prsD (o : List Nat) : D := match sN o with
  | some s => enS s
  | none => .str [116, 101, 120, 116]
/-- a turn's end: what is parsed is written so -/
theorem turn_end {o : List Nat} (hl : o.length ≤ 600) (hu : Uni o) {w : W} {ρ : Env} (g11 : getS ρ 11 = some (.str o)) (g12 : getS ρ 12 = some (prsD o)) :
    ev (run T0 13) lastC ρ w = .ok (.bl false) w := by
  unfold lastC
  unfold prsD at g12
  cases hs : sN o with
  | none =>
    rw [hs] at g12
    simp only at g12
    have c : cmD .ne (.str [116, 101, 120, 116]) (.str [116, 101, 120, 116]) w = .ok (.bl false) w := cm_self (by decide)
    simp [g12, c]
  | some s =>
    rw [hs] at g12
    simp only at g12
    obtain ⟨e, ok⟩ := sN_back hs
    have wr := r_written (n := 12) (w := w) ok
    rw [e] at wr
    have c : cmD .ne (.str o) (.str o) w = .ok (.bl false) w := by rw [cm_neStr hu hu]; simp
    simp [g11, g12, cm_neT, wr, c]
theorem law_runs (nums : List Int) : ∃ w', runLaw T0 13 b_law nums = .ok (.bl true) w' := by
  have hw0 := nums0 nums
  unfold runLaw
  generalize (W.mk (if nums = [] then [0] else nums) 0 .non [] []) = w0 at hw0
  obtain ⟨s, w1, hs, hlen, e1, hw1⟩ := r_series 10 (most := 8) (by decide) (by decide) hw0
  have hl := hs.len
  have hp := hs.pos
  have fs := r_format_series (n := 8) (w := w1) hs
  have wr := r_written (n := 12) (w := w1) hs
  obtain ⟨_, wl, wc⟩ := wrS_len hs
  have wu : Uni (wrS s) := uni_of wc
  have ps := r_parse_series (n := 9) (w := w1) (t := wrS s) (by omega) wu
  rw [sN_wr hs] at ps
  simp only [Option.map_some, okR] at ps
  have c1 : cmD .ne (.str (wrS s)) (.str (wrS s)) w1 = .ok (.bl false) w1 := by rw [cm_neStr wu wu]; simp
  have c2 : cmD .ne (enS s) (enS s) w1 = .ok (.bl false) w1 := cm_self (plain_enS s)
  have ht1 := rangeN (x := 1) (y := (s.length : Int)) (a := 1) (b := s.length) rfl rfl (by omega) (by omega)
  have ht0 := rangeN (x := 0) (y := (s.length : Int)) (a := 0) (b := s.length) rfl rfl (by omega) (by omega)
  have ht10 := rangeN (x := 0) (y := 10) (a := 0) (b := 10) rfl rfl (by omega) (by omega)
  obtain ⟨c, w2, hcs, hw2, l1⟩ := lcD_draw (call := run T0 13) (ρ := [.no, .sh .dr, .sh (enS s), .sh (.str (wrS s)), .no, .no, .no, .no, .no, .no, .no, .no, .no]) (elt := x_law_1) (cond := x_law_2) (tg := .nm 5) (xs := rg 1 s.length) (w := w1) (lim14 (by simp; omega)) (fun x w _ hw => by
    obtain ⟨y, w', e, hy, hw'⟩ := r_draw (T := T0) 12 (l := 3) (by decide) (by decide) hw
    refine ⟨decide ((y : Int) = 0), w', hw', ?_⟩
    simp only [Nat.reduceAdd] at e
    unfold stepL
    simp [x_law_1, x_law_2, e, calm]
    by_cases hz : y = 0 <;> simp [hz]) hw1
  have hc := cut_sub hcs
  -- the words
  have key := for_nat (call := run T0 13) (tg := .nm 5) (body := x_law_3) (w := w2)
    (ρ := [.no, .sh .dr, .sh (enS s), .sh (.str (wrS s)), .sh (enC c), .no, .sh (.str []), .no, .no, .no, .no, .no, .no])
    (fun pr ρ w' => w' = w2 ∧ ∃ y5 y7, ρ = [.no, .sh .dr, .sh (enS s), .sh (.str (wrS s)), .sh (enC c), os y5, .sh (.str (wrC s c pr.length)), os y7, .no, .no, .no, .no, .no])
    (rg 0 s.length) ⟨rfl, none, none, rfl⟩ (by
      rintro pr x ρ w hp ⟨rfl, y5, y7, rfl⟩
      obtain ⟨rfl, -, hx⟩ := pre_rg hp
      have l0 : (rg 0 x).length = x := by rw [rg_length]; omega
      have l2 : (rg 0 x ++ [x]).length = x + 1 := by rw [List.length_append, l0]; rfl
      rw [l0]
      have ix := idx_enS hx
      have ev0 : (s[x]?.map (·.1)).getD 0 = (s[x]?.getD (0, 0)).1 := by cases s[x]? <;> rfl
      have eg := en_get hs x
      have nk := numOk eg.1 eg.2
      have nl := nk.len
      rw [ev0] at nl eg
      have si := str_i (v := (s[x]?.getD (0, 0)).1) (by omega)
      have wl := (wrC_len hs c (m := x) (by omega)).2.1
      have ws := wrC_succ s (cut0 hc) x
      rw [ev0] at ws
      have mk : ∀ m : List Nat, m.length ≤ 3 → binD .add (.str (wrC s c x)) (.str m) = some (.str (wrC s c x ++ m)) ∧ binD .add (.str (wrC s c x ++ m)) (.str (intCps (s[x]?.getD (0, 0)).1)) = some (.str (wrC s c x ++ m ++ intCps (s[x]?.getD (0, 0)).1)) := fun m hm => ⟨add_ss (by omega), add_ss (by rw [List.length_append]; omega)⟩
      refine ⟨[.no, .sh .dr, .sh (enS s), .sh (.str (wrS s)), .sh (enC c), os (some (.int (x : Int))), .sh (.str (wrC s c (x + 1))), os (some (.str (if x ∈ c then [32, 124, 32] else [32]))), .no, .no, .no, .no, .no], w, ?_, rfl, _, _, by rw [l2]⟩
      rw [ws]
      by_cases h0 : x = 0
      · subst h0
        obtain ⟨m1, m2⟩ := mk [] (by simp)
        have h0c := cut0 hc
        have ic := in_cut (w := w) 0 c
        rw [decide_eq_false h0c] at ic
        simp only [Int.natCast_zero] at ic ix ⊢
        rw [List.append_nil] at m1 m2
        simp [stepF, x_law_3, ic, ix, si, m1, m2, h0c]
      · have h1 : (0 : Int) < (x : Int) := by omega
        have h2 : 0 < x := by omega
        by_cases hxc : x ∈ c
        · obtain ⟨m1, m2⟩ := mk [32, 124, 32] (by simp)
          have ic := in_cut (w := w) x c
          rw [decide_eq_true hxc] at ic
          simp [stepF, x_law_3, ic, ix, si, m1, m2, hxc, h0, h1, h2]
        · obtain ⟨m1, m2⟩ := mk [32] (by simp)
          have ic := in_cut (w := w) x c
          rw [decide_eq_false hxc] at ic
          simp [stepF, x_law_3, ic, ix, si, m1, m2, hxc, h0, h1, h2])
  obtain ⟨ρ3, w3, e3, rfl, y5, y7, rfl⟩ := key
  have lN : (rg 0 s.length).length = s.length := by rw [rg_length]; omega
  rw [lN] at e3
  have fc := r_format_cut (n := 8) (w := w3) hs hc
  have cu : Uni (wrC s c s.length) := uni_of (wrC_len hs c hl).2.2
  have c3 : cmD .ne (.str (wrC s c s.length)) (.str (wrC s c s.length)) w3 = .ok (.bl false) w3 := by rw [cm_neStr cu cu]; simp
  -- the fraction
  obtain ⟨x4, w4, e4, b4, hw4⟩ := r_draw (T := T0) 12 (l := 4000) (by decide) (by decide) hw2
  obtain ⟨x5, w5, e5, b5, hw5⟩ := r_draw (T := T0) 12 (l := 30) (by decide) (by decide) hw4
  have lw := r_low 12 ((x4 : Int) - 2000) (1 + (x5 : Int)) (by omega) (small (by omega)) w5
  obtain ⟨f1, f2, f3, f4⟩ := low_bounds (a := (x4 : Int) - 2000) (b := 1 + (x5 : Int)) (by omega)
  obtain ⟨a, ha⟩ : ∃ a : Int, a = (Rat.divInt ((x4 : Int) - 2000) (1 + (x5 : Int))).num := ⟨_, rfl⟩
  obtain ⟨b, hb⟩ : ∃ b : Int, b = ((Rat.divInt ((x4 : Int) - 2000) (1 + (x5 : Int))).den : Int) := ⟨_, rfl⟩
  simp only [enQ] at lw
  rw [← ha, ← hb] at lw f4
  rw [← ha] at f1
  rw [← hb] at f2 f3
  have ff := r_format_fraction (n := 11) (w := w5) (a := a) (b := b) (by omega) f2 (by omega) f4
  have sa := str_i (v := a) (by omega)
  have sb := str_i (v := b) (by omega)
  obtain ⟨la, ua⟩ := okN2_of (v := a) (by omega) (by omega)
  obtain ⟨lb, ub⟩ := okN2_of (v := b) (by omega) (by omega)
  have fu : Uni (wrF a b) := uni_of fun z hz => by
    unfold wrF at hz
    rcases List.mem_append.mp hz with hz | hz
    · exact ua z hz
    · split at hz
      · cases hz
      · rcases List.mem_cons.mp hz with hz | hz
        · omega
        · exact ub z hz
  have fev : ∀ ρ : Env, getS ρ 8 = some (.tup [.int a, .int b]) → ev (run T0 13) fracE ρ w5 = .ok (.str (wrF a b)) w5 := fun ρ g => by
    unfold fracE
    have a2 := add_ss (a := [47]) (b := intCps b) (by simp; omega)
    by_cases h1 : b = 1
    · have a1 := add_ss (a := intCps a) (b := []) (by simp; omega)
      simp [g, sa, h1, a1, wrF]
    · have a1 := add_ss (a := intCps a) (b := 47 :: intCps b) (by simp; omega)
      simp only [List.cons_append, List.nil_append] at a2
      simp [g, sa, sb, h1, a1, a2, wrF]
  have c4 : cmD .ne (.str (wrF a b)) (.str (wrF a b)) w5 = .ok (.bl false) w5 := by rw [cm_neStr fu fu]; simp
  -- the turns
  have key := for_nat (call := run T0 13) (tg := .nm 9) (body := x_law_4) (w := w5)
    (ρ := [.no, .sh .dr, .sh (enS s), .sh (.str (wrS s)), .sh (enC c), os y5, .sh (.str (wrC s c s.length)), os y7, .sh (.tup [.int a, .int b]), .no, .no, .no, .no])
    (fun pr ρ w' => w'.nums ≠ [] ∧ ∃ z7 z9 z10 z11 z12, ρ = [.no, .sh .dr, .sh (enS s), .sh (.str (wrS s)), .sh (enC c), os y5, .sh (.str (wrC s c s.length)), os z7, .sh (.tup [.int a, .int b]), os z9, os z10, os z11, os z12])
    (rg 0 10) ⟨hw5, y7, none, none, none, none, rfl⟩ (by
      rintro pr x ρ w hp ⟨hw, z7, z9, z10, z11, z12, rfl⟩
      obtain ⟨k, wa, ea, ba, hwa⟩ := r_draw (T := T0) 12 (l := ((wrS s).length : Int) + 1) (by omega) (by omega) hw
      obtain ⟨d, wb, hd, eb, hwb⟩ := r_pick 11 (xs := marks) (by decide) (by decide) hwa
      obtain ⟨m, rfl, ml, mu⟩ := mkOk hd
      obtain ⟨r1, s1, q1, u1⟩ := slc_ex none (some (k : Int)) (show (wrS s).length ≤ 600 by omega)
      obtain ⟨r2, s2, q2, u2⟩ := slc_ex (some ((k : Int) + 1)) none (show (wrS s).length ≤ 600 by omega)
      obtain ⟨r3, s3, q3, u3⟩ := slc_ex (some (k : Int)) none (show (wrS s).length ≤ 600 by omega)
      have a1 := add_ss (a := r1) (b := m) (by omega)
      have a2 := add_ss (a := r1 ++ m) (b := r2) (by rw [List.length_append]; omega)
      have a3 := add_ss (a := r1 ++ m) (b := r3) (by rw [List.length_append]; omega)
      obtain ⟨d, wd, hd2, ed, hwd⟩ := r_pick 11 (xs := [.str (r1 ++ m ++ r2), .str (r1 ++ m ++ r3)]) (by simp) (by simp) hwb
      obtain ⟨o, rfl, ol, ou⟩ : ∃ o : List Nat, d = .str o ∧ o.length ≤ 600 ∧ Uni o := by
        have g : ∀ r : List Nat, r.length ≤ (wrS s).length → (∀ c ∈ r, c ∈ wrS s) → (r1 ++ m ++ r).length ≤ 600 ∧ Uni (r1 ++ m ++ r) := fun r qr ur => by
          refine ⟨by rw [List.length_append, List.length_append]; omega, uni_of fun z hz => ?_⟩
          rcases List.mem_append.mp hz with hz | hz
          · rcases List.mem_append.mp hz with hz | hz
            · exact wc z (u1 z hz)
            · exact mu z hz
          · exact wc z (ur z hz)
        simp only [List.mem_cons, List.not_mem_nil, or_false] at hd2
        rcases hd2 with rfl | rfl
        · exact ⟨_, rfl, g r2 q2 u2⟩
        · exact ⟨_, rfl, g r3 q3 u3⟩
      have pd : run T0 13 f__law_parsed [.str o] wd = .ok (prsD o) wd := r_parsed (n := 8) ol ou
      have te := turn_end ol ou (w := wd) (ρ := [.no, .sh .dr, .sh (enS s), .sh (.str (wrS s)), .sh (enC c), os y5, .sh (.str (wrC s c s.length)), .sh (.str m), .sh (.tup [.int a, .int b]), .sh (.int (x : Int)), .sh (.int (k : Int)), .sh (.str o), .sh (prsD o)]) rfl rfl
      refine ⟨[.no, .sh .dr, .sh (enS s), .sh (.str (wrS s)), .sh (enC c), os y5, .sh (.str (wrC s c s.length)), os (some (.str m)), .sh (.tup [.int a, .int b]), os (some (.int (x : Int))), os (some (.int (k : Int))), os (some (.str o)), os (some (prsD o))], wd, ?_, hwd, _, _, _, _, _, rfl⟩
      generalize prsD o = F at pd te ⊢
      simp only [marks] at eb
      simp only [Nat.reduceAdd] at ea eb ed pd
      have ln := len_s (s := wrS s) (by omega)
      have p4 : exs (run T0 13) (x_law_4.take 4) [.no, .sh .dr, .sh (enS s), .sh (.str (wrS s)), .sh (enC c), os y5, .sh (.str (wrC s c s.length)), os z7, .sh (.tup [.int a, .int b]), .sh (.int (x : Int)), os z10, os z11, os z12] w = .ok (.nx [.no, .sh .dr, .sh (enS s), .sh (.str (wrS s)), .sh (enC c), os y5, .sh (.str (wrC s c s.length)), .sh (.str m), .sh (.tup [.int a, .int b]), .sh (.int (x : Int)), .sh (.int (k : Int)), .sh (.str o), .sh F]) wd := by
        simp only [List.append_assoc] at a2 a3 ed
        simp [x_law_4, partR, ln, ea, eb, s1, s2, s3, a1, a2, a3, ed, pd]
      have stp : stepF (run T0 13) (.nm 9) x_law_4 (.int (x : Int)) [.no, .sh .dr, .sh (enS s), .sh (.str (wrS s)), .sh (enC c), os y5, .sh (.str (wrC s c s.length)), os z7, .sh (.tup [.int a, .int b]), os z9, os z10, os z11, os z12] w = exs (run T0 13) x_law_4 [.no, .sh .dr, .sh (enS s), .sh (.str (wrS s)), .sh (enC c), os y5, .sh (.str (wrC s c s.length)), os z7, .sh (.tup [.int a, .int b]), .sh (.int (x : Int)), os z10, os z11, os z12] w := rfl
      rw [stp, body4, exs_app, p4, sq_nx, exs_cons, ex_ife, te]
      rfl)
  obtain ⟨ρ6, w6, e6, hw6, z7, z9, z10, z11, z12, rfl⟩ := key
  have rj := r_rejected (w := w6)
  simp only [Nat.reduceAdd] at e1 fs wr ps fc e4 e5 lw ff
  have ln := len_enS s
  have bt := blt_tup (c.map fun (k : Nat) => D.int (k : Int))
  refine ⟨w6, ?_⟩
  have p8 : exs (run T0 13) (b_law.body.take 8) [.no, .sh .dr, .no, .no, .no, .no, .no, .no, .no, .no, .no, .no, .no] w0 = .ok (.nx [.no, .sh .dr, .sh (enS s), .sh (.str (wrS s)), .sh (enC c), os y5, .sh (.str (wrC s c s.length)), os y7, .sh (.tup [.int a, .int b]), .no, .no, .no, .no]) w5 := by
    simp only [enC] at e3 fc ⊢
    simp [b_law, e1, fs, wr, ps, c1, c2, ln, ht1, ht0, l1, bt, e3, fc, c3, e4, e5, lw]
  show fin (exs (run T0 13) b_law.body [.no, .sh .dr, .no, .no, .no, .no, .no, .no, .no, .no, .no, .no, .no] w0) = _
  rw [bodyL, exs_app, p8, sq_nx, exs_cons, ex_ife, ev_cmp]
  have fce : ∀ ρ : SF.Env, getS ρ 8 = some (.tup [.int a, .int b]) → ev (run T0 13) (.call f_format_fraction [.var 8]) ρ w5 = .ok (.str (wrF a b)) w5 := fun ρ g => by simp [g, ff]
  rw [fce _ rfl, bind_ok, fev _ rfl, bind_ok, c4]
  simp [ht10, e6, rj]
end SF.k12

namespace SF
open PySem L2

/-- where the draws lie -/
structure Ft where
  po : Addr
  dx : Addr
  ls : Addr
  lr : Addr
structure Bk (C : Nat → Value) where
  pd : Addr
  pn : Addr
  ft : Option Ft
/-- the lists that calls change: the numbers, the fitter's two -/
def Bk.V {C : Nat → Value} (B : Bk C) (a : Addr) : Prop := a = B.pn ∨ ∃ f, B.ft = some f ∧ (a = f.ls ∨ a = f.lr)

def sOf (s : List Nat) : Str := ⟨s.toArray⟩
def kI (ks : List Int) : List Key := ks.map Sum.inl

/-- an exception of a class lies there -/
def ExcO (cl : Value) (a : Addr) : HO := .ext fun h => ∃ oe, h.get? a = some oe ∧ Zc cl none oe ∧ ∃ vs, oe.data = .fields vs
mutual
/-- the value v is the data d; P: what is hidden -/
inductive Rp {Cl : Nat → Value} (B : Bk Cl) (P : Addr → Prop) (H : Hp) : V → D → Prop
  | non : Rp B P H .non .non
  | bl (b : Bool) : Rp B P H (.bl b) (.bl b)
  | int (i : Int) : Rp B P H (.int i) (.int i)
  | str (s : List Nat) : Rp B P H (.str (sOf s)) (.str s)
  | tup {a : Addr} {vs : List V} {ds : List D} : H a = some (.tup vs) → Rps B P H vs ds → Rp B P H (.ref a) (.tup ds)
  | lst {a : Addr} {vs : List V} {ds : List D} : ¬ P a → H a = some (.lst vs) → Rps B P H vs ds → Rp B P H (.ref a) (.lst ds)
  | dT {a : Addr} {kvs : List (List Key × V)} {kds : List (List Int × D)} : ¬ P a → Rd H a (.dT kvs) → RpT B P H kvs kds → Rp B P H (.ref a) (.dT kds)
  | dK {a : Addr} {kvs : List (Key × V)} {kds : List (Int × D)} : ¬ P a → Rd H a (.dK kvs) → RpK B P H kvs kds → Rp B P H (.ref a) (.dK kds)
  | dr : Rp B P H (.ref B.pd) .dr
  | ex {a : Addr} {c : Nat} : H a = some (ExcO (Cl c) a) → Rp B P H (.ref a) (.ex c)
  | ob {f : Ft} : B.ft = some f → Rp B P H (.ref f.po) .ob
inductive Rps {Cl : Nat → Value} (B : Bk Cl) (P : Addr → Prop) (H : Hp) : List V → List D → Prop
  | nil : Rps B P H [] []
  | cons {v : V} {vs : List V} {d : D} {ds : List D} : Rp B P H v d → Rps B P H vs ds → Rps B P H (v :: vs) (d :: ds)
inductive RpT {Cl : Nat → Value} (B : Bk Cl) (P : Addr → Prop) (H : Hp) : List (List Key × V) → List (List Int × D) → Prop
  | nil : RpT B P H [] []
  | cons {k : List Int} {v : V} {kvs : List (List Key × V)} {d : D} {kds : List (List Int × D)} : Rp B P H v d → RpT B P H kvs kds → RpT B P H ((kI k, v) :: kvs) ((k, d) :: kds)
inductive RpK {Cl : Nat → Value} (B : Bk Cl) (P : Addr → Prop) (H : Hp) : List (Key × V) → List (Int × D) → Prop
  | nil : RpK B P H [] []
  | cons {k : Int} {v : V} {kvs : List (Key × V)} {d : D} {kds : List (Int × D)} : Rp B P H v d → RpK B P H kvs kds → RpK B P H ((Sum.inl k, v) :: kvs) ((k, d) :: kds)
end

/-- what keeps the meaning of values -/
structure Mo (P P' : Addr → Prop) (H H' : Hp) : Prop where
  tup : ∀ a vs, H a = some (.tup vs) → H' a = some (.tup vs)
  lst : ∀ a vs, ¬ P a → H a = some (.lst vs) → ¬ P' a ∧ H' a = some (.lst vs)
  dT : ∀ a kvs, ¬ P a → Rd H a (.dT kvs) → ¬ P' a ∧ Rd H' a (.dT kvs)
  dK : ∀ a kvs, ¬ P a → Rd H a (.dK kvs) → ¬ P' a ∧ Rd H' a (.dK kvs)
  ex : ∀ a φ, H a = some (.ext φ) → H' a = some (.ext φ)

section
variable {Cl : Nat → Value} {B : Bk Cl} {P P' : Addr → Prop} {H H' : Hp}
mutual
theorem Rp.mo (m : Mo P P' H H') : ∀ (d : D) (v : V), Rp B P H v d → Rp B P' H' v d
  | .non, _, .non => .non
  | .bl b, _, .bl _ => .bl b
  | .int i, _, .int _ => .int i
  | .str s, _, .str _ => .str s
  | .tup ds, _, .tup h r => .tup (m.tup _ _ h) (Rps.mo m ds _ r)
  | .lst ds, _, .lst p h r => .lst (m.lst _ _ p h).1 (m.lst _ _ p h).2 (Rps.mo m ds _ r)
  | .dT kds, _, .dT p h r => .dT (m.dT _ _ p h).1 (m.dT _ _ p h).2 (RpT.mo m kds _ r)
  | .dK kds, _, .dK p h r => .dK (m.dK _ _ p h).1 (m.dK _ _ p h).2 (RpK.mo m kds _ r)
  | .dr, _, .dr => .dr
  | .ex c, _, .ex h => .ex (m.ex _ _ h)
  | .ob, _, .ob h => .ob h
theorem Rps.mo (m : Mo P P' H H') : ∀ (ds : List D) (vs : List V), Rps B P H vs ds → Rps B P' H' vs ds
  | [], _, .nil => .nil
  | d :: ds, _, .cons r rs => .cons (Rp.mo m d _ r) (Rps.mo m ds _ rs)
theorem RpT.mo (m : Mo P P' H H') : ∀ (ds : List (List Int × D)) (vs : List (List Key × V)), RpT B P H vs ds → RpT B P' H' vs ds
  | [], _, .nil => .nil
  | (_, d) :: ds, _, .cons r rs => .cons (Rp.mo m d _ r) (RpT.mo m ds _ rs)
theorem RpK.mo (m : Mo P P' H H') : ∀ (ds : List (Int × D)) (vs : List (Key × V)), RpK B P H vs ds → RpK B P' H' vs ds
  | [], _, .nil => .nil
  | (_, d) :: ds, _, .cons r rs => .cons (Rp.mo m d _ r) (RpK.mo m ds _ rs)
end
mutual
/-- flat data lean on tuples alone -/
theorem Rp.flat (m : ∀ a vs, H a = some (.tup vs) → H' a = some (.tup vs)) (mx : ∀ a φ, H a = some (.ext φ) → H' a = some (.ext φ)) : ∀ (d : D) (v : V), SF.flat d = true → Rp B P H v d → Rp B P' H' v d
  | .non, _, _, .non => .non
  | .bl b, _, _, .bl _ => .bl b
  | .int i, _, _, .int _ => .int i
  | .str s, _, _, .str _ => .str s
  | .tup ds, _, f, .tup h r => .tup (m _ _ h) (Rps.flat m mx ds _ (by simpa [SF.flat] using f) r)
  | .lst ds, _, f, _ => by simp [SF.flat] at f
  | .dT kds, _, f, _ => by simp [SF.flat] at f
  | .dK kds, _, f, _ => by simp [SF.flat] at f
  | .dr, _, _, .dr => .dr
  | .ex c, _, _, .ex h => .ex (mx _ _ h)
  | .ob, _, _, .ob h => .ob h
theorem Rps.flat (m : ∀ a vs, H a = some (.tup vs) → H' a = some (.tup vs)) (mx : ∀ a φ, H a = some (.ext φ) → H' a = some (.ext φ)) : ∀ (ds : List D) (vs : List V), SF.flats ds = true → Rps B P H vs ds → Rps B P' H' vs ds
  | [], _, _, .nil => .nil
  | d :: ds, _, f, .cons r rs => by
    simp [SF.flats] at f
    exact .cons (Rp.flat m mx d _ f.1 r) (Rps.flat m mx ds _ f.2 rs)
end
theorem Rps.length : ∀ {ds : List D} {vs : List V}, Rps B P H vs ds → vs.length = ds.length
  | [], _, .nil => rfl
  | _ :: _, _, .cons _ r => by simp [Rps.length r]
theorem Rps.get : ∀ {ds : List D} {vs : List V} {i : Nat} {d : D}, Rps B P H vs ds → ds[i]? = some d → ∃ v, vs[i]? = some v ∧ Rp B P H v d
  | _, _, _, _, .nil, e => by simp at e
  | _, _, 0, _, .cons r _, e => by simp at e; subst e; exact ⟨_, rfl, r⟩
  | _, _, i + 1, d, .cons _ t, e => by
    obtain ⟨v, h1, h2⟩ := Rps.get (i := i) (d := d) t (by simpa using e)
    exact ⟨v, by simpa using h1, h2⟩
theorem Rps.append : ∀ {ds es : List D} {vs us : List V}, Rps B P H vs ds → Rps B P H us es → Rps B P H (vs ++ us) (ds ++ es)
  | _, _, _, _, .nil, s => s
  | _, _, _, _, .cons r t, s => .cons r (Rps.append t s)
theorem Rps.drop : ∀ {ds : List D} {vs : List V} (n : Nat), Rps B P H vs ds → Rps B P H (vs.drop n) (ds.drop n)
  | _, _, 0, r => r
  | _, _, _ + 1, .nil => .nil
  | _, _, n + 1, .cons _ t => Rps.drop n t
theorem Rps.take : ∀ {ds : List D} {vs : List V} (n : Nat), Rps B P H vs ds → Rps B P H (vs.take n) (ds.take n)
  | _, _, 0, _ => .nil
  | _, _, _ + 1, .nil => .nil
  | _, _, n + 1, .cons r t => .cons r (Rps.take n t)
theorem Rps.set {x : V} {d : D} (r : Rp B P H x d) : ∀ {ds : List D} {vs : List V} (i : Nat), Rps B P H vs ds → Rps B P H (vs.set i x) (ds.set i d)
  | _, _, _, .nil => .nil
  | _, _, 0, .cons _ t => .cons r t
  | _, _, i + 1, .cons q t => .cons q (Rps.set r i t)
theorem Rps.reverse {ds : List D} {vs : List V} (h : Rps B P H vs ds) : Rps B P H vs.reverse ds.reverse := by
  induction h using Rps.rec (motive_1 := fun _ _ _ => True) (motive_3 := fun _ _ _ => True) (motive_4 := fun _ _ _ => True) with
  | nil => exact .nil
  | cons r rs _ ih => rw [List.reverse_cons, List.reverse_cons]; exact Rps.append ih (.cons r .nil)
  | _ => trivial
theorem Rps.rep {ds : List D} {vs : List V} (h : Rps B P H vs ds) : ∀ k : Nat, Rps B P H (List.replicate k vs).flatten (List.replicate k ds).flatten
  | 0 => .nil
  | k + 1 => by
    rw [List.replicate_succ, List.replicate_succ, List.flatten_cons, List.flatten_cons]
    exact h.append (Rps.rep h k)
theorem Rps.ints : ∀ {ds : List D} {vs : List V} {is : List Int}, Rps B P H vs ds → SF.ints ds = some is → vs = is.map V.int
  | [], _, is, .nil, e => by simp [SF.ints] at e; subst e; rfl
  | d :: ds, _, is, .cons r rs, e => by
    cases d <;> simp [SF.ints, intOf] at e
    rename_i i
    cases h : SF.ints ds with
    | none => rw [h] at e; simp at e
    | some js =>
      rw [h] at e
      simp at e
      subst e
      cases r
      rw [Rps.ints rs h]
      rfl
theorem ints_back : ∀ {ds : List D} {is : List Int}, SF.ints ds = some is → ds = is.map D.int
  | [], is, e => by simp [SF.ints] at e; subst e; rfl
  | d :: ds, is, e => by
    cases d <;> simp [SF.ints, intOf] at e
    rename_i i
    cases h : SF.ints ds with
    | none => rw [h] at e; simp at e
    | some js =>
      rw [h] at e
      simp at e
      subst e
      rw [ints_back h]
      rfl
theorem ints_map : ∀ (is : List Int), SF.ints (is.map D.int) = some is
  | [] => rfl
  | i :: is => by simp [SF.ints, intOf, ints_map is]
theorem Rps.of_ints : ∀ (is : List Int), Rps B P H (is.map V.int) (is.map D.int)
  | [] => .nil
  | i :: is => .cons (.int i) (Rps.of_ints is)
theorem bools_map : ∀ {ds : List D} {vs : List V} {bs : List Bool}, Rps B P H vs ds → SF.bools ds = some bs → vs = bs.map V.bl
  | [], _, is, .nil, e => by simp [SF.bools] at e; subst e; rfl
  | d :: ds, _, is, .cons r rs, e => by
    cases d <;> simp [SF.bools, boolOf] at e
    rename_i i
    cases h : SF.bools ds with
    | none => rw [h] at e; simp at e
    | some js =>
      rw [h] at e
      simp at e
      subst e
      cases r
      rw [bools_map rs h]
      rfl
end

/-! ### the state of the draws; heaps that grow -/
def sKind : Str := "kind"
def sSeries : Str := "series"
def sRows : Str := "rows"
/-- the rows of a fitter: lists that nobody changes -/
def Rows {Cl : Nat → Value} (B : Bk Cl) (H : Hp) : List V → List (List D) → Prop
  | [], [] => True
  | v :: vs, ds :: dss => (∃ r o us, v = .ref r ∧ H r = some (.frz o (.lst us)) ∧ Rps B (fun _ => True) H us ds ∧ flats ds = true ∧ plainsAt 7 ds = true) ∧ Rows B H vs dss
  | _, _ => False
/-- a fitter and what it holds -/
structure FtAt {Cl : Nat → Value} (B : Bk Cl) (f : Ft) (H : Hp) (w : W) : Prop where
  ob : ∃ (cf : Addr) (s : List Nat), Cl 7 = .ref cf ∧ H f.po = some (.ins cf f.dx [(sKind, .str (sOf s)), (sSeries, .ref f.ls), (sRows, .ref f.lr)]) ∧ w.kind = .str s
  ls : ∃ vs, H f.ls = some (.lst vs) ∧ Rps B (fun _ => True) H vs w.srs ∧ flats w.srs = true ∧ plainsAt 7 w.srs = true
  lr : ∃ vs, H f.lr = some (.lst vs) ∧ Rows B H vs w.rws
  n1 : f.ls ≠ B.pd
  n2 : f.ls ≠ B.pn
  n3 : f.lr ≠ B.pd
  n4 : f.lr ≠ B.pn
  n5 : f.ls ≠ f.lr
structure WR {Cl : Nat → Value} (B : Bk Cl) (P : Addr → Prop) (H : Hp) (w : W) : Prop where
  pd : H B.pd = some (.lst [.ref B.pn, .int w.cnt])
  pn : H B.pn = some (.lst (w.nums.map V.int))
  ne : B.pd ≠ B.pn
  hd : P B.pd
  hn : ∀ a, B.V a → P a
  ft : ∀ f, B.ft = some f → FtAt B f H w
/-- all but the draws and the fitter's lists is kept -/
def Ext {Cl : Nat → Value} (B : Bk Cl) (H H' : Hp) : Prop := ∀ a o, H a = some o → a ≠ B.pd → ¬ B.V a → H' a = some o
/-- no tuple, no object, no exception, no row -/
def Soft (H : Hp) (a : Addr) : Prop := (∀ vs, H a ≠ some (.tup vs)) ∧ (∀ φ, H a ≠ some (.ext φ)) ∧ (∀ c x fs, H a ≠ some (.ins c x fs)) ∧ ∀ o vs, H a ≠ some (.frz o (.lst vs))
section
variable {Cl : Nat → Value} {B : Bk Cl} {P P' : Addr → Prop} {H H' H2 : Hp} {w w' : W}
theorem Soft.none {a : Addr} (h : H a = none) : Soft H a := ⟨fun _ z => (nomatch h.symm.trans z), fun _ z => (nomatch h.symm.trans z), fun _ _ _ z => (nomatch h.symm.trans z), fun _ _ z => (nomatch h.symm.trans z)⟩
theorem Soft.lst {a : Addr} {vs : List V} (h : H a = some (.lst vs)) : Soft H a := ⟨fun _ z => (nomatch Option.some.inj (h.symm.trans z)), fun _ z => (nomatch Option.some.inj (h.symm.trans z)), fun _ _ _ z => (nomatch Option.some.inj (h.symm.trans z)), fun _ _ z => (nomatch Option.some.inj (h.symm.trans z))⟩
theorem Soft.dK {a : Addr} {vs : List (Key × V)} (h : H a = some (.dK vs)) : Soft H a := ⟨fun _ z => (nomatch Option.some.inj (h.symm.trans z)), fun _ z => (nomatch Option.some.inj (h.symm.trans z)), fun _ _ _ z => (nomatch Option.some.inj (h.symm.trans z)), fun _ _ z => (nomatch Option.some.inj (h.symm.trans z))⟩
theorem Soft.dT {a : Addr} {vs : List (List Key × V)} (h : H a = some (.dT vs)) : Soft H a := ⟨fun _ z => (nomatch Option.some.inj (h.symm.trans z)), fun _ z => (nomatch Option.some.inj (h.symm.trans z)), fun _ _ _ z => (nomatch Option.some.inj (h.symm.trans z)), fun _ _ z => (nomatch Option.some.inj (h.symm.trans z))⟩
theorem Soft.frz {a : Addr} {o : Obj} {vs : List (Key × V)} (h : H a = some (.frz o (.dK vs))) : Soft H a := ⟨fun _ z => (nomatch Option.some.inj (h.symm.trans z)), fun _ z => (nomatch Option.some.inj (h.symm.trans z)), fun _ _ _ z => (nomatch Option.some.inj (h.symm.trans z)), fun _ _ z => (nomatch HO.frz.inj (Option.some.inj (h.symm.trans z)) |>.2)⟩
theorem Rows.mo (m : Mo (fun _ => True) (fun _ => True) H H') (hz : ∀ a o vs, H a = some (.frz o (.lst vs)) → H' a = some (.frz o (.lst vs))) : ∀ {vs : List V} {dss : List (List D)}, Rows B H vs dss → Rows B H' vs dss
  | [], [], _ => trivial
  | v :: vs, ds :: dss, ⟨⟨r, o, us, h1, h2, h3, h4⟩, h5⟩ => ⟨⟨r, o, us, h1, hz _ _ _ h2, Rps.mo m _ _ h3, h4⟩, Rows.mo m hz h5⟩
  | [], _ :: _, h => h.elim
  | _ :: _, [], h => h.elim
theorem moT (ht : ∀ a vs, H a = some (.tup vs) → H' a = some (.tup vs)) (hx : ∀ a φ, H a = some (.ext φ) → H' a = some (.ext φ)) : Mo (fun _ => True) (fun _ => True) H H' := ⟨ht, fun _ _ p => absurd trivial p, fun _ _ p => absurd trivial p, fun _ _ p => absurd trivial p, hx⟩
theorem FtAt.mo {f : Ft} (F : FtAt B f H w) (h1 : H' f.po = H f.po) (h2 : H' f.ls = H f.ls) (h3 : H' f.lr = H f.lr) (m : Mo (fun _ => True) (fun _ => True) H H') (hz : ∀ a o vs, H a = some (.frz o (.lst vs)) → H' a = some (.frz o (.lst vs))) : FtAt B f H' w := by
  obtain ⟨⟨cf, vk, a1, a2, a3⟩, ⟨vs, b1, b2, b3⟩, ⟨rs, c1, c2⟩, n1, n2, n3, n4, n5⟩ := F
  exact ⟨⟨cf, vk, a1, h1.trans a2, a3⟩, ⟨vs, h2.trans b1, Rps.mo m _ _ b2, b3⟩, ⟨rs, h3.trans c1, Rows.mo m hz c2⟩, n1, n2, n3, n4, n5⟩
/-- all is kept -/
theorem WR.up (W : WR B P H w) (x : ∀ a o, H a = some o → H' a = some o) : WR B P H' w :=
  ⟨x _ _ W.pd, x _ _ W.pn, W.ne, W.hd, W.hn, fun f hf => by
    have F := W.ft f hf
    have F' := F
    obtain ⟨⟨cf, vk, a1, a2, a3⟩, ⟨vs, b1, b2, b3⟩, ⟨rs, c1, c2⟩, _⟩ := F'
    exact F.mo (by rw [a2, x _ _ a2]) (by rw [b1, x _ _ b1]) (by rw [c1, x _ _ c1]) (moT (fun a vs h => x _ _ h) fun a φ h => x _ _ h) fun a o vs h => x _ _ h⟩
/-- a thing that is none of these is put -/
theorem WR.put {d : Addr} {o : HO} (W : WR B P H w) (h1 : d ≠ B.pd) (h2 : ¬ B.V d) (h3 : Soft H d) : WR B P (upd H d o) w :=
  ⟨by rw [upd_ne (Ne.symm h1)]; exact W.pd, by rw [upd_ne (fun z => h2 (.inl z.symm))]; exact W.pn, W.ne, W.hd, W.hn, fun f hf => by
    have F := W.ft f hf
    obtain ⟨cf, vk, a1, a2, a3⟩ := F.ob
    refine F.mo (upd_ne fun z => h3.2.2.1 _ _ _ (z ▸ a2)) (upd_ne fun z => h2 (.inr ⟨f, hf, .inl z.symm⟩)) (upd_ne fun z => h2 (.inr ⟨f, hf, .inr z.symm⟩)) (moT (fun a vs h => ?_) fun a φ h => ?_) fun a o vs h => ?_
    · rw [upd_ne (fun z => h3.1 _ (z ▸ h))]; exact h
    · rw [upd_ne (fun z => h3.2.1 _ (z ▸ h))]; exact h
    · rw [upd_ne (fun z => h3.2.2.2 _ _ (z ▸ h))]; exact h⟩
/-- more is hidden, or less -/
theorem WR.sub (W : WR B P H w) (h : ∀ a, P a → P' a) : WR B P' H w := ⟨W.pd, W.pn, W.ne, h _ W.hd, fun a z => h a (W.hn a z), W.ft⟩
theorem WR.re (W : WR B P H w) (W' : WR B P' H' w') : WR B P' H w := ⟨W.pd, W.pn, W.ne, W'.hd, W'.hn, W.ft⟩
theorem WR.vl (W : WR B P H w) {a : Addr} (h : B.V a) : ∃ vs, H a = some (.lst vs) := by
  rcases h with h | ⟨f, hf, h | h⟩
  · exact ⟨_, h ▸ W.pn⟩
  · obtain ⟨vs, q, _⟩ := (W.ft f hf).ls
    exact ⟨vs, h ▸ q⟩
  · obtain ⟨vs, q, _⟩ := (W.ft f hf).lr
    exact ⟨vs, h ▸ q⟩
theorem WR.nV (W : WR B P H w) {a : Addr} {o : HO} (h : H a = some o) (ho : ∀ vs, o ≠ .lst vs) : ¬ B.V a := fun z => by
  obtain ⟨vs, q⟩ := W.vl z
  exact ho vs (Option.some.inj (h.symm.trans q))
theorem WR.nN (W : WR B P H w) {a : Addr} (h : H a = none) : ¬ B.V a := fun z => by
  obtain ⟨vs, q⟩ := W.vl z
  exact nomatch h.symm.trans q
theorem WR.nD (W : WR B P H w) {a : Addr} {o : HO} (h : H a = some o) (ho : ∀ vs, o ≠ .lst vs) : a ≠ B.pd := fun z => ho _ (Option.some.inj (h.symm.trans (z ▸ W.pd)))
theorem Ext.refl {Cl : Nat → Value} (B : Bk Cl) (H : Hp) : Ext B H H := fun _ _ h _ _ => h
theorem Ext.trans (a : Ext B H H') (b : Ext B H' H2) : Ext B H H2 := fun x o h h1 h2 => b x o (a x o h h1 h2) h1 h2
theorem Ext.new {p : Addr} {o : HO} (h : H p = none) : Ext B H (upd H p o) := fun a u e _ _ => by
  rw [upd_ne (ne_of_none e h)]
  exact e
theorem WR.new {p : Addr} {o : HO} (W : WR B P H w) (h : H p = none) : WR B P (upd H p o) w := W.up fun a u e => by
  rw [upd_ne (ne_of_none e h)]
  exact e
theorem WR.mo (W : WR B P H w) (e : Ext B H H') : Mo P P H H' where
  tup a vs h := e a _ h (W.nD h fun _ z => nomatch z) (W.nV h fun _ z => nomatch z)
  lst a vs p h := ⟨p, e a _ h (fun z => p (z ▸ W.hd)) (fun z => p (W.hn _ z))⟩
  dT a kvs p h := ⟨p, by
    rcases h with h | ⟨o, h⟩
    · exact .inl (e a _ h (fun z => p (z ▸ W.hd)) (fun z => p (W.hn _ z)))
    · exact .inr ⟨o, e a _ h (fun z => p (z ▸ W.hd)) (fun z => p (W.hn _ z))⟩⟩
  dK a kvs p h := ⟨p, by
    rcases h with h | ⟨o, h⟩
    · exact .inl (e a _ h (fun z => p (z ▸ W.hd)) (fun z => p (W.hn _ z)))
    · exact .inr ⟨o, e a _ h (fun z => p (z ▸ W.hd)) (fun z => p (W.hn _ z))⟩⟩
  ex a φ h := e a _ h (W.nD h fun _ z => nomatch z) (W.nV h fun _ z => nomatch z)
theorem Rp.ext {v : V} {d : D} (W : WR B P H w) (e : Ext B H H') (r : Rp B P H v d) : Rp B P H' v d := Rp.mo (W.mo e) d v r
theorem Rps.ext {vs : List V} {ds : List D} (W : WR B P H w) (e : Ext B H H') (r : Rps B P H vs ds) : Rps B P H' vs ds := Rps.mo (W.mo e) ds vs r
/-- what is new is not hidden -/
def Fr {Cl : Nat → Value} (B : Bk Cl) (P : Addr → Prop) (H : Hp) : Prop := ∀ a, P a → ∃ o, H a = some o
theorem Fr.ext (f : Fr B P H) (W : WR B P H w) (W' : WR B P H' w') (e : Ext B H H') : Fr B P H' := fun a p => by
  obtain ⟨o, h⟩ := f a p
  by_cases h1 : a = B.pd
  · exact ⟨_, h1 ▸ W'.pd⟩
  · by_cases h2 : B.V a
    · obtain ⟨vs, q⟩ := W'.vl h2
      exact ⟨_, q⟩
    · exact ⟨o, e a o h h1 h2⟩
end

/-- the slots as data -/
def REnv {Cl : Nat → Value} (B : Bk Cl) (P : Addr → Prop) (H : Hp) (σ : L2.St) (ρ : Env) : Prop := ∀ i d, getS ρ i = some d → ∃ v, σ[i]? = some (some v) ∧ Rp B P H v d
theorem REnv.ext {Cl : Nat → Value} {B : Bk Cl} {P : Addr → Prop} {H H' : Hp} {w : W} {σ : L2.St} {ρ : Env} (r : REnv B P H σ ρ) (W : WR B P H w) (e : Ext B H H') : REnv B P H' σ ρ := fun i d h => by
  obtain ⟨v, h1, h2⟩ := r i d h
  exact ⟨v, h1, h2.ext W e⟩

/-- the state at an expression -/
structure Sit {Cl : Nat → Value} (B : Bk Cl) (P : Addr → Prop) (H : Hp) (σ : L2.St) (ρ : Env) (w : W) : Prop where
  len : σ.length = ρ.length
  r : REnv B P H σ ρ
  w : WR B P H w
  f : Fr B P H
theorem Sit.ext {Cl : Nat → Value} {B : Bk Cl} {P : Addr → Prop} {H H' : Hp} {σ : L2.St} {ρ : Env} {w w' : W} (s : Sit B P H σ ρ w) (e : Ext B H H') (W' : WR B P H' w') : Sit B P H' σ ρ w' :=
  ⟨s.len, s.r.ext s.w e, W', s.f.ext s.w W' e⟩

abbrev Ev (α : Type) := Env → W → R α
/-- how a result is wanted -/
def Got (C : Nat → Value) (Wx : WX) (B : Bk C) (P : Addr → Prop) (σ : L2.St) {α β : Type} (rel : Hp → β → α → Prop) (H : Hp) (Q : β → Hp → Prop) : R α → Prop
  | .ok d w' => ∀ v H', Ext B H H' → WR B P H' w' → rel H' v d → Q v H'
  | .exc c w' => ∀ H', Ext B H H' → WR B P H' w' → Wx (C c) none σ H'
  | .bad => False
abbrev GotD (C : Nat → Value) (Wx : WX) (B : Bk C) (P : Addr → Prop) (σ : L2.St) (H : Hp) (Q : VK) (r : R D) : Prop := Got C Wx B P σ (fun H v d => Rp B P H v d) H Q r
abbrev GotA (C : Nat → Value) (Wx : WX) (B : Bk C) (P : Addr → Prop) (σ : L2.St) (H : Hp) (Q : List V → Hp → Prop) (r : R (List D)) : Prop := Got C Wx B P σ (fun H v d => Rps B P H v d) H Q r
def GotT (C : Nat → Value) (Wx : WX) (B : Bk C) (P : Addr → Prop) (σ : L2.St) (H : Hp) (Q : Bool → Hp → Prop) : R D → Prop
  | .ok d w' => ∃ b, d = .bl b ∧ ∀ H', Ext B H H' → WR B P H' w' → Q b H'
  | .exc c w' => ∀ H', Ext B H H' → WR B P H' w' → Wx (C c) none σ H'
  | .bad => False
/-- an expression that is worth f -/
def tD (C : Nat → Value) (Wx : WX) (f : Ev D) : TE := fun σ H Q => ∃ B P ρ w, Sit B P H σ ρ w ∧ GotD C Wx B P σ H Q (f ρ w)
def tT (C : Nat → Value) (Wx : WX) (f : Ev D) : TT := fun σ H Q => ∃ B P ρ w, Sit B P H σ ρ w ∧ GotT C Wx B P σ H Q (f ρ w)
def tAs (C : Nat → Value) (Wx : WX) (f : Ev (List D)) : TA := fun σ H Q => ∃ B P ρ w, Sit B P H σ ρ w ∧ GotA C Wx B P σ H Q (f ρ w)

theorem _root_.L2.PE.imp {X : Cx} {e : Expr} {t t' : TE} (h : PE X e t) (hi : ∀ σ H Q, t' σ H Q → t σ H Q) : PE X e t' := ⟨fun pins s σ H Q I q => h.run pins s σ H Q I (hi σ H Q q)⟩
theorem _root_.L2.PT.imp {X : Cx} {e : Expr} {t t' : TT} (h : PT X e t) (hi : ∀ σ H Q, t' σ H Q → t σ H Q) : PT X e t' := ⟨fun pins s σ H Q I q => h.run pins s σ H Q I (hi σ H Q q)⟩
theorem _root_.L2.PA.imp {X : Cx} {e : List Expr} {t t' : TA} (h : PA X e t) (hi : ∀ σ H Q, t' σ H Q → t σ H Q) : PA X e t' := ⟨fun pos pins s σ H Q I q => h.run pos pins s σ H Q I (hi σ H Q q)⟩
theorem _root_.L2.PS.imp {X : Cx} {e : Stmt} {t t' : TS} (h : PS X e t) (hi : ∀ D σ H, t' D σ H → t D σ H) : PS X e t' := ⟨fun pins s σ H D I q => h.run pins s σ H D I (hi D σ H q)⟩
theorem _root_.L2.PSs.imp {X : Cx} {e : List Stmt} {t t' : TS} (h : PSs X e t) (hi : ∀ D σ H, t' D σ H → t D σ H) : PSs X e t' := ⟨fun pins s σ H D I q => h.run pins s σ H D I (hi D σ H q)⟩

section
variable {C : Nat → Value} {Wx : WX} {B : Bk C} {P : Addr → Prop} {σ : L2.St} {H H1 : Hp}
theorem Got.bind {α β α' β' : Type} {rel : Hp → β → α → Prop} {rel' : Hp → β' → α' → Prop} {Q : β' → Hp → Prop} {k : β → Hp → Prop} {x : R α} {g : α → W → R α'}
    (G : Got C Wx B P σ rel' H Q (x.bind g))
    (hk : ∀ d w1 v H1, Ext B H H1 → WR B P H1 w1 → rel H1 v d → Got C Wx B P σ rel' H1 Q (g d w1) → k v H1) : Got C Wx B P σ rel H k x := by
  cases x with
  | ok d w1 =>
    intro v H1 e W1 r
    refine hk d w1 v H1 e W1 r ?_
    have G : Got C Wx B P σ rel' H Q (g d w1) := G
    revert G
    cases g d w1 with
    | ok d2 w2 => exact fun G v2 H2 e2 W2 r2 => G v2 H2 (e.trans e2) W2 r2
    | exc c w2 => exact fun G H2 e2 W2 => G H2 (e.trans e2) W2
    | bad => exact fun G => G
  | exc c w1 => exact G
  | bad => exact G
theorem Got.ext {α β : Type} {rel : Hp → β → α → Prop} {Q : β → Hp → Prop} {r : R α} (G : Got C Wx B P σ rel H Q r) (e : Ext B H H1) : Got C Wx B P σ rel H1 Q r := by
  cases r with
  | ok d w => exact fun v H' e' W r => G v H' (e.trans e') W r
  | exc c w => exact fun H' e' W => G H' (e.trans e') W
  | bad => exact G
theorem Got.opt {α β : Type} {rel : Hp → β → α → Prop} {Q : β → Hp → Prop} {o : Option α} {w : W} (G : Got C Wx B P σ rel H Q (opt o w)) : ∃ d, o = some d ∧ ∀ v H', Ext B H H' → WR B P H' w → rel H' v d → Q v H' := by
  cases o with
  | none => exact G.elim
  | some d => exact ⟨d, rfl, G⟩
/-- from a value to a test -/
theorem GotT.of {Q : Bool → Hp → Prop} {x : R D} (G : GotT C Wx B P σ H Q x) : GotD C Wx B P σ H (fun v H' => ∃ c, v = .bl c ∧ Q c H') x := by
  cases x with
  | ok d w =>
    obtain ⟨b, rfl, G⟩ := G
    intro v H' e W r
    cases r
    exact ⟨b, rfl, G H' e W⟩
  | exc c w => exact G
  | bad => exact G
theorem GotT.bind {α β : Type} {rel : Hp → β → α → Prop} {Q : Bool → Hp → Prop} {k : β → Hp → Prop} {x : R α} {g : α → W → R D}
    (G : GotT C Wx B P σ H Q (x.bind g))
    (hk : ∀ d w1 v H1, Ext B H H1 → WR B P H1 w1 → rel H1 v d → GotT C Wx B P σ H1 Q (g d w1) → k v H1) : Got C Wx B P σ rel H k x := by
  cases x with
  | ok d w1 =>
    intro v H1 e W1 r
    refine hk d w1 v H1 e W1 r ?_
    have G : GotT C Wx B P σ H Q (g d w1) := G
    revert G
    cases g d w1 with
    | ok d2 w2 => exact fun ⟨b, e2, G⟩ => ⟨b, e2, fun H2 e2 W2 => G H2 (e.trans e2) W2⟩
    | exc c w2 => exact fun G H2 e2 W2 => G H2 (e.trans e2) W2
    | bad => exact fun G => G
  | exc c w1 => exact G
  | bad => exact G
/-- a test, then what follows -/
theorem GotT.thn {α β : Type} {rel : Hp → β → α → Prop} {Q : β → Hp → Prop} {k : Bool → Hp → Prop} {x : R D} {g : D → W → R α}
    (G : Got C Wx B P σ rel H Q (x.bind g)) (hb : ∀ d w, (∀ b, d ≠ .bl b) → g d w = .bad)
    (hk : ∀ b w1 H1, Ext B H H1 → WR B P H1 w1 → Got C Wx B P σ rel H1 Q (g (.bl b) w1) → k b H1) : GotT C Wx B P σ H k x := by
  cases x with
  | ok d w1 =>
    have G : Got C Wx B P σ rel H Q (g d w1) := G
    by_cases hd : ∃ b, d = .bl b
    · obtain ⟨b, rfl⟩ := hd
      refine ⟨b, rfl, fun H1 e W1 => hk b w1 H1 e W1 ?_⟩
      revert G
      cases g (.bl b) w1 with
      | ok d2 w2 => exact fun G v2 H2 e2 W2 r2 => G v2 H2 (e.trans e2) W2 r2
      | exc c w2 => exact fun G H2 e2 W2 => G H2 (e.trans e2) W2
      | bad => exact fun G => G
    · rw [hb d w1 fun b z => hd ⟨b, z⟩] at G
      exact G.elim
  | exc c w1 => exact G
  | bad => exact G
theorem GotT.thnT {Q : Bool → Hp → Prop} {k : Bool → Hp → Prop} {x : R D} {g : D → W → R D}
    (G : GotT C Wx B P σ H Q (x.bind g)) (hb : ∀ d w, (∀ b, d ≠ .bl b) → g d w = .bad)
    (hk : ∀ b w1 H1, Ext B H H1 → WR B P H1 w1 → GotT C Wx B P σ H1 Q (g (.bl b) w1) → k b H1) : GotT C Wx B P σ H k x := by
  cases x with
  | ok d w1 =>
    have G : GotT C Wx B P σ H Q (g d w1) := G
    by_cases hd : ∃ b, d = .bl b
    · obtain ⟨b, rfl⟩ := hd
      refine ⟨b, rfl, fun H1 e W1 => hk b w1 H1 e W1 ?_⟩
      revert G
      cases g (.bl b) w1 with
      | ok d2 w2 => exact fun ⟨b, e2, G⟩ => ⟨b, e2, fun H2 e2 W2 => G H2 (e.trans e2) W2⟩
      | exc c w2 => exact fun G H2 e2 W2 => G H2 (e.trans e2) W2
      | bad => exact fun G => G
    · rw [hb d w1 fun b z => hd ⟨b, z⟩] at G
      exact G.elim
  | exc c w1 => exact G
  | bad => exact G
end

/-! ### operators by data -/
/-- x op y is f of their data -/
def rD (f : D → D → Option D) : R2 := fun x y H Q => ∃ (Cl : Nat → Value) (B : Bk Cl), ∃ P w d1 d2 d, WR B P H w ∧ Fr B P H ∧ Rp B P H x d1 ∧ Rp B P H y d2 ∧ f d1 d2 = some d ∧
  ∀ v H', Ext B H H' → WR B P H' w → Rp B P H' v d → Q v H'
/-- new objects are not hidden -/
theorem Fr.new {Cl : Nat → Value} {B : Bk Cl} {P : Addr → Prop} {H : Hp} {p : Addr} (f : Fr B P H) (h : H p = none) : ¬ P p := fun z => by
  obtain ⟨o, e⟩ := f p z
  rw [h] at e
  cases e
end SF

namespace SF
open PySem L2
section
open PyProof.Rows
/-! ### a truth value among whole numbers: abs(True), True < 1 -/
theorem absBL : typeLookup (.type "bool") "__abs__" = pure (some (.builtin "int.__abs__")) := by
  rw [typeLookup_type]
  rw [builtinLookup_eq_fast]
  kernel_rfl
theorem absBT : isSubtype (.type "bool") (.type "int") = pure true := by
  rw [isSubtype_type]
  kernel_rfl
theorem absBK : (Manifest.find? "int").bind (·.attrs.lookup "__abs__") = some .slot ∨ (Manifest.find? "int").bind (·.attrs.lookup "__abs__") = some .method := by
  first
    | exact .inl (by decide +kernel)
    | exact .inr (by decide +kernel)
theorem absBS : PySem.Slot "bool" "__abs__" "int.__abs__" :=
  PySem.Slot.of absBL (owner := "int") (n := "__abs__") (by decide +kernel) (by decide +kernel) (by decide +kernel) absBK absBT
theorem absBG : ∀ b : Bool, Gives (Builtin.«int.__abs__» ⟨[.bool b], []⟩) (.int (if b then 1 else 0))
  | true => .of_eq rfl
  | false => .of_eq rfl
theorem ltBG (a : Bool) (b : Int) (u : Tok) : Gives (Builtin.«int.__lt__» ⟨[.bool a, .int b u], []⟩) (.val (Value.bool (decide ((if a = true then (1 : Int) else 0) < b)))) := by
  refine Gives.of_wp fun M A E s Q h => ?_
  obtain ⟨hp, g, d, tk, os⟩ := s
  wp_walk
  exact ⟨_, rfl, h⟩
section
variable {prog : Program} {w : World} {A : Around} {E : Value → Shared → Prop} {s : Shared}
theorem ltBI {a : Bool} {b : Int} {u : Tok} {Q : Value → Shared → Prop} (h : Q (.bool (decide ((if a = true then (1 : Int) else 0) < b))) s) : wpAny (model prog w) A (compareOp .Lt (.bool a) (.int b u)) Q E s := by
  rw [show compareOp .Lt (.bool a) (.int b u) = richCompare .Lt (.bool a) (.int b u) from rfl]
  have c := call_gives (prog := prog) (w := w) (A := A) (E := E) (s := s) F.slot_bool_lt (show s.TypeIs (.bool a) "bool" from rfl) F.entry_int_lt (F.args_int_lt_2 _ _) (ltBG a b u) (Q := fun v s' => v ≠ .notImplemented ∧ Q v s') ⟨nofun, h⟩
  exact SeqAt.rc_left_or rfl (typeIs_int s b u) (by decide) F.sub_int_bool F.slot_bool_lt c (.inl rfl)
theorem absB {b : Bool} {Q : Value → Shared → Prop} (h : ∀ u tk, Q (.int (if b then 1 else 0) u) { s with toks := tk }) :
    wpAny (model prog w) A (call (.builtin "abs") [.bool b]) Q E s := by
  refine Calls.call_function_entry kind_abs plain_abs entry_abs (args_abs (.bool b)) ?_
  unfold Builtin.«abs»
  have c := fun (Q' : Value → Shared → Prop) z => call_gives (prog := prog) (w := w) (A := A.in1) (E := E) (s := s) absBS (show s.TypeIs (.bool b) "bool" from rfl) entry_int_abs (args_int_abs (.bool b)) (absBG b) (Q := Q') z
  refine wpAny_bind (m := oneArg "abs" _) (wpAny_pure ?_)
  refine wpAny_bind (m := callSpecial? (.bool b) _) (wpAny_callSpecial?_slot (T := "bool") rfl absBS (c _ ?_))
  exact wpAny_pure ⟨_, rfl, h _ _⟩
end
end
theorem lim_le {n : Nat} (h : n ≤ LIM) : n ≤ sizeLine := Nat.le_trans h (by decide)
theorem lim_lt {n : Nat} (h : n < LIM) : n < sizeLine := Nat.lt_of_lt_of_le h (by decide)
theorem sOf_len (s : List Nat) : (sOf s).length = s.length := by simp [sOf, Str.length]
theorem sOf_app (a b : List Nat) : sOf a ++ sOf b = sOf (a ++ b) := by
  show Str.append (sOf a) (sOf b) = _
  simp [Str.append, sOf]
theorem sOf_inj {a b : List Nat} (h : sOf a = sOf b) : a = b := by
  simp [sOf] at h
  exact h
section
variable {X : Cx} {Cl : Nat → Value} {B : Bk Cl} {P : Addr → Prop} {H : Hp} {w : W}
/-- a new list, a new tuple -/
theorem new_lst {p : Addr} {vs : List V} {ds : List D} (W : WR B P H w) (f : Fr B P H) (h : H p = none) (r : Rps B P H vs ds) : Rp B P (upd H p (.lst vs)) (.ref p) (.lst ds) :=
  .lst (f.new h) upd_same (r.ext W (Ext.new h))
theorem new_tup {p : Addr} {vs : List V} {ds : List D} (W : WR B P H w) (f : Fr B P H) (h : H p = none) (r : Rps B P H vs ds) : Rp B P (upd H p (.tup vs)) (.ref p) (.tup ds) :=
  .tup upd_same (r.ext W (Ext.new h))
theorem op_addD : OpR X (binaryOp .Add) (rD (binD .add)) := by
  intro pins s σ H x y v u Q I rx ry h
  obtain ⟨_, B, P, w, d1, d2, d, W, F, r1, r2, e, k⟩ := h
  cases r1 with
  | int i =>
    cases r2 <;> simp [binD] at e
    subst e
    exact op_add pins s σ H _ _ v u Q I rx ry ⟨_, _, rfl, rfl, k _ H (Ext.refl B H) W (.int _)⟩
  | str a =>
    cases r2 <;> simp [binD] at e
    rename_i b
    obtain ⟨e0, e⟩ := e
    subst e
    refine op_add_str pins s σ H _ _ v u Q I rx ry ⟨_, _, rfl, rfl, ?_, ?_⟩
    · rw [sOf_len, sOf_len]; exact lim_le e0
    · rw [sOf_app]; exact k _ H (Ext.refl B H) W (.str _)
  | lst p1 h1 s1 =>
    cases r2 <;> simp [binD] at e
    rename_i p2 h2 s2
    obtain ⟨e0, e⟩ := e
    subst e
    refine op_cat pins s σ H _ _ v u Q I rx ry ⟨_, _, _, _, rfl, rfl, h1, h2, ?_, fun p hp => ?_⟩
    · rw [s1.length, s2.length]; exact lim_le e0
    · exact k _ _ (Ext.new hp) (W.new hp) (new_lst W F hp (s1.append s2))
  | tup h1 s1 =>
    cases r2 <;> simp [binD] at e
    rename_i h2 s2
    obtain ⟨e0, e⟩ := e
    subst e
    refine op_catA pins s σ H _ _ v u Q I rx ry ⟨_, _, _, _, rfl, rfl, SqT.of h1, SqT.of h2, ?_, fun z => ?_, fun z z2 => ?_, fun z z2 p hp => ?_⟩
    · rw [s1.length, s2.length]; exact lim_le e0
    · subst z
      cases s1
      exact k _ H (Ext.refl B H) W (.tup h2 (by simpa using s2))
    · subst z2
      cases s2
      exact k _ H (Ext.refl B H) W (.tup h1 (by simpa using s1))
    · exact k _ _ (Ext.new hp) (W.new hp) (new_tup W F hp (s1.append s2))
  | _ => simp [binD] at e
theorem op_subD : OpR X (binaryOp .Sub) (rD (binD .sub)) := by
  intro pins s σ H x y v u Q I rx ry h
  obtain ⟨_, B, P, w, d1, d2, d, W, F, r1, r2, e, k⟩ := h
  cases r1 <;> cases r2 <;> simp [binD] at e
  subst e
  exact op_sub pins s σ H _ _ v u Q I rx ry ⟨_, _, rfl, rfl, k _ H (Ext.refl B H) W (.int _)⟩
theorem op_mulD : OpR X (binaryOp .Mult) (rD (binD .mul)) := by
  intro pins s σ H x y v u Q I rx ry h
  obtain ⟨_, B, P, w, d1, d2, d, W, F, r1, r2, e, k⟩ := h
  cases r1 with
  | int i =>
    cases r2 <;> simp [binD] at e
    rename_i j
    obtain ⟨e0, e⟩ := e
    subst e
    exact op_mulW pins s σ H _ _ v u Q I rx ry ⟨_, _, rfl, rfl, wide_mul (a := 4000) (b := 4000) e0.1 e0.2 (by decide) (by decide) (by decide), k _ H (Ext.refl B H) W (.int _)⟩
  | lst p1 h1 s1 =>
    cases r2 <;> simp [binD] at e
    rename_i j
    obtain ⟨e0, e⟩ := e
    subst e
    refine op_rep pins s σ H _ _ v u Q I rx ry ⟨_, _, _, rfl, rfl, h1, by omega, by omega, ?_, fun p hp => ?_⟩
    · rw [s1.length]; exact lim_le e0.2.2
    · exact k _ _ (Ext.new hp) (W.new hp) (new_lst W F hp (s1.rep _))
  | _ => simp [binD] at e
theorem op_divD : OpR X (binaryOp .FloorDiv) (rD (binD .div)) := by
  intro pins s σ H x y v u Q I rx ry h
  obtain ⟨_, B, P, w, d1, d2, d, W, F, r1, r2, e, k⟩ := h
  cases r1 <;> cases r2 <;> simp [binD] at e
  obtain ⟨e0, e⟩ := e
  subst e
  exact op_fdivW pins s σ H _ _ v u Q I rx ry ⟨_, _, rfl, rfl, wide_div (b := 4000) e0.1 e0.2 (by decide) (by decide), k _ H (Ext.refl B H) W (.int _)⟩
theorem op_modD : OpR X (binaryOp .Mod) (rD (binD .mod)) := by
  intro pins s σ H x y v u Q I rx ry h
  obtain ⟨_, B, P, w, d1, d2, d, W, F, r1, r2, e, k⟩ := h
  cases r1 <;> cases r2 <;> simp [binD] at e
  obtain ⟨e0, e⟩ := e
  subst e
  exact op_mod pins s σ H _ _ v u Q I rx ry ⟨_, _, rfl, rfl, e0, k _ H (Ext.refl B H) W (.int _)⟩
theorem op_powD : OpR X (binaryOp .Pow) (rD (binD .pow)) := by
  intro pins s σ H x y v u Q I rx ry h
  obtain ⟨_, B, P, w, d1, d2, d, W, F, r1, r2, e, k⟩ := h
  cases r1 <;> cases r2 <;> simp [binD] at e
  obtain ⟨e0, e⟩ := e
  subst e
  exact op_pow pins s σ H _ _ v u Q I rx ry ⟨_, _, rfl, rfl, ⟨e0.1, by omega, by have := e0.2.2; simpa using this⟩, k _ H (Ext.refl B H) W (.int _)⟩

/-! ### == -/
mutual
def toPy : D → PyData
  | .non => .none
  | .bl b => .bool b
  | .int i => .int i
  | .str s => .str (sOf s)
  | .tup xs => .tuple (toPys xs)
  | .lst xs => .list (toPys xs)
  | _ => .none
def toPys : List D → List PyData
  | [] => []
  | x :: xs => toPy x :: toPys xs
end
mutual
theorem Rp.py : ∀ (n : Nat) (d : D) (v : V), plainAt n d = true → Rp B P H v d → Dp X.K H v (toPy d)
  | _, .non, _, _, .non => by simp only [toPy]; exact .non
  | _, .bl b, _, _, .bl _ => by simp only [toPy]; exact .bl b
  | _, .int i, _, _, .int _ => by simp only [toPy]; exact .int i
  | _, .str s, _, _, .str _ => by simp only [toPy]; exact .str _
  | 0, .tup ds, _, p, _ => by simp [plainAt] at p
  | n + 1, .tup ds, _, p, .tup h r => by simp only [toPy]; exact .tup (SqT.of h) (Rps.py n ds _ (by simpa [plainAt] using p) r)
  | 0, .lst ds, _, p, _ => by simp [plainAt] at p
  | n + 1, .lst ds, _, p, .lst _ h r => by simp only [toPy]; exact .lst (SqL.of h) (Rps.py n ds _ (by simpa [plainAt] using p) r)
  | _, .dT _, _, p, _ => by simp [plainAt] at p
  | _, .dK _, _, p, _ => by simp [plainAt] at p
  | _, .dr, _, p, _ => by simp [plainAt] at p
theorem Rps.py : ∀ (n : Nat) (ds : List D) (vs : List V), plainsAt n ds = true → Rps B P H vs ds → DpAll X.K H vs (toPys ds)
  | _, [], _, _, .nil => by simp only [toPys]; exact .nil
  | n, d :: ds, _, p, .cons r rs => by
    simp [plainsAt] at p
    simp only [toPys]
    exact .cons (Rp.py n d _ p.1 r) (Rps.py n ds _ p.2 rs)
end
mutual
theorem lay_py : ∀ (n : Nat) (d : D), plainAt n d = true → (toPy d).canLay0 = true ∧ (toPy d).depth ≤ n
  | _, .non, _ => by simp [toPy, PyData.canLay0, PyData.depth]
  | _, .bl b, _ => by simp [toPy, PyData.canLay0, PyData.depth]
  | _, .int i, _ => by simp [toPy, PyData.canLay0, PyData.depth]
  | _, .str s, p => by
    simp [plainAt] at p
    simp [toPy, PyData.canLay0, PyData.depth, PyData.strOk, sOf]
    simpa using p
  | 0, .tup ds, p => by simp [plainAt] at p
  | n + 1, .tup ds, p => by
    have := lays_py n ds (by simpa [plainAt] using p)
    simp only [toPy, PyData.canLay0, PyData.depth]
    exact ⟨this.1, by omega⟩
  | 0, .lst ds, p => by simp [plainAt] at p
  | n + 1, .lst ds, p => by
    have := lays_py n ds (by simpa [plainAt] using p)
    simp only [toPy, PyData.canLay0, PyData.depth]
    exact ⟨this.1, by omega⟩
  | _, .dT _, p => by simp [plainAt] at p
  | _, .dK _, p => by simp [plainAt] at p
  | _, .dr, p => by simp [plainAt] at p
  | _, .ob, p => by simp [plainAt] at p
  | _, .ex _, p => by simp [plainAt] at p
theorem lays_py : ∀ (n : Nat) (ds : List D), plainsAt n ds = true → PyData.canLayAll0 (toPys ds) = true ∧ PyData.depthAll (toPys ds) ≤ n
  | _, [], _ => by simp [toPys, PyData.canLayAll0, PyData.depthAll]
  | n, d :: ds, p => by
    simp [plainsAt] at p
    have h1 := lay_py n d p.1
    have h2 := lays_py n ds p.2
    simp only [toPys, PyData.canLayAll0, PyData.depthAll]
    exact ⟨by simp [h1.1, h2.1], by omega⟩
end
theorem shaped_py {d : D} (p : plain d = true) : SeqAt.shaped (toPy d) = true := by
  have h := lay_py 8 d p
  unfold SeqAt.shaped
  simp [h.1]
  omega
theorem shapeds_py {ds : List D} (p : plains ds = true) : SeqAt.shaped (.list (toPys ds)) = true := by
  have h := lays_py 8 ds p
  unfold SeqAt.shaped
  simp [PyData.canLay0, PyData.depth, h.1]
  omega
theorem sOf_beq (a b : List Nat) : (sOf a == sOf b) = (a == b) := by
  by_cases h : a = b
  · subst h; simp
  · have h2 : sOf a ≠ sOf b := fun z => h (sOf_inj z)
    rw [beq_eq_false_iff_ne.mpr h2, beq_eq_false_iff_ne.mpr h]
mutual
theorem eqv_py : ∀ (n m : Nat) (a b : D), plainAt n a = true → plainAt m b = true → PyData.eqv (toPy a) (toPy b) = eqD a b
  | _, _, .non, b, _, q => by cases b <;> simp [toPy, PyData.eqv, eqD, plainAt] at q ⊢
  | _, _, .bl a, b, _, q => by cases b <;> simp [toPy, PyData.eqv, eqD, plainAt] at q ⊢
  | _, _, .int a, b, _, q => by cases b <;> simp [toPy, PyData.eqv, eqD, plainAt] at q ⊢
  | _, _, .str a, b, _, q => by cases b <;> simp [toPy, PyData.eqv, eqD, plainAt, sOf_beq] at q ⊢
  | 0, _, .tup a, b, p, _ => by simp [plainAt] at p
  | n + 1, m, .tup a, b, p, q => by
    cases b with
    | tup b =>
      cases m with
      | zero => simp [plainAt] at q
      | succ m =>
        simp only [toPy, PyData.eqv, eqD]
        exact eqvs_py n m a b (by simpa [plainAt] using p) (by simpa [plainAt] using q)
    | _ => simp [toPy, PyData.eqv, eqD, plainAt] at q ⊢
  | 0, _, .lst a, b, p, _ => by simp [plainAt] at p
  | n + 1, m, .lst a, b, p, q => by
    cases b with
    | lst b =>
      cases m with
      | zero => simp [plainAt] at q
      | succ m =>
        simp only [toPy, PyData.eqv, eqD]
        exact eqvs_py n m a b (by simpa [plainAt] using p) (by simpa [plainAt] using q)
    | _ => simp [toPy, PyData.eqv, eqD, plainAt] at q ⊢
  | _, _, .dT _, _, p, _ => by simp [plainAt] at p
  | _, _, .dK _, _, p, _ => by simp [plainAt] at p
  | _, _, .dr, _, p, _ => by simp [plainAt] at p
  | _, _, .ob, _, p, _ => by simp [plainAt] at p
  | _, _, .ex _, _, p, _ => by simp [plainAt] at p
theorem eqvs_py : ∀ (n m : Nat) (a b : List D), plainsAt n a = true → plainsAt m b = true → PyData.eqvAll (toPys a) (toPys b) = eqDs a b
  | _, _, [], b, _, _ => by cases b <;> simp [toPys, PyData.eqvAll, eqDs]
  | _, _, a :: as, [], _, _ => by simp [toPys, PyData.eqvAll, eqDs]
  | n, m, a :: as, b :: bs, p, q => by
    simp [plainsAt] at p q
    simp only [toPys, PyData.eqvAll, eqDs]
    rw [eqv_py n m a b p.1 q.1, eqvs_py n m as bs p.2 q.2]
end
theorem any_py {x : D} (px : plain x = true) : ∀ (ds : List D), plains ds = true → ((toPys ds).any fun z => PyData.eqv z (toPy x)) = memD x ds
  | [], _ => rfl
  | d :: ds, p => by
    simp [plainsAt] at p
    simp only [toPys, List.any_cons, memD]
    rw [eqv_py 8 8 d x p.1 px, any_py px ds p.2]
    rfl

def bD (f : D → D → Option Bool) : D → D → Option D := fun a b => (f a b).map .bl
theorem op_eqDD (hu : X.A.units + 64 < cLine) : OpR X (compareOp .Eq) (rD (bD (cmpD .eq))) := by
  intro pins s σ H x y v u Q I rx ry h
  obtain ⟨_, B, P, w, d1, d2, d, W, F, r1, r2, e, k⟩ := h
  simp [bD, cmpD] at e
  obtain ⟨⟨p1, p2⟩, rfl⟩ := e
  refine op_eqD hu pins s σ H _ _ v u Q I rx ry ⟨_, _, Rp.py 8 d1 _ p1 r1, Rp.py 8 d2 _ p2 r2, shaped_py p1, shaped_py p2, ?_⟩
  rw [eqv_py 8 8 d1 d2 p1 p2]
  exact k _ H (Ext.refl B H) W (.bl _)
theorem op_neDD (hu : X.A.units + 64 < cLine) : OpR X (compareOp .NotEq) (rD (bD (cmpD .ne))) := by
  intro pins s σ H x y v u Q I rx ry h
  obtain ⟨_, B, P, w, d1, d2, d, W, F, r1, r2, e, k⟩ := h
  simp [bD, cmpD] at e
  obtain ⟨⟨p1, p2⟩, rfl⟩ := e
  refine op_neD hu pins s σ H _ _ v u Q I rx ry ⟨_, _, Rp.py 8 d1 _ p1 r1, Rp.py 8 d2 _ p2 r2, shaped_py p1, shaped_py p2, ?_⟩
  rw [eqv_py 8 8 d1 d2 p1 p2]
  exact k _ H (Ext.refl B H) W (.bl _)
theorem lex_same : ∀ (a b : List Int), HT.lexLt a b = SF.lexLt a b
  | [], [] => rfl
  | [], _ :: _ => rfl
  | _ :: _, [] => rfl
  | x :: xs, y :: ys => by
    rw [HT.lexLt_cons]
    simp only [SF.lexLt]
    rw [lex_same xs ys]
theorem op_ltD (hu : X.A.units < cLine) : OpR X (compareOp .Lt) (rD (bD (cmpD .lt))) := by
  intro pins s σ H x y v u Q I rx ry h
  obtain ⟨_, B, P, w, d1, d2, d, W, F, r1, r2, e, k⟩ := h
  cases r1 with
  | int i =>
    cases r2 <;> simp [bD, cmpD] at e
    subst e
    exact op_lt pins s σ H _ _ v u Q I rx ry ⟨_, _, rfl, rfl, k _ H (Ext.refl B H) W (.bl _)⟩
  | bl a =>
    cases r2 <;> simp [bD, cmpD] at e
    subst e
    cases rx
    obtain ⟨t', rfl⟩ := ry
    exact ltBI (fin_bl I (k _ H (Ext.refl B H) W (.bl _)) (by simp))
  | tup h1 s1 =>
    cases r2 <;> simp only [bD, cmpD, Option.map_none, reduceCtorEq] at e
    rename_i h2 s2
    split at e
    · rename_i e1 e2
      have e := Option.some.inj e
      subst e
      refine op_ltT hu pins s σ H _ _ v u Q I rx ry ⟨_, _, _, _, rfl, rfl, SqT.of (h1.trans (by rw [s1.ints e1])), SqT.of (h2.trans (by rw [s2.ints e2])), ?_⟩
      rw [lex_same]
      exact k _ H (Ext.refl B H) W (.bl _)
    · cases e
  | _ => simp [bD, cmpD] at e
theorem op_leD : OpR X (compareOp .LtE) (rD (bD (cmpD .le))) := by
  intro pins s σ H x y v u Q I rx ry h
  obtain ⟨_, B, P, w, d1, d2, d, W, F, r1, r2, e, k⟩ := h
  cases r1 <;> cases r2 <;> simp [bD, cmpD] at e
  subst e
  exact op_le pins s σ H _ _ v u Q I rx ry ⟨_, _, rfl, rfl, k _ H (Ext.refl B H) W (.bl _)⟩
theorem op_gtD : OpR X (compareOp .Gt) (rD (bD (cmpD .gt))) := by
  intro pins s σ H x y v u Q I rx ry h
  obtain ⟨_, B, P, w, d1, d2, d, W, F, r1, r2, e, k⟩ := h
  cases r1 <;> cases r2 <;> simp [bD, cmpD] at e
  subst e
  exact op_gt pins s σ H _ _ v u Q I rx ry ⟨_, _, rfl, rfl, k _ H (Ext.refl B H) W (.bl _)⟩
theorem op_geD : OpR X (compareOp .GtE) (rD (bD (cmpD .ge))) := by
  intro pins s σ H x y v u Q I rx ry h
  obtain ⟨_, B, P, w, d1, d2, d, W, F, r1, r2, e, k⟩ := h
  cases r1 <;> cases r2 <;> simp [bD, cmpD] at e
  subst e
  exact op_ge pins s σ H _ _ v u Q I rx ry ⟨_, _, rfl, rfl, k _ H (Ext.refl B H) W (.bl _)⟩
end
end SF

namespace SF
open PySem L2
section
variable {X : Cx} {Cl : Nat → Value} {B : Bk Cl} {P : Addr → Prop} {H : Hp} {w : W}
/-! ### in, not in -/
theorem scal_flat {d : D} {v : V} (h : scal d = true) (r : Rp B P H v d) : flatV v = true := by
  cases r <;> first | rfl | (simp [scal] at h)
theorem scals_flat : ∀ {ds : List D} {vs : List V}, ds.all scal = true → Rps B P H vs ds → vs.all flatV = true
  | [], _, _, .nil => rfl
  | d :: ds, _, h, .cons r rs => by
    simp only [List.all_cons, Bool.and_eq_true] at h ⊢
    exact ⟨scal_flat h.1 r, scals_flat h.2 rs⟩
theorem eqV_scal {a b : D} {x y : V} (ha : scal a = true) (hb : scal b = true) (ra : Rp B P H x a) (rb : Rp B P H y b) : eqV x y = eqD a b := by
  cases ra <;> cases rb <;> simp [scal] at ha hb <;> simp [eqV, eqD, sOf_beq]
theorem inV_scal {a : D} {x : V} (ha : scal a = true) (ra : Rp B P H x a) : ∀ {ds : List D} {vs : List V}, ds.all scal = true → Rps B P H vs ds → inV x vs = memD a ds
  | [], _, _, .nil => rfl
  | d :: ds, _, h, .cons r rs => by
    simp only [List.all_cons, Bool.and_eq_true] at h
    have ih := inV_scal ha ra h.2 rs
    unfold inV memD at ih ⊢
    rw [List.any_cons, List.any_cons, ih, eqV_scal h.1 ha r ra]
theorem kI_kV (k : List Int) : (kI k).map kV = k.map V.int := by simp [kI, kV]
theorem kI_inj {a b : List Int} : kI a = kI b ↔ a = b := by
  constructor
  · intro h
    unfold kI at h
    exact List.map_inj_right (fun x y z => Sum.inl.inj z) |>.mp h
  · intro h; rw [h]
theorem valT_of : ∀ {kvs : List (List Key × V)} {kds : List (List Int × D)} (k : List Int), RpT B P H kvs kds →
    (∀ d, valT kds k = some d → ∃ v, valV kvs (kI k) = some v ∧ Rp B P H v d) ∧ (valT kds k = none → valV kvs (kI k) = none)
  | _, _, k, .nil => ⟨fun d h => by simp [valT] at h, fun _ => rfl⟩
  | _, _, k, .cons (k := j) (d := d0) (v := v0) (kds := t) r rs => by
    have ih := valT_of k rs
    by_cases h : j = k
    · subst h
      refine ⟨fun d e => ⟨v0, valV_pos rfl, ?_⟩, fun e => ?_⟩
      · simp [valT] at e; subst e; exact r
      · simp [valT] at e
    · have h2 : ¬ kI j = kI k := fun z => h (kI_inj.mp z)
      rw [valV_neg (p := (kI j, v0)) h2]
      have e : valT ((j, d0) :: t) k = valT t k := by simp only [valT, List.find?_cons, h, decide_false]
      rw [e]
      exact ih
theorem valK_of : ∀ {kvs : List (Key × V)} {kds : List (Int × D)} (k : Int), RpK B P H kvs kds →
    (∀ d, valK kds k = some d → ∃ v, valV kvs (Sum.inl k) = some v ∧ Rp B P H v d) ∧ (valK kds k = none → valV kvs (Sum.inl k) = none)
  | _, _, k, .nil => ⟨fun d h => by simp [valK] at h, fun _ => rfl⟩
  | _, _, k, .cons (k := j) (d := d0) (v := v0) (kds := t) r rs => by
    have ih := valK_of k rs
    by_cases h : j = k
    · subst h
      refine ⟨fun d e => ⟨v0, valV_pos rfl, ?_⟩, fun e => ?_⟩
      · simp [valK] at e; subst e; exact r
      · simp [valK] at e
    · have h2 : ¬ (Sum.inl j : Key) = Sum.inl k := fun z => h (Sum.inl.inj z)
      rw [valV_neg (p := ((Sum.inl j : Key), v0)) h2]
      have e : valK ((j, d0) :: t) k = valK t k := by simp only [valK, List.find?_cons, h, decide_false]
      rw [e]
      exact ih
theorem valT_some {kvs : List (List Key × V)} {kds : List (List Int × D)} (k : List Int) (r : RpT B P H kvs kds) : (valV kvs (kI k)).isSome = (valT kds k).isSome := by
  have h := valT_of k r
  cases e : valT kds k with
  | none => rw [h.2 e]; rfl
  | some d => obtain ⟨v, h1, _⟩ := h.1 d e; rw [h1]; rfl
theorem valK_some {kvs : List (Key × V)} {kds : List (Int × D)} (k : Int) (r : RpK B P H kvs kds) : (valV kvs (Sum.inl k)).isSome = (valK kds k).isSome := by
  have h := valK_of k r
  cases e : valK kds k with
  | none => rw [h.2 e]; rfl
  | some d => obtain ⟨v, h1, _⟩ := h.1 d e; rw [h1]; rfl
/-- the look-up of a key -/
theorem dget_T {a b : Addr} {ks : List D} {vs : List V} {kvs : List (List Key × V)} {k : List Int} (hr : Rd H a (.dT kvs)) (hb : H b = some (.tup vs)) (rs : Rps B P H vs ks) (e : SF.ints ks = some k) : DGet H a (.ref b) (valV kvs (kI k)) :=
  .inr ⟨kvs, kI k, b, hr, rfl, by rw [hb, rs.ints e, kI_kV], rfl⟩
theorem dget_K {a : Addr} {kvs : List (Key × V)} {k : Int} (hr : Rd H a (.dK kvs)) : DGet H a (.int k) (valV kvs (Sum.inl k)) :=
  .inl ⟨kvs, Sum.inl k, hr, rfl, rfl⟩
theorem op_inDD (hu : X.A.units + 65 < cLine) : OpR X (compareOp .In) (rD (bD (cmpD .isin))) := by
  intro pins s σ H x y v u Q I rx ry h
  obtain ⟨_, B, P, w, d1, d2, d, W, F, r1, r2, e, k⟩ := h
  simp only [bD, cmpD] at e
  cases r2 with
  | @lst a vs ys p2 h2 s2 =>
    simp only [inD] at e
    by_cases c : (plain d1 && plains ys) = true
    · rw [if_pos c] at e
      simp at c
      have e := Option.some.inj e
      subst e
      have hy : Dp X.K H (.ref a) (.list (toPys ys)) := .lst (SqL.of h2) (Rps.py 8 ys _ c.2 s2)
      refine op_inD hu pins s σ H _ _ v u Q I rx ry ⟨_, _, Rp.py 8 d1 _ c.1 r1, hy, shaped_py c.1, shapeds_py c.2, ?_⟩
      rw [any_py c.1 ys c.2]
      exact k _ H (Ext.refl B H) W (.bl _)
    · rw [if_neg c] at e; cases e
  | @tup a vs ys h2 s2 =>
    simp only [inD] at e
    by_cases c : (scal d1 && ys.all scal) = true
    · rw [if_pos c] at e
      rw [Bool.and_eq_true] at c
      have e := Option.some.inj e
      subst e
      refine op_in_seq pins s σ H _ _ v u Q I rx ry ⟨_, _, rfl, .inr (SqT.of h2), scal_flat c.1 r1, scals_flat c.2 s2, ?_⟩
      rw [if_neg (by decide), inV_scal c.1 r1 c.2 s2]
      exact k _ H (Ext.refl B H) W (.bl _)
    · rw [if_neg c] at e; cases e
  | str z =>
    cases r1 <;> simp only [inD, Option.map_none, reduceCtorEq] at e
    rename_i z1
    match z1, e with
    | [c], e =>
      have e := Option.some.inj e
      subst e
      refine op_in_sign pins s σ H _ _ v u Q I rx ry ⟨c, _, rfl, rfl, ?_⟩
      exact k _ H (Ext.refl B H) W (.bl _)
  | @dK a kvs kds p2 h2 s2 =>
    cases r1 <;> simp only [inD, Option.map_none, reduceCtorEq] at e
    rename_i i
    have e := Option.some.inj e
    subst e
    cases ry
    refine d_in (by omega) I (dget_K h2) rx fun s' I' => ⟨.bl _, H, I', rfl, ?_⟩
    rw [valK_some i s2]
    exact k _ H (Ext.refl B H) W (.bl _)
  | @dT a kvs kds p2 h2 s2 =>
    cases r1 <;> simp only [inD, Option.map_none, reduceCtorEq] at e
    rename_i b vs ks h1 s1
    cases ei : SF.ints ks with
    | none => rw [ei] at e; cases e
    | some i =>
      rw [ei] at e
      have e := Option.some.inj e
      subst e
      cases ry
      refine d_in (by omega) I (dget_T h2 h1 s1 ei) rx fun s' I' => ⟨.bl _, H, I', rfl, ?_⟩
      rw [valT_some i s2]
      exact k _ H (Ext.refl B H) W (.bl _)
  | _ => cases d1 <;> simp [inD] at e
theorem op_notInDD (hu : X.A.units + 65 < cLine) : OpR X (compareOp .NotIn) (rD (bD (cmpD .notin))) := by
  intro pins s σ H x y v u Q I rx ry h
  obtain ⟨_, B, P, w, d1, d2, d, W, F, r1, r2, e, k⟩ := h
  simp only [bD, cmpD] at e
  cases r2 with
  | @lst a vs ys p2 h2 s2 =>
    simp only [inD] at e
    by_cases c : (plain d1 && plains ys) = true
    · rw [if_pos c] at e
      simp at c
      have e := Option.some.inj e
      subst e
      have hy : Dp X.K H (.ref a) (.list (toPys ys)) := .lst (SqL.of h2) (Rps.py 8 ys _ c.2 s2)
      refine op_notInD hu pins s σ H _ _ v u Q I rx ry ⟨_, _, Rp.py 8 d1 _ c.1 r1, hy, shaped_py c.1, shapeds_py c.2, ?_⟩
      rw [any_py c.1 ys c.2]
      exact k _ H (Ext.refl B H) W (.bl _)
    · rw [if_neg c] at e; cases e
  | @tup a vs ys h2 s2 =>
    simp only [inD] at e
    by_cases c : (scal d1 && ys.all scal) = true
    · rw [if_pos c] at e
      rw [Bool.and_eq_true] at c
      have e := Option.some.inj e
      subst e
      refine op_notIn_seq pins s σ H _ _ v u Q I rx ry ⟨_, _, rfl, .inr (SqT.of h2), scal_flat c.1 r1, scals_flat c.2 s2, ?_⟩
      rw [if_pos rfl, inV_scal c.1 r1 c.2 s2]
      exact k _ H (Ext.refl B H) W (.bl _)
    · rw [if_neg c] at e; cases e
  | str z =>
    cases r1 <;> simp only [inD, Option.map_none, reduceCtorEq] at e
    rename_i z1
    match z1, e with
    | [c], e =>
      have e := Option.some.inj e
      subst e
      refine op_notIn_sign pins s σ H _ _ v u Q I rx ry ⟨c, _, rfl, rfl, ?_⟩
      exact k _ H (Ext.refl B H) W (.bl _)
  | @dK a kvs kds p2 h2 s2 =>
    cases r1 <;> simp only [inD, Option.map_none, reduceCtorEq] at e
    rename_i i
    have e := Option.some.inj e
    subst e
    cases ry
    refine d_notIn (by omega) I (dget_K h2) rx fun s' I' => ⟨.bl _, H, I', rfl, ?_⟩
    rw [valK_some i s2]
    exact k _ H (Ext.refl B H) W (.bl _)
  | @dT a kvs kds p2 h2 s2 =>
    cases r1 <;> simp only [inD, Option.map_none, reduceCtorEq] at e
    rename_i b vs ks h1 s1
    cases ei : SF.ints ks with
    | none => rw [ei] at e; cases e
    | some i =>
      rw [ei] at e
      have e := Option.some.inj e
      subst e
      cases ry
      refine d_notIn (by omega) I (dget_T h2 h1 s1 ei) rx fun s' I' => ⟨.bl _, H, I', rfl, ?_⟩
      rw [valT_some i s2]
      exact k _ H (Ext.refl B H) W (.bl _)
  | _ => cases d1 <;> simp [inD] at e

/-! ### places and slices -/
theorem ixN_same (n : Nat) (i : Int) : L2.ixN n i = SF.ixN n i := rfl
theorem atI_of {ds : List D} {vs : List V} {i : Int} {d : D} (r : Rps B P H vs ds) (e : SF.atI ds i = some d) : ∃ v, L2.atI vs i = some v ∧ Rp B P H v d := by
  unfold SF.atI at e
  unfold L2.atI
  rw [ixN_same, r.length]
  cases h : SF.ixN ds.length i with
  | none => rw [h] at e; cases e
  | some j =>
    rw [h] at e
    obtain ⟨v, h1, h2⟩ := r.get (show ds[j]? = some d from e)
    exact ⟨v, h1, h2⟩
theorem ix_dict (hu : X.A.units + 1 < cLine) : IxR X (fun x y H Q => ∃ a v, x = .ref a ∧ DGet H a y (some v) ∧ Q v H) := by
  intro value slice pins s σ H x y v u Q I rx ry h hs
  obtain ⟨a, z, rfl, g, q⟩ := h
  cases rx
  have hT := dict_typeIs I g
  have h2 := d_getItem (E := X.xe) (Q := EP X pins σ Q) hu I g ry fun w' s3 I3 rw' => ⟨z, H, I3, rw', q⟩
  unfold PyProof.Rows.subscriptTail
  refine wpAny_bind ?_
  rw [getitemInPython_of_ne hT.not_modules]
  refine wpAny_bind (wpAny_specialOf hT PySem.F.slot_dict_getitem.lookup ?_)
  have fin : wpAny (model X.prog X.w) X.A (subscripted slice false (.ref a) u) (fun r s₃ => wpAny (model X.prog X.w) X.A (letTemporaryGo value (.ref a) r >>= fun _ => pure r) (EP X pins σ Q) X.xe s₃) X.xe s := by
    rw [hs]
    exact wpAny_operating (wpAny_mono h2 (fun r s₃ h₃ => wpAny_bind (wpAny_letTemporaryGo (wpAny_pure h₃))) fun _ _ x => x)
  first
    | exact wpAny_pure (wpAny_bind fin)
    | exact wpAny_bind (wpAny_pure (wpAny_bind fin))
    | exact wpAny_bind fin
theorem ix_D (hu : X.A.units + 1 < cLine) : IxR X (rD idxD) := by
  intro value slice pins s σ H x y v u Q I rx ry h hs
  obtain ⟨_, B, P, w, d1, d2, d, W, F, r1, r2, e, k⟩ := h
  cases r1 with
  | lst p1 h1 s1 =>
    cases r2 <;> simp only [idxD, reduceCtorEq] at e
    obtain ⟨z, hz, rz⟩ := atI_of s1 e
    exact ix_list value slice pins s σ H _ _ v u Q I rx ry ⟨_, _, _, z, rfl, rfl, SqL.of h1, hz, k _ H (Ext.refl B H) W rz⟩ hs
  | tup h1 s1 =>
    cases r2 <;> simp only [idxD, reduceCtorEq] at e
    obtain ⟨z, hz, rz⟩ := atI_of s1 e
    exact ix_tup value slice pins s σ H _ _ v u Q I rx ry ⟨_, _, _, z, rfl, rfl, SqT.of h1, hz, k _ H (Ext.refl B H) W rz⟩ hs
  | dK p1 h1 s1 =>
    cases r2 <;> simp only [idxD, reduceCtorEq] at e
    obtain ⟨z, hz, rz⟩ := (valK_of _ s1).1 d e
    exact ix_dict hu value slice pins s σ H _ _ v u Q I rx ry ⟨_, z, rfl, hz ▸ dget_K h1, k _ H (Ext.refl B H) W rz⟩ hs
  | dT p1 h1 s1 =>
    cases r2 <;> simp only [idxD, reduceCtorEq] at e
    rename_i ks h2 s2
    cases ei : SF.ints ks with
    | none => rw [ei] at e; cases e
    | some i =>
      rw [ei] at e
      obtain ⟨z, hz, rz⟩ := (valT_of i s1).1 d e
      exact ix_dict hu value slice pins s σ H _ _ v u Q I rx ry ⟨_, z, rfl, hz ▸ dget_T h1 h2 s2 ei, k _ H (Ext.refl B H) W rz⟩ hs
  | _ => simp [idxD] at e
theorem sIx_same (n d : Nat) (o : Option Int) : HT.sIx n d o = SF.sIx n d o := by
  cases o with
  | none => rfl
  | some v =>
    unfold HT.sIx SF.sIx
    rfl
end
end SF

namespace SF
open PySem L2
section
variable {X : Cx} {Cl : Nat → Value} {B : Bk Cl} {P : Addr → Prop} {H : Hp} {w : W}
def rSlD : V → Option Int → Option Int → Hp → VK → Prop := fun x lo hi H Q => ∃ (Cl : Nat → Value) (B : Bk Cl), ∃ P w d1 d, WR B P H w ∧ Fr B P H ∧ Rp B P H x d1 ∧ slcO d1 lo hi = some d ∧
  ∀ v H', Ext B H H' → WR B P H' w → Rp B P H' v d → Q v H'
theorem cut_of {ds : List D} {vs : List V} (r : Rps B P H vs ds) (lo hi : Option Int) : Rps B P H (cutV vs lo hi) (cutL ds lo hi) := by
  unfold cutV cutL
  rw [r.length, sIx_same, sIx_same]
  exact (r.drop _).take _
theorem sl_D : SlR X rSlD := by
  intro pins s σ H x v vl vu lo hi sl Q I rx hs pl pu h
  obtain ⟨_, B, P, w, d1, d, W, F, r1, e, k⟩ := h
  cases r1 with
  | lst p1 h1 s1 =>
    simp only [slcO] at e
    have e := Option.some.inj e
    subst e
    exact sl_list pins s σ H _ v vl vu lo hi sl Q I rx hs pl pu ⟨_, _, rfl, SqL.of h1, fun p hp => k _ _ (Ext.new hp) (W.new hp) (new_lst W F hp (cut_of s1 lo hi))⟩
  | @tup a vs ds h1 s1 =>
    simp only [slcO] at e
    split at e
    · cases e
    · rename_i c
      have e := Option.some.inj e
      subst e
      refine sl_tup pins s σ H _ v vl vu lo hi sl Q I rx hs pl pu ⟨_, _, rfl, SqT.of h1, fun z => c ?_, fun p hp => k _ _ (Ext.new hp) (W.new hp) (new_tup W F hp (cut_of s1 lo hi))⟩
      rw [s1.length, sIx_same, sIx_same] at z
      unfold cutL
      rw [z.1, z.2, List.length_take, List.length_drop]
      omega
  | str z =>
    simp only [slcO] at e
    split at e
    · rename_i c
      have e := Option.some.inj e
      subst e
      refine sl_str pins s σ H _ v vl vu lo hi sl Q I rx hs pl pu ⟨_, rfl, by rw [sOf_len]; exact lim_le c, ?_⟩
      have e2 : cutS (sOf z) lo hi = sOf (cutL z lo hi) := by
        unfold cutS cutL
        rw [sIx_same, sIx_same, sOf_len]
        simp [sOf]
      rw [e2]
      exact k _ H (Ext.refl B H) W (.str _)
    · cases e
  | _ => simp [slcO] at e

/-! ### built-in functions by data -/
def rDs (f : List D → Option D) : List V → Hp → VK → Prop := fun xs H Q => ∃ (Cl : Nat → Value) (B : Bk Cl), ∃ P w ds d, WR B P H w ∧ Fr B P H ∧ Rps B P H xs ds ∧ f ds = some d ∧
  ∀ v H', Ext B H H' → WR B P H' w → Rp B P H' v d → Q v H'
theorem rps1 {vs : List V} {d : D} (r : Rps B P H vs [d]) : ∃ v, vs = [v] ∧ Rp B P H v d := by
  cases r with
  | cons r rs => cases rs; exact ⟨_, rfl, r⟩
theorem rps2 {vs : List V} {d e : D} (r : Rps B P H vs [d, e]) : ∃ v u, vs = [v, u] ∧ Rp B P H v d ∧ Rp B P H u e := by
  cases r with
  | cons r rs => obtain ⟨u, rfl, r2⟩ := rps1 rs; exact ⟨_, _, rfl, r, r2⟩
theorem call_lenD : CallR X (.builtin "len") (rDs (bltD .len)) := by
  intro pins s σ H xs us Q I rx h
  obtain ⟨_, B, P, w, ds, d, W, F, r, e, k⟩ := h
  match ds, e with
  | [], e => simp [bltD] at e
  | _ :: _ :: _, e => simp [bltD] at e
  | [a], e =>
    obtain ⟨v, rfl, r1⟩ := rps1 r
    cases r1 with
    | lst p1 h1 s1 =>
      simp [bltD, lenD] at e
      subst e
      refine call_len pins s σ H _ us Q I rx ⟨_, _, rfl, .inl ⟨_, SqL.of h1, rfl⟩, ?_⟩
      rw [s1.length]
      exact k _ H (Ext.refl B H) W (.int _)
    | tup h1 s1 =>
      simp [bltD, lenD] at e
      subst e
      refine call_len pins s σ H _ us Q I rx ⟨_, _, rfl, .inr ⟨_, SqT.of h1, rfl⟩, ?_⟩
      rw [s1.length]
      exact k _ H (Ext.refl B H) W (.int _)
    | str z =>
      simp [bltD, lenD] at e
      obtain ⟨e0, rfl⟩ := e
      refine call_len pins s σ H _ us Q I rx ⟨_, _, rfl, ⟨by rw [sOf_len]; exact lim_le e0, rfl⟩, ?_⟩
      rw [sOf_len]
      exact k _ H (Ext.refl B H) W (.int _)
    | _ => simp [bltD, lenD] at e
theorem call_absD : CallR X (.builtin "abs") (rDs (bltD .abs)) := by
  intro pins s σ H xs us Q I rx h
  obtain ⟨_, B, P, w, ds, d, W, F, r, e, k⟩ := h
  match ds, e with
  | [], e => simp [bltD] at e
  | _ :: _ :: _, e => simp [bltD] at e
  | [a], e =>
    obtain ⟨v, rfl, r1⟩ := rps1 r
    cases r1 <;> simp only [bltD, reduceCtorEq] at e
    · have e := Option.some.inj e
      subst e
      obtain ⟨u, rfl, hu⟩ := vals1 rx
      cases hu
      exact absB fun u tk => ⟨.int _, H, I.tok _, ⟨_, rfl⟩, k _ H (Ext.refl B H) W (.int _)⟩
    · have e := Option.some.inj e
      subst e
      exact call_abs pins s σ H _ us Q I rx ⟨_, rfl, k _ H (Ext.refl B H) W (.int _)⟩
theorem call_sumD (hc : X.calm = true) : CallR X (.builtin "sum") (rDs (bltD .sum)) := by
  intro pins s σ H xs us Q I rx h
  obtain ⟨_, B, P, w, ds, d, W, F, r, e, k⟩ := h
  match ds, e with
  | [], e => simp [bltD] at e
  | _ :: _ :: _, e => simp [bltD] at e
  | [a], e =>
    obtain ⟨v, rfl, r1⟩ := rps1 r
    cases r1 <;> simp only [bltD, reduceCtorEq] at e
    rename_i ds' p1 h1 s1
    cases ei : SF.ints ds' with
    | none => rw [ei] at e; cases e
    | some is =>
      rw [ei] at e
      have e := Option.some.inj e
      subst e
      exact cr_sum hc pins s σ H _ us Q I rx ⟨_, is, rfl, SqL.of (h1.trans (by rw [s1.ints ei])), k _ H (Ext.refl B H) W (.int _)⟩
theorem minL_spec : ∀ (l : List Int) (m : Int), (minL m l = m ∨ minL m l ∈ l) ∧ minL m l ≤ m ∧ ∀ y ∈ l, minL m l ≤ y
  | [], m => by simp [minL]
  | x :: xs, m => by
    simp only [minL]
    have ih := minL_spec xs (if x < m then x else m)
    by_cases c : x < m
    · rw [if_pos c] at ih ⊢
      refine ⟨.inr ?_, by omega, fun y hy => ?_⟩
      · rcases ih.1 with z | z
        · rw [z]; exact List.mem_cons_self
        · exact List.mem_cons_of_mem _ z
      · rcases List.mem_cons.mp hy with rfl | hy
        · exact ih.2.1
        · exact ih.2.2 y hy
    · rw [if_neg c] at ih ⊢
      refine ⟨?_, ih.2.1, fun y hy => ?_⟩
      · rcases ih.1 with z | z
        · exact .inl z
        · exact .inr (List.mem_cons_of_mem _ z)
      · rcases List.mem_cons.mp hy with rfl | hy
        · omega
        · exact ih.2.2 y hy
theorem call_min1D (hc : X.calm = true) : CallR X (.builtin "min") (rDs (bltD .min1)) := by
  intro pins s σ H xs us Q I rx h
  obtain ⟨_, B, P, w, ds, d, W, F, r, e, k⟩ := h
  match ds, e with
  | [], e => simp [bltD] at e
  | _ :: _ :: _, e => simp [bltD] at e
  | [a], e =>
    obtain ⟨v, rfl, r1⟩ := rps1 r
    cases r1 <;> simp only [bltD, reduceCtorEq] at e
    rename_i ds' p1 h1 s1
    match ei : SF.ints ds', e with
    | some (i :: is), e =>
      have e := Option.some.inj e
      subst e
      refine cr_min hc pins s σ H _ us Q I rx ⟨_, i :: is, rfl, SqL.of (h1.trans (by rw [s1.ints ei])), by simp, fun m hm hle => ?_⟩
      have sp := minL_spec is i
      have e2 : m = minL i is := by
        have h1 : m ≤ minL i is := hle _ (by
          rcases sp.1 with z | z
          · rw [z]; exact List.mem_cons_self
          · exact List.mem_cons_of_mem _ z)
        have h2 : minL i is ≤ m := by
          rcases List.mem_cons.mp hm with rfl | hm
          · exact sp.2.1
          · exact sp.2.2 m hm
        omega
      rw [e2]
      exact k _ H (Ext.refl B H) W (.int _)
theorem call_min2D (hc : X.calm = true) : CallR X (.builtin "min") (rDs (bltD .min2)) := by
  intro pins s σ H xs us Q I rx h
  obtain ⟨_, B, P, w, ds, d, W, F, r, e, k⟩ := h
  match ds, e with
  | [], e => simp [bltD] at e
  | [_], e => simp [bltD] at e
  | _ :: _ :: _ :: _, e => simp [bltD] at e
  | [a, b], e =>
    obtain ⟨v, u, rfl, r1, r2⟩ := rps2 r
    cases r1 <;> cases r2 <;> simp only [bltD, reduceCtorEq] at e
    have e := Option.some.inj e
    subst e
    exact call_min2 hc pins s σ H _ us Q I rx ⟨_, _, rfl, k _ H (Ext.refl B H) W (.int _)⟩
theorem call_max2D (hc : X.calm = true) : CallR X (.builtin "max") (rDs (bltD .max2)) := by
  intro pins s σ H xs us Q I rx h
  obtain ⟨_, B, P, w, ds, d, W, F, r, e, k⟩ := h
  match ds, e with
  | [], e => simp [bltD] at e
  | [_], e => simp [bltD] at e
  | _ :: _ :: _ :: _, e => simp [bltD] at e
  | [a, b], e =>
    obtain ⟨v, u, rfl, r1, r2⟩ := rps2 r
    cases r1 <;> cases r2 <;> simp only [bltD, reduceCtorEq] at e
    have e := Option.some.inj e
    subst e
    exact call_max2 hc pins s σ H _ us Q I rx ⟨_, _, rfl, k _ H (Ext.refl B H) W (.int _)⟩
theorem call_listD : CallR X (.type "list") (rDs (bltD .list)) := by
  intro pins s σ H xs us Q I rx h
  obtain ⟨_, B, P, w, ds, d, W, F, r, e, k⟩ := h
  match ds, e with
  | [], e => simp [bltD] at e
  | _ :: _ :: _, e => simp [bltD] at e
  | [a], e =>
    obtain ⟨v, rfl, r1⟩ := rps1 r
    cases r1 with
    | lst p1 h1 s1 =>
      simp only [bltD] at e
      have e := Option.some.inj e
      subst e
      exact call_list_of pins s σ H _ us Q I rx ⟨_, _, rfl, .inl (SqL.of h1), fun l hl => k _ _ (Ext.new hl) (W.new hl) (new_lst W F hl s1)⟩
    | tup h1 s1 =>
      simp only [bltD] at e
      have e := Option.some.inj e
      subst e
      exact call_list_of pins s σ H _ us Q I rx ⟨_, _, rfl, .inr (SqT.of h1), fun l hl => k _ _ (Ext.new hl) (W.new hl) (new_lst W F hl s1)⟩
    | _ => simp [bltD] at e
theorem call_tupleD : CallR X (.type "tuple") (rDs (bltD .tuple)) := by
  intro pins s σ H xs us Q I rx h
  obtain ⟨_, B, P, w, ds, d, W, F, r, e, k⟩ := h
  match ds, e with
  | [], e => simp [bltD] at e
  | _ :: _ :: _, e => simp [bltD] at e
  | [a], e =>
    obtain ⟨v, rfl, r1⟩ := rps1 r
    cases r1 with
    | lst p1 h1 s1 =>
      simp only [bltD] at e
      have e := Option.some.inj e
      subst e
      exact call_tuple_of pins s σ H _ us Q I rx ⟨_, _, rfl, .inl ⟨SqL.of h1, fun l hl => k _ _ (Ext.new hl) (W.new hl) (new_tup W F hl s1)⟩⟩
    | tup h1 s1 =>
      simp only [bltD] at e
      have e := Option.some.inj e
      subst e
      exact call_tuple_of pins s σ H _ us Q I rx ⟨_, _, rfl, .inr ⟨SqT.of h1, k _ H (Ext.refl B H) W (.tup h1 s1)⟩⟩
    | _ => simp [bltD] at e
theorem call_allD (hc : X.calm = true) : CallR X (.builtin "all") (rDs (bltD .all)) := by
  intro pins s σ H xs us Q I rx h
  obtain ⟨_, B, P, w, ds, d, W, F, r, e, k⟩ := h
  match ds, e with
  | [], e => simp [bltD] at e
  | _ :: _ :: _, e => simp [bltD] at e
  | [a], e =>
    obtain ⟨v, rfl, r1⟩ := rps1 r
    cases r1 <;> simp only [bltD, reduceCtorEq] at e
    rename_i ds' p1 h1 s1
    cases ei : SF.bools ds' with
    | none => rw [ei] at e; cases e
    | some is =>
      rw [ei] at e
      have e := Option.some.inj e
      subst e
      exact cr_all hc pins s σ H _ us Q I rx ⟨_, is, rfl, SqL.of (h1.trans (by rw [bools_map s1 ei])), k _ H (Ext.refl B H) W (.bl _)⟩
/-! sorted -/
theorem Rps.tups : ∀ {ds : List D} {vs : List V} {ts : List (List Int)}, Rps B P H vs ds → tupsInts ds = some ts → ∃ as : List Addr, vs = as.map V.ref ∧ as.length = ts.length ∧ ∀ (i : Nat) (a : Addr) (t : List Int), as[i]? = some a → ts[i]? = some t → H a = some (.tup (t.map V.int))
  | [], _, ts, .nil, e => by simp [tupsInts] at e; subst e; exact ⟨[], rfl, rfl, by simp⟩
  | d :: ds, _, ts, .cons r rs, e => by
    cases d <;> simp [tupsInts, tupInts] at e
    rename_i xs
    cases h : SF.ints xs with
    | none => rw [h] at e; simp at e
    | some i =>
      cases h2 : tupsInts ds with
      | none => rw [h, h2] at e; simp at e
      | some js =>
        rw [h, h2] at e
        simp at e
        subst e
        cases r with
        | tup ha sa =>
          rename_i a vs'
          obtain ⟨as, h3, h4, h5⟩ := Rps.tups rs h2
          refine ⟨a :: as, by rw [h3]; rfl, by simp [h4], fun j b t hb ht => ?_⟩
          cases j with
          | zero =>
            simp at hb ht
            subst hb ht
            rw [ha, sa.ints h]
          | succ j => exact h5 j b t (by simpa using hb) (by simpa using ht)
theorem rps_tups : ∀ (as : List Addr) (ts : List (List Int)), as.length = ts.length → (∀ (i : Nat) (a : Addr) (t : List Int), as[i]? = some a → ts[i]? = some t → H a = some (.tup (t.map V.int))) → Rps B P H (as.map V.ref) (ts.map fun t => .tup (t.map .int))
  | [], [], _, _ => .nil
  | a :: as, t :: ts, hl, h => .cons (.tup (h 0 a t rfl rfl) (Rps.of_ints t)) (rps_tups as ts (by simpa using hl) fun i b u hb hu => h (i + 1) b u (by simpa using hb) (by simpa using hu))
theorem RpK.keys : ∀ {kds : List (Int × D)} {kvs : List (Key × V)}, RpK B P H kvs kds → kvs.map (·.1) = (kds.map (·.1)).map Sum.inl
  | [], _, .nil => rfl
  | _ :: _, _, .cons _ rs => by simp [RpK.keys rs]
theorem RpT.keys : ∀ {kds : List (List Int × D)} {kvs : List (List Key × V)}, RpT B P H kvs kds → kvs.map (·.1) = (kds.map (·.1)).map kI
  | [], _, .nil => rfl
  | _ :: _, _, .cons _ rs => by simp [RpT.keys rs]
/-- the pair at an address -/
def pairAt (H : Hp) : V → Int × Int
  | .ref a => match H a with
    | some (.tup [.int i, .int j]) => (i, j)
    | _ => (0, 0)
  | _ => (0, 0)
def l2 (p : Int × Int) : List Int := [p.1, p.2]
theorem lexB_l2 (p q : Int × Int) : SrtO.lexB p q = SF.lexLt (l2 p) (l2 q) := by
  unfold SrtO.lexB
  simp only [l2, SF.lexLt]
  by_cases h : p.1 = q.1
  · rw [if_pos h, if_pos h]
    by_cases h2 : p.2 = q.2
    · rw [if_pos h2, h2]; simp
    · rw [if_neg h2]
  · rw [if_neg h, if_neg h]
theorem call_sortedD2 (hc : X.calm = true) : CallR X (.builtin "sorted") (rDs (bltD .sorted)) := by
  intro pins s σ H xs us Q I rx h
  obtain ⟨_, B, P, w, ds, d, W, F, r, e, k⟩ := h
  match ds, e with
  | [], e => simp [bltD] at e
  | _ :: _ :: _, e => simp [bltD] at e
  | [a], e =>
    obtain ⟨v, rfl, r1⟩ := rps1 r
    cases r1 with
    | @lst ad vs ds' p1 h1 s1 =>
      simp only [bltD, sortedD] at e
      cases ei : SF.ints ds' with
      | some is =>
        rw [ei] at e
        have e := Option.some.inj e
        subst e
        refine cr_sortedI pins s σ H _ us Q I rx ⟨_, is, rfl, SqL.of (h1.trans (by rw [s1.ints ei])), fun ns' p hp1 hp2 hn => ?_⟩
        rw [sortI_unique hp1 hp2]
        exact k _ _ (Ext.new hn) (W.new hn) (new_lst W F hn (Rps.of_ints _))
      | none =>
        rw [ei] at e
        simp only at e
        cases et : tupsInts ds' with
        | none => rw [et] at e; cases e
        | some ts =>
          rw [et] at e
          simp only at e
          split at e
          · rename_i c
            have e := Option.some.inj e
            subst e
            obtain ⟨as, ha1, ha2, ha3⟩ := s1.tups et
            have hl2 : ∀ t ∈ ts, t.length = 2 := fun t ht => of_decide_eq_true (List.all_eq_true.mp c t ht)
            have hk : ∀ x ∈ vs, ∃ t, x = V.ref t ∧ H t = some (.tup [.int (pairAt H x).1, .int (pairAt H x).2]) := fun x hx => by
              rw [ha1] at hx
              obtain ⟨t, ht, rfl⟩ := List.mem_map.mp hx
              obtain ⟨i, hi⟩ := List.getElem?_of_mem ht
              have hi2 : i < ts.length := by rw [← ha2]; exact (List.getElem?_eq_some_iff.mp hi).1
              have h3 := ha3 i t _ hi (List.getElem?_eq_getElem hi2)
              have h4 := hl2 _ (List.getElem_mem hi2)
              match hq : ts[i], h4 with
              | [a, b], _ =>
                rw [hq] at h3
                have h3 : H t = some (.tup [.int a, .int b]) := h3
                refine ⟨t, rfl, ?_⟩
                simp only [pairAt, h3]
            have hts : vs.map (fun x => l2 (pairAt H x)) = ts := by
              rw [ha1, List.map_map]
              refine List.ext_getElem? fun i => ?_
              rw [List.getElem?_map]
              cases hi : as[i]? with
              | none =>
                have : ts.length ≤ i := by rw [← ha2]; exact List.getElem?_eq_none_iff.mp hi
                rw [List.getElem?_eq_none this]
                rfl
              | some t =>
                have hi2 : i < ts.length := by rw [← ha2]; exact (List.getElem?_eq_some_iff.mp hi).1
                have h3 := ha3 i t _ hi (List.getElem?_eq_getElem hi2)
                have h4 := hl2 _ (List.getElem_mem hi2)
                rw [List.getElem?_eq_getElem hi2]
                match hq : ts[i], h4 with
                | [a, b], _ =>
                  rw [hq] at h3
                  have h3 : H t = some (.tup [.int a, .int b]) := h3
                  simp [pairAt, h3, l2]
            refine cr_sortedPO pins s σ H _ us Q I rx ⟨_, vs, pairAt H, rfl, SqL.of h1, hk, fun ys p hs hb hn => ?_⟩
            have e1 : ys.map (fun x => l2 (pairAt H x)) = sortT ts := by
              refine sortT_unique ?_ ?_
              · rw [← hts]
                exact hb.perm.map _
              · unfold Srt
                refine List.pairwise_map.mpr (List.Pairwise.imp ?_ hs)
                intro x y z
                rw [← lexB_l2]
                exact z
            have hys : Rps B P H ys ((ys.map (fun x => l2 (pairAt H x))).map fun t => .tup (t.map .int)) := by
              have hmem : ∀ y ∈ ys, y ∈ vs := fun y hy => hb.perm.mem_iff.mp hy
              clear hs hb e1
              induction ys with
              | nil => exact .nil
              | cons y ys ih =>
                obtain ⟨t, rfl, ht⟩ := hk y (hmem y List.mem_cons_self)
                refine .cons ?_ (ih fun z hz => hmem z (List.mem_cons_of_mem _ hz))
                exact .tup ht (.cons (.int _) (.cons (.int _) .nil))
            rw [e1] at hys
            exact k _ _ (Ext.new hn) (W.new hn) (new_lst W F hn hys)
          · cases e
    | @dK ad kvs kds p1 h1 s1 =>
      simp only [bltD, sortedD] at e
      split at e
      · rename_i c
        have e := Option.some.inj e
        subst e
        refine call_sortedDI hc pins s σ H _ us Q I rx ⟨_, kvs, kds.map (·.1), rfl, h1, RpK.keys s1, by rw [List.length_map]; exact c, fun ns' p hp1 hp2 hn => ?_⟩
        rw [sortI_unique hp1 hp2]
        exact k _ _ (Ext.new hn) (W.new hn) (new_lst W F hn (Rps.of_ints _))
      · cases e
    | _ => simp [bltD, sortedD] at e
end
end SF

namespace SF
open PySem L2
/-- an expression that stands where any may stand -/
def okE : Expr → Bool
  | .Starred .. => false
  | .Slice .. => false
  | .Set .. => false
  | _ => true
theorem star_ok {e : Expr} {es : List Expr} {env : PySem.Env} (h : okE e = true) : starEach (e :: es) env = (false, eval e env) :: starEach es env := by
  cases e <;> first | (simp [okE] at h; done) | rfl
theorem stars_ok {pos : Pos} {env : PySem.Env} : ∀ {es : List Expr}, es.all okE = true → (backTo pos (starEach es env)).any (·.1) = false
  | [], _ => rfl
  | e :: es, h => by
    simp only [List.all_cons, Bool.and_eq_true] at h
    rw [star_ok h.1]
    show ((false, _) :: backTo pos (starEach es env)).any (·.1) = false
    rw [List.any_cons, stars_ok h.2]
    rfl
theorem ix_ok {b : Expr} (h : okE b = true) : PlainIx b := by
  intro o i
  cases b <;> first | (simp [okE] at h; done) | rfl
theorem marks_ok {op : CmpOp} {b : Expr} (h : okE b = true) : behindInMarks op b = false := by
  cases b <;> first | (simp [okE] at h; done) | rfl
theorem fold_ok {e : Expr} {env : PySem.Env} (h : okE e = true) (x : Value) : foldedSetIterable e env x = pure x := by
  cases e <;> first | (simp [okE] at h; done) | rfl
/-- an expression whose test is its value's truth -/
def okT : Expr → Bool
  | .UnaryOp .Not .. => false
  | .BoolOp .. => false
  | .IfExp .. => false
  | .Compare .. => false
  | _ => true
theorem true_ok {e : Expr} {env : PySem.Env} (h : okT e = true) (whole : Sem Value) : isTrue e env whole = (do let v ← whole; standAt e.pos; holding [v] (truthy v)) := by
  cases e with
  | UnaryOp op x p => cases op <;> first | (simp [okT] at h; done) | rfl
  | _ => first | (simp [okT] at h; done) | rfl

section
variable {X : Cx} {C : Nat → Value} {Wx : WX} {a b c e : Expr} {es : List Expr} {fa fb fc f : Ev D} {fas : Ev (List D)} {pos : Pos}
/-! ### names, constants -/
theorem pe_varD {i : Nat} {x : Str} (hN : X.N[i]? = some x) (hv : Vis X.env.scope x) (hd : (x == ("__debug__" : Str)) = false) (hcd : (x == ("__classdict__" : Str)) = false) :
    PE X (.Name x pos) (tD C Wx fun ρ w => opt (getS ρ i) w) :=
  (pe_var hN hv hd hcd).imp fun σ H Q ⟨B, P, ρ, w, S, G⟩ => by
    obtain ⟨d, hd, k⟩ := Got.opt G
    obtain ⟨v, h1, h2⟩ := S.r i d hd
    exact ⟨v, h1, k v H (Ext.refl B H) S.w h2⟩
theorem pe_cD {v : V} {d : D} (h : PE X e (tC v)) (r : ∀ (B : Bk C) P H, Rp B P H v d) : PE X e (tD C Wx fun _ w => .ok d w) :=
  h.imp fun σ H Q ⟨B, P, ρ, w, S, G⟩ => G v H (Ext.refl B H) S.w (r B P H)
/-! ### operators -/
theorem Sit.fr2 {Cl : Nat → Value} {B : Bk Cl} {P : Addr → Prop} {H H1 H2 : Hp} {σ : L2.St} {ρ : SF.Env} {w w1 w2 : W} (S : Sit B P H σ ρ w) (e1 : Ext B H H1) (W1 : WR B P H1 w1) (e2 : Ext B H1 H2) (W2 : WR B P H2 w2) : Fr B P H2 := ((S.ext e1 W1).ext e2 W2).f
theorem pe_opD {op : Operator} {g : D → D → Option D} (ho : OpR X (binaryOp op) (rD g)) (ha : PE X a (tD C Wx fa)) (hb : PE X b (tD C Wx fb)) :
    PE X (.BinOp a op b pos) (tD C Wx fun ρ w => (fa ρ w).bind fun x w => (fb ρ w).bind fun y w => opt (g x y) w) :=
  (pe_op ho ha hb).imp fun σ H Q ⟨B, P, ρ, w, S, G⟩ => ⟨B, P, ρ, w, S, Got.bind G fun d1 w1 v1 H1 e1 W1 r1 G1 => ⟨B, P, ρ, w1, S.ext e1 W1, Got.bind G1 fun d2 w2 v2 H2 e2 W2 r2 G2 => by
    obtain ⟨d, hd, k⟩ := Got.opt G2
    exact ⟨_, B, P, w2, d1, d2, d, W2, S.fr2 e1 W1 e2 W2, r1.ext W1 e2, r2, hd, k⟩⟩⟩
theorem pe_ixD {g : D → D → Option D} (ho : IxR X (rD g)) (ha : PE X a (tD C Wx fa)) (hb : PE X b (tD C Wx fb)) (hs : PlainIx b) :
    PE X (.Subscript a b pos) (tD C Wx fun ρ w => (fa ρ w).bind fun x w => (fb ρ w).bind fun y w => opt (g x y) w) :=
  (pe_ix ho ha hb hs).imp fun σ H Q ⟨B, P, ρ, w, S, G⟩ => ⟨B, P, ρ, w, S, Got.bind G fun d1 w1 v1 H1 e1 W1 r1 G1 => ⟨B, P, ρ, w1, S.ext e1 W1, Got.bind G1 fun d2 w2 v2 H2 e2 W2 r2 G2 => by
    obtain ⟨d, hd, k⟩ := Got.opt G2
    exact ⟨_, B, P, w2, d1, d2, d, W2, S.fr2 e1 W1 e2 W2, r1.ext W1 e2, r2, hd, k⟩⟩⟩
theorem pe_cmpD {op : CmpOp} {g : D → D → Option Bool} (ho : OpR X (compareOp op) (rD (bD g))) (ha : PE X a (tD C Wx fa)) (hb : PE X b (tD C Wx fb)) (hm : behindInMarks op b = false) :
    PE X (.Compare a [op] [b] pos) (tD C Wx fun ρ w => (fa ρ w).bind fun x w => (fb ρ w).bind fun y w => opt ((g x y).map .bl) w) :=
  (pe_cmpR ho ha hb hm).imp fun σ H Q ⟨B, P, ρ, w, S, G⟩ => ⟨B, P, ρ, w, S, Got.bind G fun d1 w1 v1 H1 e1 W1 r1 G1 => ⟨B, P, ρ, w1, S.ext e1 W1, Got.bind G1 fun d2 w2 v2 H2 e2 W2 r2 G2 => by
    obtain ⟨d, hd, k⟩ := Got.opt G2
    exact ⟨_, B, P, w2, d1, d2, d, W2, S.fr2 e1 W1 e2 W2, r1.ext W1 e2, r2, hd, k⟩⟩⟩
/-- a value's rule as a test's -/
theorem GotT.val {B : Bk C} {P : Addr → Prop} {σ : L2.St} {H : Hp} {Q : Bool → Hp → Prop} {x : R D} (G : GotT C Wx B P σ H Q x) : GotD C Wx B P σ H (fun v H' => ∃ k, v = .bl k ∧ Q k H') x := GotT.of G
theorem pt_cmpD {op : CmpOp} {g : D → D → Option Bool} (ho : OpR X (compareOp op) (rD (bD g))) (ha : PE X a (tD C Wx fa)) (hb : PE X b (tD C Wx fb)) (hm : behindInMarks op b = false) :
    PT X (.Compare a [op] [b] pos) (tT C Wx fun ρ w => (fa ρ w).bind fun x w => (fb ρ w).bind fun y w => opt ((g x y).map .bl) w) :=
  (pt_cmpR ho ha hb hm).imp fun σ H Q ⟨B, P, ρ, w, S, G⟩ => ⟨B, P, ρ, w, S, Got.bind (GotT.val G) fun d1 w1 v1 H1 e1 W1 r1 G1 => ⟨B, P, ρ, w1, S.ext e1 W1, Got.bind G1 fun d2 w2 v2 H2 e2 W2 r2 G2 => by
    obtain ⟨d, hd, k⟩ := Got.opt G2
    exact ⟨_, B, P, w2, d1, d2, d, W2, S.fr2 e1 W1 e2 W2, r1.ext W1 e2, r2, hd, k⟩⟩⟩
def fChn (fa fb fc : Ev D) (g g' : D → D → Option Bool) : Ev D := fun ρ w => (fa ρ w).bind fun x w => (fb ρ w).bind fun y w => match g x y with
  | some true => (fc ρ w).bind fun z w => opt ((g' y z).map .bl) w
  | some false => .ok (.bl false) w
  | none => .bad
theorem chn_read {g g' : D → D → Option Bool} {σ : L2.St} {H : Hp} {Q : VK} (h : tD C Wx (fChn fa fb fc g g') σ H Q) : tChain (rD (bD g)) (rD (bD g')) (tD C Wx fa) (tD C Wx fb) (tD C Wx fc) σ H Q := by
  obtain ⟨B, P, ρ, w, S, G⟩ := h
  refine ⟨B, P, ρ, w, S, Got.bind G fun d1 w1 v1 H1 e1 W1 r1 G1 => ⟨B, P, ρ, w1, S.ext e1 W1, Got.bind G1 fun d2 w2 v2 H2 e2 W2 r2 G2 => ?_⟩⟩
  cases hg : g d1 d2 with
  | none => rw [hg] at G2; exact G2.elim
  | some t =>
    refine ⟨_, B, P, w2, d1, d2, .bl t, W2, S.fr2 e1 W1 e2 W2, r1.ext W1 e2, r2, by simp [bD, hg], fun v3 H3 e3 W3 r3 => ?_⟩
    cases r3
    refine ⟨t, rfl, ?_⟩
    cases t with
    | false =>
      rw [hg] at G2
      rw [if_neg (by decide)]
      exact G2 _ _ e3 W3 (.bl false)
    | true =>
      rw [hg] at G2
      rw [if_pos rfl]
      have S3 := ((S.ext e1 W1).ext e2 W2).ext e3 W3
      refine ⟨B, P, ρ, w2, S3, Got.bind (Got.ext G2 e3) fun d4 w4 v4 H4 e4 W4 r4 G4 => ?_⟩
      · obtain ⟨d, hd, k⟩ := Got.opt G4
        exact ⟨_, B, P, w4, d2, d4, d, W4, (S3.ext e4 W4).f, (r2.ext W2 e3).ext W3 e4, r4, hd, k⟩
theorem pe_chnD {op op' : CmpOp} {g g' : D → D → Option Bool} (ho : OpR X (compareOp op) (rD (bD g))) (ho' : OpR X (compareOp op') (rD (bD g'))) (ha : PE X a (tD C Wx fa)) (hb : PE X b (tD C Wx fb)) (hc : PE X c (tD C Wx fc)) (hm : lastMarks [op, op'] [b, c] = false) :
    PE X (.Compare a [op, op'] [b, c] pos) (tD C Wx (fChn fa fb fc g g')) := (pe_chain ho ho' ha hb hc hm).imp fun σ H Q h => chn_read h
theorem pt_chnD {op op' : CmpOp} {g g' : D → D → Option Bool} (ho : OpR X (compareOp op) (rD (bD g))) (ho' : OpR X (compareOp op') (rD (bD g'))) (ha : PE X a (tD C Wx fa)) (hb : PE X b (tD C Wx fb)) (hc : PE X c (tD C Wx fc)) (hm : lastMarks [op, op'] [b, c] = false) :
    PT X (.Compare a [op, op'] [b, c] pos) (tT C Wx (fChn fa fb fc g g')) := (pt_chain ho ho' ha hb hc hm).imp fun σ H Q h => by
  obtain ⟨B, P, ρ, w, S, G⟩ := h
  exact chn_read ⟨B, P, ρ, w, S, GotT.val G⟩
/-! is None, True, False -/
def fIs (fa : Ev D) (ng : Bool) (o : Option Bool) : Ev D := fun ρ w => (fa ρ w).bind fun x w => opt ((isbD o x).map fun r => .bl (ng != r)) w
theorem is_main {ng : Bool} {o : Option Bool} {r : R2} {v : V} (hr : ∀ (B : Bk C) P w H x d q Q, WR B P H w → Rp B P H x d → isbD o d = some q → Q (.bl (ng != q)) H → r x v H Q) {σ : L2.St} {H : Hp} {Q : VK} (h : tD C Wx (fIs fa ng o) σ H Q) : tOp r (tD C Wx fa) (tC v) σ H Q := by
  obtain ⟨B, P, ρ, w, S, G⟩ := h
  refine ⟨B, P, ρ, w, S, Got.bind G fun d1 w1 v1 H1 e1 W1 r1 G1 => ?_⟩
  obtain ⟨d, hd, kk⟩ := Got.opt G1
  cases hq : isbD o d1 with
  | none => rw [hq] at hd; cases hd
  | some q =>
    rw [hq] at hd
    have hd := Option.some.inj hd
    subst hd
    exact hr B P w1 H1 v1 d1 q Q W1 r1 hq (kk _ H1 (Ext.refl B H1) W1 (.bl _))
theorem is_rule {ng : Bool} {o : Option Bool} {k : Nat} {p2 : Pos} : ∃ r v, OpR X (compareOp (if ng then .IsNot else .Is)) r ∧ PE X (.Constant (match o with | none => .none | some b => .bool b) k p2) (tC v) ∧ ∀ (B : Bk C) P w H x d q Q, WR B P H w → Rp B P H x d → isbD o d = some q → Q (.bl (ng != q)) H → r x v H Q := by
  cases o with
  | none =>
    have hn : ∀ (B : Bk C) P w H x d q, WR B P H w → Rp B P H x d → isbD none d = some q → q = decide (x = V.non) := by
      intro B P w H x d q W r h
      cases r <;> simp [isbD] at h <;> simp [← h]
    cases ng with
    | false => exact ⟨_, _, op_isN, pe_non, fun B P w H x d q Q W r h k => ⟨rfl, by have := hn B P w H x d q W r h; subst this; simpa using k⟩⟩
    | true => exact ⟨_, _, op_notN, pe_non, fun B P w H x d q Q W r h k => ⟨rfl, by have := hn B P w H x d q W r h; subst this; simpa using k⟩⟩
  | some b =>
    have hn : ∀ (B : Bk C) P w H x d q, WR B P H w → Rp B P H x d → isbD (some b) d = some q → ∃ c, x = V.bl c ∧ q = decide (c = b) := by
      intro B P w H x d q W r h
      cases r <;> simp [isbD] at h
      exact ⟨_, rfl, by rw [← h]; cases ‹Bool› <;> cases b <;> rfl⟩
    cases ng with
    | false => exact ⟨_, _, op_is_bl, pe_bl, fun B P w H x d q Q W r h k => by obtain ⟨c, rfl, rfl⟩ := hn B P w H x d q W r h; exact ⟨c, b, rfl, rfl, by simpa using k⟩⟩
    | true => exact ⟨_, _, op_isnot_bl, pe_bl, fun B P w H x d q Q W r h k => by obtain ⟨c, rfl, rfl⟩ := hn B P w H x d q W r h; exact ⟨c, b, rfl, rfl, by simpa using k⟩⟩
theorem pe_isD {ng : Bool} {o : Option Bool} {k : Nat} {p2 : Pos} (ha : PE X a (tD C Wx fa)) :
    PE X (.Compare a [if ng then .IsNot else .Is] [.Constant (match o with | none => .none | some b => .bool b) k p2] pos) (tD C Wx (fIs fa ng o)) := by
  obtain ⟨r, v, h1, h2, h3⟩ := is_rule (X := X) (C := C) (ng := ng) (o := o) (k := k) (p2 := p2)
  exact (pe_cmpR h1 ha h2 (marks_ok rfl)).imp fun σ H Q h => is_main h3 h
theorem pt_isD {ng : Bool} {o : Option Bool} {k : Nat} {p2 : Pos} (ha : PE X a (tD C Wx fa)) :
    PT X (.Compare a [if ng then .IsNot else .Is] [.Constant (match o with | none => .none | some b => .bool b) k p2] pos) (tT C Wx (fIs fa ng o)) := by
  obtain ⟨r, v, h1, h2, h3⟩ := is_rule (X := X) (C := C) (ng := ng) (o := o) (k := k) (p2 := p2)
  refine (pt_cmpR h1 ha h2 (marks_ok rfl)).imp fun σ H Q h => ?_
  obtain ⟨B, P, ρ, w, S, G⟩ := h
  exact is_main h3 ⟨B, P, ρ, w, S, GotT.val G⟩
/-- a test from a value -/
theorem pt_valD (ha : PE X a (tD C Wx fa)) (he : okT a = true) : PT X a (tT C Wx fa) :=
  (pt_val ha fun whole => true_ok he whole).imp fun σ H Q ⟨B, P, ρ, w, S, G⟩ => ⟨B, P, ρ, w, S, GotT.val G⟩
/-! ### -a, not a, and, or, if -/
theorem pe_negD (ha : PE X a (tD C Wx fa)) : PE X (.UnaryOp .USub a pos) (tD C Wx fun ρ w => (fa ρ w).bind fun x w => match x with | .int i => .ok (.int (-i)) w | _ => .bad) :=
  (pe_un un_neg ha).imp fun σ H Q ⟨B, P, ρ, w, S, G⟩ => ⟨B, P, ρ, w, S, Got.bind G fun d1 w1 v1 H1 e1 W1 r1 G1 => by
    cases r1 with
    | int i => exact ⟨i, rfl, G1 _ _ (Ext.refl B H1) W1 (.int _)⟩
    | _ => exact G1.elim⟩
theorem pe_notD (ha : PE X a (tD C Wx fa)) : PE X (.UnaryOp .Not a pos) (tD C Wx fun ρ w => (fa ρ w).bind fun x w => match x with | .bl b => .ok (.bl (!b)) w | _ => .bad) :=
  (pe_not ha).imp fun σ H Q ⟨B, P, ρ, w, S, G⟩ => ⟨B, P, ρ, w, S, Got.bind G fun d1 w1 v1 H1 e1 W1 r1 G1 => by
    cases r1 with
    | bl b => exact ⟨b, rfl, G1 _ _ (Ext.refl B H1) W1 (.bl _)⟩
    | _ => exact G1.elim⟩
theorem pt_notD (ha : PT X a (tT C Wx fa)) : PT X (.UnaryOp .Not a pos) (tT C Wx fun ρ w => (fa ρ w).bind fun x w => match x with | .bl b => .ok (.bl (!b)) w | _ => .bad) :=
  (pt_not ha).imp fun σ H Q ⟨B, P, ρ, w, S, G⟩ => ⟨B, P, ρ, w, S, GotT.thnT G (fun d w h => by cases d <;> first | rfl | exact absurd rfl (h _)) fun b w1 H1 e1 W1 G1 => by
    obtain ⟨b', e, k⟩ := G1
    cases e
    exact k H1 (Ext.refl B H1) W1⟩
def fAnd (fa fb : Ev D) : Ev D := fun ρ w => (fa ρ w).bind fun x w => match x with
  | .bl true => fb ρ w
  | .bl false => .ok (.bl false) w
  | _ => .bad
def fOr (fa fb : Ev D) : Ev D := fun ρ w => (fa ρ w).bind fun x w => match x with
  | .bl true => .ok (.bl true) w
  | .bl false => fb ρ w
  | _ => .bad
variable {rest : List Expr}
theorem pe_andD (ha : PE X a (tD C Wx fa)) (hb : PE X (.BoolOp .And (b :: rest) pos) (tD C Wx fb)) : PE X (.BoolOp .And (a :: b :: rest) pos) (tD C Wx (fAnd fa fb)) :=
  (pe_and ha hb).imp fun σ H Q ⟨B, P, ρ, w, S, G⟩ => ⟨B, P, ρ, w, S, Got.bind G fun d1 w1 v1 H1 e1 W1 r1 G1 => by
    cases r1 with
    | bl t =>
      refine ⟨t, rfl, ?_⟩
      cases t with
      | true => rw [if_pos rfl]; exact ⟨B, P, ρ, w1, S.ext e1 W1, G1⟩
      | false => rw [if_neg (by decide)]; exact G1 _ _ (Ext.refl B H1) W1 (.bl false)
    | _ => exact G1.elim⟩
theorem pe_orD (ha : PE X a (tD C Wx fa)) (hb : PE X (.BoolOp .Or (b :: rest) pos) (tD C Wx fb)) : PE X (.BoolOp .Or (a :: b :: rest) pos) (tD C Wx (fOr fa fb)) :=
  (pe_or ha hb).imp fun σ H Q ⟨B, P, ρ, w, S, G⟩ => ⟨B, P, ρ, w, S, Got.bind G fun d1 w1 v1 H1 e1 W1 r1 G1 => by
    cases r1 with
    | bl t =>
      refine ⟨t, rfl, ?_⟩
      cases t with
      | true => rw [if_pos rfl]; exact G1 _ _ (Ext.refl B H1) W1 (.bl true)
      | false => rw [if_neg (by decide)]; exact ⟨B, P, ρ, w1, S.ext e1 W1, G1⟩
    | _ => exact G1.elim⟩
theorem _root_.L2.PW.imp {e : Expr} {t t' : TT} (h : PW X e t) (hi : ∀ σ H Q, t' σ H Q → t σ H Q) : PW X e t' := ⟨fun wh pins s σ H Q I q => h.run wh pins s σ H Q I (hi σ H Q q)⟩
theorem pw_andD (ha : PT X a (tT C Wx fa)) (hb : PW X (.BoolOp .And (b :: rest) pos) (tT C Wx fb)) : PW X (.BoolOp .And (a :: b :: rest) pos) (tT C Wx (fAnd fa fb)) :=
  (pw_and ha hb).imp fun σ H Q ⟨B, P, ρ, w, S, G⟩ => ⟨B, P, ρ, w, S, GotT.thnT G (fun d w h => by
    cases d with
    | bl t => exact absurd rfl (h t)
    | _ => rfl) fun t w1 H1 e1 W1 G1 => by
    cases t with
    | true => rw [if_pos rfl]; exact ⟨B, P, ρ, w1, S.ext e1 W1, G1⟩
    | false =>
      rw [if_neg (by decide)]
      obtain ⟨b', e, k⟩ := G1
      cases e
      exact k H1 (Ext.refl B H1) W1⟩
theorem pw_orD (ha : PT X a (tT C Wx fa)) (hb : PW X (.BoolOp .Or (b :: rest) pos) (tT C Wx fb)) : PW X (.BoolOp .Or (a :: b :: rest) pos) (tT C Wx (fOr fa fb)) :=
  (pw_or ha hb).imp fun σ H Q ⟨B, P, ρ, w, S, G⟩ => ⟨B, P, ρ, w, S, GotT.thnT G (fun d w h => by
    cases d with
    | bl t => exact absurd rfl (h t)
    | _ => rfl) fun t w1 H1 e1 W1 G1 => by
    cases t with
    | false => rw [if_neg (by decide)]; exact ⟨B, P, ρ, w1, S.ext e1 W1, G1⟩
    | true =>
      rw [if_pos rfl]
      obtain ⟨b', e, k⟩ := G1
      cases e
      exact k H1 (Ext.refl B H1) W1⟩
def fIf (fc fa fb : Ev D) : Ev D := fun ρ w => (fc ρ w).bind fun x w => match x with
  | .bl true => fa ρ w
  | .bl false => fb ρ w
  | _ => .bad
theorem pe_ifD (hc : PT X c (tT C Wx fc)) (ha : PE X a (tD C Wx fa)) (hb : PE X b (tD C Wx fb)) : PE X (.IfExp c a b pos) (tD C Wx (fIf fc fa fb)) :=
  (pe_ifExp hc ha hb).imp fun σ H Q ⟨B, P, ρ, w, S, G⟩ => ⟨B, P, ρ, w, S, GotT.thn G (fun d w h => by
    cases d with
    | bl t => exact absurd rfl (h t)
    | _ => rfl) fun t w1 H1 e1 W1 G1 => by
    cases t with
    | true => rw [if_pos rfl]; exact ⟨B, P, ρ, w1, S.ext e1 W1, G1⟩
    | false => rw [if_neg (by decide)]; exact ⟨B, P, ρ, w1, S.ext e1 W1, G1⟩⟩
/-! ### several expressions; displays -/
theorem pa_nilD : PA X [] (tAs C Wx fun _ w => .ok [] w) :=
  pa_nil.imp fun σ H Q ⟨B, P, ρ, w, S, G⟩ => G [] H (Ext.refl B H) S.w .nil
theorem pa_consD (ha : PE X e (tD C Wx fa)) (hr : PA X es (tAs C Wx fas)) (hs : okE e = true) :
    PA X (e :: es) (tAs C Wx fun ρ w => (fa ρ w).bind fun x w => (fas ρ w).bind fun xs w => .ok (x :: xs) w) :=
  (pa_cons ha hr (star_ok hs)).imp fun σ H Q ⟨B, P, ρ, w, S, G⟩ => ⟨B, P, ρ, w, S, Got.bind G fun d1 w1 v1 H1 e1 W1 r1 G1 => ⟨B, P, ρ, w1, S.ext e1 W1, Got.bind G1 fun d2 w2 v2 H2 e2 W2 r2 G2 =>
    G2 _ H2 (Ext.refl B H2) W2 (.cons (r1.ext W1 e2) r2)⟩⟩
theorem evs_len {call : Nat → List D → W → R D} : ∀ {Es : List E} {ρ : SF.Env} {w w' : W} {ds : List D}, evs call Es ρ w = .ok ds w' → ds.length = Es.length
  | [], ρ, w, w', ds, h => by simp only [evs] at h; cases h; rfl
  | e :: es, ρ, w, w', ds, h => by
    simp only [evs] at h
    cases h1 : ev call e ρ w with
    | ok d w1 =>
      rw [h1] at h
      simp only [bind_ok] at h
      cases h2 : evs call es ρ w1 with
      | ok ds2 w2 =>
        rw [h2] at h
        simp only [bind_ok] at h
        cases h
        simp [evs_len h2]
      | exc c w2 => rw [h2] at h; cases h
      | bad => rw [h2] at h; cases h
    | exc c w1 => rw [h1] at h; cases h
    | bad => rw [h1] at h; cases h
theorem pe_tupD {k : Nat} (ha : PA X es (tAs C Wx fas)) (hl : ∀ ρ w ds w', fas ρ w = .ok ds w' → ds.length ≤ LIM) : PE X (.Tuple es k pos) (tD C Wx fun ρ w => (fas ρ w).bind fun xs w => .ok (.tup xs) w) :=
  (pe_tup ha).imp fun σ H Q ⟨B, P, ρ, w, S, G⟩ => ⟨B, P, ρ, w, S, by
    dsimp only at G
    cases hf : fas ρ w with
    | ok ds w1 =>
      rw [hf] at G
      intro vs H1 e1 W1 r1
      refine ⟨by rw [r1.length]; exact lim_le (hl ρ w ds w1 hf), fun p hp => ?_⟩
      exact G _ _ (e1.trans (Ext.new hp)) (W1.new hp) (new_tup W1 (S.ext e1 W1).f hp r1)
    | exc c w1 => rw [hf] at G; exact G
    | bad => rw [hf] at G; exact G⟩
theorem pe_lstD (ha : PA X es (tAs C Wx fas)) (hl : ∀ ρ w ds w', fas ρ w = .ok ds w' → ds.length ≤ LIM) : PE X (.List es pos) (tD C Wx fun ρ w => (fas ρ w).bind fun xs w => .ok (.lst xs) w) :=
  (pe_lst ha).imp fun σ H Q ⟨B, P, ρ, w, S, G⟩ => ⟨B, P, ρ, w, S, by
    dsimp only at G
    cases hf : fas ρ w with
    | ok ds w1 =>
      rw [hf] at G
      intro vs H1 e1 W1 r1
      refine ⟨by rw [r1.length]; exact lim_le (hl ρ w ds w1 hf), fun p hp => ?_⟩
      exact G _ _ (e1.trans (Ext.new hp)) (W1.new hp) (new_lst W1 (S.ext e1 W1).f hp r1)
    | exc c w1 => rw [hf] at G; exact G
    | bad => rw [hf] at G; exact G⟩
/-! ### calls -/
theorem pe_bltD {id : String} {x : Str} {p : Pos} {g : List D → Option D} (hc : CallR X (.builtin id) (rDs g)) (hg : Gl X x) (hm : X.mg x = none) (hv : bootBuiltins x = some (.builtin id)) (ha : PA X (e :: es) (tAs C Wx fas)) (hn : x ≠ "__name__") (hdb : (x == ("__debug__" : Str)) = false)
    (he : okE e = true) (hs : es.all okE = true) : PE X (.Call (.Name x p) (e :: es) [] pos) (tD C Wx fun ρ w => (fas ρ w).bind fun xs w => opt (g xs) w) :=
  (pe_callB hc hg hm hv ha hn hdb (star_ok he) (stars_ok hs)).imp fun σ H Q ⟨B, P, ρ, w, S, G⟩ => ⟨B, P, ρ, w, S, Got.bind G fun d1 w1 v1 H1 e1 W1 r1 G1 => by
    obtain ⟨d, hd, k⟩ := Got.opt G1
    exact ⟨_, B, P, w1, d1, d, W1, (S.ext e1 W1).f, r1, hd, k⟩⟩
theorem pe_bltTyD {T : String} {x : Str} {p : Pos} {g : List D → Option D} (hc : CallR X (.type T) (rDs g)) (hg : Gl X x) (hm : X.mg x = none) (hv : bootBuiltins x = some (.type T)) (ha : PA X (e :: es) (tAs C Wx fas)) (hn : x ≠ "__name__") (hdb : (x == ("__debug__" : Str)) = false)
    (he : okE e = true) (hs : es.all okE = true) : PE X (.Call (.Name x p) (e :: es) [] pos) (tD C Wx fun ρ w => (fas ρ w).bind fun xs w => opt (g xs) w) :=
  (pe_callTy hc hg hm hv ha hn hdb (star_ok he) (stars_ok hs)).imp fun σ H Q ⟨B, P, ρ, w, S, G⟩ => ⟨B, P, ρ, w, S, Got.bind G fun d1 w1 v1 H1 e1 W1 r1 G1 => by
    obtain ⟨d, hd, k⟩ := Got.opt G1
    exact ⟨_, B, P, w1, d1, d, W1, (S.ext e1 W1).f, r1, hd, k⟩⟩
/-- the promise of function i -/
def spF (C : Nat → Value) (call : Nat → List D → W → R D) (i : Nat) : Sp := fun vs H Q E => ∃ (B : Bk C), ∃ P ds w, Rps B P H vs ds ∧ WR B P H w ∧ Fr B P H ∧
  match call i ds w with
  | .ok d w' => ∀ v H', Ext B H H' → WR B P H' w' → Rp B P H' v d → Q v H'
  | .exc c w' => ∀ H', Ext B H H' → WR B P H' w' → E (C c) none H'
  | .bad => False
theorem pe_fnD {call : Nat → List D → W → R D} {i k : Nat} {x : Str} {p : Pos} {f : Addr} {fd : FuncData} {ps : List Str} (F : FnOk X.prog X.w X.K X.mg X.base (L2.CX X.prog X.w) k f fd ps (spF C call i)) (hr : Room k X.A) (hg : Gl X x) (hm : X.mg x = some (.ref f)) (hk : PySem.W.keepIn X.K (.ref f) = true)
    (hb : Binds X.K fd ps []) (tk : Takes X Wx) (ha : PA X (e :: es) (tAs C Wx fas)) (hdb : (x == ("__debug__" : Str)) = false) (he : okE e = true) (hs : es.all okE = true) :
    PE X (.Call (.Name x p) (e :: es) [] pos) (tD C Wx fun ρ w => (fas ρ w).bind fun xs w => call i xs w) :=
  (pe_callS (E := WE Wx) F hr hg hm hk hb (fun σ => passAt tk σ) ha hdb (star_ok he) (stars_ok hs)).imp fun σ H Q ⟨B, P, ρ, w, S, G⟩ => ⟨B, P, ρ, w, S, Got.bind G fun d1 w1 v1 H1 e1 W1 r1 G1 => by
    refine ⟨B, P, d1, w1, r1, W1, (S.ext e1 W1).f, ?_⟩
    revert G1
    cases call i d1 w1 with
    | ok d w' => exact fun G => G
    | exc c w' => exact fun G => G
    | bad => exact fun G => G⟩
/-! ### slices -/
def tO (C : Nat → Value) (Wx : WX) (f : Ev (Option Int)) : TO := fun σ H Q => ∃ B P ρ w, Sit B P H σ ρ w ∧ Got C Wx B P σ (fun _ (o d : Option Int) => o = d) H Q (f ρ w)
def fPart (f : Ev D) : Ev (Option Int) := fun ρ w => (f ρ w).bind fun y w => match y with
  | .int i => .ok (some i) w
  | _ => .bad
theorem po_noneD : PO X none (tO C Wx fun _ w => .ok none w) := ⟨fun pins s σ H Q I q => po_none.run pins s σ H Q I (by
  obtain ⟨B, P, ρ, w, S, G⟩ := q
  exact G none H (Ext.refl B H) S.w rfl)⟩
theorem po_someD (h : PE X e (tD C Wx f)) : PO X (some e) (tO C Wx (fPart f)) := ⟨fun pins s σ H Q I q => (po_some h).run pins s σ H Q I (by
  obtain ⟨B, P, ρ, w, S, G⟩ := q
  refine ⟨B, P, ρ, w, S, ?_⟩
  unfold fPart at G
  cases hf : f ρ w with
  | ok d w1 =>
    rw [hf] at G
    intro v H1 e1 W1 r1
    cases r1 with
    | int i => exact ⟨i, rfl, G (some i) H1 e1 W1 rfl⟩
    | _ => exact G.elim
  | exc c w1 => rw [hf] at G; exact G
  | bad => rw [hf] at G; exact G)⟩
theorem pe_slcD {lo hi : Option Expr} {fl fh : Ev (Option Int)} {p2 : Pos} (he : PE X e (tD C Wx f)) (hl : PO X lo (tO C Wx fl)) (hh : PO X hi (tO C Wx fh)) :
    PE X (.Subscript e (.Slice lo hi none p2) pos) (tD C Wx fun ρ w => (f ρ w).bind fun x w => (fl ρ w).bind fun l w => (fh ρ w).bind fun h w => opt (slcO x l h) w) :=
  (pe_slice sl_D he hl hh).imp fun σ H Q ⟨B, P, ρ, w, S, G⟩ => ⟨B, P, ρ, w, S, Got.bind G fun d1 w1 v1 H1 e1 W1 r1 G1 => ⟨B, P, ρ, w1, S.ext e1 W1, Got.bind G1 fun d2 w2 v2 H2 e2 W2 r2 G2 =>
    ⟨B, P, ρ, w2, (S.ext e1 W1).ext e2 W2, Got.bind G2 fun d3 w3 v3 H3 e3 W3 r3 G3 => by
      subst r2 r3
      obtain ⟨d, hd, k⟩ := Got.opt G3
      exact ⟨_, B, P, w3, d1, d, W3, (((S.ext e1 W1).ext e2 W2).ext e3 W3).f, (r1.ext W1 e2).ext W2 e3, hd, k⟩⟩⟩⟩
/-! ### isinstance -/
def tyName : Ty → Option String
  | .int => some "int"
  | .bool => some "bool"
  | .str => some "str"
  | .tuple => some "tuple"
  | .list => some "list"
  | .exc _ => none
theorem pe_isiD {x T : Str} {n : String} {ty : Ty} {p pt : Pos} (hn : tyName ty = some n) (hg : Gl X x) (hm : X.mg x = none) (hx : x = "isinstance") (hgT : Gl X T) (hmT : X.mg T = none) (hT : bootBuiltins T = some (.type n)) (hTn : T ≠ "__name__") (hTd : (T == ("__debug__" : Str)) = false)
    (ha : PE X a (tD C Wx fa)) (hs : okE a = true) :
    PE X (.Call (.Name x p) [a, .Name T pt] [] pos) (tD C Wx fun ρ w => (fa ρ w).bind fun x w => opt ((isiD x ty).map .bl) w) := by
  subst hx
  have hTy : PE X (.Name T pt) (tC (.ty n)) := pe_bltn hgT hmT hT rfl hTn hTd
  refine (pe_callB call_isi hg hm (by decide +kernel) (pa_cons ha (pa_cons hTy pa_nil) (star_ok hs)) (by decide) (by decide) (star_ok hs) rfl).imp fun σ H Q ⟨B, P, ρ, w, S, G⟩ => ⟨B, P, ρ, w, S, Got.bind G fun d1 w1 v1 H1 e1 W1 r1 G1 => ?_⟩
  obtain ⟨d, hd, k⟩ := Got.opt G1
  cases hq : isiD d1 ty with
  | none => rw [hq] at hd; cases hd
  | some q =>
    rw [hq] at hd
    have hd := Option.some.inj hd
    subst hd
    have hk := k (.bl q) H1 (Ext.refl B H1) W1 (.bl _)
    cases r1 with
    | non => cases ty <;> simp [tyName] at hn <;> simp [isiD] at hq <;> subst hn hq <;> exact ⟨_, _, _, _, _, rfl, .ty _, .base .non, kit_ty (by decide +kernel), hk⟩
    | bl b => cases ty <;> simp [tyName] at hn <;> simp [isiD] at hq <;> subst hn hq <;> exact ⟨_, _, _, _, _, rfl, .ty _, .base (.bl _), kit_ty (by decide +kernel), hk⟩
    | int i => cases ty <;> simp [tyName] at hn <;> simp [isiD] at hq <;> subst hn hq <;> exact ⟨_, _, _, _, _, rfl, .ty _, .base (.int _), kit_ty (by decide +kernel), hk⟩
    | str z => cases ty <;> simp [tyName] at hn <;> simp [isiD] at hq <;> subst hn hq <;> exact ⟨_, _, _, _, _, rfl, .ty _, .base (.str _), kit_ty (by decide +kernel), hk⟩
    | tup h1 s1 => cases ty <;> simp [tyName] at hn <;> simp [isiD] at hq <;> subst hn hq <;> exact ⟨_, _, _, _, _, rfl, .ty _, .base (.tup h1), kit_ty (by decide +kernel), hk⟩
    | lst p1 h1 s1 => cases ty <;> simp [tyName] at hn <;> simp [isiD] at hq <;> subst hn hq <;> exact ⟨_, _, _, _, _, rfl, .ty _, .base (.lst h1), kit_ty (by decide +kernel), hk⟩
    | dT => cases ty <;> simp [isiD] at hq
    | dK => cases ty <;> simp [isiD] at hq
    | dr => cases ty <;> simp [isiD] at hq
    | ex => cases ty <;> simp [tyName] at hn <;> simp [isiD] at hq
    | ob => cases ty <;> simp [tyName] at hn <;> simp [isiD] at hq
/-! ### in a tuple of the module -/
def fInK (fa : Ev D) (ng : Bool) (ks : List (List Nat)) : Ev D := fun ρ w => (fa ρ w).bind fun x w => match x with | .str s => .ok (.bl (ng != decide (s ∈ ks))) w | _ => .bad
theorem inV_ks (s : List Nat) : ∀ ks : List (List Nat), inV (.str (sOf s)) (ks.map fun k => V.str (sOf k)) = decide (s ∈ ks)
  | [] => rfl
  | k :: ks => by
    have ih := inV_ks s ks
    unfold inV at ih ⊢
    rw [List.map_cons, List.any_cons, ih]
    simp only [eqV, sOf_beq]
    by_cases h : k = s
    · subst h; simp
    · have h2 : ¬ s = k := fun z => h z.symm
      simp [h, h2]
theorem inK_read {K : PySem.W.Frag} {ng : Bool} {ad : Addr} {ks : List (List Nat)} (hk : ∀ H, SqT K H ad (ks.map fun k => V.str (sOf k))) {σ : L2.St} {H : Hp} {Q : VK} (h : tD C Wx (fInK fa ng ks) σ H Q) : tOp (rIn K ng) (tD C Wx fa) (tC (.ref ad)) σ H Q := by
  have hall : (ks.map fun k => V.str (sOf k)).all flatV = true := by simp [flatV]
  obtain ⟨B, P, ρ, w, S, G⟩ := h
  refine ⟨B, P, ρ, w, S, Got.bind G fun d1 w1 v1 H1 e1 W1 r1 G1 => ?_⟩
  cases r1 with
  | str s =>
    refine ⟨ad, _, rfl, .inr (hk H1), rfl, hall, ?_⟩
    rw [inV_ks]
    have := G1 (.bl (ng != decide (s ∈ ks))) H1 (Ext.refl B H1) W1 (.bl _)
    cases ng <;> simpa using this
  | _ => exact G1.elim
theorem inK_rule (ng : Bool) : OpR X (compareOp (if ng then .NotIn else .In)) (rIn X.K ng) := by
  cases ng with
  | false => exact op_in_seq
  | true => exact op_notIn_seq
theorem pe_inKD {ng : Bool} {x : Str} {ad : Addr} {ks : List (List Nat)} {p2 : Pos} (hg : Gl X x) (hm : X.mg x = some (.ref ad)) (hk : ∀ H, SqT X.K H ad (ks.map fun k => V.str (sOf k))) (hd : (x == ("__debug__" : Str)) = false) (ha : PE X a (tD C Wx fa)) :
    PE X (.Compare a [if ng then .NotIn else .In] [.Name x p2] pos) (tD C Wx (fInK fa ng ks)) :=
  (pe_cmpR (inK_rule ng) ha (pe_glob (v := .ref ad) hg hm rfl hd) (marks_ok rfl)).imp fun σ H Q h => inK_read hk h
theorem pt_inKD {ng : Bool} {x : Str} {ad : Addr} {ks : List (List Nat)} {p2 : Pos} (hg : Gl X x) (hm : X.mg x = some (.ref ad)) (hk : ∀ H, SqT X.K H ad (ks.map fun k => V.str (sOf k))) (hd : (x == ("__debug__" : Str)) = false) (ha : PE X a (tD C Wx fa)) :
    PT X (.Compare a [if ng then .NotIn else .In] [.Name x p2] pos) (tT C Wx (fInK fa ng ks)) :=
  (pt_cmpR (inK_rule ng) ha (pe_glob (v := .ref ad) hg hm rfl hd) (marks_ok rfl)).imp fun σ H Q h => by
    obtain ⟨B, P, ρ, w, S, G⟩ := h
    exact inK_read hk ⟨B, P, ρ, w, S, GotT.val G⟩
end
end SF

namespace SF
open PySem L2
theorem back_none {Cl : Nat → Value} {B : Bk Cl} {P : Addr → Prop} {H H1 : Hp} {w1 : W} {p : Addr} (W1 : WR B P H1 w1) (e : Ext B H H1) (h : H1 p = none) : H p = none := by
  cases q : H p with
  | none => rfl
  | some o =>
    have h1 : p ≠ B.pd := fun z => by rw [z, W1.pd] at h; cases h
    have h2 : ¬ B.V p := W1.nN h
    rw [e p o q h1 h2] at h
    cases h
theorem nofrz_new {H : Hp} {p : Addr} {h : HO} (hh : ∀ o u, h ≠ .frz o u) : ∀ o u, upd H p h p ≠ some (.frz o u) := fun o u z => by rw [upd_same] at z; exact hh o u (Option.some.inj z)
/-- an expression that makes a new object -/
def tN (C : Nat → Value) (Wx : WX) (f : Ev D) : TE := fun σ H Q => ∃ B P ρ w, Sit B P H σ ρ w ∧ Got C Wx B P σ (fun H' v d => ∃ p, v = V.ref p ∧ H p = none ∧ Rp B P H' v d ∧ ∀ o u, H' p ≠ some (.frz o u)) H Q (f ρ w)
section
variable {X : Cx} {C : Nat → Value} {Wx : WX} {a b c e : Expr} {es : List Expr} {fa fb fc f : Ev D} {fas : Ev (List D)} {pos : Pos}
theorem toD (h : PE X e (tN C Wx f)) : PE X e (tD C Wx f) := h.imp fun σ H Q ⟨B, P, ρ, w, S, G⟩ => ⟨B, P, ρ, w, S, by
  cases hf : f ρ w with
  | ok d w' =>
    rw [hf] at G
    exact fun v H' e' W' ⟨p, _, _, r, _⟩ => G v H' e' W' r
  | exc c w' => rw [hf] at G; exact G
  | bad => rw [hf] at G; exact G⟩
theorem pe_lstN (ha : PA X es (tAs C Wx fas)) (hl : ∀ ρ w ds w', fas ρ w = .ok ds w' → ds.length ≤ LIM) : PE X (.List es pos) (tN C Wx fun ρ w => (fas ρ w).bind fun xs w => .ok (.lst xs) w) :=
  (pe_lst ha).imp fun σ H Q ⟨B, P, ρ, w, S, G⟩ => ⟨B, P, ρ, w, S, by
    dsimp only at G
    cases hf : fas ρ w with
    | ok ds w1 =>
      rw [hf] at G
      intro vs H1 e1 W1 r1
      refine ⟨by rw [r1.length]; exact lim_le (hl ρ w ds w1 hf), fun p hp => ?_⟩
      exact G _ _ (e1.trans (Ext.new hp)) (W1.new hp) ⟨p, rfl, back_none W1 e1 hp, new_lst W1 (S.ext e1 W1).f hp r1, nofrz_new (by intro o u z; cases z)⟩
    | exc c w1 => rw [hf] at G; exact G
    | bad => rw [hf] at G; exact G⟩
theorem pe_dnilK : PE X (.Dict [] [] pos) (tN C Wx fun _ w => .ok (.dK []) w) :=
  pe_dnewK.imp fun σ H Q ⟨B, P, ρ, w, S, G⟩ p hp => G _ _ (Ext.new hp) (S.w.new hp) ⟨p, rfl, hp, .dK (S.f.new hp) (.inl upd_same) .nil, nofrz_new (by intro o u z; cases z)⟩
theorem pe_dnilT : PE X (.Dict [] [] pos) (tN C Wx fun _ w => .ok (.dT []) w) :=
  pe_dnewT.imp fun σ H Q ⟨B, P, ρ, w, S, G⟩ p hp => G _ _ (Ext.new hp) (S.w.new hp) ⟨p, rfl, hp, .dT (S.f.new hp) (.inl upd_same) .nil, nofrz_new (by intro o u z; cases z)⟩
/-- list(e), a new list -/
theorem pe_listN {x : Str} {p : Pos} (hg : Gl X x) (hm : X.mg x = none) (hx : x = "list") (ha : PA X [e] (tAs C Wx fas)) (he : okE e = true) : PE X (.Call (.Name x p) [e] [] pos) (tN C Wx fun ρ w => (fas ρ w).bind fun xs w => opt (bltD .list xs) w) := by
  subst hx
  refine (pe_callTy call_list_of hg hm (by decide +kernel) ha (by decide) (by decide) (star_ok he) rfl).imp fun σ H Q ⟨B, P, ρ, w, S, G⟩ => ⟨B, P, ρ, w, S, ?_⟩
  refine Got.bind G fun ds w1 vs H1 e1 W1 r1 G1 => ?_
  obtain ⟨d, hd, k⟩ := Got.opt G1
  match ds, hd with
  | [], hd => simp [bltD] at hd
  | _ :: _ :: _, hd => simp [bltD] at hd
  | [a], hd =>
    obtain ⟨v, rfl, q1⟩ := rps1 r1
    cases q1 with
    | lst p1 h1 s1 =>
      simp only [bltD] at hd
      have hd := Option.some.inj hd
      subst hd
      exact ⟨_, _, rfl, .inl (SqL.of h1), fun l hl => k _ _ (Ext.new hl) (W1.new hl) ⟨l, rfl, back_none W1 e1 hl, new_lst W1 (S.ext e1 W1).f hl s1, nofrz_new (by intro o u z; cases z)⟩⟩
    | tup h1 s1 =>
      simp only [bltD] at hd
      have hd := Option.some.inj hd
      subst hd
      exact ⟨_, _, rfl, .inr (SqT.of h1), fun l hl => k _ _ (Ext.new hl) (W1.new hl) ⟨l, rfl, back_none W1 e1 hl, new_lst W1 (S.ext e1 W1).f hl s1, nofrz_new (by intro o u z; cases z)⟩⟩
    | _ => simp [bltD] at hd

/-! ### what is walked -/
/-- J walks the data xs, whatever happens to what is hidden -/
structure Wk {Cl : Nat → Value} (B : Bk Cl) (P : Addr → Prop) (J : It) (xs : List D) (H1 : Hp) : Prop where
  go : ∀ P' H2 i, Mo P P' H1 H2 → i < xs.length → J.go i H2
  yld : ∀ P' H2 i d v H3, Mo P P' H1 H2 → xs[i]? = some d → J.yld i H2 v H3 → (∀ a o, H2 a = some o → H3 a = some o) ∧ Rp B P' H3 v d
  stop : ∀ P' H2, Mo P P' H1 H2 → J.stop xs.length H2
def tI (C : Nat → Value) (Wx : WX) (f : Ev (List D)) : TI := fun σ H R => ∃ B P ρ w, Sit B P H σ ρ w ∧ Got C Wx B P σ (fun H1 J xs => Wk B P J xs H1) H R (f ρ w)
theorem pi_seqD {tg : Expr} (hl : PE X e (tD C Wx f)) : PI X tg e (tI C Wx fun ρ w => (f ρ w).bind fun x w => opt (itemsD x) w) := by
  refine ⟨fun pins s σ H R I h => ?_⟩
  obtain ⟨B, P, ρ, w, S, G⟩ := h
  refine thn (hl.run pins s σ H (fun v H1 => ∃ w1 d xs, WR B P H1 w1 ∧ Rp B P H1 v d ∧ itemsD d = some xs ∧ ∀ J, Wk B P J xs H1 → R J H1) I ⟨B, P, ρ, w, S, Got.bind G fun d1 w1 v1 H1 e1 W1 r1 G1 => ?_⟩) fun v s1 ⟨x, H1, I1, r1, q1⟩ => ?_
  · obtain ⟨d, hd, k⟩ := Got.opt G1
    exact ⟨w1, d1, d, W1, r1, hd, fun J hJ => k J H1 (Ext.refl B H1) W1 hJ⟩
  · obtain ⟨w1, d, xs, W1, rd, hx, q⟩ := q1
    cases rd with
    | @lst ad vs ds p1 h1 s1' =>
      simp only [itemsD] at hx
      have hx := Option.some.inj hx
      subst hx
      cases r1
      obtain ⟨its, rv, p, hz⟩ := I1.list (SqL.of h1)
      refine wpAny_pyIter_list p.isList ?_
      refine ⟨s1.heap.objs.size, [s1.heap.objs.size], _, _, H1, rfl, I1.kept (t' := s1.toks) fun b o e => Heap.get?_push_of_some _ e, turn_list ad _, ⟨_, Heap.get?_push_size _ rfl, rfl, rfl⟩, fun b hb => ?_, q _ ⟨fun P' H2 i m hi => ?_, fun P' H2 i d v H3 m hd y => ?_, fun P' H2 m => ?_⟩⟩
      · have e : b = s1.heap.objs.size := by simpa using hb
        subst e
        exact I1.fpOk (Nat.le_refl _) (I1.hok.fresh (Nat.le_refl _))
      · have h2 := (m.lst _ _ p1 h1).2
        have hi : i < vs.length := by rw [s1'.length]; exact hi
        exact ⟨vs, vs[i], SqL.of h2, by simp [hi]⟩
      · have h2 := (m.lst _ _ p1 h1).2
        obtain ⟨rfl, y⟩ := y
        obtain ⟨v', h3, h4⟩ := s1'.get hd
        have e2 := y vs (SqL.of h2)
        rw [h3] at e2
        cases e2
        exact ⟨fun _ _ z => z, Rp.mo m d _ h4⟩
      · have h2 := (m.lst _ _ p1 h1).2
        exact ⟨vs, SqL.of h2, by rw [s1'.length]; exact Nat.le_refl _⟩
    | @tup ad vs ds h1 s1' =>
      simp only [itemsD] at hx
      have hx := Option.some.inj hx
      subst hx
      cases r1
      obtain ⟨its, rv, p, hz⟩ := I1.tuple (SqT.of h1)
      refine wpAny_pyIter_tuple (show s1.heap.IsTuple ad its.toArray from p) ?_
      refine ⟨s1.heap.objs.size, [s1.heap.objs.size], _, _, H1, rfl, I1.kept (t' := s1.toks) fun b o e => Heap.get?_push_of_some _ e, turn_tuple ad _, ⟨_, Heap.get?_push_size _ rfl, rfl, rfl⟩, fun b hb => ?_, q _ ⟨fun P' H2 i m hi => ?_, fun P' H2 i d v H3 m hd y => ?_, fun P' H2 m => ?_⟩⟩
      · have e : b = s1.heap.objs.size := by simpa using hb
        subst e
        exact I1.fpOk (Nat.le_refl _) (I1.hok.fresh (Nat.le_refl _))
      · have h2 := m.tup _ _ h1
        have hi : i < vs.length := by rw [s1'.length]; exact hi
        exact ⟨vs, vs[i], SqT.of h2, by simp [hi]⟩
      · have h2 := m.tup _ _ h1
        obtain ⟨rfl, y⟩ := y
        obtain ⟨v', h3, h4⟩ := s1'.get hd
        have e2 := y vs (SqT.of h2)
        rw [h3] at e2
        cases e2
        exact ⟨fun _ _ z => z, Rp.mo m d _ h4⟩
      · have h2 := m.tup _ _ h1
        exact ⟨vs, SqT.of h2, by rw [s1'.length]; exact Nat.le_refl _⟩
    | _ => simp [itemsD] at hx
/-- the walk of a range -/
theorem wk_range {Cl : Nat → Value} {B : Bk Cl} {P : Addr → Prop} {H1 : Hp} (lo : Int) (n : Nat) : Wk B P (Itr lo n) ((List.range n).map fun (k : Nat) => D.int (lo + (k : Int))) H1 where
  go P' H2 i m hi := by rw [List.length_map, List.length_range] at hi; exact hi
  yld P' H2 i d v H3 m hd y := by
    obtain ⟨rfl, rfl⟩ := y
    rw [List.getElem?_map] at hd
    by_cases hi : i < n
    · rw [List.getElem?_range hi] at hd
      cases hd
      exact ⟨fun _ _ z => z, .int _⟩
    · rw [List.getElem?_eq_none (by simpa using hi)] at hd
      cases hd
  stop P' H2 m := by rw [List.length_map, List.length_range]; exact Nat.le_refl n
theorem wk_rangeC {Cl : Nat → Value} {B : Bk Cl} {P : Addr → Prop} {H1 : Hp} (lo c : Int) (n : Nat) : Wk B P (Itc lo c n) ((List.range n).map fun (k : Nat) => D.int (lo + (k : Int) * c)) H1 where
  go P' H2 i m hi := by rw [List.length_map, List.length_range] at hi; exact hi
  yld P' H2 i d v H3 m hd y := by
    obtain ⟨rfl, rfl⟩ := y
    rw [List.getElem?_map] at hd
    by_cases hi : i < n
    · rw [List.getElem?_range hi] at hd
      cases hd
      exact ⟨fun _ _ z => z, .int _⟩
    · rw [List.getElem?_eq_none (by simpa using hi)] at hd
      cases hd
  stop P' H2 m := by rw [List.length_map, List.length_range]; exact Nat.le_refl n
/-- range's items by its three numbers -/
def fRng (fa fb fc : Ev D) : Ev (List D) := fun ρ w => (fa ρ w).bind fun x w => (fb ρ w).bind fun y w => (fc ρ w).bind fun z w => match x, y, z with
  | .int i, .int j, .int k => opt (rangeL i j k) w
  | _, _, _ => .bad
theorem pi_rng1D {tg : Expr} {x : Str} {p : Pos} (hx : x = "range") (hg : Gl X x) (hm : X.mg x = none) (ha : PE X a (tD C Wx fa)) (hs : okE a = true) :
    PI X tg (.Call (.Name x p) [a] [] pos) (tI C Wx (fRng (fun _ w => .ok (.int 0) w) fa fun _ w => .ok (.int 1) w)) := by
  subst hx
  refine ⟨fun pins s σ H R I h => (pi_range1 hg hm (pa_cons ha pa_nil (star_ok hs)) (star_ok hs)).run pins s σ H R I ?_⟩
  obtain ⟨B, P, ρ, w, S, G⟩ := h
  refine ⟨B, P, ρ, w, S, ?_⟩
  cases hf : fa ρ w with
  | ok d w1 =>
    simp only [fRng, bind_ok, hf] at G
    intro v H1 e1 W1 r1
    cases r1 with
    | int j =>
      obtain ⟨xs, hxs, k⟩ := Got.opt G
      unfold rangeL at hxs
      split at hxs
      · rename_i c
        rw [if_pos rfl] at hxs
        have hxs := Option.some.inj hxs
        subst hxs
        refine ⟨j, rfl, by omega, by omega, ?_⟩
        refine k _ H1 e1 W1 ?_
        have e0 : (j - 0).toNat = j.toNat := by rw [Int.sub_zero]
        rw [e0]
        exact wk_range 0 j.toNat
      · cases hxs
    | _ => exact G.elim
  | exc c w1 => simp only [fRng, bind_ok, hf, bind_exc] at G; exact G
  | bad => simp only [fRng, bind_ok, hf, bind_bad] at G; exact G
theorem pi_rng2D {tg : Expr} {x : Str} {p : Pos} (hx : x = "range") (hg : Gl X x) (hm : X.mg x = none) (ha : PE X a (tD C Wx fa)) (hs : okE a = true) (hb : PE X b (tD C Wx fb)) (hsb : okE b = true) :
    PI X tg (.Call (.Name x p) [a, b] [] pos) (tI C Wx (fRng fa fb fun _ w => .ok (.int 1) w)) := by
  subst hx
  refine ⟨fun pins s σ H R I h => (pi_range2 hg hm (pa_cons ha (pa_cons hb pa_nil (star_ok hsb)) (star_ok hs)) ((star_ok hs).trans (by rw [star_ok hsb]; rfl)) (star_ok hsb)).run pins s σ H R I ?_⟩
  obtain ⟨B, P, ρ, w, S, G⟩ := h
  refine ⟨B, P, ρ, w, S, Got.bind G fun d1 w1 v1 H1 e1 W1 r1 G1 => ⟨B, P, ρ, w1, S.ext e1 W1, Got.bind G1 fun d2 w2 v2 H2 e2 W2 r2 G2 => ?_⟩⟩
  have r1 := r1.ext W1 e2
  simp only [bind_ok] at G2
  cases r1 with
  | int i =>
    cases r2 with
    | int j =>
      obtain ⟨xs, hxs, k⟩ := Got.opt G2
      unfold rangeL at hxs
      split at hxs
      · rename_i c
        rw [if_pos rfl] at hxs
        have hxs := Option.some.inj hxs
        subst hxs
        exact ⟨i, j, rfl, ⟨by omega, by omega, by omega, by omega⟩, k _ H2 (Ext.refl B H2) W2 (wk_range i _)⟩
      · cases hxs
    | _ => exact G2.elim
  | _ => cases d2 <;> exact G2.elim
theorem pi_rng3D {tg : Expr} {x : Str} {p : Pos} (hx : x = "range") (hg : Gl X x) (hm : X.mg x = none) (ha : PE X a (tD C Wx fa)) (hs : okE a = true) (hb : PE X b (tD C Wx fb)) (hsb : okE b = true) (hc : PE X c (tD C Wx fc)) (hsc : okE c = true) :
    PI X tg (.Call (.Name x p) [a, b, c] [] pos) (tI C Wx (fRng fa fb fc)) := by
  subst hx
  refine ⟨fun pins s σ H R I h => (pi_range3 hg hm (pa_cons ha (pa_cons hb (pa_cons hc pa_nil (star_ok hsc)) (star_ok hsb)) (star_ok hs)) (star_ok hs) (stars_ok (by simp [hsb, hsc]))).run pins s σ H R I ?_⟩
  obtain ⟨B, P, ρ, w, S, G⟩ := h
  refine ⟨B, P, ρ, w, S, Got.bind G fun d1 w1 v1 H1 e1 W1 r1 G1 => ⟨B, P, ρ, w1, S.ext e1 W1, Got.bind G1 fun d2 w2 v2 H2 e2 W2 r2 G2 => ⟨B, P, ρ, w2, (S.ext e1 W1).ext e2 W2, Got.bind G2 fun d3 w3 v3 H3 e3 W3 r3 G3 => ?_⟩⟩⟩
  have r1 := (r1.ext W1 e2).ext W2 e3
  have r2 := r2.ext W2 e3
  cases r1 with
  | int i =>
    cases r2 with
    | int j =>
      cases r3 with
      | int q =>
        obtain ⟨xs, hxs, k⟩ := Got.opt G3
        unfold rangeL at hxs
        split at hxs
        · rename_i c0
          split at hxs
          · rename_i c1
            have hxs := Option.some.inj hxs
            subst hxs c1
            refine ⟨i, j, 1, (j - i).toNat, rfl, ⟨by decide, by decide, small_one (by omega) (by omega) (by omega) (by omega), ?_⟩, k _ H3 (Ext.refl B H3) W3 ?_⟩
            · rw [rangeSize_one]; split <;> omega
            · have := wk_rangeC (B := B) (P := P) (H1 := H3) i 1 (j - i).toNat
              simpa only [Int.mul_one] using this
          · split at hxs
            · rename_i c1
              have hxs := Option.some.inj hxs
              subst hxs c1
              exact ⟨i, j, -1, (i - j).toNat, rfl, RgC.neg (by omega) (by omega) (by omega) (by omega), k _ H3 (Ext.refl B H3) W3 (wk_rangeC i (-1) _)⟩
            · cases hxs
        · cases hxs
      | _ => exact G3.elim
    | _ => cases d3 <;> exact G3.elim
  | _ => cases d2 <;> cases d3 <;> exact G3.elim
/-! enumerate -/
theorem enumL_get : ∀ (xs : List D) (k : Int) (i : Nat), (enumL k xs)[i]? = (xs[i]?).map fun x => D.tup [.int (k + (i : Int)), x]
  | [], k, i => by simp [enumL]
  | x :: xs, k, 0 => by simp [enumL]
  | x :: xs, k, i + 1 => by
    simp only [enumL, List.getElem?_cons_succ]
    rw [enumL_get xs (k + 1) i]
    have : k + 1 + (i : Int) = k + ((i + 1 : Nat) : Int) := by omega
    rw [this]
theorem enumL_len : ∀ (xs : List D) (k : Int), (enumL k xs).length = xs.length
  | [], _ => rfl
  | x :: xs, k => by simp [enumL, enumL_len xs (k + 1)]
theorem pi_enmD {elts : List Expr} {kk : Nat} {tpos p : Pos} {x : Str} (hx : x = "enumerate") (hg : Gl X x) (hm : X.mg x = none) (ha : PE X a (tD C Wx fa)) (hs : okE a = true) :
    PI X (.Tuple elts kk tpos) (.Call (.Name x p) [a] [] pos) (tI C Wx fun ρ w => (fa ρ w).bind fun x w => match x with | .lst xs => .ok (enumL 0 xs) w | _ => .bad) := by
  subst hx
  refine ⟨fun pins s σ H R I h => (pi_enum hg hm (pa_cons ha pa_nil (star_ok hs)) (star_ok hs)).run pins s σ H R I ?_⟩
  obtain ⟨B, P, ρ, w, S, G⟩ := h
  refine ⟨B, P, ρ, w, S, Got.bind G fun d1 w1 v1 H1 e1 W1 r1 G1 => ?_⟩
  cases r1 with
  | @lst ad vs ds p1 h1 s1 =>
    refine ⟨ad, vs, rfl, SqL.of h1, G1 _ H1 (Ext.refl B H1) W1 ⟨fun P' H2 i m hi => ?_, fun P' H2 i d v H3 m hd y => ?_, fun P' H2 m => ?_⟩⟩
    · rw [enumL_len] at hi
      have h2 := (m.lst _ _ p1 h1).2
      have hi : i < vs.length := by rw [s1.length]; exact hi
      exact ⟨vs, vs[i], SqL.of h2, by simp [hi]⟩
    · have h2 := (m.lst _ _ p1 h1).2
      obtain ⟨T, x, rfl, hT, rfl, y⟩ := y
      rw [enumL_get] at hd
      cases hdi : ds[i]? with
      | none => rw [hdi] at hd; cases hd
      | some d0 =>
        rw [hdi] at hd
        have hd := Option.some.inj hd
        subst hd
        obtain ⟨v', h3, h4⟩ := s1.get hdi
        have e2 := y vs (SqL.of h2)
        rw [h3] at e2
        cases e2
        have hx : ∀ b o, H2 b = some o → upd H2 T (.tup [.int (i : Nat), x]) b = some o := fun b o q => by rw [upd_ne (ne_of_none q hT)]; exact q
        refine ⟨hx, .tup upd_same (.cons ?_ (.cons ?_ .nil))⟩
        · rw [Int.zero_add]; exact .int _
        · refine Rp.mo ⟨fun b us q => hx b _ q, fun b us q r => ⟨q, hx b _ r⟩, fun b us q r => ⟨q, ?_⟩, fun b us q r => ⟨q, ?_⟩, fun b us q => hx b _ q⟩ d0 x (Rp.mo m d0 x h4)
          · rcases r with r | ⟨o, r⟩
            · exact .inl (hx b _ r)
            · exact .inr ⟨o, hx b _ r⟩
          · rcases r with r | ⟨o, r⟩
            · exact .inl (hx b _ r)
            · exact .inr ⟨o, hx b _ r⟩
    · rw [enumL_len]
      have h2 := (m.lst _ _ p1 h1).2
      exact ⟨vs, SqL.of h2, by rw [s1.length]; exact Nat.le_refl _⟩
  | _ => exact G1.elim
end
end SF

namespace SF
open PySem L2
/-! ### targets -/
/-- slots stored one after another -/
inductive Stores {Cl : Nat → Value} (B : Bk Cl) (P : Addr → Prop) (H : Hp) (σ : L2.St) (ρ : SF.Env) : L2.St → SF.Env → List Nat → Prop
  | nil : Stores B P H σ ρ σ ρ []
  | snoc {σ1 : L2.St} {ρ1 : SF.Env} {is : List Nat} {i : Nat} {v : V} {d : D} : Stores B P H σ ρ σ1 ρ1 is → Rp B P H v d → Stores B P H σ ρ (σ1.set i (some v)) (ρ1.set i (.sh d)) (is ++ [i])
section
variable {Cl : Nat → Value} {B : Bk Cl} {P : Addr → Prop} {H : Hp} {σ σ' : L2.St} {ρ ρ' : SF.Env} {is : List Nat}
theorem Stores.len (s : Stores B P H σ ρ σ' ρ' is) : σ'.length = σ.length ∧ ρ'.length = ρ.length := by
  induction s with
  | nil => exact ⟨rfl, rfl⟩
  | snoc _ _ ih => simp [ih]
theorem getS_set {ρ : SF.Env} {i j : Nat} {d d' : D} (h : getS (ρ.set i (.sh d)) j = some d') : (i = j ∧ i < ρ.length ∧ d' = d) ∨ (i ≠ j ∧ getS ρ j = some d') := by
  unfold getS at h ⊢
  by_cases e : i = j
  · subst e
    by_cases hl : i < ρ.length
    · rw [List.getElem?_set_self hl] at h
      simp [Slot.get] at h
      exact .inl ⟨rfl, hl, h.symm⟩
    · rw [List.getElem?_eq_none (by simpa using hl)] at h
      cases h
  · rw [List.getElem?_set_ne e] at h
    exact .inr ⟨e, h⟩
theorem REnv.set (r : REnv B P H σ ρ) (hl : σ.length = ρ.length) {i : Nat} {v : V} {d : D} (q : Rp B P H v d) : REnv B P H (σ.set i (some v)) (ρ.set i (.sh d)) := by
  intro j d' h
  rcases getS_set h with ⟨rfl, h1, rfl⟩ | ⟨h1, h2⟩
  · exact ⟨v, by rw [List.getElem?_set_self (by omega)], q⟩
  · rw [List.getElem?_set_ne h1]
    exact r j d' h2
theorem Stores.env (s : Stores B P H σ ρ σ' ρ' is) (r : REnv B P H σ ρ) (hl : σ.length = ρ.length) : REnv B P H σ' ρ' := by
  induction s with
  | nil => exact r
  | snoc s q ih => exact ih.set (by rw [s.len.1, s.len.2]; exact hl) q
/-- what the reading of a target is -/
def TgR (g : TG) (tg : Tg) : Prop := ∀ {Cl : Nat → Value} (B : Bk Cl) (P : Addr → Prop) (H : Hp) (v : V) (d : D) (σ : L2.St) (ρ ρ' : SF.Env) (k : L2.St → Hp → Prop), Rp B P H v d → bindTg tg d ρ = some ρ' →
  (∀ σ' is, Stores B P H σ ρ σ' ρ' is → (∀ i ∈ is, match tg with | .nm j => i = j | .tp js => i ∈ js) → k σ' H) → g v σ H k
theorem tg_nm (i : Nat) : TgR (gName i) (.nm i) := by
  intro Cl B P H v d σ ρ ρ' k r h hk
  simp only [bindTg] at h
  have h := Option.some.inj h
  subst h
  exact hk _ [i] (.snoc (is := []) .nil r) (by simp)
def gNames : List Nat → TGs
  | [] => gNil
  | i :: is => gCons (gName i) (gNames is)
theorem gNames_read : ∀ (is : List Nat) (js : List Nat) (σ0 : L2.St) (ρ0 : SF.Env) (ks : List Nat) {vs : List V} {ds : List D} {σ : L2.St} {ρ ρ' : SF.Env} {k : L2.St → Hp → Prop}, Rps B P H vs ds → binds is ds ρ = some ρ' → Stores B P H σ0 ρ0 σ ρ ks → (∀ i ∈ ks, i ∈ js) → (∀ i ∈ is, i ∈ js) →
    (∀ σ' is', Stores B P H σ0 ρ0 σ' ρ' is' → (∀ i ∈ is', i ∈ js) → k σ' H) → gNames is vs σ H k
  | [], js, σ0, ρ0, ks, _, _, σ, ρ, ρ', k, .nil, h, s, hs, hi, hk => by
    simp only [binds] at h
    have h := Option.some.inj h
    subst h
    exact ⟨rfl, hk σ ks s hs⟩
  | [], js, σ0, ρ0, ks, _, _, σ, ρ, ρ', k, .cons _ _, h, s, hs, hi, hk => by simp [binds] at h
  | i :: is, js, σ0, ρ0, ks, _, _, σ, ρ, ρ', k, .nil, h, s, hs, hi, hk => by simp [binds] at h
  | i :: is, js, σ0, ρ0, ks, _, _, σ, ρ, ρ', k, .cons r rs, h, s, hs, hi, hk => by
    simp only [binds] at h
    refine ⟨_, _, rfl, ?_⟩
    exact gNames_read is js σ0 ρ0 (ks ++ [i]) rs h (.snoc s r) (fun j hj => (List.mem_append.mp hj).elim (hs j) fun z => by rw [List.mem_singleton.mp z]; exact hi i List.mem_cons_self) (fun j hj => hi j (List.mem_cons_of_mem _ hj)) hk
theorem tg_tp (K : PySem.W.Frag) (is : List Nat) : TgR (gTup K is.length (gNames is)) (.tp is) := by
  intro Cl B P H v d σ ρ ρ' k r h hk
  cases r with
  | tup h1 s1 =>
    simp only [bindTg] at h
    refine ⟨_, _, rfl, SqT.of h1, ?_, gNames_read is is σ ρ [] s1 h .nil (by simp) (fun _ z => z) hk⟩
    have hb : ∀ (is : List Nat) (ds : List D) (ρ ρ' : SF.Env), binds is ds ρ = some ρ' → ds.length = is.length := by
      intro is
      induction is with
      | nil => intro ds ρ ρ' h; cases ds <;> simp [binds] at h ⊢
      | cons i is ih =>
        intro ds ρ ρ' h
        cases ds with
        | nil => simp [binds] at h
        | cons d ds => simp only [binds] at h; simp [ih ds _ _ h]
    rw [s1.length]
    exact hb is _ _ _ h
  | _ => simp [bindTg] at h
end

/-! ### comprehensions -/
theorem wipe_len (ρ : SF.Env) : ∀ vs : List Nat, (SF.wipe ρ vs).length = ρ.length
  | [] => rfl
  | v :: vs => by unfold SF.wipe; rw [List.length_set, wipe_len ρ vs]
theorem wipe_get {ρ : SF.Env} {i : Nat} {d : D} : ∀ {vs : List Nat}, getS (SF.wipe ρ vs) i = some d → getS ρ i = some d ∧ i ∉ vs
  | [], h => ⟨h, by simp⟩
  | v :: vs, h => by
    unfold SF.wipe getS at h
    by_cases hi : v = i
    · subst hi
      by_cases hv : v < (SF.wipe ρ vs).length
      · rw [List.getElem?_set_self hv] at h; simp [Slot.get] at h
      · rw [List.getElem?_eq_none (by simpa using hv)] at h; cases h
    · rw [List.getElem?_set_ne hi] at h
      obtain ⟨h1, h2⟩ := wipe_get (show getS (SF.wipe ρ vs) i = some d from h)
      exact ⟨h1, by simp only [List.mem_cons, not_or]; exact ⟨fun e => hi e.symm, h2⟩⟩
theorem REnv.wipe {Cl : Nat → Value} {B : Bk Cl} {P : Addr → Prop} {H : Hp} {σ : L2.St} {ρ : SF.Env} (r : REnv B P H σ ρ) (vs : List Nat) : REnv B P H (L2.wipe σ vs) (SF.wipe ρ vs) := by
  intro i d h
  obtain ⟨h1, h2⟩ := wipe_get h
  obtain ⟨v, h3, h4⟩ := r i d h1
  exact ⟨v, by rw [wipe_out h2]; exact h3, h4⟩
theorem wipe_set {σ : L2.St} {i : Nat} {x : Option V} : ∀ {vs : List Nat}, i ∈ vs → L2.wipe (σ.set i x) vs = L2.wipe σ vs
  | [], h => by simp at h
  | v :: vs, h => by
    unfold L2.wipe
    by_cases e : v = i
    · subst e
      by_cases hm : v ∈ vs
      · rw [wipe_set hm]
      · have : ∀ (us : List Nat), v ∉ us → (L2.wipe (σ.set v x) us).set v none = (L2.wipe σ us).set v none := by
          intro us hus
          induction us with
          | nil => simp [L2.wipe]
          | cons u us ih =>
            simp only [List.mem_cons, not_or] at hus
            unfold L2.wipe
            rw [List.set_comm _ _ (fun z => hus.1 z.symm), ih hus.2, List.set_comm _ _ hus.1]
        exact this vs hm
    · have hm : i ∈ vs := by
        rcases List.mem_cons.mp h with z | z
        · exact absurd z.symm e
        · exact z
      rw [wipe_set hm]
theorem wipe_wipe (σ : L2.St) (vs : List Nat) : L2.wipe (L2.wipe σ vs) vs = L2.wipe σ vs := by
  have : ∀ us : List Nat, (∀ u ∈ us, u ∈ vs) → L2.wipe (L2.wipe σ us) vs = L2.wipe σ vs := by
    intro us
    induction us with
    | nil => intro _; rfl
    | cons u us ih =>
      intro h
      show L2.wipe ((L2.wipe σ us).set u none) vs = _
      rw [wipe_set (h u List.mem_cons_self), ih fun x hx => h x (List.mem_cons_of_mem _ hx)]
  exact this vs fun _ z => z
theorem Stores.wiped {Cl : Nat → Value} {B : Bk Cl} {P : Addr → Prop} {H : Hp} {σ σ' : L2.St} {ρ ρ' : SF.Env} {is vs : List Nat} (s : Stores B P H σ ρ σ' ρ' is) (h : ∀ i ∈ is, i ∈ vs) : L2.wipe σ' vs = L2.wipe σ vs := by
  induction s with
  | nil => rfl
  | snoc s q ih =>
    rw [wipe_set (h _ (by simp))]
    exact ih fun i hi => h i (List.mem_append_left _ hi)

abbrev W0 : WX := fun _ _ _ _ => False
/-- the turn of a comprehension -/
def lcStep (tg : Tg) (fc fe : Ev D) (own : List Nat) (ρ : SF.Env) : D → W → R (Option D) := fun d w => match bindTg tg d (SF.wipe ρ own) with
  | some ρ' => (calm (fc ρ' w)).bind fun c w => match c with
    | .bl true => (calm (fe ρ' w)).bind fun y w => .ok (some y) w
    | .bl false => .ok none w
    | _ => .bad
  | none => .bad
def fLc (fi : Ev (List D)) (tg : Tg) (fc fe : Ev D) (own : List Nat) : Ev D := fun ρ w => (fi ρ w).bind fun xs w => if xs.length ≤ LIM then (lcRun (lcStep tg fc fe own ρ) xs w).bind fun ys w => .ok (.lst ys) w else .bad
def tgIn (tg : Tg) (own : List Nat) : Bool := match tg with
  | .nm i => decide (i ∈ own)
  | .tp is => is.all fun i => decide (i ∈ own)
/-- the result list is hidden while it grows -/
def PD (P : Addr → Prop) (D : Addr) : Addr → Prop := fun a => P a ∨ a = D
theorem lcRun_len (step : D → W → R (Option D)) : ∀ (xs : List D) (w w' : W) (ys : List D), lcRun step xs w = .ok ys w' → ys.length ≤ xs.length
  | [], w, w', ys, h => by simp only [lcRun] at h; cases h; simp
  | x :: xs, w, w', ys, h => by
    simp only [lcRun] at h
    split at h
    · rename_i o w1 h1
      split at h
      · rename_i ys2 w2 h2
        cases h
        have := lcRun_len step xs w1 _ ys2 h2
        cases o <;> simp <;> omega
      · cases h
    · cases h
theorem lcRun_noexc (step : D → W → R (Option D)) : ∀ (xs : List D) (w : W) (c : Nat) (w' : W), lcRun step xs w ≠ .exc c w'
  | [], w, c, w' => by simp [lcRun]
  | x :: xs, w, c, w' => by
    simp only [lcRun]
    split
    · split <;> simp
    · simp
structure LcW (C : Nat → Value) (B : Bk C) (P : Addr → Prop) (D : Addr) (H1 : Hp) (step : SF.D → W → R (Option SF.D)) (xs : List SF.D) (tot : List SF.D) (wN : W) (i m : Nat) (H : Hp) : Prop where
  m : m = xs.length - i
  le : i ≤ xs.length
  ex : ∃ vs ds w ys, H D = some (.lst vs) ∧ Rps B (PD P D) H vs ds ∧ WR B (PD P D) H w ∧ Ext B H1 H ∧ lcRun step (xs.drop i) w = .ok ys wN ∧ ds ++ ys = tot ∧ ds.length ≤ i
section
variable {X : Cx} {C : Nat → Value} {Wx : WX} {a b c e : Expr} {es : List Expr} {fa fb fc fe f : Ev D} {fi : Ev (List D)} {pos : Pos}
theorem mo_PD {Cl : Nat → Value} {B : Bk Cl} {P : Addr → Prop} {D : Addr} {H1 H : Hp} {w' : W} (hD : H1 D = none) (W1 : WR B P H1 w') (e : Ext B H1 H) : Mo P (PD P D) H1 H := by
  have m := W1.mo e
  have nD : ∀ {a : Addr} {o : HO}, H1 a = some o → a ≠ D := fun q z => by rw [z, hD] at q; cases q
  refine ⟨m.tup, fun a vs p q => ⟨fun z => z.elim p (nD q), (m.lst a vs p q).2⟩, fun a kvs p q => ⟨fun z => z.elim p ?_, (m.dT a kvs p q).2⟩, fun a kvs p q => ⟨fun z => z.elim p ?_, (m.dK a kvs p q).2⟩, m.ex⟩
  · rcases q with q | ⟨o, q⟩
    · exact nD q
    · exact nD q
  · rcases q with q | ⟨o, q⟩
    · exact nD q
    · exact nD q
structure WkE {Cl : Nat → Value} (B : Bk Cl) (P : Addr → Prop) (J : It) (xs : List SF.D) (H1 : Hp) (D : Addr) : Prop where
  go : ∀ H2 i, Mo P (PD P D) H1 H2 → Ext B H1 H2 → i < xs.length → J.go i H2
  yld : ∀ H2 i d v H3, Mo P (PD P D) H1 H2 → Ext B H1 H2 → xs[i]? = some d → J.yld i H2 v H3 → (∀ a o, H2 a = some o → H3 a = some o) ∧ Rp B (PD P D) H3 v d
  stop : ∀ H2, Mo P (PD P D) H1 H2 → Ext B H1 H2 → J.stop xs.length H2
/-- a comprehension once its iterator stands -/
theorem lc_mid {g : TG} {tg : Tg} {own : List Nat} {σ : L2.St} {H H1 : Hp} {Q : VK} {B : Bk C} {P : Addr → Prop} {ρ : SF.Env} {w w1 : W} {J : It} {xs : List SF.D} (hg : TgR g tg) (ho : tgIn tg own = true)
    (S : Sit B P H σ ρ w) (e1 : Ext B H H1) (W1 : WR B P H1 w1) (hJE : ∀ D, H1 D = none → WkE B P J xs H1 D)
    (G1 : Got C Wx B P σ (fun H' v d => ∃ p, v = V.ref p ∧ H p = none ∧ Rp B P H' v d ∧ ∀ o u, H' p ≠ some (.frz o u)) H1 Q (if xs.length ≤ LIM then (lcRun (lcStep tg fc fe own ρ) xs w1).bind fun ys w => .ok (.lst ys) w else .bad)) :
    tLc (fun _ _ Rk => Rk J H1) g (tT C W0 fc) (tD C W0 fe) own σ H Q := by
  intro D hD
  have hJ := hJE D hD
  have S1 := S.ext e1 W1
  have nP : ¬ P D := S1.f.new hD
  have hlim : xs.length ≤ LIM := by
    refine Decidable.byContradiction fun z => ?_
    rw [if_neg z] at G1
    exact G1.elim
  rw [if_pos hlim] at G1
  cases hr : lcRun (lcStep tg fc fe own ρ) xs w1 with
  | exc c w2 =>
    exact absurd hr (lcRun_noexc _ xs w1 c w2)
  | bad => rw [hr] at G1; exact G1.elim
  | ok tot wN =>
    rw [hr] at G1
    simp only [bind_ok] at G1
    -- hidden: P and D
    have hDd : B.pd ≠ D := fun z => by rw [← z, W1.pd] at hD; cases hD
    have hDn : ¬ B.V D := W1.nN hD
    refine ⟨LcW C B P D H1 (lcStep tg fc fe own ρ) xs tot wN, ⟨xs.length, rfl, Nat.zero_le _, [], [], w1, tot, upd_same, .nil, ?_, Ext.new hD, hr, rfl, Nat.le_refl _⟩, ?_⟩
    · exact (W1.new hD).sub fun _ z => .inl z
    rintro i m H2 ⟨hm, hle, vs, ds, w2, ys, hDv, rv, W2, e2, hrun, htot, hdl⟩
    have M12 : Mo P (PD P D) H1 H2 := mo_PD hD W1 e2
    by_cases hi : i < xs.length
    · right
      refine ⟨hJ.go H2 i M12 e2 hi, LcW C B P D H1 (lcStep tg fc fe own ρ) xs tot wN (i + 1) (m - 1), fun H' n => ⟨m - 1, by omega, n⟩, fun x H3 y => ?_⟩
      have hxi : xs[i]? = some xs[i] := List.getElem?_eq_getElem hi
      obtain ⟨x23, rx⟩ := hJ.yld H2 i _ x H3 M12 e2 hxi y
      have hdrop : xs.drop i = xs[i] :: xs.drop (i + 1) := List.drop_eq_getElem_cons hi
      rw [hdrop] at hrun
      simp only [lcRun] at hrun
      have E23 : Ext B H2 H3 := fun a o q _ _ => x23 a o q
      have W3 : WR B (PD P D) H3 w2 := W2.up x23
      have e3 : Ext B H1 H3 := e2.trans E23
      have F3 : Fr B (PD P D) H3 := fun a p => by
        rcases p with p | p
        · exact S1.f.ext W1 (w' := w2) (W3.re W1) e3 a p
        · exact ⟨_, p ▸ x23 _ _ hDv⟩
      have hx1 : lcStep tg fc fe own ρ xs[i] w2 = lcStep tg fc fe own ρ xs[i] w2 := rfl
      cases hb : bindTg tg xs[i] (SF.wipe ρ own) with
      | none =>
        have z : lcStep tg fc fe own ρ xs[i] w2 = .bad := by simp only [lcStep, hb]
        rw [z] at hrun
        cases hrun
      | some ρ2 =>
        have z : lcStep tg fc fe own ρ xs[i] w2 = (calm (fc ρ2 w2)).bind fun c w => match c with
          | .bl true => (calm (fe ρ2 w)).bind fun y w => .ok (some y) w
          | .bl false => .ok none w
          | _ => .bad := by simp only [lcStep, hb]
        rw [z] at hrun
        have rw3 : REnv B (PD P D) H3 (L2.wipe σ own) (SF.wipe ρ own) := fun k d hd => by
          obtain ⟨v, h1, h2⟩ := S1.r.wipe own k d hd
          exact ⟨v, h1, Rp.mo (mo_PD hD W1 e3) d v h2⟩
        refine hg B (PD P D) H3 x xs[i] _ _ ρ2 _ rx hb fun σ2 is st hin => ⟨?_, ?_⟩
        · rw [st.wiped (vs := own), wipe_wipe]
          intro k hk
          have := hin k hk
          unfold tgIn at ho
          cases tg with
          | nm j => simp only at this; subst this; exact of_decide_eq_true ho
          | tp js => exact of_decide_eq_true (List.all_eq_true.mp ho k this)
        have hl2 : (L2.wipe σ own).length = (SF.wipe ρ own).length := by rw [L2.wipe_length, wipe_len, S.len]
        have S3 : Sit B (PD P D) H3 σ2 ρ2 w2 := ⟨by rw [st.len.1, st.len.2]; exact hl2, st.env rw3 hl2, W3, F3⟩
        refine ⟨B, PD P D, ρ2, w2, S3, ?_⟩
        cases hc : fc ρ2 w2 with
        | exc c w => rw [hc] at hrun; cases hrun
        | bad => rw [hc] at hrun; cases hrun
        | ok dc w4 =>
          rw [hc] at hrun
          simp only [calm, bind_ok] at hrun
          cases dc with
          | bl t =>
            refine ⟨t, rfl, fun H4 e4 W4 => ?_⟩
            have S4 := S3.ext e4 W4
            have hDv4 : H4 D = some (.lst vs) := e4 D _ (x23 _ _ hDv) (fun z => hDd z.symm) (fun z => hDn z)
            have rv4 : Rps B (PD P D) H4 vs ds := (rv.ext W2 E23).ext W3 e4
            cases t with
            | false =>
              refine iteF ?_
              simp only at hrun
              cases hrest : lcRun (lcStep tg fc fe own ρ) (xs.drop (i + 1)) w4 with
              | exc c w => rw [hrest] at hrun; cases hrun
              | bad => rw [hrest] at hrun; cases hrun
              | ok ys2 wE =>
                rw [hrest] at hrun
                cases hrun
                exact ⟨by omega, by omega, vs, ds, w4, ys, hDv4, rv4, W4, e3.trans e4, hrest, htot, by omega⟩
            | true =>
              refine iteT ?_
              refine ⟨B, PD P D, ρ2, w4, S4, ?_⟩
              cases he : fe ρ2 w4 with
              | exc c w => rw [he] at hrun; cases hrun
              | bad => rw [he] at hrun; cases hrun
              | ok dy w5 =>
                rw [he] at hrun
                simp only [calm, bind_ok] at hrun
                intro y' H5 e5 W5 r5
                have hDv5 : H5 D = some (.lst vs) := e5 D _ hDv4 (fun z => hDd z.symm) (fun z => hDn z)
                have rv5 : Rps B (PD P D) H5 vs ds := rv4.ext W4 e5
                refine ⟨vs, hDv5, lim_lt (by rw [rv5.length]; omega), ?_⟩
                cases hrest : lcRun (lcStep tg fc fe own ρ) (xs.drop (i + 1)) w5 with
                | exc c w => rw [hrest] at hrun; cases hrun
                | bad => rw [hrest] at hrun; cases hrun
                | ok ys2 wE =>
                  rw [hrest] at hrun
                  cases hrun
                  have E56 : ∀ a o, a ≠ D → H5 a = some o → upd H5 D (.lst (vs ++ [y'])) a = some o := fun a o hne q => by rw [upd_ne hne]; exact q
                  have M56 : Mo (PD P D) (PD P D) H5 (upd H5 D (.lst (vs ++ [y']))) := by
                    have nt : ∀ {a : Addr} {us : List V}, H5 a = some (.tup us) → a ≠ D := fun q z => by rw [z, hDv5] at q; cases q
                    refine ⟨fun a us q => E56 a _ (nt q) q, fun a us p q => ⟨p, E56 a _ (fun z => p (.inr z)) q⟩, fun a us p q => ⟨p, ?_⟩, fun a us p q => ⟨p, ?_⟩, fun a us q => E56 a _ (fun z => by rw [z, hDv5] at q; cases q) q⟩
                    · rcases q with q | ⟨o, q⟩
                      · exact .inl (E56 a _ (fun z => p (.inr z)) q)
                      · exact .inr ⟨o, E56 a _ (fun z => p (.inr z)) q⟩
                    · rcases q with q | ⟨o, q⟩
                      · exact .inl (E56 a _ (fun z => p (.inr z)) q)
                      · exact .inr ⟨o, E56 a _ (fun z => p (.inr z)) q⟩
                  refine ⟨by omega, by omega, vs ++ [y'], ds ++ [dy], w5, ys2, upd_same, Rps.mo M56 _ _ (rv5.append (.cons r5 .nil)), W5.put (Ne.symm hDd) hDn (.lst hDv5), fun a o q h1 h2 => ?_, hrest, ?_, ?_⟩
                  · exact E56 a o (fun z => by rw [z, hD] at q; cases q) (((e3.trans e4).trans e5) a o q h1 h2)
                  · simp only [List.append_assoc, List.singleton_append]
                    exact htot
                  · simp; omega
          | _ => simp only at hrun; cases hrun
    · have e : i = xs.length := by omega
      subst e
      left
      refine ⟨hJ.stop H2 M12 e2, ?_⟩
      rw [List.drop_length] at hrun
      simp only [lcRun] at hrun
      cases hrun
      rw [List.append_nil] at htot
      subst htot
      have W2' : WR B P H2 wN := W2.re W1
      refine G1 _ H2 e2 W2' ⟨D, rfl, back_none W1 e1 hD, .lst nP hDv (Rps.mo ?_ _ _ rv), fun o u z => by rw [hDv] at z; cases z⟩
      exact ⟨fun _ _ z => z, fun a _ p q => ⟨fun z => p (.inl z), q⟩, fun a _ p q => ⟨fun z => p (.inl z), q⟩, fun a _ p q => ⟨fun z => p (.inl z), q⟩, fun _ _ z => z⟩
theorem lc_read {g : TG} {tg : Tg} {own : List Nat} {σ : L2.St} {H : Hp} {Q : VK} (hg : TgR g tg) (ho : tgIn tg own = true)
    (h : tN C Wx (fLc fi tg fc fe own) σ H Q) : tLc (tI C Wx fi) g (tT C W0 fc) (tD C W0 fe) own σ H Q := by
  obtain ⟨B, P, ρ, w, S, G⟩ := h
  refine ⟨B, P, ρ, w, S, Got.bind G fun xs w1 J H1 e1 W1 hJ G1 => ?_⟩
  exact lc_mid hg ho S e1 W1 (fun D _ => ⟨fun H2 i m _ hi => hJ.go _ H2 i m hi, fun H2 i d v H3 m _ hd y => hJ.yld _ H2 i d v H3 m hd y, fun H2 m _ => hJ.stop _ H2 m⟩) G1
end
end SF

namespace SF
open PySem L2
theorem pe_lcN {X : Cx} {C : Nat → Value} {Wx : WX} {fi : Ev (List D)} {fc fe : Ev D} {elt tg iter : Expr} {ifs : List Expr} {scope : Scope} {own : List (Str × Nat)} {pos : Pos} {g : TG} {tgD : Tg} (hc : X.calm = true) (hN : X.N.Nodup) (hi : PI X tg iter (tI C Wx fi)) (ok : BlkOk X.N X.env.scope scope own)
    (hg : ∀ (s : Shared) (H : Hp) (Ca : Addr) (cl : List (Str × Addr)) (fp : List Addr), PG (X.blk s H scope (compEnvC scope cl Ca X.env) fp) tg g) (ht : ∀ (s : Shared) (H : Hp) (Ca : Addr) (cl : List (Str × Addr)) (fp : List Addr), PTs (X.blk s H scope (compEnvC scope cl Ca X.env) fp) ifs (tT C W0 fc))
    (he : ∀ (s : Shared) (H : Hp) (Ca : Addr) (cl : List (Str × Addr)) (fp : List Addr), PE (X.blk s H scope (compEnvC scope cl Ca X.env) fp) elt (tD C W0 fe)) (hs : okE iter = true) (hgt : TgR g tgD) (hto : tgIn tgD (own.map (·.2)) = true) :
    PE X (.ListComp elt [⟨tg, iter, ifs, 0⟩] scope pos) (tN C Wx (fLc fi tgD fc fe (own.map (·.2)))) :=
  (pe_lc hc hN hi ok hg ht he (fold_ok hs)).imp fun σ H Q h => lc_read hgt hto h
/-! ### the slots of a def: shared data, owned lists and dicts -/
/-- what an owned slot holds -/
def OwnAt {Cl : Nat → Value} (B : Bk Cl) (H : Hp) (l : Addr) : D → Prop
  | .lst ds => ∃ vs, H l = some (.lst vs) ∧ Rps B (fun _ => True) H vs ds
  | .dK kds => ∃ kvs, H l = some (.dK kvs) ∧ RpK B (fun _ => True) H kvs kds
  | .dT kds => ∃ kvs, H l = some (.dT kvs) ∧ RpT B (fun _ => True) H kvs kds
  | _ => False
/-- hidden: what the callers hide, and the owned ones among hd -/
def hidH (F : Addr → Prop) (σ : L2.St) (ρ : SF.Env) (q : Nat → Prop) : Addr → Prop := fun a => F a ∨ ∃ (i : Nat) (d : D), q i ∧ ρ[i]? = some (Slot.ow d) ∧ σ[i]? = some (some (.ref a))
structure SEnv {Cl : Nat → Value} (B : Bk Cl) (F : Addr → Prop) (H0 H : Hp) (σ : L2.St) (ρ : SF.Env) (w : W) : Prop where
  ex : Ext B H0 H
  w : WR B F H w
  f : Fr B F H
  len : σ.length = ρ.length
  own : ∀ (i : Nat) (d : D), ρ[i]? = some (.ow d) → ∃ l, σ[i]? = some (some (.ref l)) ∧ H0 l = none ∧ ¬ F l ∧ OwnAt B H l d
  inj : ∀ (i j : Nat) (di dj : D) (l : Addr), ρ[i]? = some (.ow di) → ρ[j]? = some (.ow dj) → σ[i]? = some (some (.ref l)) → σ[j]? = some (some (.ref l)) → i = j
  sh : ∀ (i : Nat) (d : D), ρ[i]? = some (.sh d) → ∃ v, σ[i]? = some (some v) ∧ Rp B (hidH F σ ρ fun _ => True) H v d
section
variable {Cl : Nat → Value} {B : Bk Cl} {F : Addr → Prop} {H0 H H1 : Hp} {σ : L2.St} {ρ : SF.Env} {w w1 : W}
theorem OwnAt.has {l : Addr} {d : D} (h : OwnAt B H l d) : ∃ o, H l = some o ∧ (∀ xs, o ≠ .tup xs) ∧ ∀ φ, o ≠ .ext φ := by
  cases d with
  | lst ds => obtain ⟨vs, h, _⟩ := h; exact ⟨_, h, (fun _ z => HO.noConfusion z), (fun _ z => HO.noConfusion z)⟩
  | dK ds => obtain ⟨vs, h, _⟩ := h; exact ⟨_, h, (fun _ z => HO.noConfusion z), (fun _ z => HO.noConfusion z)⟩
  | dT ds => obtain ⟨vs, h, _⟩ := h; exact ⟨_, h, (fun _ z => HO.noConfusion z), (fun _ z => HO.noConfusion z)⟩
  | _ => exact h.elim
theorem OwnAt.soft {l : Addr} {d : D} (h : OwnAt B H l d) : Soft H l := by
  cases d with
  | lst ds => obtain ⟨vs, h, _⟩ := h; exact .lst h
  | dK ds => obtain ⟨vs, h, _⟩ := h; exact .dK h
  | dT ds => obtain ⟨vs, h, _⟩ := h; exact .dT h
  | _ => exact h.elim
theorem OwnAt.mo {l : Addr} {d : D} (h : OwnAt B H l d) (hl : H1 l = H l) (ht : ∀ a vs, H a = some (.tup vs) → H1 a = some (.tup vs)) (he : ∀ a φ, H a = some (.ext φ) → H1 a = some (.ext φ)) : OwnAt B H1 l d := by
  have m : Mo (fun _ => True) (fun _ => True) H H1 := ⟨ht, fun _ _ p => absurd trivial p, fun _ _ p => absurd trivial p, fun _ _ p => absurd trivial p, he⟩
  cases d with
  | lst ds => obtain ⟨vs, h, r⟩ := h; exact ⟨vs, hl.trans h, Rps.mo m _ _ r⟩
  | dK ds => obtain ⟨vs, h, r⟩ := h; exact ⟨vs, hl.trans h, RpK.mo m _ _ r⟩
  | dT ds => obtain ⟨vs, h, r⟩ := h; exact ⟨vs, hl.trans h, RpT.mo m _ _ r⟩
  | _ => exact h.elim
theorem OwnAt.rp {l : Addr} {d : D} {P : Addr → Prop} (h : OwnAt B H l d) (hl : ¬ P l) : Rp B P H (.ref l) d := by
  have m : Mo (fun _ => True) P H H := ⟨fun _ _ z => z, fun _ _ p => absurd trivial p, fun _ _ p => absurd trivial p, fun _ _ p => absurd trivial p, fun _ _ z => z⟩
  cases d with
  | lst ds => obtain ⟨vs, h, r⟩ := h; exact .lst hl h (Rps.mo m _ _ r)
  | dK ds => obtain ⟨vs, h, r⟩ := h; exact .dK hl (.inl h) (RpK.mo m _ _ r)
  | dT ds => obtain ⟨vs, h, r⟩ := h; exact .dT hl (.inl h) (RpT.mo m _ _ r)
  | _ => exact h.elim
theorem hide_get (ρ : SF.Env) (i : Nat) : ∀ (hd : List Nat) (d : D), getS (hide ρ hd) i = some d → i ∉ hd ∧ getS ρ i = some d
  | [], d, h => ⟨by simp, h⟩
  | v :: vs, d, h => by
    unfold hide getS at h
    by_cases hi : v = i
    · subst hi
      by_cases hv : v < (hide ρ vs).length
      · rw [List.getElem?_set_self hv] at h; simp [Slot.get] at h
      · rw [List.getElem?_eq_none (by simpa using hv)] at h; cases h
    · rw [List.getElem?_set_ne hi] at h
      obtain ⟨h1, h2⟩ := hide_get ρ i vs d h
      exact ⟨by simp only [List.mem_cons, not_or]; exact ⟨fun e => hi e.symm, h1⟩, h2⟩
theorem hide_len (ρ : SF.Env) : ∀ hd : List Nat, (hide ρ hd).length = ρ.length
  | [] => rfl
  | v :: vs => by unfold hide; rw [List.length_set, hide_len ρ vs]
theorem getS_cases {i : Nat} {d : D} (h : getS ρ i = some d) : ρ[i]? = some (.sh d) ∨ ρ[i]? = some (.ow d) := by
  unfold getS at h
  cases e : ρ[i]? with
  | none => rw [e] at h; cases h
  | some s =>
    rw [e] at h
    cases s with
    | no => simp [Slot.get] at h
    | sh d' => simp [Slot.get] at h; subst h; exact .inl rfl
    | ow d' => simp [Slot.get] at h; subst h; exact .inr rfl
/-- for an expression -/
theorem SEnv.sit (S : SEnv B F H0 H σ ρ w) (hd : List Nat) : Sit B (hidH F σ ρ (· ∈ hd)) H σ (hide ρ hd) w := by
  have hP : ∀ a, hidH F σ ρ (· ∈ hd) a → hidH F σ ρ (fun _ => True) a := fun a z => z.elim .inl fun ⟨i, d, _, h1, h2⟩ => .inr ⟨i, d, trivial, h1, h2⟩
  have m : Mo (hidH F σ ρ fun _ => True) (hidH F σ ρ (· ∈ hd)) H H := ⟨fun _ _ z => z, fun a _ p q => ⟨fun z => p (hP a z), q⟩, fun a _ p q => ⟨fun z => p (hP a z), q⟩, fun a _ p q => ⟨fun z => p (hP a z), q⟩, fun _ _ z => z⟩
  refine ⟨by rw [hide_len]; exact S.len, fun i d h => ?_, (S.w.sub fun _ z => .inl z), fun a z => ?_⟩
  · obtain ⟨hi, h⟩ := hide_get ρ i hd d h
    rcases getS_cases h with h | h
    · obtain ⟨v, h1, h2⟩ := S.sh i d h
      exact ⟨v, h1, Rp.mo m d v h2⟩
    · obtain ⟨l, h1, _, h3, h4⟩ := S.own i d h
      refine ⟨_, h1, h4.rp ?_⟩
      rintro (z | ⟨j, dj, hj, h5, h6⟩)
      · exact h3 z
      · have := S.inj i j d dj l h h5 h1 h6
        subst this
        exact hi hj
  · rcases z with z | ⟨i, d, _, h1, h2⟩
    · exact S.f a z
    · obtain ⟨l, h3, _, _, h4⟩ := S.own i d h1
      rw [h2] at h3
      cases h3
      obtain ⟨o, h5, _⟩ := h4.has
      exact ⟨o, h5⟩
theorem SEnv.nd (S : SEnv B F H0 H σ ρ w) {l : Addr} (h : ¬ F l) : l ≠ B.pd ∧ ¬ B.V l := ⟨fun z => h (z ▸ S.w.hd), fun z => h (S.w.hn _ z)⟩
/-- what is kept when the heap grows -/
theorem SEnv.ext {P : Addr → Prop} (S : SEnv B F H0 H σ ρ w) (e : Ext B H H1) (W1 : WR B P H1 w1) : SEnv B F H0 H1 σ ρ w1 := by
  have W1' : WR B F H1 w1 := W1.re S.w
  have m := S.w.mo e
  refine ⟨S.ex.trans e, W1', S.f.ext S.w W1' e, S.len, fun i d h => ?_, S.inj, fun i d h => ?_⟩
  · obtain ⟨l, h1, h2, h3, h4⟩ := S.own i d h
    obtain ⟨o, h5, _⟩ := h4.has
    exact ⟨l, h1, h2, h3, h4.mo (by rw [h5]; exact e l o h5 (S.nd h3).1 (S.nd h3).2) m.tup m.ex⟩
  · obtain ⟨v, h1, h2⟩ := S.sh i d h
    refine ⟨v, h1, h2.ext (w := w) (S.w.sub fun _ z => .inl z) e⟩
theorem freeze_get (hd : List Nat) : ∀ (ρ : SF.Env) (k i : Nat), (freezeAt hd k ρ)[i]? = (ρ[i]?).map fun s => match s with
    | .ow d => if k + i ∈ hd then .ow d else .sh d
    | s => s
  | [], k, i => by simp [freezeAt]
  | s :: r, k, 0 => by cases s <;> simp [freezeAt]
  | s :: r, k, i + 1 => by
    have ih := freeze_get hd r (k + 1) i
    have e : k + 1 + i = k + (i + 1) := by omega
    rw [e] at ih
    cases s <;> simpa [freezeAt] using ih
theorem freeze_len (hd : List Nat) : ∀ (ρ : SF.Env) (k : Nat), (freezeAt hd k ρ).length = ρ.length
  | [], _ => rfl
  | s :: r, k => by cases s <;> simp [freezeAt, freeze_len hd r (k + 1)]
theorem freeze_ow {hd : List Nat} {i : Nat} {d : D} (h : (freezeAt hd 0 ρ)[i]? = some (.ow d)) : ρ[i]? = some (.ow d) ∧ i ∈ hd := by
  rw [freeze_get] at h
  cases e : ρ[i]? with
  | none => rw [e] at h; cases h
  | some s =>
    rw [e] at h
    cases s with
    | no => simp at h
    | sh d' => simp at h
    | ow d' =>
      simp only [Option.map_some, Option.some.injEq, Nat.zero_add] at h
      split at h
      · rename_i hm; cases h; exact ⟨rfl, hm⟩
      · cases h
theorem freeze_sh {hd : List Nat} {i : Nat} {d : D} (h : (freezeAt hd 0 ρ)[i]? = some (.sh d)) : ρ[i]? = some (.sh d) ∨ (ρ[i]? = some (.ow d) ∧ i ∉ hd) := by
  rw [freeze_get] at h
  cases e : ρ[i]? with
  | none => rw [e] at h; cases h
  | some s =>
    rw [e] at h
    cases s with
    | no => simp at h
    | sh d' => simp at h; subst h; exact .inl rfl
    | ow d' =>
      simp only [Option.map_some, Option.some.injEq, Nat.zero_add] at h
      split at h
      · cases h
      · rename_i hm; cases h; exact .inr ⟨rfl, hm⟩
theorem freeze_ow' {hd : List Nat} {i : Nat} {d : D} (h : ρ[i]? = some (.ow d)) (hi : i ∈ hd) : (freezeAt hd 0 ρ)[i]? = some (.ow d) := by
  rw [freeze_get, h]
  simp [hi]
theorem hid_freeze (hd : List Nat) (a : Addr) : hidH F σ (freezeAt hd 0 ρ) (fun _ => True) a ↔ hidH F σ ρ (· ∈ hd) a := by
  constructor
  · rintro (z | ⟨i, d, _, h1, h2⟩)
    · exact .inl z
    · obtain ⟨h3, h4⟩ := freeze_ow h1
      exact .inr ⟨i, d, h4, h3, h2⟩
  · rintro (z | ⟨i, d, h4, h3, h2⟩)
    · exact .inl z
    · exact .inr ⟨i, d, trivial, freeze_ow' h3 h4, h2⟩
theorem mo_sub {P P' : Addr → Prop} (h : ∀ a, P' a → P a) : Mo P P' H H := ⟨fun _ _ z => z, fun a _ p q => ⟨fun z => p (h a z), q⟩, fun a _ p q => ⟨fun z => p (h a z), q⟩, fun a _ p q => ⟨fun z => p (h a z), q⟩, fun _ _ z => z⟩
/-- owned ones but hd become shared -/
theorem SEnv.freeze (S : SEnv B F H0 H σ ρ w) (hd : List Nat) : SEnv B F H0 H σ (freezeAt hd 0 ρ) w := by
  refine ⟨S.ex, S.w, S.f, by rw [freeze_len]; exact S.len, fun i d h => S.own i d (freeze_ow h).1, fun i j di dj l h1 h2 => S.inj i j di dj l (freeze_ow h1).1 (freeze_ow h2).1, fun i d h => ?_⟩
  have hs : ∀ a, hidH F σ (freezeAt hd 0 ρ) (fun _ => True) a → hidH F σ ρ (fun _ => True) a := fun a z => by
    rcases (hid_freeze hd a).mp z with z | ⟨i, d, _, h1, h2⟩
    · exact .inl z
    · exact .inr ⟨i, d, trivial, h1, h2⟩
  rcases freeze_sh h with h | ⟨h, hi⟩
  · obtain ⟨v, h1, h2⟩ := S.sh i d h
    exact ⟨v, h1, Rp.mo (mo_sub hs) d v h2⟩
  · obtain ⟨l, h1, _, h3, h4⟩ := S.own i d h
    refine ⟨_, h1, h4.rp fun z => ?_⟩
    rcases (hid_freeze hd l).mp z with z | ⟨j, dj, hj, h5, h6⟩
    · exact h3 z
    · have := S.inj i j d dj l h h5 h1 h6
      subst this
      exact hi hj
/-- a slot is set to shared data -/
theorem SEnv.set (S : SEnv B F H0 H σ ρ w) {i : Nat} {v : V} {d : D} (r : Rp B (hidH F σ ρ fun _ => True) H v d) : SEnv B F H0 H (σ.set i (some v)) (ρ.set i (.sh d)) w := by
  have how : ∀ (j : Nat) (d' : D), (ρ.set i (.sh d))[j]? = some (.ow d') → i ≠ j ∧ ρ[j]? = some (.ow d') := fun j d' h => by
    by_cases e : i = j
    · subst e
      by_cases hl : i < ρ.length
      · rw [List.getElem?_set_self hl] at h; cases h
      · rw [List.getElem?_eq_none (by simpa using hl)] at h; cases h
    · rw [List.getElem?_set_ne e] at h; exact ⟨e, h⟩
  have hs : ∀ a, hidH F (σ.set i (some v)) (ρ.set i (.sh d)) (fun _ => True) a → hidH F σ ρ (fun _ => True) a := fun a z => by
    rcases z with z | ⟨j, d', _, h1, h2⟩
    · exact .inl z
    · obtain ⟨h3, h4⟩ := how j d' h1
      rw [List.getElem?_set_ne h3] at h2
      exact .inr ⟨j, d', trivial, h4, h2⟩
  refine ⟨S.ex, S.w, S.f, by simpa using S.len, fun j d' h => ?_, fun j k dj dk l h1 h2 h3 h4 => ?_, fun j d' h => ?_⟩
  · obtain ⟨h1, h2⟩ := how j d' h
    rw [List.getElem?_set_ne h1]
    exact S.own j d' h2
  · obtain ⟨h5, h6⟩ := how j dj h1
    obtain ⟨h7, h8⟩ := how k dk h2
    rw [List.getElem?_set_ne h5] at h3
    rw [List.getElem?_set_ne h7] at h4
    exact S.inj j k dj dk l h6 h8 h3 h4
  · by_cases e : i = j
    · subst e
      by_cases hl : i < ρ.length
      · rw [List.getElem?_set_self hl] at h
        cases h
        exact ⟨v, by rw [List.getElem?_set_self (by rw [S.len]; exact hl)], Rp.mo (mo_sub hs) d v r⟩
      · rw [List.getElem?_eq_none (by simpa using hl)] at h; cases h
    · rw [List.getElem?_set_ne e] at h
      rw [List.getElem?_set_ne e]
      obtain ⟨u, h1, h2⟩ := S.sh j d' h
      exact ⟨u, h1, Rp.mo (mo_sub hs) d' u h2⟩
/-- a result, by the slots that were hidden while it was reckoned -/
theorem SEnv.thaw (S : SEnv B F H0 H σ ρ w) {hd : List Nat} {v : V} {d : D} (r : Rp B (hidH F σ ρ (· ∈ hd)) H v d) : SEnv B F H0 H σ (SF.thaw d hd ρ) w ∧ Rp B (hidH F σ (SF.thaw d hd ρ) fun _ => True) H v d := by
  unfold SF.thaw
  split
  · rename_i hf
    exact ⟨S, Rp.flat (fun _ _ z => z) (fun _ _ z => z) d v hf r⟩
  · refine ⟨S.freeze hd, Rp.mo (mo_sub fun a z => (hid_freeze hd a).mp z) d v r⟩
/-- a slot is set to a new list or dict, which it owns -/
theorem SEnv.setOwn (S : SEnv B F H0 H σ ρ w) {i : Nat} {p : Addr} {d : D} (e : Ext B H H1) {P : Addr → Prop} (W1 : WR B P H1 w1) (hp : H p = none) (ho : OwnAt B H1 p d) : SEnv B F H0 H1 (σ.set i (some (.ref p))) (ρ.set i (.ow d)) w1 := by
  have S1 := S.ext e W1
  have nFp : ¬ F p := S.f.new hp
  have hold : ∀ (j : Nat) (l : Addr) (d' : D), ρ[j]? = some (.ow d') → σ[j]? = some (some (.ref l)) → l ≠ p := fun j l d' h1 h2 z => by
    obtain ⟨l', h3, _, _, h4⟩ := S.own j d' h1
    rw [h2] at h3
    cases h3
    obtain ⟨o, h5, _⟩ := h4.has
    rw [z, hp] at h5
    cases h5
  refine ⟨S1.ex, S1.w, S1.f, by simpa using S.len, fun j d' h => ?_, fun j k dj dk l h1 h2 h3 h4 => ?_, fun j d' h => ?_⟩
  · by_cases ej : i = j
    · subst ej
      by_cases hl : i < ρ.length
      · rw [List.getElem?_set_self hl] at h
        cases h
        refine ⟨p, by rw [List.getElem?_set_self (by rw [S.len]; exact hl)], ?_, nFp, ho⟩
        exact back_none S.w S.ex hp
      · rw [List.getElem?_eq_none (by simpa using hl)] at h; cases h
    · rw [List.getElem?_set_ne ej] at h ⊢
      exact S1.own j d' h
  · by_cases ej : i = j
    · by_cases ek : i = k
      · exact ej.symm.trans ek
      · subst ej
        have hl : i < σ.length := by
          refine Decidable.byContradiction fun hl => ?_
          rw [List.getElem?_eq_none (by simpa using hl)] at h3; cases h3
        rw [List.getElem?_set_self hl] at h3
        cases h3
        rw [List.getElem?_set_ne ek] at h2 h4
        exact absurd rfl (hold k p dk h2 h4)
    · by_cases ek : i = k
      · subst ek
        have hl : i < σ.length := by
          refine Decidable.byContradiction fun hl => ?_
          rw [List.getElem?_eq_none (by simpa using hl)] at h4; cases h4
        rw [List.getElem?_set_self hl] at h4
        cases h4
        rw [List.getElem?_set_ne ej] at h1 h3
        exact absurd rfl (hold j p dj h1 h3)
      · rw [List.getElem?_set_ne ej] at h1 h3
        rw [List.getElem?_set_ne ek] at h2 h4
        exact S.inj j k dj dk l h1 h2 h3 h4
  · by_cases ej : i = j
    · subst ej
      by_cases hl : i < ρ.length
      · rw [List.getElem?_set_self hl] at h; cases h
      · rw [List.getElem?_eq_none (by simpa using hl)] at h; cases h
    · rw [List.getElem?_set_ne ej] at h ⊢
      obtain ⟨u, h1, h2⟩ := S.sh j d' h
      refine ⟨u, h1, ?_⟩
      have m := (show WR B (hidH F σ ρ fun _ => True) H w from (S.w.sub fun _ z => .inl z)).mo e
      have hs : ∀ a o, H a = some o → ¬ hidH F σ ρ (fun _ => True) a → ¬ hidH F (σ.set i (some (.ref p))) (ρ.set i (.ow d)) (fun _ => True) a := fun a o ha hn z => by
        rcases z with z | ⟨k, dk, _, h3, h4⟩
        · exact hn (.inl z)
        · by_cases ek : i = k
          · subst ek
            have hl : i < σ.length := by
              refine Decidable.byContradiction fun hl => ?_
              rw [List.getElem?_eq_none (by simpa using hl)] at h4; cases h4
            rw [List.getElem?_set_self hl] at h4
            cases h4
            rw [hp] at ha; cases ha
          · rw [List.getElem?_set_ne ek] at h3 h4
            exact hn (.inr ⟨k, dk, trivial, h3, h4⟩)
      refine Rp.mo ⟨m.tup, fun a vs q hq => ⟨hs a _ hq q, (m.lst a vs q hq).2⟩, fun a kvs q hq => ⟨?_, (m.dT a kvs q hq).2⟩, fun a kvs q hq => ⟨?_, (m.dK a kvs q hq).2⟩, m.ex⟩ d' u h2
      · rcases hq with hq | ⟨o, hq⟩
        · exact hs a _ hq q
        · exact hs a _ hq q
      · rcases hq with hq | ⟨o, hq⟩
        · exact hs a _ hq q
        · exact hs a _ hq q
/-- an owned list or dict is changed -/
theorem SEnv.mut (S : SEnv B F H0 H σ ρ w) {i : Nat} {l : Addr} {d d' : D} {o : HO} (hi : ρ[i]? = some (.ow d)) (hl : σ[i]? = some (some (.ref l))) (ho : OwnAt B (upd H l o) l d') : SEnv B F H0 (upd H l o) σ (ρ.set i (.ow d')) w := by
  obtain ⟨l', h1, h2, h3, h4⟩ := S.own i d hi
  rw [hl] at h1
  cases h1
  obtain ⟨oo, h5, h6⟩ := h4.has
  have hir : i < ρ.length := (List.getElem?_eq_some_iff.mp hi).1
  have ht : ∀ a vs, H a = some (.tup vs) → upd H l o a = some (.tup vs) := fun a vs q => by
    rw [upd_ne]
    · exact q
    · intro z; subst z; rw [q] at h5; cases h5; exact h6.1 vs rfl
  have hx : ∀ a φ, H a = some (.ext φ) → upd H l o a = some (.ext φ) := fun a vs q => by
    rw [upd_ne]
    · exact q
    · intro z; subst z; rw [q] at h5; cases h5; exact h6.2 vs rfl
  have how : ∀ (j : Nat) (dj : D), (ρ.set i (.ow d'))[j]? = some (.ow dj) → ∃ dd, ρ[j]? = some (.ow dd) ∧ (i ≠ j → dd = dj) := fun j dj h => by
    by_cases e : i = j
    · subst e; exact ⟨d, hi, fun z => absurd rfl z⟩
    · rw [List.getElem?_set_ne e] at h; exact ⟨dj, h, fun _ => rfl⟩
  have hsub : ∀ a, hidH F σ (ρ.set i (.ow d')) (fun _ => True) a → hidH F σ ρ (fun _ => True) a := fun a z => by
    rcases z with z | ⟨j, dj, _, q1, q2⟩
    · exact .inl z
    · obtain ⟨dd, q3, _⟩ := how j dj q1
      exact .inr ⟨j, dd, trivial, q3, q2⟩
  have hlh : hidH F σ ρ (fun _ => True) l := .inr ⟨i, d, trivial, hi, hl⟩
  refine ⟨fun a u q q1 q2 => ?_, S.w.put (S.nd h3).1 (S.nd h3).2 h4.soft, fun a z => ?_, by simpa using S.len, fun j dj h => ?_, fun j k dj dk m q1 q2 q3 q4 => ?_, fun j dj h => ?_⟩
  · rw [upd_ne (fun z => by rw [z, h2] at q; cases q)]
    exact S.ex a u q q1 q2
  · obtain ⟨u, q⟩ := S.f a z
    have hne : a ≠ l := fun e => h3 (by rw [← e]; exact z)
    rw [upd_ne hne]
    exact ⟨u, q⟩
  · by_cases e : i = j
    · subst e
      rw [List.getElem?_set_self hir] at h
      cases h
      exact ⟨l, hl, h2, h3, ho⟩
    · rw [List.getElem?_set_ne e] at h
      obtain ⟨m, q1, q2, q3, q4⟩ := S.own j dj h
      have hne : m ≠ l := fun z => e (S.inj i j d dj l hi h hl (z ▸ q1))
      exact ⟨m, q1, q2, q3, q4.mo (upd_ne hne) ht hx⟩
  · obtain ⟨d1, z1, _⟩ := how j dj q1
    obtain ⟨d2, z2, _⟩ := how k dk q2
    exact S.inj j k d1 d2 m z1 z2 q3 q4
  · by_cases e : i = j
    · subst e
      rw [List.getElem?_set_self hir] at h; cases h
    · rw [List.getElem?_set_ne e] at h
      obtain ⟨u, q1, q2⟩ := S.sh j dj h
      have hnl : ∀ a, ¬ hidH F σ ρ (fun _ => True) a → a ≠ l := fun a p z => p (by rw [z]; exact hlh)
      refine ⟨u, q1, Rp.mo ⟨ht, fun a vs p q => ⟨fun z => p (hsub a z), ?_⟩, fun a kvs p q => ⟨fun z => p (hsub a z), ?_⟩, fun a kvs p q => ⟨fun z => p (hsub a z), ?_⟩, hx⟩ dj u q2⟩
      · rw [upd_ne (hnl a p)]; exact q
      · rcases q with q | ⟨oq, q⟩
        · exact .inl (by rw [upd_ne (hnl a p)]; exact q)
        · exact .inr ⟨oq, by rw [upd_ne (hnl a p)]; exact q⟩
      · rcases q with q | ⟨oq, q⟩
        · exact .inl (by rw [upd_ne (hnl a p)]; exact q)
        · exact .inr ⟨oq, by rw [upd_ne (hnl a p)]; exact q⟩
/-- a slot is emptied -/
theorem SEnv.wipe1 (S : SEnv B F H0 H σ ρ w) (i : Nat) (x : Option V) : SEnv B F H0 H (σ.set i x) (ρ.set i .no) w := by
  have how : ∀ (j : Nat) (s : Slot), (ρ.set i .no)[j]? = some s → s ≠ .no → i ≠ j ∧ ρ[j]? = some s := fun j s h hs => by
    by_cases e : i = j
    · subst e
      by_cases hl : i < ρ.length
      · rw [List.getElem?_set_self hl] at h; cases h; exact absurd rfl hs
      · rw [List.getElem?_eq_none (by simpa using hl)] at h; cases h
    · rw [List.getElem?_set_ne e] at h; exact ⟨e, h⟩
  have hs : ∀ a, hidH F (σ.set i x) (ρ.set i .no) (fun _ => True) a → hidH F σ ρ (fun _ => True) a := fun a z => by
    rcases z with z | ⟨j, d', _, h1, h2⟩
    · exact .inl z
    · obtain ⟨h3, h4⟩ := how j _ h1 (by simp)
      rw [List.getElem?_set_ne h3] at h2
      exact .inr ⟨j, d', trivial, h4, h2⟩
  refine ⟨S.ex, S.w, S.f, by simpa using S.len, fun j d' h => ?_, fun j k dj dk l h1 h2 h3 h4 => ?_, fun j d' h => ?_⟩
  · obtain ⟨h1, h2⟩ := how j _ h (by simp)
    rw [List.getElem?_set_ne h1]
    exact S.own j d' h2
  · obtain ⟨h5, h6⟩ := how j _ h1 (by simp)
    obtain ⟨h7, h8⟩ := how k _ h2 (by simp)
    rw [List.getElem?_set_ne h5] at h3
    rw [List.getElem?_set_ne h7] at h4
    exact S.inj j k dj dk l h6 h8 h3 h4
  · obtain ⟨h1, h2⟩ := how j _ h (by simp)
    rw [List.getElem?_set_ne h1]
    obtain ⟨u, h3, h4⟩ := S.sh j d' h2
    exact ⟨u, h3, Rp.mo (mo_sub hs) d' u h4⟩
end
end SF

namespace SF
open PySem L2
abbrev EvS := SF.Env → W → R Fl
def GotS (C : Nat → Value) (Wx : WX) (B : Bk C) (F : Addr → Prop) (H0 : Hp) (D : Ends) : R Fl → Prop
  | .ok (.nx ρ') w' => ∀ σ' H', SEnv B F H0 H' σ' ρ' w' → D.nx σ' H'
  | .ok (.rt d) w' => ∀ v H', Ext B H0 H' → WR B F H' w' → Rp B F H' v d → D.rt v H'
  | .ok (.xc c ρ') w' => ∀ σ' H', SEnv B F H0 H' σ' ρ' w' → Wx (C c) none σ' H'
  | _ => False
/-- a statement that does f -/
def tSD (C : Nat → Value) (Wx : WX) (f : EvS) : TS := fun D σ H => ∃ B F H0 ρ w, SEnv B F H0 H σ ρ w ∧ GotS C Wx B F H0 D (f ρ w)
section
variable {X : Cx} {C : Nat → Value} {Wx : WX} {a b c e : Expr} {es : List Expr} {fa fb fc fe f : Ev D} {fas fi : Ev (List D)} {fs ft fu : EvS} {pos : Pos}
variable {B : Bk C} {F P : Addr → Prop} {H0 H H1 : Hp} {σ : L2.St} {ρ : SF.Env} {w w1 : W} {D : Ends}
theorem GotS.st {α β : Type} {rel : Hp → β → α → Prop} {K : β → Hp → Prop} {x : R α} {k : α → W → R Fl} (S : SEnv B F H0 H σ ρ w) (G : GotS C Wx B F H0 D (x.st ρ k))
    (hk : ∀ d w1 v H1, Ext B H H1 → WR B P H1 w1 → rel H1 v d → GotS C Wx B F H0 D (k d w1) → K v H1) : Got C Wx B P σ rel H K x := by
  cases x with
  | ok d w1 => exact fun v H1 e W r => hk d w1 v H1 e W r G
  | exc c w1 => exact fun H1 e W => G σ H1 (S.ext e W)
  | bad => exact G
theorem GotS.stT {K : Bool → Hp → Prop} {x : R SF.D} {k : SF.D → W → R Fl} (S : SEnv B F H0 H σ ρ w) (G : GotS C Wx B F H0 D (x.st ρ k)) (hb : ∀ d w, (∀ b, d ≠ .bl b) → k d w = .bad)
    (hk : ∀ b w1 H1, Ext B H H1 → WR B P H1 w1 → GotS C Wx B F H0 D (k (.bl b) w1) → K b H1) : GotT C Wx B P σ H K x := by
  cases x with
  | ok d w1 =>
    have G : GotS C Wx B F H0 D (k d w1) := G
    by_cases hd : ∃ b, d = .bl b
    · obtain ⟨b, rfl⟩ := hd
      exact ⟨b, rfl, fun H1 e W => hk b w1 H1 e W G⟩
    · rw [hb d w1 fun b z => hd ⟨b, z⟩] at G
      exact G.elim
  | exc c w1 => exact fun H1 e W => G σ H1 (S.ext e W)
  | bad => exact G
theorem hid_nil : ∀ a, hidH F σ ρ (· ∈ ([] : List Nat)) a ↔ F a := fun a => ⟨fun z => z.elim id fun ⟨i, _, h, _⟩ => by simp at h, .inl⟩
theorem SEnv.sit0 (S : SEnv B F H0 H σ ρ w) : Sit B F H σ ρ w := by
  have h := S.sit []
  refine ⟨h.len, fun i d hi => ?_, S.w, S.f⟩
  obtain ⟨v, h1, h2⟩ := h.r i d hi
  exact ⟨v, h1, Rp.mo (mo_sub fun a z => (hid_nil a).mpr z) d v h2⟩
/-! ### assignments -/
def fAsg (i : Nat) (f : Ev SF.D) (hd : List Nat) : EvS := fun ρ w => (f (hide ρ hd) w).st ρ fun d w => .ok (.nx ((SF.thaw d hd ρ).set i (.sh d))) w
def fAsgO (i : Nat) (f : Ev SF.D) (hd : List Nat) : EvS := fun ρ w => (f (hide ρ hd) w).st ρ fun d w => if ownable d then .ok (.nx (ρ.set i (.ow d))) w else .bad
theorem asg_read {i : Nat} {hd : List Nat} (h : tSD C Wx (fAsg i f hd) D σ H) : tAsg (tD C Wx f) (gName i) D σ H := by
  obtain ⟨B, F, H0, ρ, w, S, G⟩ := h
  refine ⟨B, _, hide ρ hd, w, S.sit hd, GotS.st S G fun d w1 v H1 e1 W1 r1 G1 => ?_⟩
  obtain ⟨h1, h2⟩ := (S.ext e1 W1).thaw r1
  exact G1 _ _ (h1.set h2)
theorem ownAt_of {P : Addr → Prop} {p : Addr} {d : SF.D} (ho : ownable d = true) (r : Rp B P H1 (.ref p) d) (hne : ∀ o u, H1 p ≠ some (.frz o u)) : OwnAt B H1 p d := by
  cases r with
  | lst p1 h1 s1 => exact ⟨_, h1, Rps.flat (fun _ _ z => z) (fun _ _ z => z) _ _ (by simpa [ownable] using ho) s1⟩
  | dK p1 h1 s1 =>
    rcases h1 with h1 | ⟨o, h1⟩
    · refine ⟨_, h1, ?_⟩
      simp only [ownable] at ho
      clear h1
      have : ∀ {kds : List (Int × SF.D)} {kvs : List (Key × V)}, RpK B P H1 kvs kds → flats (kds.map (·.2)) = true → RpK B (fun _ => True) H1 kvs kds := by
        intro kds
        induction kds with
        | nil => intro kvs r _; cases r; exact .nil
        | cons kd kds ih =>
          intro kvs r hf
          cases r with
          | cons r rs =>
            simp [flats] at hf
            exact .cons (Rp.flat (fun _ _ z => z) (fun _ _ z => z) _ _ hf.1 r) (ih rs hf.2)
      exact this s1 ho
    · exact absurd h1 (hne _ _)
  | dT p1 h1 s1 =>
    rcases h1 with h1 | ⟨o, h1⟩
    · refine ⟨_, h1, ?_⟩
      simp only [ownable] at ho
      clear h1
      have : ∀ {kds : List (List Int × SF.D)} {kvs : List (List Key × V)}, RpT B P H1 kvs kds → flats (kds.map (·.2)) = true → RpT B (fun _ => True) H1 kvs kds := by
        intro kds
        induction kds with
        | nil => intro kvs r _; cases r; exact .nil
        | cons kd kds ih =>
          intro kvs r hf
          cases r with
          | cons r rs =>
            simp [flats] at hf
            exact .cons (Rp.flat (fun _ _ z => z) (fun _ _ z => z) _ _ hf.1 r) (ih rs hf.2)
      exact this s1 ho
    · exact absurd h1 (hne _ _)
  | _ => simp [ownable] at ho
theorem asgO_read {i : Nat} {hd : List Nat} (h : tSD C Wx (fAsgO i f hd) D σ H) : tAsg (tN C Wx f) (gName i) D σ H := by
  obtain ⟨B, F, H0, ρ, w, S, G⟩ := h
  refine ⟨B, _, hide ρ hd, w, S.sit hd, GotS.st S G fun d w1 v H1 e1 W1 r1 G1 => ?_⟩
  obtain ⟨p, rfl, hp, r, hz⟩ := r1
  by_cases ho : ownable d = true
  · rw [if_pos ho] at G1
    exact G1 _ _ (S.setOwn e1 W1 hp (ownAt_of ho r hz))
  · rw [if_neg ho] at G1; exact G1.elim
theorem ps_asgD {i : Nat} {hd : List Nat} {x : Str} {pos' : Pos} (hN : X.N.Nodup) (hi : X.N[i]? = some x) (hx : Loc X.env.scope x) (he : PE X e (tD C Wx f)) (hs : swapsWith e (some (.Name x pos')) pos.line X.env = pure false) (hf : X.fn x = true ∨ X.env.scope.names.lookup x = some .local) :
    PS X (.Assign [.Name x pos'] e pos) (tSD C Wx (fAsg i f hd)) := (ps_set hN hi hx he hs hf).imp fun D σ H h => asg_read h
theorem ps_asgOD {i : Nat} {hd : List Nat} {x : Str} {pos' : Pos} (hN : X.N.Nodup) (hi : X.N[i]? = some x) (hx : Loc X.env.scope x) (he : PE X e (tN C Wx f)) (hs : swapsWith e (some (.Name x pos')) pos.line X.env = pure false) (hf : X.fn x = true ∨ X.env.scope.names.lookup x = some .local) :
    PS X (.Assign [.Name x pos'] e pos) (tSD C Wx (fAsgO i f hd)) := (ps_set hN hi hx he hs hf).imp fun D σ H h => asgO_read h
/-- from a new object to any value -/
theorem tAsg_N {i : Nat} (h : tAsg (tD C Wx f) (gName i) D σ H) : tAsg (tN C Wx f) (gName i) D σ H := by
  obtain ⟨B, P, ρ, w, S, G⟩ := h
  refine ⟨B, P, ρ, w, S, ?_⟩
  cases hf : f ρ w with
  | ok d w' =>
    rw [hf] at G
    exact fun v H' e' W' ⟨p, _, _, r, _⟩ => G v H' e' W' r
  | exc c w' => rw [hf] at G; exact G
  | bad => rw [hf] at G; exact G
section
variable {elt tg iter : Expr} {ifs : List Expr} {scope : Scope} {own : List (Str × Nat)} {g : TG} {tgD : Tg}
theorem ps_asgLc {i : Nat} {hd : List Nat} {y : Str} {py spos : Pos} (hc : X.calm = true) (hN : X.N.Nodup) (hy : X.N[i]? = some y) (hyl : X.env.scope.names.lookup y = some .local)
    (hsw : swapsWith (.ListComp elt [⟨tg, iter, ifs, 0⟩] scope pos) (some (.Name y py)) spos.line X.env = pure true) (hi : PI X tg iter (tI C Wx fi)) (ok : BlkOk X.N X.env.scope scope own)
    (hg : ∀ (s : Shared) (H : Hp) (Ca : Addr) (cl : List (Str × Addr)) (fp : List Addr), PG (X.blk s H scope (compEnvC scope cl Ca X.env) fp) tg g) (ht : ∀ (s : Shared) (H : Hp) (Ca : Addr) (cl : List (Str × Addr)) (fp : List Addr), PTs (X.blk s H scope (compEnvC scope cl Ca X.env) fp) ifs (tT C W0 fc))
    (he : ∀ (s : Shared) (H : Hp) (Ca : Addr) (cl : List (Str × Addr)) (fp : List Addr), PE (X.blk s H scope (compEnvC scope cl Ca X.env) fp) elt (tD C W0 fe)) (hs : okE iter = true) (hgt : TgR g tgD) (hto : tgIn tgD (own.map (·.2)) = true) (o : Bool) :
    PS X (.Assign [.Name y py] (.ListComp elt [⟨tg, iter, ifs, 0⟩] scope pos) spos) (tSD C Wx (if o then fAsgO i (fLc fi tgD fc fe (own.map (·.2))) hd else fAsg i (fLc fi tgD fc fe (own.map (·.2))) hd)) :=
  (ps_setLc hc hN hy hyl hsw hi ok hg ht he (fold_ok hs)).imp fun D σ H h => by
    have h' : tAsg (tN C Wx (fLc fi tgD fc fe (own.map (·.2)))) (gName i) D σ H := by
      cases o with
      | true => exact asgO_read h
      | false => exact tAsg_N (asg_read h)
    exact lc_read hgt hto h'
end
/-! a, b = e -/
theorem Stores.senv {σ' : L2.St} {ρ' : SF.Env} {is : List Nat} {P : Addr → Prop} (s : Stores B P H σ ρ σ' ρ' is) (S : SEnv B F H0 H σ ρ w) (hP : ∀ a, hidH F σ ρ (fun _ => True) a → P a) : SEnv B F H0 H σ' ρ' w ∧ ∀ a, hidH F σ' ρ' (fun _ => True) a → P a := by
  induction s with
  | nil => exact ⟨S, hP⟩
  | @snoc σ1 ρ1 is i v d s r ih =>
    refine ⟨ih.1.set (Rp.mo (mo_sub ih.2) _ _ r), fun a z => ih.2 a ?_⟩
    rcases z with z | ⟨j, d', _, h1, h2⟩
    · exact .inl z
    · by_cases e : i = j
      · subst e
        by_cases hl : i < ρ1.length
        · rw [List.getElem?_set_self hl] at h1; cases h1
        · rw [List.getElem?_eq_none (by simpa using hl)] at h1; cases h1
      · rw [List.getElem?_set_ne e] at h1 h2
        exact .inr ⟨j, d', trivial, h1, h2⟩
def fAsgT (is : List Nat) (f : Ev SF.D) (hd : List Nat) : EvS := fun ρ w => (f (hide ρ hd) w).st ρ fun d w => match d with
  | .tup ds => opt ((binds is ds (SF.thaw d hd ρ)).map .nx) w
  | .lst ds => opt ((binds is ds (SF.thaw d hd ρ)).map .nx) w
  | _ => .bad
def gTL (K : PySem.W.Frag) (is : List Nat) : TG := fun v σ H Q => gTup K is.length (gNames is) v σ H Q ∨ gLst K is.length (gNames is) v σ H Q
theorem binds_len : ∀ (is : List Nat) (ds : List SF.D) (ρ ρ' : SF.Env), binds is ds ρ = some ρ' → ds.length = is.length := by
  intro is
  induction is with
  | nil => intro ds ρ ρ' h; cases ds <;> simp [binds] at h ⊢
  | cons i is ih =>
    intro ds ρ ρ' h
    cases ds with
    | nil => simp [binds] at h
    | cons d ds => simp only [binds] at h; simp [ih ds _ _ h]
theorem asgT_read {K : PySem.W.Frag} {is hd : List Nat} (h : tSD C Wx (fAsgT is f hd) D σ H) : tAsg (tD C Wx f) (gTL K is) D σ H := by
  obtain ⟨B, F, H0, ρ, w, S, G⟩ := h
  refine ⟨B, _, hide ρ hd, w, S.sit hd, GotS.st S G fun d w1 v H1 e1 W1 r1 G1 => ?_⟩
  have main : ∀ {ds : List SF.D} {vs : List V} {ρ' : SF.Env}, Rps B (hidH F σ ρ (· ∈ hd)) H1 vs ds → (flat d = true → flats ds = true) → binds is ds (SF.thaw d hd ρ) = some ρ' → (∀ σ' H', SEnv B F H0 H' σ' ρ' w1 → D.nx σ' H') → gNames is vs σ H1 D.nx := by
    intro ds vs ρ' rs hfl hb k
    obtain ⟨h1, _⟩ := (S.ext e1 W1).thaw r1
    have rs' : Rps B (hidH F σ (SF.thaw d hd ρ) fun _ => True) H1 vs ds := by
      unfold SF.thaw
      split
      · rename_i hf
        exact Rps.flat (fun _ _ z => z) (fun _ _ z => z) _ _ (hfl hf) rs
      · exact Rps.mo (mo_sub fun a z => (hid_freeze hd a).mp z) _ _ rs
    exact gNames_read is is σ (SF.thaw d hd ρ) [] rs' hb .nil (by simp) (fun _ z => z) fun σ' is' st _ => k _ _ (st.senv h1 fun _ z => z).1
  cases r1 with
  | @tup ad vs ds h1 s1 =>
    left
    cases hb : binds is ds (SF.thaw (.tup ds) hd ρ) with
    | none => simp only [hb] at G1; exact G1.elim
    | some ρ' =>
      simp only [hb] at G1
      exact ⟨_, _, rfl, SqT.of h1, by rw [s1.length]; exact binds_len _ _ _ _ hb, main s1 (by simp [flat]) hb G1⟩
  | @lst ad vs ds p1 h1 s1 =>
    right
    cases hb : binds is ds (SF.thaw (.lst ds) hd ρ) with
    | none => simp only [hb] at G1; exact G1.elim
    | some ρ' =>
      simp only [hb] at G1
      exact ⟨_, _, rfl, SqL.of h1, by rw [s1.length]; exact binds_len _ _ _ _ hb, main s1 (by simp [flat]) hb G1⟩
  | _ => exact G1.elim
theorem ps_asgTD {is hd : List Nat} {tg : Expr} (hg : PG X tg (gTL X.K is)) (he : PE X e (tD C Wx f)) (hs : swapsWithSole [tg] e pos.line X.env = pure false) (hw : swappedStores [tg] e X.env = pure none) (h1 : (assignEach [tg] X.env).map (·.2) = [assign tg X.env]) :
    PS X (.Assign [tg] e pos) (tSD C Wx (fAsgT is f hd)) := (ps_asg he hg hs hw h1).imp fun D σ H h => asgT_read h
/-! a, b = x, y -/
def fPar (i j : Nat) (fa fb : Ev SF.D) (hd : List Nat) : EvS := fun ρ w => (fa (hide ρ hd) w).st ρ fun x w => (fb (hide ρ hd) w).st ρ fun y w =>
  .ok (.nx (((SF.thaw (.tup [x, y]) hd ρ).set i (.sh x)).set j (.sh y))) w
theorem par_read {i j : Nat} {hd : List Nat} (h : tSD C Wx (fPar i j fa fb hd) D σ H) : tPar i j (tCons (tD C Wx fa) (tCons (tD C Wx fb) tNil)) D σ H := by
  obtain ⟨B, F, H0, ρ, w, S, G⟩ := h
  refine ⟨B, _, hide ρ hd, w, S.sit hd, GotS.st S G fun x w1 v H1 e1 W1 r1 G1 => ?_⟩
  have S1 := S.ext e1 W1
  refine ⟨B, _, hide ρ hd, w1, S1.sit hd, GotS.st S1 G1 fun y w2 u H2 e2 W2 r2 G2 => ⟨v, u, rfl, ?_⟩⟩
  have S2 := S1.ext e2 W2
  have r1' := r1.ext W1 e2
  refine G2 _ _ ?_
  have key : SEnv B F H0 H2 σ (SF.thaw (.tup [x, y]) hd ρ) w2 ∧ Rp B (hidH F σ (SF.thaw (.tup [x, y]) hd ρ) fun _ => True) H2 v x ∧ Rp B (hidH F σ (SF.thaw (.tup [x, y]) hd ρ) fun _ => True) H2 u y := by
    unfold SF.thaw
    split
    · rename_i hf
      simp [flat, flats] at hf
      exact ⟨S2, Rp.flat (fun _ _ z => z) (fun _ _ z => z) _ _ hf.1 r1', Rp.flat (fun _ _ z => z) (fun _ _ z => z) _ _ hf.2 r2⟩
    · exact ⟨S2.freeze hd, Rp.mo (mo_sub fun a z => (hid_freeze hd a).mp z) _ _ r1', Rp.mo (mo_sub fun a z => (hid_freeze hd a).mp z) _ _ r2⟩
  obtain ⟨k1, k2, k3⟩ := key
  have st : Stores B (hidH F σ (SF.thaw (.tup [x, y]) hd ρ) fun _ => True) H2 σ (SF.thaw (.tup [x, y]) hd ρ) ((σ.set i (some v)).set j (some u)) (((SF.thaw (.tup [x, y]) hd ρ).set i (.sh x)).set j (.sh y)) [i, j] := .snoc (is := [i]) (.snoc (is := []) .nil k2) k3
  exact (st.senv k1 fun _ z => z).1
/-! x op= e -/
def fAug (i : Nat) (g : SF.D → SF.D → Option SF.D) (f : Ev SF.D) : EvS := fun ρ w => match getS ρ i with
  | some x => (f ρ w).st ρ fun y w => (opt (g x y) w).st ρ fun z w => if flat z then .ok (.nx (ρ.set i (.sh z))) w else .bad
  | none => .bad
theorem ps_augD {i : Nat} {x : Str} {op : Operator} {g : SF.D → SF.D → Option SF.D} {pos' : Pos} (hN : X.N.Nodup) (hi : X.N[i]? = some x) (hx : Loc X.env.scope x) (he : PE X e (tD C Wx f)) (ho : PIp X op (rD g)) (hf : X.fn x = true ∨ X.env.scope.names.lookup x = some .local) :
    PS X (.AugAssign (.Name x pos') op e pos) (tSD C Wx (fAug i g f)) := (ps_aug hN hi hx he ho hf).imp fun D σ H h => by
  obtain ⟨B, F, H0, ρ, w, S, G⟩ := h
  unfold fAug at G
  cases hx : getS ρ i with
  | none => rw [hx] at G; exact G.elim
  | some x0 =>
    rw [hx] at G
    obtain ⟨v0, h1, r0⟩ := S.sit0.r i x0 hx
    refine ⟨v0, h1, B, _, ρ, w, S.sit0, GotS.st S G fun y w1 u H1 e1 W1 r1 G1 => ?_⟩
    cases hg : g x0 y with
    | none => simp only [hg, opt_none, st_bad] at G1; exact G1.elim
    | some z =>
      simp only [hg, opt_some, st_ok] at G1
      refine ⟨_, B, F, w1, x0, y, z, W1, (S.ext e1 W1).f, r0.ext S.w e1, r1, hg, fun v2 H2 e2 W2 r2 => ?_⟩
      split at G1
      · rename_i hfl
        exact G1 _ _ (((S.ext e1 W1).ext e2 W2).set (Rp.flat (fun _ _ z => z) (fun _ _ z => z) _ _ hfl r2))
      · exact G1.elim
theorem ownList_some {i : Nat} {xs : List SF.D} (h : ownList ρ i = some xs) : ρ[i]? = some (.ow (.lst xs)) := by
  unfold ownList at h
  cases e : ρ[i]? with
  | none => rw [e] at h; simp at h
  | some sl =>
    rw [e] at h
    cases sl with
    | no => simp at h
    | sh d => simp at h
    | ow d =>
      cases d with
      | lst ys => simp at h; rw [h]
      | _ => simp at h
/-- x += e, a list -/
def fExt (i : Nat) (f : Ev SF.D) : EvS := fun ρ w => match ownList ρ i with
  | some xs => (f ρ w).st ρ fun y w => match y with
    | .lst ys => if flats ys && decide (xs.length + ys.length ≤ LIM) then .ok (.nx (ρ.set i (.ow (.lst (xs ++ ys))))) w else .bad
    | _ => .bad
  | none => .bad
theorem set_self {σ : L2.St} {i : Nat} {v : V} (h : σ[i]? = some (some v)) : σ.set i (some v) = σ := by
  refine List.ext_getElem? fun j => ?_
  by_cases e : i = j
  · subst e
    rw [List.getElem?_set_self (List.getElem?_eq_some_iff.mp h).1, h]
  · rw [List.getElem?_set_ne e]
theorem ps_extD {i : Nat} {x : Str} {pos' : Pos} (hN : X.N.Nodup) (hi : X.N[i]? = some x) (hx : Loc X.env.scope x) (he : PE X e (tD C Wx f)) (hf : X.fn x = true ∨ X.env.scope.names.lookup x = some .local) :
    PS X (.AugAssign (.Name x pos') .Add e pos) (tSD C Wx (fExt i f)) := (ps_aug hN hi hx he (show PIp X .Add rExt2 from iop_ext) hf).imp fun D σ H h => by
  obtain ⟨B, F, H0, ρ, w, S, G⟩ := h
  unfold fExt at G
  cases hx : ownList ρ i with
  | none => rw [hx] at G; exact G.elim
  | some xs =>
    rw [hx] at G
    have hx := ownList_some hx
    obtain ⟨l, h1, h2, h3, h4⟩ := S.own i _ hx
    refine ⟨_, h1, B, _, ρ, w, S.sit0, GotS.st S G fun y w1 u H1 e1 W1 r1 G1 => ?_⟩
    have S1 := S.ext e1 W1
    obtain ⟨l', h1', _, _, h4'⟩ := S1.own i _ hx
    rw [h1] at h1'
    cases h1'
    obtain ⟨vs, hv, rv⟩ := h4'
    cases r1 with
    | @lst b us ys p1 hb sb =>
      simp only at G1
      split at G1
      · rename_i c
        simp only [Bool.and_eq_true, decide_eq_true_eq] at c
        refine ⟨l, b, vs, us, rfl, rfl, hv, hb, by rw [rv.length, sb.length]; exact lim_le c.2, ?_⟩
        show D.nx (σ.set i (some (.ref l))) _
        rw [set_self h1]
        refine G1 _ _ (S1.mut hx h1 ⟨_, upd_same, ?_⟩)
        have ht : ∀ a zs, H1 a = some (.tup zs) → upd H1 l (.lst (vs ++ us)) a = some (.tup zs) := fun a zs q => by
          rw [upd_ne (fun z => by rw [z, hv] at q; cases q)]; exact q
        have hx' : ∀ a φ, H1 a = some (.ext φ) → upd H1 l (.lst (vs ++ us)) a = some (.ext φ) := fun a zs q => by
          rw [upd_ne (fun z => by rw [z, hv] at q; cases q)]; exact q
        refine Rps.append (Rps.mo ⟨ht, fun _ _ p => absurd trivial p, fun _ _ p => absurd trivial p, fun _ _ p => absurd trivial p, hx'⟩ _ _ rv) (Rps.flat ht hx' _ _ c.1 sb)
      · exact G1.elim
    | _ => exact G1.elim
/-- x.append(e) -/
def fApp (i : Nat) (f : Ev SF.D) : EvS := fun ρ w => match ownList ρ i with
  | some xs => (f ρ w).st ρ fun y w => if flat y && decide (xs.length < LIM) then .ok (.nx (ρ.set i (.ow (.lst (xs ++ [y]))))) w else .bad
  | none => .bad
theorem ps_appD {i : Nat} {x : Str} {p1 apos cpos : Pos} (hN : X.N[i]? = some x) (hv : Vis X.env.scope x) (hd : (x == ("__debug__" : Str)) = false) (hcd : (x == ("__classdict__" : Str)) = false) (he : PE X e (tD C Wx f)) (hs : okE e = true) (hline : (apos.endLine == cpos.line) = true) :
    PS X (.Expr (.Call (.Attribute (.Name x p1) "append" apos) [e] [] cpos) pos) (tSD C Wx (fApp i f)) := by
  have hstar := star_ok (es := []) (env := X.env) hs
  refine (ps_expr (pe_bm PySem.F.plainAttrs_list PySem.F.slot_list_append PySem.F.type_list_append mt_append (pe_var hN hv hd hcd) (pa_cons he pa_nil hstar) rfl ?_ hline hstar rfl)).imp fun D σ H h => ?_
  · rw [hstar]; rfl
  obtain ⟨B, F, H0, ρ, w, S, G⟩ := h
  unfold fApp at G
  cases hx : ownList ρ i with
  | none => rw [hx] at G; exact G.elim
  | some xs =>
    rw [hx] at G
    have hx := ownList_some hx
    obtain ⟨l, h1, h2, h3, h4⟩ := S.own i _ hx
    obtain ⟨vs0, hv0, rv0⟩ := id h4
    refine ⟨_, h1, .inl ⟨rfl, _, SqL.of hv0⟩, B, _, ρ, w, S.sit0, GotS.st S G fun y w1 u H1 e1 W1 r1 G1 => ?_⟩
    have S1 := S.ext e1 W1
    obtain ⟨l', h1', _, _, h4'⟩ := S1.own i _ hx
    rw [h1] at h1'
    cases h1'
    obtain ⟨vs, hv, rv⟩ := h4'
    split at G1
    · rename_i c
      simp only [Bool.and_eq_true, decide_eq_true_eq] at c
      refine ⟨l, vs, u, rfl, rfl, hv, lim_lt (by rw [rv.length]; exact c.2), ?_⟩
      refine G1 _ _ (S1.mut hx h1 ⟨_, upd_same, ?_⟩)
      have ht : ∀ a zs, H1 a = some (.tup zs) → upd H1 l (.lst (vs ++ [u])) a = some (.tup zs) := fun a zs q => by
        rw [upd_ne (fun z => by rw [z, hv] at q; cases q)]; exact q
      have hx' : ∀ a φ, H1 a = some (.ext φ) → upd H1 l (.lst (vs ++ [u])) a = some (.ext φ) := fun a zs q => by
        rw [upd_ne (fun z => by rw [z, hv] at q; cases q)]; exact q
      exact Rps.append (Rps.mo ⟨ht, fun _ _ p => absurd trivial p, fun _ _ p => absurd trivial p, fun _ _ p => absurd trivial p, hx'⟩ _ _ rv) (.cons (Rp.flat ht hx' _ _ c.1 r1) .nil)
    · exact G1.elim
/-! ### the plain statements -/
theorem pss_nilD : PSs X [] (tSD C Wx fun ρ w => .ok (.nx ρ) w) := pss_nil.imp fun D σ H ⟨B, F, H0, ρ, w, S, G⟩ => G _ _ S
theorem pss_consD {st : Stmt} {rest : List Stmt} (h1 : PS X st (tSD C Wx ft)) (h2 : PSs X rest (tSD C Wx fu)) : PSs X (st :: rest) (tSD C Wx fun ρ w => (ft ρ w).sq fun ρ w => fu ρ w) :=
  (pss_cons h1 h2).imp fun D σ H ⟨B, F, H0, ρ, w, S, G⟩ => by
    refine ⟨B, F, H0, ρ, w, S, ?_⟩
    dsimp only at G
    cases hf : ft ρ w with
    | ok fl w1 =>
      rw [hf] at G
      cases fl with
      | nx ρ1 => exact fun σ' H' S' => ⟨B, F, H0, ρ1, w1, S', G⟩
      | rt d => exact G
      | xc c ρ1 => exact G
    | exc c w1 => rw [hf] at G; exact G
    | bad => rw [hf] at G; exact G
theorem ps_expD (he : PE X e (tD C Wx f)) (hs : swapsWith e none pos.line X.env = pure false) : PS X (.Expr e pos) (tSD C Wx fun ρ w => (f ρ w).st ρ fun _ w => .ok (.nx ρ) w) :=
  (ps_expr he hs).imp fun D σ H ⟨B, F, H0, ρ, w, S, G⟩ => ⟨B, _, ρ, w, S.sit0, GotS.st S G fun y w1 u H1 e1 W1 r1 G1 => G1 _ _ (S.ext e1 W1)⟩
theorem ps_retD (he : PE X e (tD C Wx f)) : PS X (.Return (some e) pos) (tSD C Wx fun ρ w => (f ρ w).st ρ fun d w => .ok (.rt d) w) :=
  (ps_ret he).imp fun D σ H ⟨B, F, H0, ρ, w, S, G⟩ => ⟨B, _, ρ, w, S.sit0, GotS.st S G fun y w1 u H1 e1 W1 r1 G1 => G1 _ _ (S.ex.trans e1) W1 r1⟩
theorem ps_retND : PS X (.Return none pos) (tSD C Wx fun _ w => .ok (.rt .non) w) :=
  ps_retN.imp fun D σ H ⟨B, F, H0, ρ, w, S, G⟩ => G _ _ S.ex S.w .non
def fIfS (fc : Ev SF.D) (ft fu : EvS) : EvS := fun ρ w => (fc ρ w).st ρ fun x w => match x with
  | .bl true => ft ρ w
  | .bl false => fu ρ w
  | _ => .bad
theorem ps_ifD {xs ys : List Stmt} (hc : PT X c (tT C Wx fc)) (ha : PSs X xs (tSD C Wx ft)) (hb : PSs X ys (tSD C Wx fu)) : PS X (.If c xs ys pos) (tSD C Wx (fIfS fc ft fu)) :=
  (ps_if hc ha hb).imp fun D σ H ⟨B, F, H0, ρ, w, S, G⟩ => ⟨B, _, ρ, w, S.sit0, GotS.stT S G (fun d w h => by
    cases d with
    | bl t => exact absurd rfl (h t)
    | _ => rfl) fun t w1 H1 e1 W1 G1 => by
    cases t with
    | true => exact iteT ⟨B, F, H0, ρ, w1, S.ext e1 W1, G1⟩
    | false => exact iteF ⟨B, F, H0, ρ, w1, S.ext e1 W1, G1⟩⟩
/-! ### loops -/
theorem ps_whlD {body : List Stmt} (hp : PassesOwn (model X.prog X.w) X.A X.env X.xe) (hc : PT X c (tT C Wx fc)) (hb : PSs X body (tSD C Wx ft)) :
    PS X (.While c body [] pos) (tSD C Wx fun ρ w => whlRun fc ft (szE ρ) ρ w) :=
  (ps_while hp hc hb).imp fun D σ H ⟨B, F, H0, ρ, w, S, G⟩ => by
    refine ⟨fun m σ H => ∃ ρ w, SEnv B F H0 H σ ρ w ∧ GotS C Wx B F H0 D (whlRun fc ft m ρ w), ⟨szE ρ, ρ, w, S, G⟩, ?_⟩
    rintro m σ H ⟨ρ, w, S, G⟩
    cases m with
    | zero => exact G.elim
    | succ m =>
      simp only [whlRun] at G
      refine ⟨B, _, ρ, w, S.sit0, GotS.stT S G (fun d w h => by
        cases d with
        | bl t => exact absurd rfl (h t)
        | _ => rfl) fun t w1 H1 e1 W1 G1 => ?_⟩
      have S1 := S.ext e1 W1
      cases t with
      | false => exact iteF (G1 _ _ S1)
      | true =>
        refine iteT ?_
        refine ⟨fun σ' H' => ∃ ρ' w', SEnv B F H0 H' σ' ρ' w' ∧ GotS C Wx B F H0 D (whlRun fc ft m ρ' w'), fun σ' H' n => ⟨m, Nat.lt_succ_self m, n⟩, B, F, H0, ρ, w1, S1, ?_⟩
        simp only at G1
        cases hf : ft ρ w1 with
        | ok fl w2 =>
          rw [hf] at G1
          cases fl with
          | nx ρ1 => exact fun σ' H' S' => ⟨ρ1, w2, S', G1⟩
          | rt d => exact G1
          | xc c ρ1 => exact G1
        | exc c w2 => rw [hf] at G1; exact G1
        | bad => rw [hf] at G1; exact G1
/-- the addresses of the owned slots -/
def ownd (σ : L2.St) (ρ : SF.Env) : Addr → Prop := fun a => ∃ (i : Nat) (d : SF.D), ρ[i]? = some (Slot.ow d) ∧ σ[i]? = some (some (V.ref a))
open Classical in
noncomputable def cutH (H : Hp) (q : Addr → Prop) : Hp := fun a => if q a then none else H a
theorem cutH_some {H : Hp} {q : Addr → Prop} {a : Addr} {o : HO} (h : cutH H q a = some o) : ¬ q a ∧ H a = some o := by
  unfold cutH at h
  split at h
  · cases h
  · rename_i n; exact ⟨n, h⟩
theorem cutH_of {H : Hp} {q : Addr → Prop} {a : Addr} (h : ¬ q a) : cutH H q a = H a := by
  unfold cutH
  rw [if_neg h]
theorem cutH_no {H : Hp} {q : Addr → Prop} {a : Addr} (h : q a) : cutH H q a = none := by
  unfold cutH
  rw [if_pos h]
theorem none_of {α : Type} {x : Option α} (h : ∀ o, x = some o → False) : x = none := by
  cases x with
  | none => rfl
  | some o => exact (h o rfl).elim
/-- from here on: all but the owned ones is kept -/
theorem SEnv.rebase (S : SEnv B F H0 H σ ρ w) : SEnv B F (cutH H (ownd σ ρ)) H σ ρ w :=
  ⟨fun a o h _ _ => (cutH_some h).2, S.w, S.f, S.len, fun i d h => by
    obtain ⟨l, h1, h2, h3, h4⟩ := S.own i d h
    exact ⟨l, h1, cutH_no ⟨i, d, h, h1⟩, h3, h4⟩, S.inj, S.sh⟩
theorem SEnv.over (S : SEnv B F H0 H σ ρ w) : Ext B H0 (cutH H (ownd σ ρ)) := fun a o h h1 h2 => by
  rw [cutH_of]
  · exact S.ex a o h h1 h2
  · rintro ⟨i, d, q1, q2⟩
    obtain ⟨l, q3, q4, _⟩ := S.own i d q1
    rw [q2] at q3
    cases q3
    rw [q4] at h
    cases h
theorem SEnv.unbase {H0' : Hp} (S : SEnv B F H0' H σ ρ w) (e : Ext B H0 H0') (hp : H0 B.pd ≠ none → H0' B.pd ≠ none) (hn : H0 B.pn ≠ none → H0' B.pn ≠ none) : SEnv B F H0 H σ ρ w :=
  ⟨e.trans S.ex, S.w, S.f, S.len, fun i d h => by
    obtain ⟨l, h1, h2, h3, h4⟩ := S.own i d h
    exact ⟨l, h1, none_of (fun o q => by
      have := e l o q (S.nd h3).1 (S.nd h3).2
      rw [h2] at this
      cases this), h3, h4⟩, S.inj, S.sh⟩
theorem SEnv.back (S : SEnv B F H0 H σ ρ w) {σ' : L2.St} {ρ' : SF.Env} {H' : Hp} {w' : W} (S' : SEnv B F (cutH H (ownd σ ρ)) H' σ' ρ' w') : SEnv B F H0 H' σ' ρ' w' := by
  refine S'.unbase S.over (fun _ => ?_) (fun _ => ?_)
  · rw [cutH_of]
    · rw [S.w.pd]; simp
    · rintro ⟨i, d, q1, q2⟩
      obtain ⟨l, q3, _, q5, _⟩ := S.own i d q1
      rw [q2] at q3
      cases q3
      exact q5 S.w.hd
  · rw [cutH_of]
    · rw [S.w.pn]; simp
    · rintro ⟨i, d, q1, q2⟩
      obtain ⟨l, q3, _, q5, _⟩ := S.own i d q1
      rw [q2] at q3
      cases q3
      exact q5 (S.w.hn _ (.inl rfl))
/-- what lay outside the owned ones lies there still -/
theorem SEnv.keeps (S : SEnv B F H0 H σ ρ w) {σ' : L2.St} {ρ' : SF.Env} {H' : Hp} {w' : W} (S' : SEnv B F (cutH H (ownd σ ρ)) H' σ' ρ' w') : Mo (hidH F σ ρ fun _ => True) (hidH F σ' ρ' fun _ => True) H H' := by
  have key : ∀ a o, H a = some o → ¬ hidH F σ ρ (fun _ => True) a → ¬ hidH F σ' ρ' (fun _ => True) a ∧ H' a = some o := fun a o h p => by
    have n1 : ¬ ownd σ ρ a := fun ⟨i, d, q1, q2⟩ => p (.inr ⟨i, d, trivial, q1, q2⟩)
    have h0 : cutH H (ownd σ ρ) a = some o := by rw [cutH_of n1]; exact h
    refine ⟨?_, S'.ex a o h0 (fun z => p (.inl (z ▸ S.w.hd))) (fun z => p (.inl (S.w.hn _ z)))⟩
    rintro (z | ⟨i, d, _, q1, q2⟩)
    · exact p (.inl z)
    · obtain ⟨l, q3, q4, _⟩ := S'.own i d q1
      rw [q2] at q3
      cases q3
      rw [h0] at q4
      cases q4
  refine ⟨fun a vs h => ?_, fun a vs p h => key a _ h p, fun a kvs p h => ?_, fun a kvs p h => ?_, fun a vs h => ?_⟩
  · have n1 : ¬ ownd σ ρ a := fun ⟨i, d, q1, q2⟩ => by
      obtain ⟨l, q3, _, _, q6⟩ := S.own i d q1
      rw [q2] at q3
      cases q3
      obtain ⟨o, q7, q8⟩ := q6.has
      rw [h] at q7
      cases q7
      exact q8.1 vs rfl
    have h0 : cutH H (ownd σ ρ) a = some (.tup vs) := by rw [cutH_of n1]; exact h
    exact S'.ex a _ h0 (S.w.nD h fun _ z => nomatch z) (S.w.nV h fun _ z => nomatch z)
  · rcases h with h | ⟨o, h⟩
    · exact ⟨(key a _ h p).1, .inl (key a _ h p).2⟩
    · exact ⟨(key a _ h p).1, .inr ⟨o, (key a _ h p).2⟩⟩
  · rcases h with h | ⟨o, h⟩
    · exact ⟨(key a _ h p).1, .inl (key a _ h p).2⟩
    · exact ⟨(key a _ h p).1, .inr ⟨o, (key a _ h p).2⟩⟩
  · have n1 : ¬ ownd σ ρ a := fun ⟨i, d, q1, q2⟩ => by
      obtain ⟨l, q3, _, _, q6⟩ := S.own i d q1
      rw [q2] at q3
      cases q3
      obtain ⟨o, q7, q8⟩ := q6.has
      rw [h] at q7
      cases q7
      exact q8.2 vs rfl
    have h0 : cutH H (ownd σ ρ) a = some (.ext vs) := by rw [cutH_of n1]; exact h
    exact S'.ex a _ h0 (S.w.nD h fun _ z => nomatch z) (S.w.nV h fun _ z => nomatch z)
theorem GotS.base {D' : Ends} {r : R Fl} (S : SEnv B F H0 H σ ρ w) (G : GotS C Wx B F H0 D r) (hr : D'.rt = D.rt)
    (hn : ∀ ρ' w', r = .ok (.nx ρ') w' → ∀ σ' H', SEnv B F (cutH H (ownd σ ρ)) H' σ' ρ' w' → D'.nx σ' H') : GotS C Wx B F (cutH H (ownd σ ρ)) D' r := by
  cases r with
  | ok fl w1 =>
    cases fl with
    | nx ρ' => exact hn ρ' w1 rfl
    | rt d => intro v H' e W q; rw [hr]; exact G v H' (S.over.trans e) W q
    | xc c ρ' => exact fun σ' H' S' => G σ' H' (S.back S')
  | exc c w1 => exact G
  | bad => exact G
def fFor (tgD : Tg) (fi : Ev (List SF.D)) (hd : List Nat) (ft : EvS) : EvS := fun ρ w => (fi (hide ρ hd) w).st ρ fun xs w =>
  forRun (fun d ρ w => match bindTg tgD d ρ with
    | some ρ' => ft ρ' w
    | none => .bad) xs (freezeAt hd 0 ρ) w
theorem ps_forD {tg iter : Expr} {body : List Stmt} {g : TG} {tgD : Tg} {hd : List Nat} (hp : PassesOwn (model X.prog X.w) X.A X.env X.xe) (hc : X.calm = true) (hi : PI X tg iter (tI C Wx fi)) (hg : PG X tg g) (hb : PSs X body (tSD C Wx ft)) (hs : okE iter = true) (hgt : TgR g tgD) :
    PS X (.For tg iter body [] pos) (tSD C Wx (fFor tgD fi hd ft)) :=
  (ps_for hp hc hi hg hb (fold_ok hs)).imp fun D σ H ⟨B, F, H0, ρ, w, S, G⟩ => by
    refine ⟨B, _, hide ρ hd, w, S.sit hd, GotS.st S G fun xs w1 J H1 e1 W1 hJ G1 => ?_⟩
    have S1 := (S.ext e1 W1).freeze hd
    have M0 : Mo (hidH F σ ρ (· ∈ hd)) (hidH F σ (freezeAt hd 0 ρ) fun _ => True) H1 H1 := mo_sub fun a z => (hid_freeze hd a).mp z
    have Mt : ∀ {P1 P2 P3 : Addr → Prop} {A1 A2 A3 : Hp}, Mo P1 P2 A1 A2 → Mo P2 P3 A2 A3 → Mo P1 P3 A1 A3 := fun m n =>
      ⟨fun a vs h => n.tup a vs (m.tup a vs h), fun a vs p h => n.lst a vs (m.lst a vs p h).1 (m.lst a vs p h).2, fun a vs p h => n.dT a vs (m.dT a vs p h).1 (m.dT a vs p h).2, fun a vs p h => n.dK a vs (m.dK a vs p h).1 (m.dK a vs p h).2, fun a φ h => n.ex a φ (m.ex a φ h)⟩
    refine ⟨fun i m σ' H' => m = xs.length - i ∧ i ≤ xs.length ∧ ∃ ρ' w', SEnv B F (cutH H1 (ownd σ (freezeAt hd 0 ρ))) H' σ' ρ' w' ∧ GotS C Wx B F H0 D (forRun (fun d ρ w => match bindTg tgD d ρ with | some ρ' => ft ρ' w | none => .bad) (xs.drop i) ρ' w'), ⟨xs.length, rfl, Nat.zero_le _, _, w1, S1.rebase, G1⟩, ?_⟩
    rintro i m σ' H' ⟨hm, hle, ρ', w', S', G'⟩
    have M' : Mo (hidH F σ ρ (· ∈ hd)) (hidH F σ' ρ' fun _ => True) H1 H' := Mt M0 (S1.keeps S')
    by_cases hlt : i < xs.length
    · right
      rw [List.drop_eq_getElem_cons hlt] at G'
      simp only [forRun] at G'
      refine ⟨hJ.go _ H' i M' hlt, fun σ2 H2 => ∃ ρ2 w2, SEnv B F (cutH H1 (ownd σ (freezeAt hd 0 ρ))) H2 σ2 ρ2 w2 ∧ GotS C Wx B F H0 D (forRun (fun d ρ w => match bindTg tgD d ρ with | some ρ' => ft ρ' w | none => .bad) (xs.drop (i + 1)) ρ2 w2), fun σ2 H2 ⟨ρ2, w2, q1, q2⟩ => ⟨xs.length - (i + 1), by omega, rfl, hlt, ρ2, w2, q1, q2⟩, fun x H2 y => ?_⟩
      obtain ⟨x2, rx⟩ := hJ.yld _ H' i _ x H2 M' (List.getElem?_eq_getElem hlt) y
      have E2 : Ext B H' H2 := fun a o q _ _ => x2 a o q
      have S2 : SEnv B F (cutH H1 (ownd σ (freezeAt hd 0 ρ))) H2 σ' ρ' w' := S'.ext (P := F) E2 (S'.w.up x2)
      cases hb : bindTg tgD xs[i] ρ' with
      | none => simp only [hb, sq_bad] at G'; exact G'.elim
      | some ρ2 =>
        simp only [hb] at G'
        refine hgt B _ H2 x xs[i] σ' ρ' ρ2 _ rx hb fun σ2 is st _ => ?_
        have S3 := (st.senv S2 fun _ z => z).1
        refine ⟨B, F, _, ρ2, w', S3, ?_⟩
        cases hf : ft ρ2 w' with
        | ok fl w2 =>
          rw [hf] at G'
          cases fl with
          | nx ρ3 => exact fun σ3 H3 S4 => ⟨ρ3, w2, S4, G'⟩
          | rt d => exact fun v H3 e W q => G' v H3 (S1.over.trans e) W q
          | xc c ρ3 => exact fun σ3 H3 S4 => G' σ3 H3 (S1.back S4)
        | exc c w2 => rw [hf] at G'; exact G'
        | bad => rw [hf] at G'; exact G'
    · left
      have e : i = xs.length := by omega
      subst e
      rw [List.drop_length] at G'
      exact ⟨hJ.stop _ H' M', G' _ _ (S1.back S')⟩
end
end SF

namespace SF
open PySem L2
/-! ### x[k] = e -/
section
variable {Cl : Nat → Value} {B : Bk Cl} {P : Addr → Prop} {H : Hp}
theorem RpT.any : ∀ {kvs : List (List Key × V)} {kds : List (List Int × D)} (k : List Int), RpT B P H kvs kds → (kvs.any fun kv => decide (kv.1 = kI k)) = (kds.any fun kv => decide (kv.1 = k))
  | _, _, k, .nil => rfl
  | _, _, k, .cons (k := j) r rs => by
    rw [List.any_cons, List.any_cons, RpT.any k rs]
    congr 1
    by_cases h : j = k
    · subst h; simp
    · have : ¬ kI j = kI k := fun z => h (kI_inj.mp z)
      simp [h, this]
theorem RpK.any : ∀ {kvs : List (Key × V)} {kds : List (Int × D)} (k : Int), RpK B P H kvs kds → (kvs.any fun kv => decide (kv.1 = (Sum.inl k : Key))) = (kds.any fun kv => decide (kv.1 = k))
  | _, _, k, .nil => rfl
  | _, _, k, .cons (k := j) r rs => by
    rw [List.any_cons, List.any_cons, RpK.any k rs]
    congr 1
    by_cases h : j = k
    · subst h; simp
    · have : ¬ (Sum.inl j : Key) = Sum.inl k := fun z => h (Sum.inl.inj z)
      simp [h, this]
theorem RpT.snoc {k : List Int} {v : V} {d : D} (q : Rp B P H v d) : ∀ {kvs : List (List Key × V)} {kds : List (List Int × D)}, RpT B P H kvs kds → RpT B P H (kvs ++ [(kI k, v)]) (kds ++ [(k, d)])
  | _, _, .nil => .cons q .nil
  | _, _, .cons r rs => .cons r (RpT.snoc q rs)
theorem RpK.snoc {k : Int} {v : V} {d : D} (q : Rp B P H v d) : ∀ {kvs : List (Key × V)} {kds : List (Int × D)}, RpK B P H kvs kds → RpK B P H (kvs ++ [(Sum.inl k, v)]) (kds ++ [(k, d)])
  | _, _, .nil => .cons q .nil
  | _, _, .cons r rs => .cons r (RpK.snoc q rs)
theorem RpT.repl {k : List Int} {v : V} {d : D} (q : Rp B P H v d) : ∀ {kvs : List (List Key × V)} {kds : List (List Int × D)}, RpT B P H kvs kds → RpT B P H (kvs.map fun kv => if kv.1 = kI k then (kv.1, v) else kv) (kds.map fun kv => if kv.1 = k then (kv.1, d) else kv)
  | _, _, .nil => .nil
  | _, _, .cons (k := j) r rs => by
    rw [List.map_cons, List.map_cons]
    by_cases h : j = k
    · subst h
      rw [if_pos rfl, if_pos rfl]
      exact .cons q (RpT.repl q rs)
    · have h2 : ¬ kI j = kI k := fun z => h (kI_inj.mp z)
      rw [if_neg h2, if_neg h]
      exact .cons r (RpT.repl q rs)
theorem RpK.repl {k : Int} {v : V} {d : D} (q : Rp B P H v d) : ∀ {kvs : List (Key × V)} {kds : List (Int × D)}, RpK B P H kvs kds → RpK B P H (kvs.map fun kv => if kv.1 = (Sum.inl k : Key) then (kv.1, v) else kv) (kds.map fun kv => if kv.1 = k then (kv.1, d) else kv)
  | _, _, .nil => .nil
  | _, _, .cons (k := j) r rs => by
    rw [List.map_cons, List.map_cons]
    by_cases h : j = k
    · subst h
      rw [if_pos rfl, if_pos rfl]
      exact .cons q (RpK.repl q rs)
    · have h2 : ¬ (Sum.inl j : Key) = Sum.inl k := fun z => h (Sum.inl.inj z)
      rw [if_neg h2, if_neg h]
      exact .cons r (RpK.repl q rs)
theorem RpT.put {k : List Int} {v : V} {d : D} {kvs : List (List Key × V)} {kds : List (List Int × D)} (q : Rp B P H v d) (r : RpT B P H kvs kds) : RpT B P H (putK kvs (kI k) v) (putT kds k d) := by
  unfold putK putT
  rw [r.any k]
  by_cases c : (kds.any fun kv => decide (kv.1 = k)) = true
  · rw [if_pos c, if_pos c]; exact r.repl q
  · rw [if_neg c, if_neg c]; exact r.snoc q
theorem RpK.put {k : Int} {v : V} {d : D} {kvs : List (Key × V)} {kds : List (Int × D)} (q : Rp B P H v d) (r : RpK B P H kvs kds) : RpK B P H (putK kvs (Sum.inl k) v) (putKk kds k d) := by
  unfold putK putKk
  rw [r.any k]
  by_cases c : (kds.any fun kv => decide (kv.1 = k)) = true
  · rw [if_pos c, if_pos c]; exact r.repl q
  · rw [if_neg c, if_neg c]; exact r.snoc q
theorem RpT.length : ∀ {kds : List (List Int × D)} {kvs : List (List Key × V)}, RpT B P H kvs kds → kvs.length = kds.length
  | [], _, .nil => rfl
  | _ :: _, _, .cons _ r => by simp [RpT.length r]
theorem RpK.length : ∀ {kds : List (Int × D)} {kvs : List (Key × V)}, RpK B P H kvs kds → kvs.length = kds.length
  | [], _, .nil => rfl
  | _ :: _, _, .cons _ r => by simp [RpK.length r]
end
def rSetA : TSet := fun o i v H Q => rSetL o i v H Q ∨ rSetD o i v H Q
theorem set_any {X : Cx} (hu : X.A.units + 1 < cLine) : PSet X rSetA := fun pins s σ H o i v ov iv u Q I ro ri rv h => by
  rcases h with h | h
  · exact set_list pins s σ H o i v ov iv u Q I ro ri rv h
  · exact set_dict hu pins s σ H o i v ov iv u Q I ro ri rv h
def fSet (i : Nat) (fk fe : Ev SF.D) : EvS := fun ρ w => match ρ[i]? with
  | some (.ow c) => (fe ρ w).st ρ fun y w => (fk ρ w).st ρ fun z w => if flat y then (opt (setD c z y) w).st ρ fun c' w => .ok (.nx (ρ.set i (.ow c'))) w else .bad
  | _ => .bad
theorem swS_no {e o k : Expr} {p : Pos} {l : Nat} {env : PySem.Env} : swapsWithSole [.Subscript o k p] e l env = pure false := by
  show swapsWith e (some (.Subscript o k p)) l env = _
  cases e <;> rfl
section
variable {X : Cx} {C : Nat → Value} {Wx : WX} {e k : Expr} {fe fk : Ev SF.D} {pos : Pos}
theorem ps_setD {i : Nat} {x : Str} {p1 p2 : Pos} (hu : X.A.units + 1 < cLine) (hN : X.N[i]? = some x) (hv : Vis X.env.scope x) (hd : (x == ("__debug__" : Str)) = false) (hcd : (x == ("__classdict__" : Str)) = false) (he : PE X e (tD C Wx fe)) (hk : PE X k (tD C Wx fk)) (hs : okE k = true) :
    PS X (.Assign [.Subscript (.Name x p1) k p2] e pos) (tSD C Wx (fSet i fk fe)) := by
  refine (ps_asg he (pg_sub (pe_var hN hv hd hcd) hk (set_any hu) ?_) swS_no ?_ rfl).imp fun D σ H h => ?_
  · intro v
    cases k <;> first | rfl | (simp [okE] at hs)
  · cases e <;> rfl
  obtain ⟨B, F, H0, ρ, w, S, G⟩ := h
  unfold fSet at G
  cases hx : ρ[i]? with
  | none => rw [hx] at G; exact G.elim
  | some sl =>
    rw [hx] at G
    cases sl with
    | no => exact G.elim
    | sh d => exact G.elim
    | ow c =>
      simp only at G
      obtain ⟨l, h1, h2, h3, h4⟩ := S.own i _ hx
      refine ⟨B, _, ρ, w, S.sit0, GotS.st S G fun y w1 u H1 e1 W1 r1 G1 => ?_⟩
      have S1 := S.ext e1 W1
      refine ⟨_, h1, B, _, ρ, w1, S1.sit0, GotS.st S1 G1 fun z w2 u2 H2 e2 W2 r2 G2 => ?_⟩
      have S2 := S1.ext e2 W2
      have r1' := r1.ext W1 e2
      split at G2
      · rename_i hfl
        obtain ⟨l', h1', _, _, h4'⟩ := S2.own i _ hx
        rw [h1] at h1'
        cases h1'
        cases hc : setD c z y with
        | none => rw [hc] at G2; exact G2.elim
        | some c' =>
          rw [hc] at G2
          simp only [opt_some, st_ok] at G2
          have m0 : ∀ {H' : Hp}, (∀ a zs, H2 a = some (.tup zs) → H' a = some (.tup zs)) → (∀ a φ, H2 a = some (.ext φ) → H' a = some (.ext φ)) → Mo (fun _ => True) (fun _ => True) H2 H' := fun ht hx => ⟨ht, fun _ _ p => absurd trivial p, fun _ _ p => absurd trivial p, fun _ _ p => absurd trivial p, hx⟩
          cases c with
          | lst ds =>
            cases r2 <;> simp only [setD, reduceCtorEq] at hc
            rename_i j
            obtain ⟨vs, hv0, rv⟩ := h4'
            cases hj : SF.ixN ds.length j with
            | none => rw [hj] at hc; cases hc
            | some q =>
              rw [hj] at hc
              cases hc
              refine .inl ⟨l, vs, j, q, rfl, rfl, hv0, by rw [ixN_same, rv.length]; exact hj, ?_⟩
              refine G2 _ _ (S2.mut hx h1 ⟨_, upd_same, ?_⟩)
              have ht : ∀ a zs, H2 a = some (.tup zs) → upd H2 l (.lst (vs.set q u)) a = some (.tup zs) := fun a zs q => by
                rw [upd_ne (fun z => by rw [z, hv0] at q; cases q)]; exact q
              have hx' : ∀ a φ, H2 a = some (.ext φ) → upd H2 l (.lst (vs.set q u)) a = some (.ext φ) := fun a zs q => by
                rw [upd_ne (fun z => by rw [z, hv0] at q; cases q)]; exact q
              exact Rps.set (Rp.flat ht hx' _ _ hfl r1') q (Rps.mo (m0 ht hx') _ _ rv)
          | dK ds =>
            cases r2 <;> simp only [setD, reduceCtorEq] at hc
            rename_i j
            obtain ⟨vs, hv0, rv⟩ := h4'
            split at hc
            · rename_i hl
              cases hc
              refine .inr ⟨l, _, rfl, DPut.k (k := Sum.inl j) hv0 (by rw [rv.length]; exact lim_lt hl), ?_⟩
              refine G2 _ _ (S2.mut hx h1 ⟨_, upd_same, ?_⟩)
              have ht : ∀ a zs, H2 a = some (.tup zs) → upd H2 l (.dK (putK vs (Sum.inl j) u)) a = some (.tup zs) := fun a zs q => by
                rw [upd_ne (fun z => by rw [z, hv0] at q; cases q)]; exact q
              have hx' : ∀ a φ, H2 a = some (.ext φ) → upd H2 l (.dK (putK vs (Sum.inl j) u)) a = some (.ext φ) := fun a zs q => by
                rw [upd_ne (fun z => by rw [z, hv0] at q; cases q)]; exact q
              exact RpK.put (Rp.flat ht hx' _ _ hfl r1') (RpK.mo (m0 ht hx') _ _ rv)
            · cases hc
          | dT ds =>
            cases r2 <;> simp only [setD, reduceCtorEq] at hc
            rename_i b us ks hb sb
            obtain ⟨vs, hv0, rv⟩ := h4'
            cases hi : SF.ints ks with
            | none => rw [hi] at hc; cases hc
            | some j =>
              rw [hi] at hc
              simp only at hc
              split at hc
              · rename_i hl
                cases hc
                refine .inr ⟨l, _, rfl, DPut.t (k := kI j) hv0 (by rw [hb, sb.ints hi, kI_kV]) (by rw [rv.length]; exact lim_lt hl), ?_⟩
                refine G2 _ _ (S2.mut hx h1 ⟨_, upd_same, ?_⟩)
                have ht : ∀ a zs, H2 a = some (.tup zs) → upd H2 l (.dT (putK vs (kI j) u)) a = some (.tup zs) := fun a zs q => by
                  rw [upd_ne (fun z => by rw [z, hv0] at q; cases q)]; exact q
                have hx' : ∀ a φ, H2 a = some (.ext φ) → upd H2 l (.dT (putK vs (kI j) u)) a = some (.ext φ) := fun a zs q => by
                  rw [upd_ne (fun z => by rw [z, hv0] at q; cases q)]; exact q
                exact RpT.put (Rp.flat ht hx' _ _ hfl r1') (RpT.mo (m0 ht hx') _ _ rv)
              · cases hc
          | _ => cases r2 <;> simp [setD] at hc
      · exact G2.elim
end
end SF

namespace SF
open PySem L2
/-! ### {k: v} -/
def tDisp1T (tk tv : TE) : TE := fun σ H Q => ∀ p, H p = none → tk σ (upd H p (.dT [])) fun x H1 => tv σ H1 fun y H2 => H2 p = some (.dT []) ∧ ∃ (ks : List Key) (b : Addr), x = .ref b ∧ H2 b = some (.tup (ks.map kV)) ∧ Q (.ref p) (upd H2 p (.dT [(ks, y)]))
theorem pe_disp1T {X : Cx} {k v : Expr} {pos : Pos} {tk tv : TE} (hu : X.A.units + 1 < cLine) (hk : PE X k tk) (hv : PE X v tv) : PE X (.Dict [some k] [v] pos) (tDisp1T tk tv) := by
  refine ⟨fun pins s σ H Q I q => ?_⟩
  have hn := I.hok.fresh (Nat.le_refl s.heap.objs.size)
  have I1 := I.laid (a := s.heap.objs.size) (o := .dT []) (h' := s.heap.push { cls := .type "dict", data := .dict #[] }) (t' := s.toks) (fun _ _ q => Heap.get?_push_of_some _ q) (Nat.le_refl _) (dt_empty s.heap I.big)
  have hz := zip_pairTrees [some k] [v] X.env pos rfl rfl
  have hl := pairTrees_length [some k] [v] X.env pos rfl rfl
  rw [List.length_singleton] at hl
  rw [arm_eval_Dict, hz, dictDisplay_pairs _ (fun z => by rw [z] at hl; simp at hl) (by rw [hl]; decide)]
  refine wpAny_bind (wpAny_standAt (wpAny_bind (wpAny_subDictH (knd := tupleKind (mixKind X.prog X.w)) (show X.A.units < cLine by omega) (by rw [hl]; decide) ?_)))
  refine pairTrees_cons_walk (thn (hk.run pins _ σ _ _ I1 (q _ hn)) fun u s1 ⟨x, H1, I2, rx, q1⟩ => thn (hv.run pins s1 σ H1 _ I2 q1) fun w2 s2 ⟨y, H2, I3, ry, e, ks, b, ex, eb, q2⟩ => pairTrees_nil_walk ?_)
  subst ex
  cases (show u = Value.ref b from rx)
  obtain ⟨z, hd, xs, rel, dd⟩ := dt_of I3.hok e
  cases rel
  refine ⟨[(ks, b, w2)], ⟨rfl, rfl, key_of I3.hok eb, trivial⟩, dd, fun h' tk dd' hs => ?_⟩
  refine wpAny_pure ⟨.ref s.heap.objs.size, _, ?_, rfl, q2⟩
  obtain ⟨o, es, ep, hq, h2, h3, h4, _, h5⟩ := dd'
  have kt : KT H2 [(ks, y)] (storedAllH [] [(ks, b, w2)]) := .cons ⟨rfl, eb, ry⟩ .nil
  refine d_write I3 (by rw [e]; exact True.intro) hs ⟨o, hq⟩ ⟨by rw [sizeLine_eq]; simp, hd, _, kt.keeps fun c ys ec => ?_, o, es, ep, hq, h2, h3, h4, h5⟩
  rw [upd_ne (ne_of ec e (fun z => nomatch z))]
  exact ec
def fDone (t : Bool) (fk fv : Ev SF.D) : Ev SF.D := fun ρ w => (fk ρ w).bind fun x w => (fv ρ w).bind fun y w => opt (doneD t x y) w
section
variable {X : Cx} {C : Nat → Value} {Wx : WX} {k v : Expr} {fk fv : Ev SF.D} {pos : Pos}
theorem doneT_some {x y d : SF.D} (h : doneD true x y = some d) : ∃ ks j, x = .tup ks ∧ SF.ints ks = some j ∧ d = .dT [(j, y)] ∧ flat y = true := by
  unfold doneD at h
  split at h
  · rename_i hf
    cases x <;> simp at h
    rename_i ks
    obtain ⟨j, h1, h2⟩ := h
    exact ⟨ks, j, rfl, h1, h2.symm, hf⟩
  · cases h
theorem doneK_some {x y d : SF.D} (h : doneD false x y = some d) : ∃ j, x = .int j ∧ d = .dK [(j, y)] ∧ flat y = true := by
  unfold doneD at h
  split at h
  · rename_i hf
    cases x <;> simp at h
    rename_i j
    exact ⟨j, rfl, h.symm, hf⟩
  · cases h
theorem Got.bindAt {B : Bk C} {P : Addr → Prop} {σ : L2.St} {H Ha : Hp} {α β α' β' : Type} {rel : Hp → β → α → Prop} {rel' : Hp → β' → α' → Prop} {Q : β' → Hp → Prop} {k : β → Hp → Prop} {x : R α} {g : α → W → R α'}
    (G : Got C Wx B P σ rel' H Q (x.bind g)) (e0 : Ext B H Ha)
    (hk : ∀ d w1 v H1, Ext B Ha H1 → WR B P H1 w1 → rel H1 v d → Got C Wx B P σ rel' H Q (g d w1) → k v H1) : Got C Wx B P σ rel Ha k x := by
  cases x with
  | ok d w1 => exact fun v H1 e W1 r => hk d w1 v H1 e W1 r G
  | exc c w1 => exact fun H1 e W1 => G H1 (e0.trans e) W1
  | bad => exact G
theorem put_ext {Cl : Nat → Value} {B : Bk Cl} {H H2 : Hp} {p : Addr} {o : HO} (hp : H p = none) (e : Ext B H H2) : Ext B H (upd H2 p o) := fun a u h h1 h2 => by
  rw [upd_ne (ne_of_none h hp)]
  exact e a u h h1 h2
theorem put_wr {Cl : Nat → Value} {B : Bk Cl} {P : Addr → Prop} {H2 : Hp} {p : Addr} {o : HO} {w : W} (W2 : WR B P H2 w) (h1 : p ≠ B.pd) (h2 : ¬ B.V p) (h3 : Soft H2 p) : WR B P (upd H2 p o) w := W2.put h1 h2 h3
theorem pe_doneT (hu : X.A.units + 1 < cLine) (hk : PE X k (tD C Wx fk)) (hv : PE X v (tD C Wx fv)) : PE X (.Dict [some k] [v] pos) (tN C Wx (fDone true fk fv)) :=
  (pe_disp1T hu hk hv).imp fun σ H Q ⟨B, P, ρ, w, S, G⟩ p hp => by
    have S0 := S.ext (Ext.new (o := .dT []) hp) (S.w.new hp)
    have hpd : p ≠ B.pd := fun z => by rw [z, S.w.pd] at hp; cases hp
    have hpn : ¬ B.V p := S.w.nN hp
    have e0 : Ext B H (upd H p (.dT [])) := Ext.new hp
    refine ⟨B, P, ρ, w, S0, Got.bindAt G e0 fun x w1 u1 H1 e1 W1 r1 G1 => ?_⟩
    have S1 := S0.ext e1 W1
    refine ⟨B, P, ρ, w1, S1, Got.bindAt G1 (e0.trans e1) fun y w2 u2 H2 e2 W2 r2 G2 => ?_⟩
    have S2 := S1.ext e2 W2
    obtain ⟨d, hd, G3⟩ := Got.opt G2
    obtain ⟨ks, j, rfl, hj, rfl, hf⟩ := doneT_some hd
    have hp2 : H2 p = some (.dT []) := e2 _ _ (e1 _ _ upd_same hpd hpn) hpd hpn
    cases Rp.ext W1 e2 r1 with
    | @tup b us _ hb sb =>
      refine ⟨hp2, kI j, b, rfl, by rw [hb, sb.ints hj, kI_kV], G3 _ _ (put_ext hp (e0.trans (e1.trans e2))) (put_wr W2 hpd hpn (.dT hp2)) ⟨p, rfl, hp, ?_, nofrz_new fun _ _ z => nomatch z⟩⟩
      refine .dT (S.f.new hp) (.inl upd_same) (.cons (Rp.flat (fun a vs q => ?_) (fun a vs q => ?_) _ _ hf r2) .nil)
      · rw [upd_ne (fun z => by rw [z, hp2] at q; cases q)]
        exact q
      · rw [upd_ne (fun z => by rw [z, hp2] at q; cases q)]
        exact q
theorem pe_doneK (hk : PE X k (tD C Wx fk)) (hv : PE X v (tD C Wx fv)) : PE X (.Dict [some k] [v] pos) (tN C Wx (fDone false fk fv)) :=
  (pe_disp (pps_cons hk hv pps_nil) rfl rfl (by simp) (by simp)).imp fun σ H Q ⟨B, P, ρ, w, S, G⟩ p hp => by
    have S0 := S.ext (Ext.new (o := .dK []) hp) (S.w.new hp)
    have hpd : p ≠ B.pd := fun z => by rw [z, S.w.pd] at hp; cases hp
    have hpn : ¬ B.V p := S.w.nN hp
    have e0 : Ext B H (upd H p (.dK [])) := Ext.new hp
    refine ⟨B, P, ρ, w, S0, Got.bindAt G e0 fun x w1 u1 H1 e1 W1 r1 G1 => ?_⟩
    have S1 := S0.ext e1 W1
    refine ⟨B, P, ρ, w1, S1, Got.bindAt G1 (e0.trans e1) fun y w2 u2 H2 e2 W2 r2 G2 => ?_⟩
    have S2 := S1.ext e2 W2
    obtain ⟨d, hd, G3⟩ := Got.opt G2
    obtain ⟨j, rfl, rfl, hf⟩ := doneK_some hd
    have hp2 : H2 p = some (.dK []) := e2 _ _ (e1 _ _ upd_same hpd hpn) hpd hpn
    cases r1
    refine ⟨hp2, [(Sum.inl j, u2)], rfl, by simp, G3 _ _ (put_ext hp (e0.trans (e1.trans e2))) (put_wr W2 hpd hpn (.dK hp2)) ⟨p, rfl, hp, ?_, nofrz_new fun _ _ z => nomatch z⟩⟩
    refine .dK (S.f.new hp) (.inl upd_same) (.cons (Rp.flat (fun a vs q => ?_) (fun a vs q => ?_) _ _ hf r2) .nil)
    · rw [upd_ne (fun z => by rw [z, hp2] at q; cases q)]
      exact q
    · rw [upd_ne (fun z => by rw [z, hp2] at q; cases q)]
      exact q
end
end SF

namespace SF
open PySem L2
open PyProof.Rows (IsTup tuple_addW0 tuple_addW1 tuple_addW2)
/-! ### t += u, tuples -/
theorem noI_tuple_add : typeLookup (.type "tuple") (dunderI "add") = pure none := by rw [typeLookup_type, builtinLookup_eq_fast]; kernel_rfl
section
variable {prog : Program} {w : World} {A : Around} {E : Value → Shared → Prop} {s : Shared}
theorem icat_meets {a b : Value} {S : PySem.Spec} {Q : Value → Shared → Prop} (ha : s.TypeIs a "tuple") (hb : s.TypeIs b "tuple") (g : Meets (Builtin.«tuple.__add__» ⟨[a, b], []⟩) S) (h : S A (wants Q E) s) : wpAny (model prog w) A (inplaceOp .Add a b) Q E s :=
  wpAny_inplaceOp_concat ha hb noI_tuple_add noFill_tuple_add seq_tuple_add (call_meets PySem.F.slot_tuple_add ha PySem.F.entry_tuple_add (PySem.F.args_tuple_add_2 _ _) g h)
theorem icat_tup0 {t b : Addr} {ws : List Value} {Q : Value → Shared → Prop} (ht : IsTup s.heap t ([] : List Value).toArray) (hb : IsTup s.heap b ws.toArray) (h : Q (.ref b) s) : wpAny (model prog w) A (inplaceOp .Add (.ref t) (.ref b)) Q E s := by
  obtain ⟨⟨cls, dd, data, sl⟩, ho, hc, n, hd⟩ := id ht
  obtain ⟨⟨cls2, dd2, data2, sl2⟩, ho2, hc2, n2, hd2⟩ := id hb
  simp only at hc hd hc2 hd2
  subst hc hd hc2 hd2
  exact icat_meets ⟨_, ho, rfl⟩ ⟨_, ho2, rfl⟩ (tuple_addW0 t b ([] : List Value).toArray ws.toArray n n2 dd dd2 sl sl2 (by simp)) ⟨ho, ho2, h⟩
theorem icat_tup {t b : Addr} {vs ws : List Value} {Q : Value → Shared → Prop} (ht : IsTup s.heap t vs.toArray) (hb : IsTup s.heap b ws.toArray) (hv : vs ≠ [])
    (h1 : ws = [] → Q (.ref t) s) (h2 : ws ≠ [] → Q (.ref s.heap.objs.size) { s with heap := s.heap.push { cls := .type "tuple", data := .seq (vs ++ ws).toArray } })
    (hsz : vs.length + ws.length ≤ sizeLine) : wpAny (model prog w) A (inplaceOp .Add (.ref t) (.ref b)) Q E s := by
  obtain ⟨⟨cls, dd, data, sl⟩, ho, hc, n, hd⟩ := id ht
  obtain ⟨⟨cls2, dd2, data2, sl2⟩, ho2, hc2, n2, hd2⟩ := id hb
  simp only at hc hd hc2 hd2
  subst hc hd hc2 hd2
  have e : vs.toArray ++ ws.toArray = (vs ++ ws).toArray := by simp
  by_cases hw : ws = []
  · exact icat_meets ⟨_, ho, rfl⟩ ⟨_, ho2, rfl⟩ (tuple_addW1 t b vs.toArray ws.toArray n n2 dd dd2 sl sl2 (by simpa using hv) (by simp [hw])) ⟨ho, ho2, h1 hw⟩
  · refine icat_meets ⟨_, ho, rfl⟩ ⟨_, ho2, rfl⟩ (tuple_addW2 t b vs.toArray ws.toArray n n2 dd dd2 sl sl2 (by simpa using hv) (by simpa using hw) (by rw [List.size_toArray, List.size_toArray]; exact hsz)) ⟨ho, ho2, ?_⟩
    rw [e]
    exact h2 hw
end
section
variable {X : Cx}
theorem iop_catA : PIp X .Add (rCatA X.K) := by
  intro pins s σ H x y v u Q I rx ry h
  obtain ⟨a, b, xs, ys, rfl, rfl, ha, hb, hz, q0, q1, q2⟩ := h
  cases rx
  cases ry
  obtain ⟨its, r1, p1, _⟩ := I.tuple ha
  obtain ⟨its2, r2, p2, _⟩ := I.tuple hb
  by_cases hx : xs = []
  · subst hx
    cases r1
    exact icat_tup0 p1 p2 ⟨.ref b, H, I, rfl, q0 rfl⟩
  · refine icat_tup p1 p2 (fun z => hx (r1.nil_iff.mp z)) (fun z => ⟨.ref a, H, I, rfl, q1 hx (r2.nil_iff.mp z)⟩) (fun z => ?_) (by rw [← r1.length, ← r2.length]; exact hz)
    refine ⟨.ref s.heap.objs.size, _, I.laid (t' := s.toks) (o := .tup (xs ++ ys)) (fun b ob q => Heap.get?_push_of_some _ q) (Nat.le_refl _) ?_, rfl, q2 hx (fun w => z (r2.nil_iff.mpr w)) _ (I.hok.fresh (Nat.le_refl _))⟩
    exact ⟨by rw [List.length_append]; exact hz, _, r1.append r2, IsTup.new _ _⟩
theorem ip_addTD {Cl : Nat → Value} {B : Bk Cl} {P : Addr → Prop} {w : W} {H : Hp} {a : Addr} {vs : List V} {ds : List D} {d2 d : D} {y : V} {pins : List (Addr × Obj)} {s : Shared} {σ : L2.St} {v u : Value} {Q : VK} (I : L2.Inv X pins σ H s) (rx : RelV (.ref a) v) (ry : RelV y u)
    (W : WR B P H w) (F : Fr B P H) (h1 : H a = some (.tup vs)) (s1 : Rps B P H vs ds) (r2 : Rp B P H y d2) (e : augD .add (.tup ds) d2 = some d) (k : ∀ (v : V) (H' : Hp), Ext B H H' → WR B P H' w → Rp B P H' v d → Q v H') :
    wpAny (model X.prog X.w) X.A (inplaceOp .Add v u) (EP X pins σ Q) X.xe s := by
  cases r2 <;> simp [augD] at e
  rename_i h2 s2
  obtain ⟨e0, e⟩ := e
  subst e
  refine iop_catA pins s σ H _ _ v u Q I rx ry ⟨_, _, _, _, rfl, rfl, SqT.of h1, SqT.of h2, ?_, fun z => ?_, fun z z2 => ?_, fun z z2 p hp => ?_⟩
  · rw [s1.length, s2.length]; exact lim_le e0
  · subst z
    cases s1
    exact k _ H (Ext.refl B H) W (.tup h2 (by simpa using s2))
  · subst z2
    cases s2
    exact k _ H (Ext.refl B H) W (.tup h1 (by simpa using s1))
  · exact k _ _ (Ext.new hp) (W.new hp) (new_tup W F hp (s1.append s2))
end
end SF

namespace SF
open PySem PySem.W L2
open PyProof.Rows (seqObj sortedHeap_at sortedHeap_old)
/-! ### sorted(d), the keys pairs of «ints» -/
def rSortedDP : List V → Hp → VK → Prop := fun vs H Q => ∃ (a : Addr) (kvs : List (List Key × V)) (ks : List (Int × Int)), vs = [V.ref a] ∧ Rd H a (.dT kvs) ∧ kvs.map (·.1) = ks.map (fun k => kI [k.1, k.2]) ∧
  ∀ (as : List Addr) (p : Addr), (∃ bs : List Addr, bs.length = ks.length ∧ (∀ (i : Nat) (b : Addr) (k : Int × Int), bs[i]? = some b → ks[i]? = some k → H b = some (.tup [.int k.1, .int k.2])) ∧ as.Perm bs) →
    (as.Pairwise fun x y => SrtO.lexB (pairAt H (.ref y)) (pairAt H (.ref x)) = false) → H p = none → Q (.ref p) (upd H p (.lst (as.map V.ref)))
def adrOf : Value → Addr
  | .ref a => a
  | _ => 0
theorem paired_len {α β : Type} {r : α → β → Prop} {l : List α} {m : List β} (h : Paired r l m) : l.length = m.length := Paired.length h
theorem call_sortedDP {X : Cx} (hcalm : X.calm = true) : CallR X (.builtin "sorted") rSortedDP := by
  intro pins s σ H xs us Q I r q
  obtain ⟨a, kvs, ks, ex, hd, hks, q⟩ := q
  subst ex
  obtain ⟨u, eu, rx⟩ := vals1 r
  subst eu
  cases rx
  obtain ⟨z, lo, ys, rel, dd⟩ := dt_rd I.hok hd
  obtain ⟨es, ep, hraw, hes, hget⟩ := dd.raw
  have hl : kvs.length = ys.length := Paired.length rel
  have hkl : ks.length = kvs.length := by
    have e := congrArg List.length hks
    rw [List.length_map, List.length_map] at e
    exact e.symm
  have h16 : es.size ≤ sizeLine := by rw [hes, ← hl]; exact z
  obtain ⟨bs, hbs⟩ : ∃ bs : List Addr, bs = ys.map (·.2.1) := ⟨_, rfl⟩
  have hpair : ∀ (i : Nat) (b : Addr) (k : Int × Int), bs[i]? = some b → ks[i]? = some k → H b = some (.tup [.int k.1, .int k.2]) := fun i b k h1 h2 => by
    rw [hbs, List.getElem?_map, Option.map_eq_some_iff] at h1
    obtain ⟨y, hy, rfl⟩ := h1
    have hi : i < kvs.length := by rw [← hkl]; exact (List.getElem?_eq_some_iff.mp h2).1
    obtain ⟨y', hy', e1, e2, _⟩ := paired_get rel (List.getElem?_eq_getElem hi)
    rw [hy] at hy'
    cases hy'
    have e3 : (kvs.map (·.1))[i]? = some kvs[i].1 := by rw [List.getElem?_map, List.getElem?_eq_getElem hi]; rfl
    rw [hks, List.getElem?_map, h2] at e3
    have e4 : kI [k.1, k.2] = kvs[i].1 := Option.some.inj e3
    rw [e2, ← e4]
    rfl
  have hbl : bs.length = ks.length := by rw [hbs, List.length_map, ← hl, hkl]
  refine Calls.call_function_entry PyProof.Rows.kind_sorted PyProof.Rows.plain_sorted PyProof.Rows.entry_sorted (PyProof.Rows.args_sorted1 _) ?_
  unfold Builtin.«sorted»
  refine wpAny_bind (m := checkCount "sorted" 1 1 _) (wpAny_pure ?_)
  refine wpAny_bind (PySem.W.kdu_collect (A := X.A.in1) (KdlSrc.rawDict (es := es) (ep := ep) lo) (I.ok.hd hcalm) hraw h16 fun h' tk acc hk hacc => ?_)
  have hacl : acc.toList = bs.map Value.ref := by
    refine List.ext_getElem? fun i => ?_
    rw [List.getElem?_map, hbs, List.getElem?_map]
    cases e : acc.toList[i]? with
    | none =>
      have : acc.toList.length ≤ i := List.getElem?_eq_none_iff.mp e
      rw [Array.length_toList, hacc.1, hes] at this
      rw [List.getElem?_eq_none this]
      rfl
    | some v =>
      obtain ⟨hi, e2⟩ := hacc.2 i v (by rw [← Array.getElem?_toList]; exact e)
      obtain ⟨y, h1, h2, _⟩ := hget i hi
      rw [h1, e2, h2]
      rfl
  have I1 : Inv X pins σ H { s with heap := h', toks := tk } := I.kept hk
  obtain ⟨vs, hvs⟩ : ∃ vs : List Value, vs = bs.map Value.ref := ⟨_, rfl⟩
  rw [hacl, ← hvs]
  have hvl : vs.length = ks.length := by rw [hvs, List.length_map, hbl]
  have hz : vs.length ≤ sizeLine := by rw [hvl, hkl]; exact z
  refine wpAny_bind (wpAny_newList ?_ hz)
  have hoL : (h'.push (seqObj "list" vs.toArray 0)).get? h'.objs.size = some (seqObj "list" vs.toArray 0) := Heap.get?_push_size _ rfl
  show wpAny _ _ _ _ _ { s with heap := h'.push (seqObj "list" vs.toArray 0), toks := tk }
  have hp : ∀ v ∈ vs, Srt.IsPair (h'.push (seqObj "list" vs.toArray 0)) v (pairAt H (backV v)).1 (pairAt H (backV v)).2 := fun v hv => by
    rw [hvs] at hv
    obtain ⟨b, hb, rfl⟩ := List.mem_map.mp hv
    obtain ⟨i, hi⟩ := List.getElem?_of_mem hb
    have hik : i < ks.length := by rw [← hbl]; exact (List.getElem?_eq_some_iff.mp hi).1
    have ht := hpair i b _ hi (List.getElem?_eq_getElem hik)
    have hpa : pairAt H (backV (Value.ref b)) = ks[i] := by
      show pairAt H (V.ref b) = _
      simp only [pairAt, ht]
    obtain ⟨_, its2, r2, o, ho, hc, n, hdd⟩ := I1.hok _ _ ht
    obtain ⟨u1, u2, rfl, ri, rj⟩ := vals2 r2
    obtain ⟨t1, rfl⟩ := ri
    obtain ⟨t2, rfl⟩ := rj
    rw [hpa]
    exact ⟨b, o, t1, t2, n, rfl, Heap.get?_push_of_some _ ho, hc, hdd⟩
  refine wpAny_bind (wpAny_holding (wpAny_call_entry PyProof.Rows.slot_list_sort ⟨_, hoL, rfl⟩ PyProof.Rows.entry_list_sort
    (SrtO.list_sort_ord (ltv := fun v u => SrtO.lexB (pairAt H (backV v)) (pairAt H (backV u))) (s := { s with heap := h'.push (seqObj "list" vs.toArray 0), toks := tk }) (SrtO.swo_lex fun v => pairAt H (backV v)) hoL hz (fun h2 => SrtO.pairs_sortableO (k := fun v => pairAt H (backV v)) (by omega) hp fun o e => ?_) fun out hs hb => ⟨_, rfl, ?_⟩) (PyProof.Rows.args_list_sort _)))
  · have e' : some o = some (seqObj "list" vs.toArray 0) := e.symm.trans hoL
    cases e'
    intro c
    exact absurd (Value.type.inj c) (by decide)
  · obtain ⟨e', he'⟩ := sortedHeap_at (vs := vs) (out := out.toArray) hoL
    have hout : ∀ u ∈ out, ∃ a, u = Value.ref a := fun u hu => by
      have := hb.perm.mem_iff.mp hu
      rw [hvs] at this
      obtain ⟨b, _, rfl⟩ := List.mem_map.mp this
      exact ⟨b, rfl⟩
    obtain ⟨as, has⟩ : ∃ as : List Addr, out = as.map Value.ref := by
      clear hs hb he'
      induction out with
      | nil => exact ⟨[], rfl⟩
      | cons u out ih =>
        obtain ⟨b, rfl⟩ := hout u List.mem_cons_self
        obtain ⟨as, e⟩ := ih fun u hu => hout u (List.mem_cons_of_mem _ hu)
        exact ⟨b :: as, by rw [e]; rfl⟩
    have hperm : as.Perm bs := by
      have h1 := hb.perm
      rw [hvs, has] at h1
      have := h1.map adrOf
      rw [List.map_map, List.map_map] at this
      have key : ∀ l : List Addr, l.map (adrOf ∘ Value.ref) = l := fun l => List.map_id l
      rw [key, key] at this
      exact this
    have hlen : (as.map V.ref).length ≤ sizeLine := by
      rw [List.length_map, hperm.length_eq, hbl, hkl]
      exact z
    refine wpAny_pure ⟨_, rfl, .ref h'.objs.size, upd H h'.objs.size (.lst (as.map V.ref)), I1.laid (t' := tk) (fun b u e => ?_) (Nat.le_refl _)
      (show ObjOk X.prog X.w _ _ _ (.lst (as.map V.ref)) from ⟨hlen, out, e', ?_, he'⟩), rfl, q as _ ⟨bs, hbl, hpair, hperm⟩ ?_ (I1.hok.fresh (Nat.le_refl _))⟩
    · have hb : b < h'.objs.size := Heap.lt_size e
      rw [sortedHeap_old (Nat.ne_of_lt hb) (by rw [PyProof.Rows.size_push']; exact Nat.lt_succ_of_lt hb)]
      exact Heap.get?_push_of_some _ e
    · rw [has]
      clear has hperm hlen
      induction as with
      | nil => exact .nil
      | cons b as ih => exact .cons rfl ih
    · rw [has] at hs
      exact List.pairwise_map.mp hs
def toP (t : List Int) : Int × Int := match t with
  | [a, b] => (a, b)
  | _ => (0, 0)
theorem call_sortTD {X : Cx} (hc : X.calm = true) : CallR X (.builtin "sorted") (rDs (bltD .sortT)) := by
  intro pins s σ H xs us Q I rx h
  obtain ⟨_, B, P, w, ds, d, W, F, r, e, k⟩ := h
  match ds, e with
  | [], e => simp [bltD] at e
  | _ :: _ :: _, e => simp [bltD] at e
  | [a], e =>
    obtain ⟨v, rfl, r1⟩ := rps1 r
    cases r1 with
    | @dT ad kvs kds p1 h1 s1 =>
      simp only [bltD, sortTD] at e
      split at e
      · rename_i c
        have e := Option.some.inj e
        subst e
        have h2 : ∀ t ∈ kds.map (·.1), t = l2 (toP t) := fun t ht => by
          obtain ⟨kv, hkv, rfl⟩ := List.mem_map.mp ht
          have := of_decide_eq_true (List.all_eq_true.mp c kv hkv)
          match hq : kv.1, this with
          | [a, b], _ => rfl
        have hk : (kds.map (·.1)).map (fun t => l2 (toP t)) = kds.map (·.1) := by
          conv => rhs; rw [← List.map_id (kds.map (·.1))]
          exact List.map_congr_left fun t ht => (h2 t ht).symm
        refine call_sortedDP hc pins s σ H _ us Q I rx ⟨ad, kvs, (kds.map (·.1)).map toP, rfl, h1, ?_, fun as p hex hs hn => ?_⟩
        · rw [s1.keys]
          show _ = ((kds.map (·.1)).map toP).map _
          generalize kds.map (·.1) = kk at h2
          rw [List.map_map]
          exact List.map_congr_left fun t ht => by
            show kI t = kI [(toP t).1, (toP t).2]
            conv => lhs; rw [h2 t ht]
            rfl
        obtain ⟨bs, hbl, hb, hperm⟩ := hex
        have hat : ∀ b ∈ bs, H b = some (.tup [.int (pairAt H (.ref b)).1, .int (pairAt H (.ref b)).2]) := fun b hm => by
          obtain ⟨i, hi⟩ := List.getElem?_of_mem hm
          have hik : i < ((kds.map (·.1)).map toP).length := by rw [← hbl]; exact (List.getElem?_eq_some_iff.mp hi).1
          have ht := hb i b _ hi (List.getElem?_eq_getElem hik)
          have : pairAt H (.ref b) = ((kds.map (·.1)).map toP)[i] := by simp only [pairAt, ht]
          rw [this]
          exact ht
        have hbs : bs.map (fun b => l2 (pairAt H (.ref b))) = kds.map (·.1) := by
          rw [← hk]
          refine List.ext_getElem? fun i => ?_
          rw [List.getElem?_map]
          cases hi : bs[i]? with
          | none =>
            have : bs.length ≤ i := List.getElem?_eq_none_iff.mp hi
            rw [hbl, List.length_map] at this
            rw [List.getElem?_eq_none (by rw [List.length_map]; exact this)]
            rfl
          | some b =>
            have hik : i < ((kds.map (·.1)).map toP).length := by rw [← hbl]; exact (List.getElem?_eq_some_iff.mp hi).1
            have ht := hb i b _ hi (List.getElem?_eq_getElem hik)
            have e1 : pairAt H (.ref b) = ((kds.map (·.1)).map toP)[i] := by simp only [pairAt, ht]
            have hik2 : i < (kds.map (·.1)).length := by rwa [List.length_map] at hik
            rw [List.getElem?_map, List.getElem?_eq_getElem hik2]
            show some (l2 (pairAt H (.ref b))) = some (l2 (toP (kds.map (·.1))[i]))
            rw [e1, List.getElem_map]
        have e1 : as.map (fun b => l2 (pairAt H (.ref b))) = sortT (kds.map (·.1)) := by
          refine sortT_unique ?_ ?_
          · rw [← hbs]
            exact hperm.map _
          · unfold SF.Srt
            refine List.pairwise_map.mpr (List.Pairwise.imp ?_ hs)
            intro x y z
            rw [← lexB_l2]
            exact z
        have has : Rps B P H (as.map V.ref) ((as.map (fun b => l2 (pairAt H (.ref b)))).map fun t => .tup (t.map .int)) := by
          have hmem : ∀ b ∈ as, b ∈ bs := fun b hm => hperm.mem_iff.mp hm
          clear hs hperm e1
          induction as with
          | nil => exact .nil
          | cons b as ih =>
            refine .cons ?_ (ih fun z hz => hmem z (List.mem_cons_of_mem _ hz))
            exact .tup (hat b (hmem b List.mem_cons_self)) (.cons (.int _) (.cons (.int _) .nil))
        rw [e1] at has
        exact k _ _ (Ext.new hn) (W.new hn) (new_lst W F hn has)
      · cases e
    | _ => simp [bltD, sortTD] at e
end SF

namespace SF
open PySem PySem.W L2
/-! ### l.count(x), l.index(x), l.remove(x) -/
theorem toPys_len : ∀ ds : List D, (toPys ds).length = ds.length
  | [] => rfl
  | _ :: ds => by simp [toPys, toPys_len ds]
theorem toPys_get : ∀ (ds : List D) (i : Nat), (toPys ds)[i]? = (ds[i]?).map toPy
  | [], i => by simp [toPys]
  | d :: ds, 0 => by simp [toPys]
  | d :: ds, i + 1 => by simp [toPys, toPys_get ds i]
def rCountD (K : PySem.W.Frag) : V → List V → Hp → VK → Prop := fun x xs H Q => ∃ (a : Addr) (y : V) (d : PyData) (ds : List PyData), x = V.ref a ∧ xs = [y] ∧ Dp K H (V.ref a) (.list ds) ∧ Dp K H y d ∧
  SeqAt.shaped (.list ds) = true ∧ SeqAt.shaped d = true ∧ Q (.int ((ds.countP fun z => PyData.eqv z d : Nat) : Int)) H
section
variable {X : Cx}
theorem mt_countD (hu : X.A.units + 65 < cLine) : MtR X "list.count" (rCountD X.K) := by
  intro pins s σ H x xs v us Q I rx rxs h
  obtain ⟨a, y, d, ds, rfl, rfl, hl, hy, sl, sd, q⟩ := h
  cases rx
  cases rxs with
  | cons ry rt =>
    rename_i uy ut
    cases rt
    obtain ⟨bs, r1⟩ := Dp.reads I d y uy hy ry
    have hxs : PyData.canLayAll0 ds = true := SeqAt.canLay_of_shaped sl
    have hroom : X.A.units + 1 + min (PyData.depthAll ds) d.depth < cLine := PyProof.Rows.room_in_shaped sd hu
    cases hl with
    | lst hs ha =>
      obtain ⟨its, rv, ⟨⟨cls, dd, data, sls⟩, n, ho, hc, hdn, hdt⟩, hlen⟩ := I.list hs
      simp only at hc hdt
      subst hc hdt
      obtain ⟨as, h4⟩ := Dp.readsAll I ds _ its ha rv
      have hmap : its.map (SeqAt.readOf s.heap) = ds := SeqAt.readsAll_map ds its as hxs h4
      refine call_meets PySem.F.slot_list_count ⟨_, ho, rfl⟩ PySem.F.entry_list_count (PySem.F.args_list_count_2 _ _)
        (SeqAt.list_countAt a its.toArray n dd sls uy (fun u => PyData.eqv (SeqAt.readOf s.heap u) d)) ⟨ho, SeqAt.items_eqAt (vs := its.toArray) (show ReadsAll s.heap its.toArray.toList ds as from h4) r1 hxs (SeqAt.canLay_of_shaped sd) hroom, ?_⟩
      refine ⟨.int _, H, I.tok _, ⟨_, rfl⟩, ?_⟩
      have e : its.toArray.toList.countP (fun u => PyData.eqv (SeqAt.readOf s.heap u) d) = ds.countP fun z => PyData.eqv z d := by
        rw [← hmap, List.countP_map]
        rfl
      rw [e]
      exact q
def rRemoveD (K : PySem.W.Frag) : V → List V → Hp → VK → Prop := fun x xs H Q => ∃ (a : Addr) (y : V) (vs : List V) (d : PyData) (ds : List PyData) (j : Nat) (z : PyData), x = V.ref a ∧ xs = [y] ∧ H a = some (.lst vs) ∧ Dp K H (V.ref a) (.list ds) ∧ Dp K H y d ∧
  SeqAt.shaped (.list ds) = true ∧ SeqAt.shaped d = true ∧ ds[j]? = some z ∧ PyData.eqv z d = true ∧ (∀ (m : Nat) (z' : PyData), m < j → ds[m]? = some z' → PyData.eqv z' d = false) ∧ Q .non (upd H a (.lst (vs.eraseIdx j)))
theorem mt_removeD (hu : X.A.units + 65 < cLine) : MtR X "list.remove" (rRemoveD X.K) := by
  intro pins s σ H x xs v us Q I rx rxs h
  obtain ⟨a, y, vs, d, ds, j, z, rfl, rfl, hH, hl, hy, sl, sd, hz, hzj, hno, q⟩ := h
  cases rx
  cases rxs with
  | cons ry rt =>
    rename_i uy ut
    cases rt
    obtain ⟨bs, r1⟩ := Dp.reads I d y uy hy ry
    have hxs : PyData.canLayAll0 ds = true := SeqAt.canLay_of_shaped sl
    have hroom : X.A.units + 1 + min (PyData.depthAll ds) d.depth < cLine := PyProof.Rows.room_in_shaped sd hu
    obtain ⟨zl, its, n, r, hlv, e⟩ := I.lstM hH
    cases hl with
    | lst hs ha =>
      obtain ⟨its2, rv, ⟨⟨cls, dd, data, sls⟩, n', ho, hc, hdn, hdt⟩, hlen⟩ := I.list hs
      simp only at hc hdt
      subst hc hdt
      rw [e] at ho
      have hit : its2 = its := by
        have := Option.some.inj ho
        injection this with _ _ h3 _
        injection h3 with h4 _
        have h5 := congrArg Array.toList h4
        simpa using h5.symm
      subst hit
      obtain ⟨as, h4⟩ := Dp.readsAll I ds _ _ ha rv
      have hn := SeqAt.ReadsAll.length ds its2 as h4
      have hmap : its2.map (SeqAt.readOf s.heap) = ds := SeqAt.readsAll_map ds its2 as hxs h4
      obtain ⟨hjd, _⟩ := List.getElem?_eq_some_iff.mp hz
      have hjl : j < its2.length := by omega
      have hj : j < its2.toArray.size := by simpa using hjl
      have at_ : ∀ (m : Nat) (hm : m < its2.toArray.size) (z' : PyData), ds[m]? = some z' → SeqAt.readOf s.heap its2.toArray[m] = z' := by
        intro m hm z' hz'
        have hml : m < its2.length := by simpa using hm
        rw [← hmap, List.getElem?_map, List.getElem?_eq_getElem hml] at hz'
        have e1 : SeqAt.readOf s.heap its2[m] = z' := Option.some.inj (show some (SeqAt.readOf s.heap its2[m]) = some z' from hz')
        simpa using e1
      refine call_meets PySem.F.slot_list_remove ⟨_, e, rfl⟩ PySem.F.entry_list_remove (PySem.F.args_list_remove_2 _ _)
        (SeqAt.list_removeAt a its2.toArray _ _ _ uy (fun u => PyData.eqv (SeqAt.readOf s.heap u) d) j hj ?_ ?_ (by rw [List.size_toArray, hn]; omega)) ⟨e, SeqAt.items_eqAt (vs := its2.toArray) (show ReadsAll s.heap its2.toArray.toList ds as from h4) r1 hxs (SeqAt.canLay_of_shaped sd) hroom, ?_⟩
      · show PyData.eqv (SeqAt.readOf s.heap its2.toArray[j]) d = true
        rw [at_ j hj z hz]
        exact hzj
      · intro m hm hmj
        have hmd : m < ds.length := by omega
        have hz' : ds[m]? = some ds[m] := List.getElem?_eq_getElem hmd
        show PyData.eqv (SeqAt.readOf s.heap its2.toArray[m]) d = false
        rw [at_ m hm _ hz']
        exact hno m _ hmj hz'
      · refine ⟨.non, _, I.lset (its' := its2.eraseIdx j) hH e ?_ (r.eraseIdx j) ?_, rfl, q⟩
        · show its2.toArray.eraseIdxIfInBounds j = (its2.eraseIdx j).toArray
          rw [List.eraseIdxIfInBounds_toArray]
        · have := List.length_eraseIdx_le vs j
          omega
end
/-! data -/
theorem cnt_py {x : D} (px : plain x = true) : ∀ (ds : List D), plains ds = true → ((toPys ds).countP fun z => PyData.eqv z (toPy x)) = (ds.filter fun y => eqD y x).length
  | [], _ => rfl
  | d :: ds, p => by
    simp [plainsAt] at p
    simp only [toPys, List.countP_cons, List.filter_cons]
    rw [eqv_py 8 8 d x p.1 px, cnt_py px ds p.2]
    split <;> simp
theorem findI_some {α : Type} {p : α → Bool} : ∀ {l : List α} {k : Nat}, findI p l = some k → (∃ x, l[k]? = some x ∧ p x = true) ∧ ∀ (m : Nat) (y : α), m < k → l[m]? = some y → p y = false
  | [], k, h => by simp [findI] at h
  | x :: l, k, h => by
    unfold findI at h
    by_cases c : p x = true
    · rw [if_pos c] at h
      cases h
      exact ⟨⟨x, rfl, c⟩, fun m y hm => by omega⟩
    · rw [if_neg c, Option.map_eq_some_iff] at h
      obtain ⟨j, hj, rfl⟩ := h
      obtain ⟨⟨z, h1, h2⟩, h3⟩ := findI_some hj
      refine ⟨⟨z, by simpa using h1, h2⟩, fun m y hm hy => ?_⟩
      cases m with
      | zero =>
        have : x = y := by simpa using hy
        rw [← this]
        simpa using c
      | succ m => exact h3 m y (by omega) (by simpa using hy)
theorem erase_some {x : D} : ∀ {l l' : List D}, eraseFirst x l = some l' → ∃ k z, l[k]? = some z ∧ eqD z x = true ∧ (∀ (m : Nat) (y : D), m < k → l[m]? = some y → eqD y x = false) ∧ l' = l.eraseIdx k
  | [], l', h => by simp [eraseFirst] at h
  | y :: l, l', h => by
    unfold eraseFirst at h
    by_cases c : eqD y x = true
    · rw [if_pos c] at h
      cases h
      exact ⟨0, y, rfl, c, fun m _ hm => by omega, rfl⟩
    · rw [if_neg c, Option.map_eq_some_iff] at h
      obtain ⟨l2, hl, rfl⟩ := h
      obtain ⟨k, z, h1, h2, h3, h4⟩ := erase_some hl
      refine ⟨k + 1, z, by simpa using h1, h2, fun m y' hm hy => ?_, by rw [h4]; rfl⟩
      cases m with
      | zero =>
        have : y = y' := by simpa using hy
        rw [← this]
        simpa using c
      | succ m => exact h3 m y' (by omega) (by simpa using hy)
theorem Rps.eraseIdx {Cl : Nat → Value} {B : Bk Cl} {P : Addr → Prop} {H : Hp} : ∀ {ds : List D} {vs : List V} (k : Nat), Rps B P H vs ds → Rps B P H (vs.eraseIdx k) (ds.eraseIdx k)
  | _, _, _, .nil => .nil
  | _, _, 0, .cons _ t => t
  | _, _, k + 1, .cons r t => .cons r (Rps.eraseIdx k t)
section
variable {X : Cx} {C : Nat → Value} {Wx : WX} {e : Expr} {f : Ev SF.D}
def fCnt (g : D → D → Option D) (i : Nat) (f : Ev D) : Ev D := fun ρ w => (opt (getS ρ i) w).bind fun y w => if isLst y then (f ρ w).bind fun z w => opt (g y z) w else .bad
theorem pe_cntD {i : Nat} {x : Str} {p1 apos cpos : Pos} (hu : X.A.units + 65 < cLine) (hN : X.N[i]? = some x) (hv : Vis X.env.scope x) (hd : (x == ("__debug__" : Str)) = false) (hcd : (x == ("__classdict__" : Str)) = false) (he : PE X e (tD C Wx f)) (hs : okE e = true) (hline : (apos.endLine == cpos.line) = true) :
    PE X (.Call (.Attribute (.Name x p1) "count" apos) [e] [] cpos) (tD C Wx (fCnt cntD i f)) := by
  have hstar := star_ok (es := []) (env := X.env) hs
  refine (pe_bm PySem.F.plainAttrs_list PySem.F.slot_list_count PySem.F.type_list_count (mt_countD hu) (pe_var hN hv hd hcd) (pa_cons he pa_nil hstar) rfl ?_ hline hstar rfl).imp fun σ H Q h => ?_
  · rw [hstar]; rfl
  obtain ⟨B, P, ρ, w, S, G⟩ := h
  unfold fCnt at G
  cases hx : getS ρ i with
  | none => rw [hx] at G; exact G.elim
  | some d0 =>
    rw [hx] at G
    simp only [opt_some, bind_ok] at G
    obtain ⟨v0, h1, r0⟩ := S.r i d0 hx
    cases r0 with
    | @lst a vs ds p0 hv0 s0 =>
      simp only [isLst, if_true] at G
      refine ⟨_, h1, .inl ⟨rfl, _, SqL.of hv0⟩, B, P, ρ, w, S, Got.bind G fun z w1 u H1 e1 W1 r1 G1 => ?_⟩
      obtain ⟨d, hd1, k⟩ := Got.opt G1
      simp only [cntD] at hd1
      split at hd1
      · rename_i c
        rw [Bool.and_eq_true] at c
        cases hd1
        have r0' : Rp B P H1 (.ref a) (.lst ds) := Rp.ext S.w e1 (.lst p0 hv0 s0)
        cases r0' with
        | @lst _ vs' _ p0' hv0' s0' =>
          refine ⟨a, u, toPy z, toPys ds, rfl, rfl, .lst (SqL.of hv0') (Rps.py 8 ds _ c.2 s0'), Rp.py 8 z _ c.1 r1, shapeds_py c.2, shaped_py c.1, ?_⟩
          rw [cnt_py c.1 ds c.2]
          exact k _ H1 (Ext.refl B H1) W1 (.int _)
      · cases hd1
    | _ => exact G.elim
theorem pe_ixoD {i : Nat} {x : Str} {p1 apos cpos : Pos} (hu : X.A.units + 65 < cLine) (hN : X.N[i]? = some x) (hv : Vis X.env.scope x) (hd : (x == ("__debug__" : Str)) = false) (hcd : (x == ("__classdict__" : Str)) = false) (he : PE X e (tD C Wx f)) (hs : okE e = true) (hline : (apos.endLine == cpos.line) = true) :
    PE X (.Call (.Attribute (.Name x p1) "index" apos) [e] [] cpos) (tD C Wx (fCnt ixoD i f)) := by
  have hstar := star_ok (es := []) (env := X.env) hs
  refine (pe_bm PySem.F.plainAttrs_list PySem.F.slot_list_index PySem.F.type_list_index (mt_indexD hu) (pe_var hN hv hd hcd) (pa_cons he pa_nil hstar) rfl ?_ hline hstar rfl).imp fun σ H Q h => ?_
  · rw [hstar]; rfl
  obtain ⟨B, P, ρ, w, S, G⟩ := h
  unfold fCnt at G
  cases hx : getS ρ i with
  | none => rw [hx] at G; exact G.elim
  | some d0 =>
    rw [hx] at G
    simp only [opt_some, bind_ok] at G
    obtain ⟨v0, h1, r0⟩ := S.r i d0 hx
    cases r0 with
    | @lst a vs ds p0 hv0 s0 =>
      simp only [isLst, if_true] at G
      refine ⟨_, h1, .inl ⟨rfl, _, SqL.of hv0⟩, B, P, ρ, w, S, Got.bind G fun z w1 u H1 e1 W1 r1 G1 => ?_⟩
      obtain ⟨d, hd1, k⟩ := Got.opt G1
      simp only [ixoD] at hd1
      split at hd1
      · rename_i c
        rw [Bool.and_eq_true] at c
        obtain ⟨j, hj, rfl⟩ : ∃ j, findI (fun y => eqD y z) ds = some j ∧ d = .int (j : Int) := by
          cases hf : findI (fun y => eqD y z) ds with
          | none => rw [hf] at hd1; cases hd1
          | some j => rw [hf] at hd1; cases hd1; exact ⟨j, rfl, rfl⟩
        obtain ⟨⟨y, hy1, hy2⟩, hno⟩ := findI_some hj
        have hpl : ∀ (m : Nat) (y : D), ds[m]? = some y → plain y = true := fun m y hm => by
          have key : ∀ (l : List D) (m : Nat), plains l = true → l[m]? = some y → plain y = true := by
            intro l
            induction l with
            | nil => intro m _ h; simp at h
            | cons q l ih =>
              intro m hp h
              simp [plainsAt] at hp
              cases m with
              | zero => simp at h; rw [← h]; exact hp.1
              | succ m => exact ih m hp.2 (by simpa using h)
          exact key ds m c.2 hm
        have r0' : Rp B P H1 (.ref a) (.lst ds) := Rp.ext S.w e1 (.lst p0 hv0 s0)
        cases r0' with
        | @lst _ vs' _ p0' hv0' s0' =>
          refine ⟨a, u, toPy z, toPys ds, j, toPy y, rfl, rfl, .lst (SqL.of hv0') (Rps.py 8 ds _ c.2 s0'), Rp.py 8 z _ c.1 r1, shapeds_py c.2, shaped_py c.1, by rw [toPys_get, hy1]; rfl, ?_, fun m z' hm hz' => ?_, ?_⟩
          · rw [eqv_py 8 8 y z (hpl j y hy1) c.1]
            exact hy2
          · rw [toPys_get, Option.map_eq_some_iff] at hz'
            obtain ⟨y', hy', rfl⟩ := hz'
            rw [eqv_py 8 8 y' z (hpl m y' hy') c.1]
            exact hno m y' hm hy'
          · exact k _ H1 (Ext.refl B H1) W1 (.int _)
      · cases hd1
    | _ => exact G.elim
/-- x.remove(e) -/
def fRem (i : Nat) (f : Ev SF.D) : EvS := fun ρ w => match ownList ρ i with
  | some xs => (f ρ w).st ρ fun y w => if plain y && plains xs then (opt (eraseFirst y xs) w).st ρ fun ys w => .ok (.nx (ρ.set i (.ow (.lst ys)))) w else .bad
  | none => .bad
theorem ps_remD {i : Nat} {x : Str} {p1 apos cpos pos : Pos} (hu : X.A.units + 65 < cLine) (hN : X.N[i]? = some x) (hv : Vis X.env.scope x) (hd : (x == ("__debug__" : Str)) = false) (hcd : (x == ("__classdict__" : Str)) = false) (he : PE X e (tD C Wx f)) (hs : okE e = true) (hline : (apos.endLine == cpos.line) = true) :
    PS X (.Expr (.Call (.Attribute (.Name x p1) "remove" apos) [e] [] cpos) pos) (tSD C Wx (fRem i f)) := by
  have hstar := star_ok (es := []) (env := X.env) hs
  refine (ps_expr (pe_bm PySem.F.plainAttrs_list PySem.F.slot_list_remove PySem.F.type_list_remove (mt_removeD hu) (pe_var hN hv hd hcd) (pa_cons he pa_nil hstar) rfl ?_ hline hstar rfl)).imp fun D σ H h => ?_
  · rw [hstar]; rfl
  obtain ⟨B, F, H0, ρ, w, S, G⟩ := h
  unfold fRem at G
  cases hx : ownList ρ i with
  | none => rw [hx] at G; exact G.elim
  | some xs =>
    rw [hx] at G
    have hx := ownList_some hx
    obtain ⟨l, h1, h2, h3, h4⟩ := S.own i _ hx
    obtain ⟨vs0, hv0, rv0⟩ := id h4
    refine ⟨_, h1, .inl ⟨rfl, _, SqL.of hv0⟩, B, _, ρ, w, S.sit0, GotS.st S G fun y w1 u H1 e1 W1 r1 G1 => ?_⟩
    have S1 := S.ext e1 W1
    obtain ⟨l', h1', _, _, h4'⟩ := S1.own i _ hx
    rw [h1] at h1'
    cases h1'
    obtain ⟨vs, hv, rv⟩ := h4'
    split at G1
    · rename_i c
      rw [Bool.and_eq_true] at c
      cases hec : eraseFirst y xs with
      | none => rw [hec] at G1; exact G1.elim
      | some ys =>
        rw [hec] at G1
        simp only [opt_some, st_ok] at G1
        obtain ⟨k, z, q1, q2, q3, q4⟩ := erase_some hec
        have hpl : ∀ (m : Nat) (y : SF.D), xs[m]? = some y → plain y = true := fun m y hm => by
          have key : ∀ (l : List SF.D) (m : Nat), plains l = true → l[m]? = some y → plain y = true := by
            intro l
            induction l with
            | nil => intro m _ h; simp at h
            | cons q l ih =>
              intro m hp h
              simp [plainsAt] at hp
              cases m with
              | zero => simp at h; rw [← h]; exact hp.1
              | succ m => exact ih m hp.2 (by simpa using h)
          exact key xs m c.2 hm
        refine ⟨l, u, vs, toPy y, toPys xs, k, toPy z, rfl, rfl, hv, .lst (SqL.of hv) (Rps.py 8 xs _ c.2 rv), Rp.py 8 y _ c.1 r1, shapeds_py c.2, shaped_py c.1, by rw [toPys_get, q1]; rfl, ?_, fun m z' hm hz' => ?_, ?_⟩
        · rw [eqv_py 8 8 z y (hpl k z q1) c.1]
          exact q2
        · rw [toPys_get, Option.map_eq_some_iff] at hz'
          obtain ⟨y', hy', rfl⟩ := hz'
          rw [eqv_py 8 8 y' y (hpl m y' hy') c.1]
          exact q3 m y' hm hy'
        · refine G1 _ _ (S1.mut hx h1 ⟨_, upd_same, ?_⟩)
          have ht : ∀ a zs, H1 a = some (.tup zs) → upd H1 l (.lst (vs.eraseIdx k)) a = some (.tup zs) := fun a zs q => by
            rw [upd_ne (fun z => by rw [z, hv] at q; cases q)]; exact q
          rw [q4]
          exact Rps.mo ⟨ht, fun _ _ p => absurd trivial p, fun _ _ p => absurd trivial p, fun _ _ p => absurd trivial p, fun a zs q => by
            rw [upd_ne (fun z => by rw [z, hv] at q; cases q)]; exact q⟩ _ _ (rv.eraseIdx k)
    · exact G1.elim
end
end SF

namespace SF
open PySem PySem.W L2
/-! ### tuple(range(..)), list(range(..)) -/
theorem rgV_eq (a b : Int) : L2.rgV a b = ((List.range (b - a).toNat).map fun (k : Nat) => a + (k : Int)).map V.int := by
  unfold L2.rgV
  rw [List.map_map]
  rfl
section
variable {X : Cx} {C : Nat → Value} {Wx : WX} {a b c e : Expr} {es : List Expr} {fa fb fc f : Ev D} {fas : Ev (List D)} {pos : Pos}
def fRg2 (mk : List D → D) (fa fb : Ev D) : Ev D := fun ρ w => (fa ρ w).bind fun x w => (fb ρ w).bind fun y w => match x, y with
  | .int i, .int j => opt ((rangeL i j 1).map mk) w
  | _, _ => .bad
theorem rangeL_some {i j : Int} {mk : List D → D} {d : D} (h : (rangeL i j 1).map mk = some d) : RgOk i j ∧ d = mk (((List.range (j - i).toNat).map fun (k : Nat) => i + (k : Int)).map D.int) := by
  unfold rangeL at h
  split at h
  · rename_i c
    rw [if_pos rfl] at h
    simp only [Option.map_some, Option.some.injEq] at h
    refine ⟨⟨by omega, by omega, by omega, by omega, by omega⟩, ?_⟩
    rw [← h, List.map_map]
    rfl
  · simp at h
theorem pe_tupRgD {p p2 pos2 : Pos} (hc : X.calm = true) (hg : Gl X "tuple") (hm : X.mg "tuple" = none) (hg2 : Gl X "range") (hm2 : X.mg "range" = none) (ha : PE X a (tD C Wx fa)) (hs : okE a = true) (hb : PE X b (tD C Wx fb)) (hsb : okE b = true)
    (hse : starEach [Expr.Call (.Name "range" p2) [a, b] [] pos2] X.env = (false, eval (Expr.Call (.Name "range" p2) [a, b] [] pos2) X.env) :: starEach [] X.env) :
    PE X (.Call (.Name "tuple" p) [.Call (.Name "range" p2) [a, b] [] pos2] [] pos) (tD C Wx (fRg2 .tup fa fb)) := by
  refine (pe_tupRg hc hg hm (prg_2 hg2 hm2 ha hb ((star_ok hs).trans (by rfl)) (star_ok hsb) (by rw [star_ok hsb]; rfl)) hse).imp fun σ H Q ⟨B, P, ρ, w, S, G⟩ => ?_
  refine ⟨B, P, ρ, w, S, Got.bind G fun d1 w1 v1 H1 e1 W1 r1 G1 => ⟨B, P, ρ, w1, S.ext e1 W1, Got.bind G1 fun d2 w2 v2 H2 e2 W2 r2 G2 => ?_⟩⟩
  have r1 := r1.ext W1 e2
  cases r1 with
  | int i =>
    cases r2 with
    | int j =>
      obtain ⟨d, hd, k⟩ := Got.opt G2
      obtain ⟨ok, rfl⟩ := rangeL_some hd
      refine ⟨i, j, rfl, rfl, ok, fun q hq => k _ _ (Ext.new hq) (W2.new hq) ?_⟩
      rw [rgV_eq]
      exact new_tup W2 ((S.ext e1 W1).ext e2 W2).f hq (Rps.of_ints _)
    | _ => exact G2.elim
  | _ => cases d2 <;> exact G2.elim
theorem pe_listRgD {p p2 pos2 : Pos} (hc : X.calm = true) (hg : Gl X "list") (hm : X.mg "list" = none) (hg2 : Gl X "range") (hm2 : X.mg "range" = none) (ha : PE X a (tD C Wx fa)) (hs : okE a = true) (hb : PE X b (tD C Wx fb)) (hsb : okE b = true)
    (hse : starEach [Expr.Call (.Name "range" p2) [a, b] [] pos2] X.env = (false, eval (Expr.Call (.Name "range" p2) [a, b] [] pos2) X.env) :: starEach [] X.env) :
    PE X (.Call (.Name "list" p) [.Call (.Name "range" p2) [a, b] [] pos2] [] pos) (tD C Wx (fRg2 .lst fa fb)) := by
  refine (pe_listRg hc hg hm (prg_2 hg2 hm2 ha hb ((star_ok hs).trans (by rfl)) (star_ok hsb) (by rw [star_ok hsb]; rfl)) hse).imp fun σ H Q ⟨B, P, ρ, w, S, G⟩ => ?_
  refine ⟨B, P, ρ, w, S, Got.bind G fun d1 w1 v1 H1 e1 W1 r1 G1 => ⟨B, P, ρ, w1, S.ext e1 W1, Got.bind G1 fun d2 w2 v2 H2 e2 W2 r2 G2 => ?_⟩⟩
  have r1 := r1.ext W1 e2
  cases r1 with
  | int i =>
    cases r2 with
    | int j =>
      obtain ⟨d, hd, k⟩ := Got.opt G2
      obtain ⟨ok, rfl⟩ := rangeL_some hd
      refine ⟨i, j, rfl, rfl, ok, fun q hq => k _ _ (Ext.new hq) (W2.new hq) ?_⟩
      rw [rgV_eq]
      exact new_lst W2 ((S.ext e1 W1).ext e2 W2).f hq (Rps.of_ints _)
    | _ => exact G2.elim
  | _ => cases d2 <;> exact G2.elim
/-! ### sorted(set(t)) -/
def rSetT (K : PySem.W.Frag) (w : World) : List V → Hp → VK → Prop := fun xs H Q => ∃ (p : Addr) (ns : List Int), xs = [.ref p] ∧ SqT K H p (ns.map V.int) ∧ ns.length ≤ 1000 ∧
  ∀ (q : Addr) (c : Nat), H q = none → c ≤ ns.length → Q (.ref q) (upd H q (SetO w q (fun j => decide (j ∈ ns)) c))
theorem cr_setT (hc : X.calm = true) : CallR X (.type "set") (rSetT X.K X.w) := by
  intro pins s σ H xs us Q I r h
  obtain ⟨p0, ns, rfl, hq, hl, q⟩ := h
  cases r with
  | cons r rr =>
    cases rr
    cases r
    obtain ⟨its, rv, pt, hz⟩ := I.tuple hq
    have hi : PyProof.Rows.IntsAre its.toArray.toList ns := ints_of_vals rv
    have hd := I.ok.hd hc
    refine call_set_tupI ns hd (show s.heap.IsTuple p0 its.toArray from pt) hi (by unfold scanBound; omega) fun h' tk c R1 hcn k => ?_
    exact ⟨.ref s.heap.objs.size, upd H s.heap.objs.size (SetO X.w s.heap.objs.size (fun j => decide (j ∈ ns)) c), I.laid (t' := tk) k (Nat.le_refl _) (setO_new R1), rfl, q _ c (I.hok.fresh (Nat.le_refl _)) hcn⟩
end
theorem dedup_mem : ∀ (l : List Int) (x : Int), x ∈ dedup l ↔ x ∈ l
  | [], x => by simp [dedup]
  | y :: l, x => by
    rw [dedup]
    have ih := dedup_mem l x
    split
    · rename_i c
      rw [ih, List.mem_cons]
      constructor
      · exact .inr
      · rintro (rfl | h)
        · exact c
        · exact h
    · rw [List.mem_cons, List.mem_cons, ih]
theorem dedup_nodup : ∀ (l : List Int), (dedup l).Nodup
  | [] => by simp [dedup]
  | y :: l => by
    rw [dedup]
    split
    · exact dedup_nodup l
    · rename_i c
      exact List.nodup_cons.mpr ⟨fun z => c ((dedup_mem l y).mp z), dedup_nodup l⟩
theorem asc_sset {ns is : List Int} (h1 : ns.Pairwise (· < ·)) (h2 : ∀ k, k ∈ ns ↔ k ∈ is) : ns = sortI (dedup is) := by
  refine sortI_unique ?_ (h1.imp fun h => by omega)
  refine (List.perm_ext_iff_of_nodup (h1.imp fun h => by omega) (dedup_nodup is)).mpr fun k => ?_
  rw [h2, dedup_mem]
section
variable {X : Cx} {C : Nat → Value} {Wx : WX} {a e : Expr} {fa : Ev D} {pos : Pos}
theorem pe_ssetD {p p2 pos2 : Pos} (hc : X.calm = true) (hg : Gl X "sorted") (hm : X.mg "sorted" = none) (hg2 : Gl X "set") (hm2 : X.mg "set" = none) (ha : PE X a (tD C Wx fa)) (hs : okE a = true)
    (hse : starEach [Expr.Call (.Name "set" p2) [a] [] pos2] X.env = (false, eval (Expr.Call (.Name "set" p2) [a] [] pos2) X.env) :: starEach [] X.env) :
    PE X (.Call (.Name "sorted" p) [.Call (.Name "set" p2) [a] [] pos2] [] pos) (tD C Wx fun ρ w => (fa ρ w).bind fun x w => opt (bltD .sset [x]) w) := by
  have inner := pe_callTy (p := p2) (pos := pos2) (cr_setT hc) hg2 hm2 (by decide +kernel) (pa_cons ha pa_nil (star_ok hs)) (by decide) (by decide) (star_ok hs) rfl
  refine (pe_callB (p := p) (pos := pos) (cr_sortedSet hc) hg hm (by decide +kernel) (pa_cons inner pa_nil hse) (by decide) (by decide) hse rfl).imp fun σ H Q ⟨B, P, ρ, w, S, G⟩ => ?_
  refine ⟨B, P, ρ, w, S, Got.bind G fun d1 w1 v1 H1 e1 W1 r1 G1 => ?_⟩
  obtain ⟨d, hd, k⟩ := Got.opt G1
  cases r1 with
  | @tup ad vs ds h1 s1 =>
    simp only [bltD] at hd
    split at hd
    · rename_i hlen
      cases ei : SF.ints ds with
      | none => rw [ei] at hd; simp at hd
      | some is =>
        rw [ei] at hd
        simp only [Option.map_some, Option.some.injEq] at hd
        subst hd
        have hil : is.length = ds.length := by
          have := s1.ints ei
          have l2 := s1.length
          rw [this, List.length_map] at l2
          exact l2
        refine ⟨_, is, rfl, SqT.of (h1.trans (by rw [s1.ints ei])), by omega, fun q c hq hcn => ?_⟩
        refine ⟨q, _, c, rfl, upd_same, by omega, fun ns p hp1 hp2 hp3 hn => ?_⟩
        have e := asc_sset (is := is) hp1 (fun k => by rw [hp2]; simp)
        rw [e]
        exact k _ _ ((Ext.new hq).trans (Ext.new hn)) ((W1.new hq).new hn) (new_lst (W1.new hq) ((S.ext e1 W1).ext (Ext.new hq) (W1.new hq)).f hn (Rps.of_ints _))
    · simp at hd
  | _ => simp [bltD] at hd
end
end SF

namespace SF
open PySem PySem.W PySem.SeqAt L2
/-! ### sorted(tuples of «ints», any length) -/
section
variable {prog : Program} {w : World} {A : Around} {E : Value → Shared → Prop} {s : Shared}
theorem call_tuple_lt' {Q : Value → Shared → Prop} {l b : Addr} {items items2 : Array Value} {e r : Nat → Bool} (hl : s.heap.IsTuple l items) (hb : s.heap.IsTuple b items2)
    (he : ∀ j (h1 : j < items.size) (h2 : j < items2.size), EqAt A.in1 s items[j] items2[j] (e j)) (hr : ∀ j (h1 : j < items.size) (h2 : j < items2.size), e j = false → RcLt A.in1 s items[j] items2[j] (r j))
    (h : Q (.bool (firstLt e r (decide (items.size < items2.size)) (List.range (min items.size items2.size)))) s) : wpAny (model prog w) A (call (.builtin "tuple.__lt__") [.ref l, .ref b]) Q E s := by
  obtain ⟨⟨cls, dd, data, sl⟩, ho, hc, n, hd⟩ := id hl
  obtain ⟨⟨cls2, dd2, data2, sl2⟩, ho2, hc2, n2, hd2⟩ := id hb
  simp only at hc hd hc2 hd2
  subst hc hd hc2 hd2
  exact call_meets PySem.F.slot_tuple_lt ⟨_, ho, rfl⟩ PySem.F.entry_tuple_lt (PySem.F.args_tuple_lt_2 _ _) (PySem.SeqAt.tuple_ltAt l b items items2 n n2 dd dd2 sl sl2 e r) ⟨ho, ho2, he, hr, h⟩
theorem oneLt_tup {xs ys : List PyData} {a b : Value} {as bs : List Addr} {Q : Bool → Shared → Prop} (ra : Reads s.heap a (.tuple xs) as) (rb : Reads s.heap b (.tuple ys) bs) (hal : alikeAll xs ys = true)
    (hu : A.units + min (PyData.tuple xs).depth (PyData.tuple ys).depth < cLine) (hq : Q (dataLt (.tuple xs) (.tuple ys)) s) : wpAny (model prog w) A (PyProof.Rows.oneLt' true a b) Q E s := by
  cases ra with
  | @tuple l o vs n _ as₁ h1 h2 h3 h4 =>
    cases rb with
    | @tuple l' o' vs' n' _ bs₁ k1 k2 k3 k4 =>
      have n1 : vs.size = xs.length := by simpa using SeqAt.ReadsAll.length _ _ _ h4
      have n2 : vs'.size = ys.length := by simpa using SeqAt.ReadsAll.length _ _ _ k4
      rw [dataLt_tuple, ← firstLt_toks xs ys hal, ← n1, ← n2] at hq
      rw [PyProof.Rows.oneLt'_eq]
      simp only [if_true]
      refine wpAny_bind (wpAny_cRoomFor (room_here hu) ?_)
      refine wpAny_bind (wpAny_callSpecialIfBound?_slot (T := "tuple") ⟨_, h1, h2⟩ PySem.F.slot_tuple_lt (call_tuple_lt' (e := pairEq xs ys) (r := fun j => dataLt (xs.getD j .none) (ys.getD j .none)) ⟨_, h1, h2, _, h3⟩ ⟨_, k1, k2, _, k3⟩ (fun j j1 j2 => ?_) (fun j j1 j2 hj => ?_) ?_))
      · have := eqAt_alikeAll xs ys A.in1 s vs.toList vs'.toList _ _ h4 k4 hal (room_in hu) j (by simpa using j1) (by simpa using j2)
        simpa using this
      · have := rcLt_alikeAll xs ys A.in1 s vs.toList vs'.toList _ _ h4 k4 hal (room_in hu) j (by simpa using j1) (by simpa using j2) hj
        simpa using this
      · exact wpAny_truthy_bool hq
/-- a tuple in the heap, by its items -/
def TupAt (h : Heap) (v : Value) (xs : Array Value) : Prop := ∃ a o n, v = .ref a ∧ h.get? a = some o ∧ o.cls = .type "tuple" ∧ o.data = .seq xs n
theorem tup_firsts {M : Model} : ∀ (vs : List Value) {Q : List (Option Value) → Shared → Prop} (it : Value → Array Value), (∀ v ∈ vs, TupAt s.heap v (it v)) → Q (vs.map fun v => (it v)[0]?) s → wpAny M A (vs.mapM PyProof.Rows.firstOfTuple') Q E s
  | [], _, _, _, h => by rw [List.mapM_nil]; exact wpAny_pure h
  | v :: vs, Q, it, t, h => by
    obtain ⟨a, o, n, e, ho, hc, hd⟩ := t v List.mem_cons_self
    rw [List.mapM_cons]
    refine wpAny_bind ?_
    rw [PySem.W.kas_first_eq]
    rw [e]
    refine wpAny_bind (Looks.here (show Looks M s.heap (typeOf (.ref a)) o.cls from (Looks.ld ho).andThen .now) ?_)
    rw [hc, if_neg (by first | decide | simp)]
    refine wpAny_bind (PyProof.Rows.listItems_at ho hd (wpAny_pure ?_))
    exact wpAny_bind (tup_firsts vs (Q := fun bs s' => wpAny M A (pure ((it v)[0]? :: bs)) Q E s') it (fun u hu => t u (List.mem_cons_of_mem _ hu)) (wpAny_pure h))
theorem tup_kind {M : Model} {v₁ : Value} {rest : List Value} {Q : PyProof.Rows.SortKind → Shared → Prop} (it : Value → Array Value) (t : ∀ v ∈ v₁ :: rest, TupAt s.heap v (it v)) (h1 : it v₁ = #[]) (h : Q PyProof.Rows.oneType' s) :
    wpAny M A (PyProof.Rows.keyKind' (v₁ :: rest).toArray) Q E s := by
  rw [PyProof.Rows.keyKind'_eq, List.mapM_toArray, map_eq_pure_bind]
  refine wpAny_bind (wpAny_bind (tup_firsts _ it t (wpAny_pure ?_)))
  have f0 : (it v₁)[0]? = none := by rw [h1]; rfl
  rw [if_neg (by simp [f0]), if_neg (by simp [f0])]
  rw [PyProof.Rows.oneTypeOnly'_eq, List.mapM_toArray, map_eq_pure_bind]
  refine wpAny_bind (wpAny_bind (wpAny_bind (PySem.W.kas_mapM (r := Value.type "tuple") _ (fun v hv Q' hq => ?_) (wpAny_pure ?_))))
  · obtain ⟨a, o, n, rfl, ho, hc, hd⟩ := t v hv
    exact Looks.here (show Looks M s.heap (typeOf (.ref a)) (Value.type "tuple") from hc ▸ (Looks.ld ho).andThen .now) hq
  have hall : ((List.map (fun _ => Value.type "tuple") (v₁ :: rest)).toArray.all fun x => x == Value.type "tuple") = true := by
    simp only [List.all_toArray, List.all_map, List.all_eq_true]
    intro _ _
    exact beq_self_eq_true _
  have h0 : (List.map (fun _ => Value.type "tuple") (v₁ :: rest)).toArray[0]? = some (Value.type "tuple") := by simp
  rw [h0]
  simp only [hall, if_true]
  exact wpAny_pure (wpAny_pure h)
end
end SF

namespace SF
open PySem PySem.W PySem.SeqAt L2 PyProof.Rows
/-- a tuple of these «ints» -/
def TupI (h : Heap) (v : Value) (ns : List Int) : Prop := ∃ a o items n, v = .ref a ∧ h.get? a = some o ∧ o.cls = .type "tuple" ∧ o.data = .seq items n ∧ IntsAre items.toList ns
section
variable {prog : Program} {w : World} {A : Around} {E : Value → Shared → Prop} {s : Shared}
theorem TupI.keeps {h h' : Heap} {v : Value} {ns : List Int} (x : TupI h v ns) (k : ∀ b o, v = .ref b → h.get? b = some o → o.cls = .type "tuple" → h'.get? b = some o) : TupI h' v ns := by
  obtain ⟨a, o, items, n, e, g, c, d, i⟩ := x
  exact ⟨a, o, items, n, e, k _ _ e g c, c, d, i⟩
theorem lt_tupI {v u : Value} {ns ms : List Int} {Q : Bool → Shared → Prop} (hu : A.units < cLine) (hv : TupI s.heap v ns) (hw : TupI s.heap u ms) (h : Q (HT.lexLt ns ms) s) : wpAny (model prog w) A (keyLt' oneType' v u) Q E s := by
  obtain ⟨a, ⟨cls, dd, data, sl⟩, items, n, rfl, ho, hc, hd, hi⟩ := hv
  obtain ⟨b, ⟨cls2, dd2, data2, sl2⟩, items2, n2, rfl, ho2, hc2, hd2, hi2⟩ := hw
  simp only at hc hd hc2 hd2
  subst hc hd hc2 hd2
  rw [keyLt'_oneType, oneLt'_eq]
  simp only [if_true]
  refine wpAny_bind (wpAny_cRoomFor hu ?_)
  refine wpAny_bind (wpAny_callSpecialIfBound?_slot (T := "tuple") ⟨_, ho, rfl⟩ PySem.F.slot_tuple_lt (call_meets PySem.F.slot_tuple_lt ⟨_, ho, rfl⟩ PySem.F.entry_tuple_lt (PySem.F.args_tuple_lt_2 _ _) (HT.tuple_lt_ints a b items items2 n n2 dd dd2 sl sl2 ns ms hi hi2) ⟨ho, ho2, ?_⟩))
  exact wpAny_truthy_bool h
theorem tupI_cmp {vs : List Value} {k : Value → List Int} (hu : A.units < cLine) (hv : ∀ v ∈ vs, TupI s.heap v (k v)) : SrtO.Cmp prog w A s oneType' (fun p => p.1 ∈ vs) (SrtO.lt2 fun v u => HT.lexLt (k v) (k u)) := by
  intro p q hp hq
  exact lt_tupI (Q := fun r s' => s' = s ∧ r = HT.lexLt (k p.1) (k q.1)) (E := fun _ _ => False) hu (hv p.1 hp) (hv q.1 hq) ⟨rfl, rfl⟩
theorem tupI_sortable {a : Addr} {v₁ : Value} {rest : List Value} {k : Value → List Int} (hu : A.units < cLine) (hv : ∀ v ∈ v₁ :: rest, TupI s.heap v (k v)) (h0 : k v₁ = []) (ha : ∀ o, s.heap.get? a = some o → o.cls ≠ .type "tuple") :
    SrtO.SortableO prog w A s a (v₁ :: rest) fun v u => HT.lexLt (k v) (k u) := by
  intro h' keep
  have hv' : ∀ v ∈ v₁ :: rest, TupI h' v (k v) := fun v hm => (hv v hm).keeps fun b o _ e c => keep b o (fun z => by subst z; exact ha o e c) e
  refine ⟨oneType', fun Q E hq => ?_, tupI_cmp (s := { s with heap := h' }) hu hv'⟩
  have hx : ∀ v, ∃ it : Array Value, v ∈ v₁ :: rest → TupAt h' v it ∧ IntsAre it.toList (k v) := fun v => by
    by_cases m : v ∈ v₁ :: rest
    · obtain ⟨a, o, items, n, e, g, c, d, i⟩ := hv' v m
      exact ⟨items, fun _ => ⟨⟨a, o, n, e, g, c, d⟩, i⟩⟩
    · exact ⟨#[], fun z => absurd z m⟩
  have hf := fun v => Classical.choose_spec (hx v)
  refine tup_kind (s := { s with heap := h' }) (fun v => Classical.choose (hx v)) (fun v m => (hf v m).1) ?_ hq
  have hl := (hf v₁ List.mem_cons_self).2.length.trans (congrArg List.length h0)
  exact Array.eq_empty_of_size_eq_zero (by simpa using hl)
end
end SF
namespace L2
open PySem PySem.Spec PyProof.Rows
def ltL (k : V → List Int) : V → V → Bool := fun x y => HT.lexLt (k x) (k y)
/-- sorted(xs), xs a list of tuples of «ints», the first of them empty -/
def rSortedTO (K : PySem.W.Frag) : List V → Hp → VK → Prop := fun vs H Q => ∃ (a : Addr) (xs : List V) (k : V → List Int), vs = [V.ref a] ∧ SqL K H a xs ∧ (∀ x ∈ xs, ∃ t, x = V.ref t ∧ H t = some (.tup ((k x).map V.int))) ∧ (∃ x r, xs = x :: r ∧ k x = []) ∧
  ∀ ys p, SrtO.Srtd (ltL k) ys → SrtO.Stb (ltL k) ys xs → H p = none → Q (.ref p) (upd H p (.lst ys))
section
variable {X : Cx}
theorem cr_sortedTO (hu : X.A.units + 64 < cLine) : CallR X (.builtin "sorted") (rSortedTO X.K) := by
  intro pins s σ H vs us Q I r h
  obtain ⟨a, xs, k, rfl, hs, hx, ⟨x0, r0, hxr, hk0⟩, q⟩ := h
  obtain ⟨its, rv, hl, hz⟩ := I.list hs
  obtain ⟨u, rfl, ru⟩ := vals1 r
  obtain rfl : u = Value.ref a := ru
  obtain ⟨e1, e2⟩ := refs_back rv fun x m => by
    obtain ⟨t, e, _⟩ := hx x m
    exact ⟨t, e⟩
  have hI : ∀ v ∈ its, SF.TupI s.heap v (k (backV v)) := fun v hv => by
    obtain ⟨t, rfl⟩ := e2 v hv
    have hm : V.ref t ∈ xs := by rw [e1]; exact List.mem_map.mpr ⟨_, hv, rfl⟩
    obtain ⟨t', e, ht⟩ := hx _ hm
    cases e
    obtain ⟨_, its2, r2, o, ho, hc, n, hd⟩ := I.hok _ _ ht
    exact ⟨t, o, its2.toArray, n, rfl, ho, hc, hd, ints_of_vals r2⟩
  refine SrtO.sorted_ord (NtL.swo_lexL fun u => k (backV u)) hl.isList (by rw [← rv.length]; exact hz) (fun h2 h₁ ad ha kk => ?_) fun out h1 h2 => ?_
  · cases its with
    | nil => simp at h2
    | cons v1 rest =>
      refine SF.tupI_sortable (s := { s with heap := h₁ }) (by simp only [Around.in1_units]; omega) (fun v hm => (hI v hm).keeps fun b o _ e _ => (kk b o e).2) ?_ fun o e => ?_
      · rw [e1] at hxr
        simp only [List.map_cons, List.cons.injEq] at hxr
        rw [hxr.1]
        exact hk0
      · have e' : some o = some (seqObj "list" (v1 :: rest).toArray 0) := e.symm.trans ha
        cases e'
        intro c
        exact absurd (Value.type.inj c) (by decide)
  · have h3 : ∀ u ∈ out, ∃ a, u = Value.ref a := fun u hu => e2 u (h2.perm.mem_iff.mp hu)
    obtain ⟨n, hn⟩ := sortedAll_at s.heap its out.toArray
    have hb : SrtO.Stb (ltL k) (out.map backV) xs := by
      rw [e1]
      exact SrtO.Stb.map (NtL.swo_lexL k) backV h2
    refine ⟨.ref (s.heap.objs.size + 1), upd H (s.heap.objs.size + 1) (.lst (out.map backV)), I.laid (t' := s.toks) (fun b o e => sortedAll_old e) (Nat.le_succ _) ⟨?_, out, n, vals_back h3, hn⟩, rfl, q _ _ (SrtO.srtd_map h1) hb (I.hok.fresh (Nat.le_succ _))⟩
    rw [hb.len]
    exact hz
end
end L2
namespace SF
open PySem L2
section
variable {X : Cx}
def tupAtV (H : Hp) : V → List Int
  | .ref a => match H a with
    | some (.tup vs) => vs.map fun v => match v with | .int i => i | _ => 0
    | _ => []
  | _ => []
theorem tupAtV_of {H : Hp} {t : Addr} {ns : List Int} (h : H t = some (.tup (ns.map V.int))) : tupAtV H (.ref t) = ns := by
  simp only [tupAtV, h, List.map_map]
  clear h
  induction ns with
  | nil => rfl
  | cons n ns ih => simp only [List.map_cons, ih]; rfl
theorem call_sortCD (hu : X.A.units + 64 < cLine) : CallR X (.builtin "sorted") (rDs (bltD .sortC)) := by
  intro pins s σ H xs us Q I rx h
  obtain ⟨_, B, P, w, ds, d, W, F, r, e, k⟩ := h
  match ds, e with
  | [], e => simp [bltD] at e
  | _ :: _ :: _, e => simp [bltD] at e
  | [a], e =>
    obtain ⟨v, rfl, r1⟩ := rps1 r
    cases r1 with
    | @lst ad vs ds' p1 h1 s1 =>
      simp only [bltD] at e
      unfold sortCD at e
      split at e
      · rename_i xs' hh
        cases hh
        cases et : tupsInts xs' with
        | none => rw [et] at e; cases e
        | some ts =>
          rw [et] at e
          have e := Option.some.inj e
          subst e
          have et2 : tupsInts (.tup [] :: xs') = some ([] :: ts) := by simp [tupsInts, tupInts, SF.ints, et]
          obtain ⟨as, ha1, ha2, ha3⟩ := s1.tups et2
          have hk : ∀ x ∈ vs, ∃ t, x = V.ref t ∧ H t = some (.tup ((tupAtV H x).map V.int)) := fun x hx => by
            rw [ha1] at hx
            obtain ⟨t, ht, rfl⟩ := List.mem_map.mp hx
            obtain ⟨i, hi⟩ := List.getElem?_of_mem ht
            have hi2 : i < ([] :: ts).length := by rw [← ha2]; exact (List.getElem?_eq_some_iff.mp hi).1
            have h3 := ha3 i t _ hi (List.getElem?_eq_getElem hi2)
            exact ⟨t, rfl, by rw [tupAtV_of h3]; exact h3⟩
          have hts : vs.map (tupAtV H) = [] :: ts := by
            rw [ha1, List.map_map]
            refine List.ext_getElem? fun i => ?_
            rw [List.getElem?_map]
            cases hi : as[i]? with
            | none =>
              have : ([] :: ts).length ≤ i := by rw [← ha2]; exact List.getElem?_eq_none_iff.mp hi
              rw [List.getElem?_eq_none this]
              rfl
            | some t =>
              have hi2 : i < ([] :: ts).length := by rw [← ha2]; exact (List.getElem?_eq_some_iff.mp hi).1
              have h3 := ha3 i t _ hi (List.getElem?_eq_getElem hi2)
              rw [List.getElem?_eq_getElem hi2]
              simp only [Option.map_some, Function.comp]
              rw [tupAtV_of h3]
          have h0 : ∃ x r, vs = x :: r ∧ tupAtV H x = [] := by
            cases vs with
            | nil => simp at hts
            | cons x r =>
              simp only [List.map_cons, List.cons.injEq] at hts
              exact ⟨x, r, rfl, hts.1⟩
          refine cr_sortedTO hu pins s σ H _ us Q I rx ⟨_, vs, tupAtV H, rfl, SqL.of h1, hk, h0, fun ys p hs hb hn => ?_⟩
          have e1 : ys.map (tupAtV H) = sortT ([] :: ts) := by
            refine sortT_unique ?_ ?_
            · rw [← hts]
              exact hb.perm.map _
            · unfold Srt
              refine List.pairwise_map.mpr (List.Pairwise.imp ?_ hs)
              intro x y z
              rw [← lex_same]
              exact z
          have hys : Rps B P H ys ((ys.map (tupAtV H)).map fun t => .tup (t.map .int)) := by
            have hm : ∀ y ∈ ys, y ∈ vs := fun y hy => hb.perm.mem_iff.mp hy
            clear e1 hb hs
            induction ys with
            | nil => exact .nil
            | cons y ys ih =>
              refine .cons ?_ (ih fun z hz => hm z (List.mem_cons_of_mem _ hz))
              obtain ⟨t, ey, ht⟩ := hk y (hm y List.mem_cons_self)
              rw [ey] at ht ⊢
              exact .tup ht (Rps.of_ints _)
          rw [e1] at hys
          exact k _ _ (Ext.new hn) (W.new hn) (new_lst W F hn hys)
      · cases e
    | _ => simp [bltD, sortCD] at e
end
end SF

namespace SF
open PySem L2
theorem enumT_new {v : Value} {o : Obj} {Hq : Heap → Prop} (Bv : Begins v o Hq) :
    Meets (Builtin.«enumerate.__new__» ⟨[.type "enumerate", v], []⟩) (fun _ Rq sq => Hq sq.heap ∧
      Rq (.ok (.ret (.ref (sq.heap.push o).objs.size))) { sq with heap := (sq.heap.push o).push { cls := .type "enumerate", data := .fields #[.none, .bool false, .ref sq.heap.objs.size, rawInt 0, .none, .none] } }) :=
  .of_wp fun prog w A Rq sq hq => by
    obtain ⟨hp, gg, dd, tk, os⟩ := sq
    obtain ⟨h1, hq⟩ := hq
    have hsub := sub_enumerate
    have it1 : ∀ {Aq : Around} {Eq : Value → Shared → Prop} {Qq : Value → Shared → Prop}, Qq (.ref hp.objs.size) ⟨hp.push o, gg, dd, tk, os⟩ → wpAny (model prog w) Aq (pyIter v) Qq Eq ⟨hp, gg, dd, tk, os⟩ :=
      fun z => Bv.iter prog w _ _ ⟨hp, gg, dd, tk, os⟩ _ h1 z
    wp_walk using it1
    refine wpAny_stack_any fun sk => wpAny_pure ?_
    split
    · rename_i cc _ _ _ _ _
      cases (cc == Value.type "enumerate")
      · wp_walk using it1
        exact ⟨_, rfl, hq⟩
      · wp_walk using it1
        exact ⟨_, rfl, hq⟩
    · wp_walk using it1
      exact ⟨_, rfl, hq⟩
section
variable {prog : Program} {w : World} {A : Around} {E : Value → Shared → Prop} {s : Shared}
theorem call_enumT {v : Value} {o : Obj} {Hq : Heap → Prop} {Q : Value → Shared → Prop} (Bv : Begins v o Hq) (h1 : Hq s.heap)
    (hq : ∀ h', IsEnum h' (s.heap.objs.size + 1) s.heap.objs.size 0 .none → h'.get? s.heap.objs.size = some o →
      (∀ b o, s.heap.get? b = some o → h'.get? b = some o) → Q (.ref (s.heap.objs.size + 1)) { s with heap := h' }) :
    wpAny (model prog w) A (call (.type "enumerate") [v]) Q E s := by
  refine callType_new F.called_enumerate (by decide) (F.typeCall_enumerate_1 _) (F.newCall_enumerate_1 _) (fun z => F.args_object_init_2 z _) F.entry_enumerate_new (enumT_new Bv) ⟨h1, ?_⟩
  have hz : (s.heap.push o).objs.size = s.heap.objs.size + 1 := Heap.size_push ..
  show _ ∧ _
  rw [hz]
  have ie : IsEnum ((s.heap.push o).push { cls := .type "enumerate", data := .fields #[.none, .bool false, .ref s.heap.objs.size, rawInt 0, .none, .none] }) (s.heap.objs.size + 1) s.heap.objs.size 0 .none := by
    have z := Heap.get?_push_size (s.heap.push o) (o := { cls := .type "enumerate", data := .fields #[.none, .bool false, .ref s.heap.objs.size, rawInt 0, .none, .none] }) rfl
    rw [hz] at z
    exact z
  exact ⟨⟨_, ie, rfl⟩, hq _ ie (Heap.get?_push_of_some _ (Heap.get?_push_size _ Bv.free)) fun b o x => Heap.get?_push_of_some _ (Heap.get?_push_of_some _ x)⟩
end
/-- the tuple at a, each item in a new pair -/
def IteT (K : PySem.W.Frag) (a : Addr) : It :=
  ⟨fun i H => ∃ (xs : List V) (x : V), SqT K H a xs ∧ xs[i]? = some x,
   fun i H v H' => ∃ T x, v = .ref T ∧ H T = none ∧ H' = upd H T (.tup [.int (i : Nat), x]) ∧ ∀ xs, SqT K H a xs → xs[i]? = some x,
   fun i H => ∃ xs : List V, SqT K H a xs ∧ xs.length = i⟩
theorem turn_enumT {P : Program} {w : World} {K : PySem.W.Frag} {elts : List Expr} {kk : Nat} {tpos : Pos} (a e it : Addr) (hai : a ≠ it) (hea : e ≠ a) :
    Turn P w K (.Tuple elts kk tpos) (IteT K a) [e, it] e (fun i h => (∃ old, IsEnum h e it ((i : Nat) : Int) old) ∧ h.IsTupleIter it a i ∧ e ≠ it) where
  mem := by simp
  obj := fun i h st b hb => by
    obtain ⟨⟨old, he⟩, ⟨o, ho, hc, hd⟩, _⟩ := st
    have eb : b = e ∨ b = it := by simpa using hb
    rcases eb with z | z
    · rw [z]; exact ⟨_, he, fun v q => nomatch q⟩
    · rw [z]; exact ⟨o, ho, fun v q => by rw [hd] at q; cases q⟩
  keep := fun i h h' st k => let ⟨⟨old, he⟩, hi, hne⟩ := st; ⟨⟨old, k e (by simp) _ he⟩, hi.at fun o q => k it (by simp) o q, hne⟩
  item := by
    intro X hP hw hK hc i pins s σ H E I hf st hg
    subst hP hw hK
    obtain ⟨⟨old, he⟩, hit, hne⟩ := st
    obtain ⟨xs, x, hq, hx⟩ := hg
    obtain ⟨its, rv, p, hz⟩ := I.tuple hq
    obtain ⟨u, hu, ru⟩ := rv.get hx
    have hel : e < s.heap.objs.size := Heap.lt_size he
    have hil : it < s.heap.objs.size := by obtain ⟨_, q, _⟩ := hit; exact Heap.lt_size q
    have hD := Draws.tuple (prog := X.prog) (w := X.w) (A := X.A.in1) (by have := I.ok.hd hc; simpa using this) it a hai its.toArray
    have hlen : i < its.toArray.size := by
      have := (List.getElem?_eq_some_iff.mp hu).1
      simpa using this
    refine wpAny_pyNext_enum_itemD hD he ⟨hit, p⟩ hlen hne (by simp [hne, hea]) fun x' h' tk hx' ho hst' hT hsz hk => ?_
    have hxu : x' = u := by
      have : its.toArray[i]? = some u := by simpa using hu
      rw [this] at hx'
      exact (Option.some.inj hx').symm
    subst hxu
    refine ⟨_, rfl, wpAny_letOwnedTupleGo_enum (s := { s with heap := h', toks := tk + 1 }) ho fun h'' he' sb => ?_⟩
    have hT2 : h''.get? s.heap.objs.size = some { cls := .type "tuple", data := .seq #[.int i tk, x'] } := (sb.2 _ (Nat.ne_of_gt hel)).trans hT
    have nw : ObjOk X.prog X.w (upd H s.heap.objs.size (.tup [.int (i : Nat), x])) h'' s.heap.objs.size (.tup [.int (i : Nat), x]) :=
      ⟨by show 2 ≤ sizeLine; decide, [.int i tk, x'], .cons ⟨_, rfl⟩ (.cons ru .nil), ⟨_, hT2, rfl, _, rfl⟩⟩
    have I1 : Inv X pins σ (upd H s.heap.objs.size (.tup [.int (i : Nat), x])) { s with heap := h'', toks := tk + 1 } :=
      I.turnedNew (ch := [e, it]) (fun b ob hb q => (sb.2 b (fun z => hb (by simp [z]))).trans (hk b ob (fun z => hb (by simp [z])) (fun z => hb (by simp [z])) q)) hf (Nat.le_refl _) nw
    refine ⟨.ref s.heap.objs.size, _, I1, rfl, ⟨_, x, rfl, I.hok.fresh (Nat.le_refl _), rfl, fun ys hy => ?_⟩, ⟨⟨x', ?_⟩, hst'.1.at fun o q => (sb.2 it (Ne.symm hne)).trans q, hne⟩, fun b hb => ?_⟩
    · obtain ⟨its2, rv2, p2, _⟩ := I.tuple hy
      rw [I.tuple_inj hy hq]; exact hx
    · have e1 : ((i + 1 : Nat) : Int) = (i : Int) + 1 := by omega
      rw [e1]; exact he'
    · have hb' : b < s.heap.objs.size := by
        have eb : b = e ∨ b = it := by simpa using hb
        rcases eb with z | z
        · rw [z]; exact hel
        · rw [z]; exact hil
      rw [upd_ne (Nat.ne_of_lt hb')]
      exact (hf b hb).1
  done := by
    intro X hP hw hK hc i pins s σ H E I hf st hg
    subst hP hw hK
    obtain ⟨⟨old, he⟩, hit, hne⟩ := st
    obtain ⟨xs, hq, hx⟩ := hg
    obtain ⟨its, rv, p, hz⟩ := I.tuple hq
    obtain ⟨f0, f1, f2, f3, f4, f5⟩ := hf it (by simp)
    have hl := rv.length
    have hD := Draws.tuple (prog := X.prog) (w := X.w) (A := X.A.in1) (by have := I.ok.hd hc; simpa using this) it a hai its.toArray
    have hsz : its.toArray.size = i := by simp; omega
    refine wpAny_pyNext_enum_endD hD he ⟨by rw [hsz]; exact hit, p⟩ fun h' eb => ⟨rfl, I.turned (t' := s.toks) (fun b o hb q => eb b o hb q) f0 f1 f3 f4 f5⟩
  self := fun A i s Q E st h => let ⟨⟨_, he⟩, _⟩ := st; wpAny_pyIter_enum he h
def iEnumT (K : PySem.W.Frag) (ta : TA) : TI := fun σ H R => ta σ H fun vs H1 => ∃ a xs, vs = [.ref a] ∧ SqT K H1 a xs ∧ R (IteT K a) H1
theorem pi_enumT {X : Cx} {e : Expr} {ta : TA} {p pos tpos : Pos} {elts : List Expr} {kk : Nat} (hg : Gl X "enumerate") (hm : X.mg "enumerate" = none) (ha : PA X [e] ta) (hs : starEach [e] X.env = [(false, eval e X.env)] := by rfl) :
    PI X (.Tuple elts kk tpos) (.Call (.Name "enumerate" p) [e] [] pos) (iEnumT X.K ta) := by
  refine ⟨fun pins s σ H R I h => ?_⟩
  refine PyProof.Rows.Call_ (ld_blt I hg hm PyProof.Rows.boot_enumerate (PyProof.Rows.callWith_type1 (thn (ha.run pos pins s σ H _ I h) fun us s1 ⟨vs, H1, I1, r1, q1⟩ => ?_) hs rfl))
  obtain ⟨a, xs, ex, hq, q⟩ := q1
  subst ex
  cases r1 with
  | cons r rr =>
    cases rr
    cases r
    obtain ⟨its, rv, p', hz⟩ := I1.tuple hq
    have hal : a < s1.heap.objs.size := by obtain ⟨_, z, _⟩ := id p'; exact Heap.lt_size z
    refine call_enumT (begins_tuple a its.toArray) p' fun h' he hit hk => wpAny_pyIter_enum he ?_
    have I2 : Inv X pins σ H1 { s1 with heap := h' } := I1.kept (t' := s1.toks) hk
    refine ⟨s1.heap.objs.size + 1, [s1.heap.objs.size + 1, s1.heap.objs.size], _, _, H1, rfl, I2, turn_enumT a (s1.heap.objs.size + 1) s1.heap.objs.size (Nat.ne_of_lt hal) (Ne.symm (Nat.ne_of_lt (Nat.lt_succ_of_lt hal))), ⟨⟨.none, he⟩, ⟨_, hit, rfl, rfl⟩, Nat.succ_ne_self _⟩, fun b hb => ?_, q⟩
    have eb : b = s1.heap.objs.size + 1 ∨ b = s1.heap.objs.size := by simpa using hb
    have hle : s1.heap.objs.size ≤ b := by
      rcases eb with z | z
      · rw [z]; exact Nat.le_add_right _ _
      · rw [z]; exact Nat.le_refl _
    exact I1.fpOk hle (I1.hok.fresh hle)
section
variable {X : Cx} {C : Nat → Value} {Wx : WX} {a : Expr} {fa : Ev D} {pos : Pos}
theorem pi_enmTD {elts : List Expr} {kk : Nat} {tpos p : Pos} {x : Str} (hx : x = "enumerate") (hg : Gl X x) (hm : X.mg x = none) (ha : PE X a (tD C Wx fa)) (hs : okE a = true) :
    PI X (.Tuple elts kk tpos) (.Call (.Name x p) [a] [] pos) (tI C Wx fun ρ w => (fa ρ w).bind fun x w => match x with | .tup xs => .ok (enumL 0 xs) w | _ => .bad) := by
  subst hx
  refine ⟨fun pins s σ H R I h => (pi_enumT hg hm (pa_cons ha pa_nil (star_ok hs)) (star_ok hs)).run pins s σ H R I ?_⟩
  obtain ⟨B, P, ρ, w, S, G⟩ := h
  refine ⟨B, P, ρ, w, S, Got.bind G fun d1 w1 v1 H1 e1 W1 r1 G1 => ?_⟩
  cases r1 with
  | @tup ad vs ds h1 s1 =>
    refine ⟨ad, vs, rfl, SqT.of h1, G1 _ H1 (Ext.refl B H1) W1 ⟨fun P' H2 i m hi => ?_, fun P' H2 i d v H3 m hd y => ?_, fun P' H2 m => ?_⟩⟩
    · rw [enumL_len] at hi
      have h2 := m.tup _ _ h1
      have hi : i < vs.length := by rw [s1.length]; exact hi
      exact ⟨vs, vs[i], SqT.of h2, by simp [hi]⟩
    · have h2 := m.tup _ _ h1
      obtain ⟨T, x, rfl, hT, rfl, y⟩ := y
      rw [enumL_get] at hd
      cases hdi : ds[i]? with
      | none => rw [hdi] at hd; cases hd
      | some d0 =>
        rw [hdi] at hd
        have hd := Option.some.inj hd
        subst hd
        obtain ⟨v', h3, h4⟩ := s1.get hdi
        have e2 := y vs (SqT.of h2)
        rw [h3] at e2
        cases e2
        have hx : ∀ b o, H2 b = some o → upd H2 T (.tup [.int (i : Nat), x]) b = some o := fun b o q => by rw [upd_ne (ne_of_none q hT)]; exact q
        refine ⟨hx, .tup upd_same (.cons ?_ (.cons ?_ .nil))⟩
        · rw [Int.zero_add]; exact .int _
        · refine Rp.mo ⟨fun b us q => hx b _ q, fun b us q r => ⟨q, hx b _ r⟩, fun b us q r => ⟨q, ?_⟩, fun b us q r => ⟨q, ?_⟩, fun b us q => hx b _ q⟩ d0 x (Rp.mo m d0 x h4)
          · rcases r with r | ⟨o, r⟩
            · exact .inl (hx b _ r)
            · exact .inr ⟨o, hx b _ r⟩
          · rcases r with r | ⟨o, r⟩
            · exact .inl (hx b _ r)
            · exact .inr ⟨o, hx b _ r⟩
    · rw [enumL_len]
      have h2 := m.tup _ _ h1
      exact ⟨vs, SqT.of h2, by rw [s1.length]⟩
  | _ => exact G1.elim
/-! list(range(n)) -/
theorem pe_listRg1D {p p2 pos2 : Pos} (hc : X.calm = true) (hg : Gl X "list") (hm : X.mg "list" = none) (hg2 : Gl X "range") (hm2 : X.mg "range" = none) (ha : PE X a (tD C Wx fa)) (hs : okE a = true)
    (hse : starEach [Expr.Call (.Name "range" p2) [a] [] pos2] X.env = (false, eval (Expr.Call (.Name "range" p2) [a] [] pos2) X.env) :: starEach [] X.env) :
    PE X (.Call (.Name "list" p) [.Call (.Name "range" p2) [a] [] pos2] [] pos) (tD C Wx (fRg2 .lst (fun _ w => .ok (.int 0) w) fa)) := by
  refine (pe_listRg hc hg hm (prg_1 hg2 hm2 ha ((star_ok hs).trans (by rfl))) hse).imp fun σ H Q ⟨B, P, ρ, w, S, G⟩ => ?_
  have G : GotD C Wx B P σ H Q ((fa ρ w).bind fun y w => match y with | .int j => opt ((rangeL 0 j 1).map D.lst) w | _ => .bad) := by
    have e : fRg2 .lst (fun _ w => .ok (.int 0) w) fa ρ w = (fa ρ w).bind fun y w => match y with | .int j => opt ((rangeL 0 j 1).map D.lst) w | _ => .bad := by
      simp only [fRg2, bind_ok]
      cases fa ρ w with
      | ok d w1 => cases d <;> rfl
      | exc c w1 => rfl
      | bad => rfl
    rw [← e]
    exact G
  refine ⟨B, P, ρ, w, S, Got.bind G fun d1 w1 v1 H1 e1 W1 r1 G1 => ?_⟩
  cases r1 with
  | int j =>
    obtain ⟨d, hd, k⟩ := Got.opt G1
    obtain ⟨ok, rfl⟩ := rangeL_some hd
    refine ⟨j, rfl, ok, fun q hq => k _ _ (Ext.new hq) (W1.new hq) ?_⟩
    rw [rgV_eq]
    exact new_lst W1 (S.ext e1 W1).f hq (Rps.of_ints _)
  | _ => exact G1.elim
end
end SF

namespace SF
open PySem L2
/-! ### d.get(k, x) -/
section
variable {X : Cx} {C : Nat → Value} {Wx : WX} {a b : Expr} {fa fb : Ev D} {pos : Pos}
def fGet (i : Nat) (fa fb : Ev D) : Ev D := fun ρ w => (opt (getS ρ i) w).bind fun x w => if isDK x then (fa ρ w).bind fun y w => (fb ρ w).bind fun z w => opt (getDf x y z) w else .bad
theorem pe_getD {i : Nat} {x : Str} {p1 apos cpos : Pos} (hu : X.A.units + 65 < cLine) (hN : X.N[i]? = some x) (hv : Vis X.env.scope x) (hd : (x == ("__debug__" : Str)) = false) (hcd : (x == ("__classdict__" : Str)) = false)
    (ha : PE X a (tD C Wx fa)) (hs : okE a = true) (hb : PE X b (tD C Wx fb)) (hsb : okE b = true) (hline : (apos.endLine == cpos.line) = true) :
    PE X (.Call (.Attribute (.Name x p1) "get" apos) [a, b] [] cpos) (tD C Wx (fGet i fa fb)) := by
  have e1 : starEach [a, b] X.env = [(false, eval a X.env), (false, eval b X.env)] := by
    rw [star_ok hs, star_ok hsb]
    rfl
  refine (pe_dget2 (by omega) (pe_var hN hv hd hcd) ha hb ⟨rfl, ?_, hline, ?_⟩).imp fun σ H Q h => ?_
  · rw [e1]; rfl
  · rw [e1]; rfl
  obtain ⟨B, P, ρ, w, S, G⟩ := h
  unfold fGet at G
  cases hx : getS ρ i with
  | none => rw [hx] at G; exact G.elim
  | some d0 =>
    rw [hx] at G
    simp only [opt_some, bind_ok] at G
    obtain ⟨v0, h1, r0⟩ := S.r i d0 hx
    cases r0 with
    | @dK ad kvs kds p0 hr0 s0 =>
      simp only [isDK, if_true] at G
      refine ⟨_, h1, ad, rfl, .inl ⟨kvs, hr0⟩, B, P, ρ, w, S, Got.bind G fun y w1 u H1 e1 W1 r1 G1 => ⟨B, P, ρ, w1, S.ext e1 W1, Got.bind G1 fun z w2 u2 H2 e2 W2 r2 G2 => ?_⟩⟩
      obtain ⟨d, hd1, k⟩ := Got.opt G2
      cases y with
      | int j =>
        cases r1
        simp only [getDf, Option.some.injEq] at hd1
        have m1 := (S.w.mo e1).dK _ _ p0 hr0
        have m2 := (W1.mo e2).dK _ _ m1.1 m1.2
        have s2 : RpK B P H2 kvs kds := RpK.mo (W1.mo e2) _ _ (RpK.mo (S.w.mo e1) _ _ s0)
        refine ⟨_, dget_K m2.2, ?_⟩
        have hv2 := valK_of j s2
        cases hk : valK kds j with
        | none =>
          rw [hv2.2 hk]
          rw [hk] at hd1
          subst hd1
          exact k _ H2 (Ext.refl B H2) W2 r2
        | some d' =>
          obtain ⟨v', q1, q2⟩ := hv2.1 d' hk
          rw [q1]
          rw [hk] at hd1
          subst hd1
          exact k _ H2 (Ext.refl B H2) W2 q2
      | _ => simp [getDf] at hd1
    | _ => exact G.elim
/-! ### xs[::-1] -/
theorem Rps.rev {Cl : Nat → Value} {B : Bk Cl} {P : Addr → Prop} {H : Hp} {vs : List V} {ds : List D} (r : Rps B P H vs ds) : Rps B P H vs.reverse ds.reverse := by
  have app : ∀ {as bs : List V} {cs es : List D}, Rps B P H as cs → Rps B P H bs es → Rps B P H (as ++ bs) (cs ++ es) := fun {as bs cs es} h1 h2 => by
    induction as generalizing cs with
    | nil => cases h1; exact h2
    | cons x as ih =>
      cases h1 with
      | cons hx hr => exact .cons hx (ih hr)
  induction vs generalizing ds with
  | nil => cases r; exact .nil
  | cons v vs ih =>
    cases r with
    | cons hv hr =>
      rw [List.reverse_cons, List.reverse_cons]
      exact app (ih hr) (.cons hv .nil)
theorem pe_revD {k : Nat} {p1 p2 p3 : Pos} (ha : PE X a (tD C Wx fa)) : PE X (.Subscript a (.Slice none none (some (.UnaryOp .USub (.Constant (.int 1) k p1) p2)) p3) pos) (tD C Wx fun ρ w => (fa ρ w).bind fun x w => opt (revD x) w) := by
  refine (pe_revL ha).imp fun σ H Q ⟨B, P, ρ, w, S, G⟩ => ⟨B, P, ρ, w, S, Got.bind G fun d1 w1 v1 H1 e1 W1 r1 G1 => ?_⟩
  obtain ⟨d, hd, kk⟩ := Got.opt G1
  cases r1 with
  | @lst ad vs ds p1 h1 s1 =>
    simp only [revD, Option.some.injEq] at hd
    subst hd
    exact ⟨ad, vs, rfl, SqL.of h1, fun p hp => kk _ _ (Ext.new hp) (W1.new hp) (new_lst W1 (S.ext e1 W1).f hp s1.rev)⟩
  | _ => simp [revD] at hd
end
/-! ### the keys of a dict -/
theorem RpK.key {Cl : Nat → Value} {B : Bk Cl} {P : Addr → Prop} {H : Hp} : ∀ {kds : List (Int × D)} {kvs : List (Key × V)} {i : Nat} {k : Key} {v : V}, RpK B P H kvs kds → kvs[i]? = some (k, v) → ∃ j d, kds[i]? = some (j, d) ∧ k = Sum.inl j
  | _ :: _, _, 0, k, v, .cons (k := j) (d := d) _ _, h => by
    simp at h
    exact ⟨j, d, rfl, h.1.symm⟩
  | _ :: _, _, i + 1, k, v, .cons _ rs, h => by
    obtain ⟨j, d, h1, h2⟩ := RpK.key rs (by simpa using h)
    exact ⟨j, d, by simpa using h1, h2⟩
  | [], _, i, k, v, .nil, h => by simp at h
theorem RpK.len {Cl : Nat → Value} {B : Bk Cl} {P : Addr → Prop} {H : Hp} {kds : List (Int × D)} {kvs : List (Key × V)} (r : RpK B P H kvs kds) : kvs.length = kds.length := by
  have := congrArg List.length r.keys
  simpa using this
section
variable {X : Cx} {C : Nat → Value} {Wx : WX} {ft : EvS} {pos : Pos}
variable {B : Bk C} {F P : Addr → Prop} {H0 H H1 : Hp} {σ : L2.St} {ρ : SF.Env} {w w1 : W} {D : Ends}
def stepK (tgD : Tg) (ft : EvS) : SF.D → SF.Env → W → R Fl := fun d ρ w => match bindTg tgD d ρ with
  | some ρ' => ft ρ' w
  | none => .bad
def fForK (tgD : Tg) (i : Nat) (hd : List Nat) (ft : EvS) : EvS := fun ρ w => match getS (hide ρ hd) i with
  | some (.dK kds) => noX (forRun (stepK tgD ft) (kds.map fun kv => .int kv.1) (freezeAt hd 0 ρ) w)
  | _ => .bad
theorem noX_got {r : R Fl} (G : GotS C Wx B F H0 D (noX r)) : GotS C Wx B F H0 D r ∧ ∀ c ρ w, r ≠ .ok (.xc c ρ) w := by
  cases r with
  | ok fl w =>
    cases fl with
    | nx ρ => exact ⟨G, fun c ρ w z => by cases z⟩
    | rt d => exact ⟨G, fun c ρ w z => by cases z⟩
    | xc c ρ => exact G.elim
  | exc c w => exact G.elim
  | bad => exact G.elim
/-- the walk over a locked dict's keys -/
theorem forK_core {g : TG} {tgD : Tg} {d : Addr} {o : Obj} {kvs : List (Key × V)} {kds : List (Int × SF.D)} (S1 : SEnv B F H0 H1 σ ρ w1) (hd : H1 d = some (.frz o (.dK kvs))) (hn : ¬ hidH F σ ρ (fun _ => True) d) (hk : RpK B P H1 kvs kds) (hgt : TgR g tgD)
    {tb : TS} (htb : tb = tSD C Wx ft) (G1 : GotS C Wx B F H0 D (forRun (stepK tgD ft) (kds.map fun kv => .int kv.1) ρ w1)) :
    ∃ W : Nat → Nat → L2.St → Hp → Prop, (∃ m, W 0 m σ H1) ∧ ∀ i m σ H, W i m σ H →
      ((Itk d o kvs).stop i H ∧ D.nx σ H) ∨ ((Itk d o kvs).go i H ∧ ∃ N : L2.St → Hp → Prop, (∀ σ' H', N σ' H' → ∃ m', m' < m ∧ W (i + 1) m' σ' H') ∧ ∀ x H', (Itk d o kvs).yld i H x H' → g x σ H' fun σ2 H2 => tb { D with nx := N, ct := N, bk := D.nx } σ2 H2) := by
  subst htb
  obtain ⟨xs, hxs⟩ : ∃ xs : List SF.D, xs = kds.map fun kv => .int kv.1 := ⟨_, rfl⟩
  have hl : xs.length = kvs.length := by rw [hxs, List.length_map, hk.len]
  rw [← hxs] at G1
  have keep : ∀ {σ' : L2.St} {ρ' : SF.Env} {H' : Hp} {w' : W}, SEnv B F (cutH H1 (ownd σ ρ)) H' σ' ρ' w' → H' d = some (.frz o (.dK kvs)) := fun {σ' ρ' H' w'} S' => by
    have n1 : ¬ ownd σ ρ d := fun ⟨i, dd, q1, q2⟩ => hn (.inr ⟨i, dd, trivial, q1, q2⟩)
    exact S'.ex d _ (by rw [cutH_of n1]; exact hd) (fun z => hn (.inl (z ▸ S1.w.hd))) (fun z => hn (.inl (S1.w.hn _ z)))
  refine ⟨fun i m σ' H' => m = xs.length - i ∧ i ≤ xs.length ∧ ∃ ρ' w', SEnv B F (cutH H1 (ownd σ ρ)) H' σ' ρ' w' ∧ GotS C Wx B F H0 D (forRun (stepK tgD ft) (xs.drop i) ρ' w'), ⟨xs.length, rfl, Nat.zero_le _, _, w1, S1.rebase, G1⟩, ?_⟩
  rintro i m σ' H' ⟨hm, hle, ρ', w', S', G'⟩
  by_cases hlt : i < xs.length
  · right
    rw [List.drop_eq_getElem_cons hlt] at G'
    simp only [forRun] at G'
    refine ⟨⟨keep S', by omega⟩, fun σ2 H2 => ∃ ρ2 w2, SEnv B F (cutH H1 (ownd σ ρ)) H2 σ2 ρ2 w2 ∧ GotS C Wx B F H0 D (forRun (stepK tgD ft) (xs.drop (i + 1)) ρ2 w2), fun σ2 H2 ⟨ρ2, w2, q1, q2⟩ => ⟨xs.length - (i + 1), by omega, rfl, hlt, ρ2, w2, q1, q2⟩, fun x H2 y => ?_⟩
    obtain ⟨rfl, kk, vv, hkv, rfl⟩ := y
    obtain ⟨j, dj, hj1, hj2⟩ := hk.key hkv
    subst hj2
    have hxi : xs[i] = .int j := by
      have : xs[i]? = some (.int j) := by rw [hxs, List.getElem?_map, hj1]; rfl
      rw [List.getElem?_eq_getElem hlt] at this
      exact Option.some.inj this
    have rx : Rp B (hidH F σ' ρ' fun _ => True) H2 (kV (Sum.inl j)) xs[i] := by rw [hxi]; exact .int j
    cases hb : bindTg tgD xs[i] ρ' with
    | none => simp only [stepK, hb, sq_bad] at G'; exact G'.elim
    | some ρ2 =>
      simp only [stepK, hb] at G'
      refine hgt B _ H2 _ xs[i] σ' ρ' ρ2 _ rx hb fun σ2 is st _ => ?_
      have S3 := (st.senv S' fun _ z => z).1
      refine ⟨B, F, _, ρ2, w', S3, ?_⟩
      cases hf : ft ρ2 w' with
      | ok fl w2 =>
        rw [hf] at G'
        cases fl with
        | nx ρ3 => exact fun σ3 H3 S4 => ⟨ρ3, w2, S4, G'⟩
        | rt d => exact fun v H3 e W q => G' v H3 (S1.over.trans e) W q
        | xc c ρ3 => exact fun σ3 H3 S4 => G' σ3 H3 (S1.back S4)
      | exc c w2 => rw [hf] at G'; exact G'
      | bad => rw [hf] at G'; exact G'
  · left
    have e : i = xs.length := by omega
    subst e
    rw [List.drop_length] at G'
    exact ⟨⟨keep S', by omega⟩, G' _ _ (S1.back S')⟩
/-! locking and unlocking -/
theorem Mo.unlock {P : Addr → Prop} {H : Hp} {d : Addr} {o : Obj} {kvs : List (Key × V)} (h : H d = some (.frz o (.dK kvs))) : Mo P P H (upd H d (.dK kvs)) where
  tup a vs q := by rw [upd_ne (fun z => by rw [z, h] at q; cases q)]; exact q
  ex a vs q := by rw [upd_ne (fun z => by rw [z, h] at q; cases q)]; exact q
  lst a vs p q := ⟨p, by rw [upd_ne (fun z => by rw [z, h] at q; cases q)]; exact q⟩
  dT a kv p q := ⟨p, by
    have : a ≠ d := fun z => by
      rw [z] at q
      rcases q with q | ⟨o', q⟩
      · rw [h] at q; cases q
      · rw [h] at q; cases q
    rcases q with q | ⟨o', q⟩
    · exact .inl (by rw [upd_ne this]; exact q)
    · exact .inr ⟨o', by rw [upd_ne this]; exact q⟩⟩
  dK a kv p q := ⟨p, by
    by_cases z : a = d
    · subst z
      rcases q with q | ⟨o', q⟩
      · rw [h] at q; cases q
      · rw [h] at q
        cases q
        exact .inl upd_same
    · rcases q with q | ⟨o', q⟩
      · exact .inl (by rw [upd_ne z]; exact q)
      · exact .inr ⟨o', by rw [upd_ne z]; exact q⟩⟩
theorem Mo.lock {P : Addr → Prop} {H : Hp} {d : Addr} {o : Obj} {kvs : List (Key × V)} (h : H d = some (.dK kvs)) : Mo P P H (upd H d (.frz o (.dK kvs))) where
  tup a vs q := by rw [upd_ne (fun z => by rw [z, h] at q; cases q)]; exact q
  ex a vs q := by rw [upd_ne (fun z => by rw [z, h] at q; cases q)]; exact q
  lst a vs p q := ⟨p, by rw [upd_ne (fun z => by rw [z, h] at q; cases q)]; exact q⟩
  dT a kv p q := ⟨p, by
    have : a ≠ d := fun z => by
      rw [z] at q
      rcases q with q | ⟨o', q⟩
      · rw [h] at q; cases q
      · rw [h] at q; cases q
    rcases q with q | ⟨o', q⟩
    · exact .inl (by rw [upd_ne this]; exact q)
    · exact .inr ⟨o', by rw [upd_ne this]; exact q⟩⟩
  dK a kv p q := ⟨p, by
    by_cases z : a = d
    · subst z
      rcases q with q | ⟨o', q⟩
      · rw [h] at q
        cases q
        exact .inr ⟨_, upd_same⟩
      · rw [h] at q; cases q
    · rcases q with q | ⟨o', q⟩
      · exact .inl (by rw [upd_ne z]; exact q)
      · exact .inr ⟨o', by rw [upd_ne z]; exact q⟩⟩
/-- the situation with the dict locked, its base all that is not owned -/
theorem SEnv.lock {d : Addr} {o : Obj} {kvs : List (Key × V)} (S : SEnv B F H0 H σ ρ w) (h : H d = some (.dK kvs)) (hn : ¬ hidH F σ ρ (fun _ => True) d) :
    SEnv B F (cutH (upd H d (.frz o (.dK kvs))) (ownd σ ρ)) (upd H d (.frz o (.dK kvs))) σ ρ w := by
  have np : B.pd ≠ d := fun z => hn (.inl (z ▸ S.w.hd))
  have nn : ¬ B.V d := fun z => hn (.inl (S.w.hn _ z))
  refine ⟨fun a o' q _ _ => (cutH_some q).2, S.w.put (Ne.symm np) nn (.dK h), fun a p => ?_, S.len, fun i d' q => ?_, S.inj, fun i d' q => ?_⟩
  · obtain ⟨o', q⟩ := S.f a p
    rw [upd_ne (show a ≠ d from fun z => hn (.inl (z ▸ p)))]
    exact ⟨o', q⟩
  · obtain ⟨l, h1, h2, h3, h4⟩ := S.own i d' q
    have hl : l ≠ d := fun z => hn (.inr ⟨i, d', trivial, q, z ▸ h1⟩)
    exact ⟨l, h1, cutH_no ⟨i, d', q, h1⟩, h3, h4.mo (upd_ne hl) (Mo.lock (P := fun _ => True) h).tup (Mo.lock (P := fun _ => True) h).ex⟩
  · obtain ⟨v, h1, h2⟩ := S.sh i d' q
    exact ⟨v, h1, Rp.mo (Mo.lock h) _ _ h2⟩
/-- .. and back -/
theorem SEnv.unlock {d : Addr} {o : Obj} {kvs : List (Key × V)} (S : SEnv B F H0 H σ ρ w) (h : H d = some (.dK kvs)) (hn : ¬ hidH F σ ρ (fun _ => True) d) {σ' : L2.St} {ρ' : SF.Env} {H' : Hp} {w' : W}
    (S' : SEnv B F (cutH (upd H d (.frz o (.dK kvs))) (ownd σ ρ)) H' σ' ρ' w') : H' d = some (.frz o (.dK kvs)) ∧ SEnv B F H0 (upd H' d (.dK kvs)) σ' ρ' w' := by
  have np : B.pd ≠ d := fun z => hn (.inl (z ▸ S.w.hd))
  have nn : ¬ B.V d := fun z => hn (.inl (S.w.hn _ z))
  have n1 : ¬ ownd σ ρ d := fun ⟨i, dd, q1, q2⟩ => hn (.inr ⟨i, dd, trivial, q1, q2⟩)
  have hb : cutH (upd H d (.frz o (.dK kvs))) (ownd σ ρ) d = some (.frz o (.dK kvs)) := by rw [cutH_of n1]; exact upd_same
  have h' : H' d = some (.frz o (.dK kvs)) := S'.ex d _ hb (Ne.symm np) nn
  have nown : ∀ {a : Addr} {o' : HO}, H0 a = some o' → ¬ ownd σ ρ a := fun {a o'} q => by
    rintro ⟨i, dd, q1, q2⟩
    obtain ⟨l, q3, q4, _⟩ := S.own i dd q1
    rw [q2] at q3
    cases q3
    rw [q4] at q
    cases q
  refine ⟨h', ⟨fun a o' q h1 h2 => ?_, S'.w.put (Ne.symm np) nn (.frz h'), fun a p => ?_, S'.len, fun i d' q => ?_, S'.inj, fun i d' q => ?_⟩⟩
  · have qH := S.ex a o' q h1 h2
    by_cases z : a = d
    · subst z
      rw [h] at qH
      cases qH
      exact upd_same
    · rw [upd_ne z]
      exact S'.ex a o' (by rw [cutH_of (nown q), upd_ne z]; exact qH) h1 h2
  · obtain ⟨o', q⟩ := S'.f a p
    rw [upd_ne (show a ≠ d from fun z => hn (.inl (z ▸ p)))]
    exact ⟨o', q⟩
  · obtain ⟨l, h1, h2, h3, h4⟩ := S'.own i d' q
    have hl : l ≠ d := fun z => by rw [z, hb] at h2; cases h2
    refine ⟨l, h1, ?_, h3, h4.mo (upd_ne hl) (Mo.unlock (P := fun _ => True) h').tup (Mo.unlock (P := fun _ => True) h').ex⟩
    refine none_of fun o' z => ?_
    have zH := S.ex l o' z (fun e => h3 (e ▸ S.w.hd)) (fun e => h3 (S.w.hn _ e))
    rw [cutH_of (nown z), upd_ne hl, zH] at h2
    cases h2
  · obtain ⟨v, h1, h2⟩ := S'.sh i d' q
    exact ⟨v, h1, Rp.mo (Mo.unlock h') _ _ h2⟩
theorem ps_forKD {tg : Expr} {body : List Stmt} {g : TG} {tgD : Tg} {hd : List Nat} {i : Nat} {x : Str} {p : Pos} (hp : PassesOwn (model X.prog X.w) X.A X.env X.xe) (hc : X.calm = true)
    (hN : X.N[i]? = some x) (hv : Vis X.env.scope x) (hdb : (x == ("__debug__" : Str)) = false) (hcd : (x == ("__classdict__" : Str)) = false)
    (hg : PG X tg g) (hb : PSs X body (tSD C Wx ft)) (hgt : TgR g tgD) :
    PS X (.For tg (.Name x p) body [] pos) (tSD C Wx (fForK tgD i hd ft)) := by
  have base := ps_for (pos := pos) hp hc (pi_keys (tg := tg) (pe_var (pos := p) hN hv hdb hcd)) hg hb (fun _ => rfl)
  refine ⟨fun pins s σ H D I h => ?_⟩
  obtain ⟨B, F, H0, ρ, w, S, G⟩ := h
  unfold fForK at G
  cases hx : getS (hide ρ hd) i with
  | none => rw [hx] at G; exact G.elim
  | some d0 =>
    rw [hx] at G
    cases d0 with
    | dK kds =>
      simp only at G
      obtain ⟨G, hnx⟩ := noX_got G
      have S1 := S.freeze hd
      obtain ⟨v, hv1, rv⟩ := (S.sit hd).r i _ hx
      have rv1 : Rp B (hidH F σ (freezeAt hd 0 ρ) fun _ => True) H v (.dK kds) := Rp.mo (mo_sub fun a z => (hid_freeze hd a).mp z) _ _ rv
      cases rv1 with
      | @dK d kvs _ p0 hr0 s0 =>
        rcases hr0 with h0 | ⟨o, h0⟩
        · refine (ps_lock base).run pins s σ H D I ⟨d, .dK kvs, h0, trivial, fun od => ⟨_, hv1, d, od, rfl, .inl ⟨kvs, upd_same, ?_⟩⟩⟩
          refine forK_core (S1.lock (o := od) h0 p0) upd_same p0 (RpK.mo (Mo.lock h0) _ _ s0) hgt rfl ?_
          cases hr : forRun (stepK tgD ft) (kds.map fun kv => .int kv.1) (freezeAt hd 0 ρ) w with
          | ok fl w2 =>
            rw [hr] at G
            cases fl with
            | nx ρ2 =>
              intro σ' H' S'
              obtain ⟨q1, q2⟩ := S1.unlock h0 p0 S'
              exact ⟨q1, G σ' _ q2⟩
            | rt dr =>
              intro v' H' e' W' r'
              have n1 : ¬ ownd σ (freezeAt hd 0 ρ) d := fun ⟨i, dd, q1, q2⟩ => p0 (.inr ⟨i, dd, trivial, q1, q2⟩)
              have np : B.pd ≠ d := fun z => p0 (.inl (z ▸ S.w.hd))
              have nn : ¬ B.V d := fun z => p0 (.inl (S.w.hn _ z))
              have hd' : H' d = some (.frz od (.dK kvs)) := e' d _ (by rw [cutH_of n1]; exact upd_same) (Ne.symm np) nn
              refine ⟨hd', G v' _ (fun a o' q h1 h2 => ?_) (W'.put (Ne.symm np) nn (.frz hd')) (Rp.mo (Mo.unlock hd') _ _ r')⟩
              have qH := S1.ex a o' q h1 h2
              by_cases z : a = d
              · subst z
                rw [h0] at qH
                cases qH
                exact upd_same
              · rw [upd_ne z]
                refine e' a o' ?_ h1 h2
                rw [cutH_of, upd_ne z]
                · exact qH
                · rintro ⟨i, dd, q1, q2⟩
                  obtain ⟨l, q3, q4, _⟩ := S1.own i dd q1
                  rw [q2] at q3
                  cases q3
                  rw [q4] at q
                  cases q
            | xc c ρ2 => exact absurd hr (hnx c ρ2 w2)
          | exc c w2 => rw [hr] at G; exact G.elim
          | bad => rw [hr] at G; exact G.elim
        · refine base.run pins s σ H D I ⟨_, hv1, d, o, rfl, .inl ⟨kvs, h0, ?_⟩⟩
          exact forK_core S1 h0 p0 s0 hgt rfl G
    | _ => exact G.elim
end
end SF

namespace SF
open PySem L2
section
variable {X : Cx} {C : Nat → Value} {Wx : WX} {fc fe : Ev D} {pos : Pos}
def fLcK (i : Nat) (tg : Tg) (fc fe : Ev D) (own : List Nat) : Ev D := fun ρ w => match getS ρ i with
  | some (.dK kds) => fLc (fun _ w => .ok (kds.map fun kv => .int kv.1) w) tg fc fe own ρ w
  | _ => .bad
theorem wkE_keys {Cl : Nat → Value} {B : Bk Cl} {P : Addr → Prop} {H1 : Hp} {w1 : W} {d : Addr} {o : Obj} {kvs : List (Key × V)} {kds : List (Int × D)} (W1 : WR B P H1 w1) (hd : H1 d = some (.frz o (.dK kvs))) (hn : ¬ P d) (hk : RpK B P H1 kvs kds) (D : Addr) :
    WkE B P (Itk d o kvs) (kds.map fun kv => .int kv.1) H1 D := by
  have keep : ∀ {H2 : Hp}, Ext B H1 H2 → H2 d = some (.frz o (.dK kvs)) := fun {H2} e => e d _ hd (fun z => hn (z ▸ W1.hd)) (fun z => hn (W1.hn _ z))
  have hl := hk.len
  refine ⟨fun H2 i m e hi => ⟨keep e, by rw [List.length_map] at hi; omega⟩, fun H2 i dd v H3 m e hdd y => ?_, fun H2 m e => ⟨keep e, by rw [List.length_map]; omega⟩⟩
  obtain ⟨rfl, kk, vv, hkv, rfl⟩ := y
  obtain ⟨j, dj, hj1, hj2⟩ := hk.key hkv
  subst hj2
  rw [List.getElem?_map, hj1] at hdd
  simp only [Option.map_some, Option.some.injEq] at hdd
  subst hdd
  exact ⟨fun _ _ z => z, .int j⟩
theorem lc_noexc {step : D → W → R (Option D)} {xs : List D} {w w2 : W} {n c : Nat} : (if n ≤ LIM then (lcRun step xs w).bind fun ys w => R.ok (D.lst ys) w else R.bad) ≠ .exc c w2 := by
  intro h
  split at h
  · cases hl : lcRun step xs w with
    | ok ys w1 => rw [hl] at h; cases h
    | exc c w1 => exact lcRun_noexc _ _ _ _ _ hl
    | bad => rw [hl] at h; cases h
  · cases h
theorem pe_lcKN {elt tg : Expr} {ifs : List Expr} {scope : Scope} {own : List (Str × Nat)} {g : TG} {tgD : Tg} {i : Nat} {x : Str} {p : Pos} (hc : X.calm = true) (hnd : X.N.Nodup)
    (hN : X.N[i]? = some x) (hv : Vis X.env.scope x) (hdb : (x == ("__debug__" : Str)) = false) (hcd : (x == ("__classdict__" : Str)) = false) (ok : BlkOk X.N X.env.scope scope own)
    (hg : ∀ (s : Shared) (H : Hp) (Ca : Addr) (cl : List (Str × Addr)) (fp : List Addr), PG (X.blk s H scope (compEnvC scope cl Ca X.env) fp) tg g) (ht : ∀ (s : Shared) (H : Hp) (Ca : Addr) (cl : List (Str × Addr)) (fp : List Addr), PTs (X.blk s H scope (compEnvC scope cl Ca X.env) fp) ifs (tT C W0 fc))
    (he : ∀ (s : Shared) (H : Hp) (Ca : Addr) (cl : List (Str × Addr)) (fp : List Addr), PE (X.blk s H scope (compEnvC scope cl Ca X.env) fp) elt (tD C W0 fe)) (hgt : TgR g tgD) (hto : tgIn tgD (own.map (·.2)) = true) :
    PE X (.ListComp elt [⟨tg, .Name x p, ifs, 0⟩] scope pos) (tN C Wx (fLcK i tgD fc fe (own.map (·.2)))) := by
  have base := pe_lc (pos := pos) hc hnd (pi_keys (tg := tg) (pe_var (pos := p) hN hv hdb hcd)) ok hg ht he (fun _ => rfl)
  refine ⟨fun pins s σ H Q I h => ?_⟩
  obtain ⟨B, P, ρ, w, S, G⟩ := h
  unfold fLcK at G
  cases hx : getS ρ i with
  | none => rw [hx] at G; exact G.elim
  | some d0 =>
    rw [hx] at G
    cases d0 with
    | dK kds =>
      simp only [fLc, bind_ok] at G
      obtain ⟨v, hv1, rv⟩ := S.r i _ hx
      cases rv with
      | @dK d kvs _ p0 hr0 s0 =>
        rcases hr0 with h0 | ⟨o, h0⟩
        · have np : B.pd ≠ d := fun z => p0 (z ▸ S.w.hd)
          have nn : ¬ B.V d := fun z => p0 (S.w.hn _ z)
          refine (pe_lock base).run pins s σ H Q I ⟨d, .dK kvs, h0, trivial, fun od => ⟨_, hv1, d, od, rfl, .inl ⟨kvs, upd_same, ?_⟩⟩⟩
          have W1 : WR B P (upd H d (.frz od (.dK kvs))) w := S.w.put (Ne.symm np) nn (.dK h0)
          have S1 : Sit B P (upd H d (.frz od (.dK kvs))) σ ρ w := ⟨S.len, fun j dj hj => by
            obtain ⟨vj, q1, q2⟩ := S.r j dj hj
            exact ⟨vj, q1, Rp.mo (Mo.lock h0) _ _ q2⟩, W1, fun a pa => by
            obtain ⟨oa, qa⟩ := S.f a pa
            rw [upd_ne (show a ≠ d from fun z => p0 (z ▸ pa))]
            exact ⟨oa, qa⟩⟩
          show tLc (fun _ _ Rk => Rk (Itk d od kvs) (upd H d (.frz od (.dK kvs)))) g (tT C W0 fc) (tD C W0 fe) (own.map (·.2)) σ (upd H d (.frz od (.dK kvs))) (fun v H' => H' d = some (HO.frz od (HO.dK kvs)) ∧ Q v (upd H' d (HO.dK kvs)))
          refine lc_mid (Wx := Wx) hgt hto S1 (Ext.refl B _) W1 (fun D _ => wkE_keys W1 upd_same p0 (RpK.mo (Mo.lock h0) _ _ s0) D) ?_
          generalize hr : (if (kds.map fun kv => D.int kv.1).length ≤ LIM then (lcRun (lcStep tgD fc fe (own.map (·.2)) ρ) (kds.map fun kv => D.int kv.1) w).bind fun ys w => R.ok (D.lst ys) w else R.bad) = r at G ⊢
          cases r with
          | ok dr w2 =>
            intro v' H' e' W' ⟨q, hq1, hq2, hq3, hq4⟩
            have hd' : H' d = some (.frz od (.dK kvs)) := e' d _ upd_same (Ne.symm np) nn
            have hqd : q ≠ d := fun z => by rw [z, upd_same] at hq2; cases hq2
            refine ⟨hd', G v' _ (fun a o' qa h1 h2 => ?_) (W'.put (Ne.symm np) nn (.frz hd')) ⟨q, hq1, by rw [upd_ne hqd] at hq2; exact hq2, Rp.mo (Mo.unlock hd') _ _ hq3, fun o' u' z => by rw [upd_ne hqd] at z; exact hq4 o' u' z⟩⟩
            by_cases z : a = d
            · subst z
              rw [h0] at qa
              cases qa
              exact upd_same
            · rw [upd_ne z]
              exact e' a o' (by rw [upd_ne z]; exact qa) h1 h2
          | exc c w2 =>
            exact absurd hr lc_noexc
          | bad => exact G.elim
        · refine base.run pins s σ H Q I ⟨_, hv1, d, o, rfl, .inl ⟨kvs, h0, ?_⟩⟩
          exact lc_mid hgt hto S (Ext.refl B _) S.w (fun D _ => wkE_keys S.w h0 p0 s0 D) G
    | _ => exact G.elim
end
end SF

namespace L2
open PySem PySem.Spec PyProof.Rows
/-- an untracked thing that is younger than the frame is tracked from now on -/
theorem Inv.adopt {X : Cx} {pins : List (Addr × Obj)} {σ : St} {H : Hp} {s : Shared} {a : Addr} {o : HO} (I : Inv X pins σ H s) (hn : H a = none) (h0 : a ∈ X.ex ∨ X.s_0.heap.get? a = none) (hL : a ≠ X.env.locals) (hc : ∀ x c, X.env.cells.lookup x = some c → c ≠ a)
    (hp : ∀ p ∈ X.pn ++ pins, p.1 ≠ a) (new : ObjOk X.prog X.w (upd H a o) s.heap a o) : Inv X pins σ (upd H a o) s := by
  have nit : ∀ b u, H b = some u → b ≠ a := fun b u e z => by rw [z, hn] at e; cases e
  have up : ∀ b u, H b = some u → upd H a o b = some u := fun b u e => by rw [upd_ne (nit b u e)]; exact e
  refine ⟨I.ok, I.os, I.bare, ⟨I.base.keep, I.base.slot, fun b ob e n hx => ?_, I.base.there, fun b xs e => up _ _ (I.base.tups b xs e), fun b ob u e => up _ _ (I.base.frzs b ob u e), fun b ps e => ?_⟩, I.loc, I.cell, ?_, fun x c e => ?_, fun p q => ?_, fun b u e => ?_, I.len⟩
  · rw [upd_ne]
    · exact I.base.free b ob e n hx
    · intro z
      subst z
      rcases h0 with z | z
      · exact hx z
      · rw [z] at e; cases e
  · obtain ⟨more, q⟩ := I.base.tbls b ps e
    exact ⟨more, up _ _ q⟩
  · rw [upd_ne (Ne.symm hL)]; exact I.free
  · rw [upd_ne (hc x c e)]; exact I.freeC x c e
  · obtain ⟨q1, q2, q3⟩ := I.pin p q
    exact ⟨q1, by rw [upd_ne (hp p q)]; exact q2, q3⟩
  · by_cases hb : b = a
    · rw [hb, upd_same] at e
      cases e
      rw [hb]
      exact new
    · rw [upd_ne hb] at e
      exact (I.hok b u e).stay (fun c v _ q => q) (fun c q => up c _ q) fun c _ q => up c _ q
/-- the except suite's context, nothing of the exception pinned -/
theorem Inv.suite0 {X : Cx} {pins : List (Addr × Obj)} {σ : St} {H : Hp} {s : Shared} (I : Inv X pins σ H s) (a : Addr) : Inv (X.suite a (X.pn ++ pins)) [] σ H s :=
  ⟨I.ok.suite _ _, I.os, I.bare, I.base, I.loc, I.cell, I.free, I.freeC, fun p hp => I.pin p (by rw [List.append_nil] at hp; exact hp), I.hok, I.len⟩
theorem Inv.unsuite0 {X : Cx} {pins : List (Addr × Obj)} {σ : St} {H : Hp} {s : Shared} {a : Addr} {pn' : List (Addr × Obj)} (I : Inv (X.suite a (X.pn ++ pins)) pn' σ H s) (ok : X.Ok) : Inv X pins σ H s :=
  ⟨ok, I.os, I.bare, I.base, I.loc, I.cell, I.free, I.freeC, fun p hp => I.pin p (List.mem_append_left _ hp), I.hok, I.len⟩
theorem excO_ok {P : Program} {w : World} {H : Hp} {h : Heap} {a : Addr} {cl : Value} {oe : Obj} (h1 : h.get? a = some oe) (h2 : Zc cl none oe) (h3 : ∃ vs, oe.data = .fields vs) : ObjOk P w H h a (SF.ExcO cl a) :=
  ⟨⟨oe, h1, h2, h3⟩, ⟨oe, h1⟩, fun g1 g2 ⟨o, q1, q2, q3⟩ st => ⟨o, st o q1, q2, q3⟩⟩
/-- what 'except x as n: y = n' wishes of an exception of the body -/
def wAd (K : PySem.W.Frag) (c : Value) (i j : Nat) (Wout : WX) (D : Ends) : WX := fun cls d σ H =>
  ∃ b, PySem.W.exmOne K cls c = some b ∧ (b = true → d = none ∧ ∀ a, H a = none → D.nx (((σ.set i (some (.ref a))).set j (some (.ref a))).set i none) (upd H a (SF.ExcO cls a))) ∧ (b = false → Wout cls d σ H)
section
variable {X : Cx} {x n y : Str} {c : Value} {i j : Nat} {body : List Stmt} {np pn1 pn2 pa pos pos' : Pos} {tb : WX → TS} {Wout : WX}
theorem ps_tryA (hs : X.stack = X.env :: X.outer) (hf : X.env.frame = some X.env.locals) (hN : X.N.Nodup) (hi : X.N[i]? = some n) (hj : X.N[j]? = some y) (hln : X.env.kindOf n = some .local) (hy : Loc X.env.scope y) (hfy : X.fn y = true) (hc : Names X x c) (tk : Takes X Wout)
    (hdn : (n == ("__debug__" : Str)) = false) (hcn : (n == ("__classdict__" : Str)) = false)
    (hb : ∀ (W : WX) (pn : List (Addr × Obj)) (xe : Value → Shared → Prop), Takes (X.tr pn xe) W → PassesOwn (model X.prog X.w) X.A X.env xe → PSs (X.tr pn xe) body (tb W)) :
    PS X (.Try body [.ExceptHandler (some (.Name x np)) (some n) [.Assign [.Name y pn1] (.Name n pn2) pa] pos'] [] [] pos) (fun D σ H => tb (wAd X.K c i j Wout D) D σ H) := by
  refine ⟨fun pins s σ H D I h => ?_⟩
  have ok := I.ok
  have hfr : X.A.frames = some (X.env :: X.outer) := by rw [ok.frames, hs]
  have hloc : Loc X.env.scope n := .inl hln
  refine wpAny_Try_except ?_
  refine wpAny_mono ((hb (wAd X.K c i j Wout D) (X.pn ++ pins) (fun e s₁ => wpAny (model X.prog X.w) X.A (noteFrame e X.env) (fun _ s₂ => wpAny (model X.prog X.w) X.A (setFlight e none) (fun _ s₃ =>
    wpAny (model X.prog X.w) X.A (handleBy e X.env [.ExceptHandler (some (.Name x np)) (some n) [.Assign [.Name y pn1] (.Name n pn2) pa] pos']) (SP X pins D) X.xe s₃) X.xe s₂) X.xe s₁) (fun u s' xx => ?_) PassesOwn.looking).run [] s σ H D (I.toTry _) h) (fun f s1 hsp => ?_) (fun e s1 he => he)
  · -- the catch
    obtain ⟨a, B, sI, pins', σ', H', cls, d, rfl, J', nb, up, sky, na, os, ag, b, hb1, hyes, hno⟩ := xx
    have J : Inv X pins σ' H' sI := J'.ofTry ok
    have sky' : Sky B (X.env :: X.outer) a (Zc cls d) X.env.locals s'.heap := by rw [← hs]; exact sky
    show wpAny (model X.prog X.w) X.A (noteFrame (.ref a) X.env) _ _ _
    refine Sky.land Zc.steady hfr hf sky' fun h3 fl3 up3 => ?_
    have J3 : Inv X pins σ' H' { s' with heap := h3 } := J.landed nb fl3.1 (up.trans up3) os ag
    obtain ⟨oe3, vs3, he3, hz3, hd3⟩ := fl3.there
    have notFr : ∀ {h : Heap} {o : Obj} {vs : Array Value}, h.FunFrames B (X.env :: X.outer) → h.get? a = some o → o.data = .fields vs → a ∉ frs (X.env :: X.outer) := fun {h o vs} ff e dd hm => by
      obtain ⟨_, o', e', hnf⟩ := ff.mem hm
      rw [e] at e'; cases e'
      exact hnf _ dd
    have nfr := notFr fl3.2.2.1 he3 hd3
    have nL : a ≠ X.env.locals := fun z => nfr (List.mem_filterMap.mpr ⟨X.env, List.mem_cons_self, by rw [hf, z]⟩)
    have nF : a ∉ X.fs := fun hm => by
      obtain ⟨e, he, q⟩ := List.mem_filterMap.mp hm
      exact nfr (List.mem_filterMap.mpr ⟨e, List.mem_cons_of_mem _ he, q⟩)
    have nI : sI.heap.get? a = none := by
      cases q : sI.heap.get? a with
      | none => rfl
      | some o =>
        have := nb a o q (by rw [hs]; exact nfr)
        rw [fl3.2.1] at this
        cases this
    have n0 : a ∈ X.ex ∨ X.s_0.heap.get? a = none := by
      by_cases hx : a ∈ X.ex
      · exact .inl hx
      · refine .inr ?_
        cases q : X.s_0.heap.get? a with
        | none => rfl
        | some o =>
          obtain ⟨o', q'⟩ := J.base.there a o q hx
          rw [nI] at q'
          cases q'
    have nC : ∀ x c, X.env.cells.lookup x = some c → c ≠ a := fun x c e z => by
      obtain ⟨v, o, ho, _⟩ := J.cell x c e
      rw [z, nI] at ho
      cases ho
    have nP : ∀ p ∈ X.pn ++ pins, p.1 ≠ a := fun p hp z => by
      have := (J.pin p hp).1
      rw [z, nI] at this
      cases this
    have S3 := J3.suite0 a
    refine wpAny_handleBy_cons (codeAny_handlers_test ?_) (by intro q; cases q)
    have LT : PySem.W.Looks (model X.prog X.w) h3 (typeOf (.ref a)) cls := fun A Q E s k q => wpAny_typeOf_ref (k _ _ he3) (by rw [hz3.1]; exact q)
    have LM := PySem.W.exm_one (M := model X.prog X.w) (J3.kIn) LT hb1
    have test : ∀ {Q : Value → Shared → Prop} {E : Value → Shared → Prop}, Q c { s' with heap := h3 } → wpAny (model X.prog X.w) (X.A.mark (some (.ref a))) (eval (.Name x np) X.env) Q E { s' with heap := h3 } := fun {Q E} q => by
      obtain ⟨hg, hdbg, hm | ⟨hm, hv, hnn⟩⟩ := hc
      · exact ld_glob (X := X.suite a (X.pn ++ pins)) S3 hg hm q hdbg
      · exact ld_blt (X := X.suite a (X.pn ++ pins)) S3 hg hm hv q hnn hdbg
    refine test (LM.here ?_)
    cases b with
    | true =>
      obtain ⟨hd0, hnx⟩ := hyes rfl
      have hil : i < σ'.length := by rw [J.len]; exact (List.getElem?_eq_some_iff.mp hi).1
      subst hd0
      refine codeAny_handlers_suite_as ?_
      refine HandSPX.lands_againZ fl3 fun h4 fl4 up4 => ?_
      have J4 : Inv X pins σ' H' { s' with heap := h4 } := J.landed nb fl4.1 ((up.trans up3).trans up4) os ag
      obtain ⟨oe4, vs4, he4, hz4, hd4⟩ := fl4.there
      have T4 : Inv X pins σ' (upd H' a (SF.ExcO cls a)) { s' with heap := h4 } := J4.adopt na n0 nL nC nP (excO_ok he4 hz4 ⟨_, hd4⟩)
      have S4 := T4.suite0 a
      refine store_ok (X := X.suite a (X.pn ++ pins)) (v := .ref a) S4 hN hi hloc rfl (fun s5 S5 => ?_) (.inr hln)
      have pv : PSs (X.suite a (X.pn ++ pins)) [.Assign [.Name y pn1] (.Name n pn2) pa] (tSeq (tAsg (tVar i) (gName j)) tNext) :=
        pss_cons (ps_asg (pe_var (X := X.suite a (X.pn ++ pins)) hi (.inl hln) hdn hcn) (pg_name (X := X.suite a (X.pn ++ pins)) hN hj hy (.inl hfy))) pss_nil
      refine wpAny_mono (pv.run [] s5 _ _ { nx := fun σ6 H6 => D.nx (σ6.set i none) H6, rt := fun _ _ => False, bk := fun _ _ => False, ct := fun _ _ => False } S5 ?_) (fun f s6 hsp => ?_) (fun _ _ z => False.elim z)
      · refine ⟨.ref a, ?_, hnx a na⟩
        rw [List.getElem?_set_self hil]
      have end_ : ∀ {σ6 : St} {H6 : Hp} {Q : Shared → Prop}, Inv (X.suite a (X.pn ++ pins)) [] σ6 H6 s6 → (∀ s7, Inv X pins (σ6.set i none) H6 s7 → Q s7) →
          wpAny (model X.prog X.w) X.A (do bindName X.env n .none; unbindBehindTheSuite X.env n pos') (fun _ s7 => Q s7) X.xe s6 := fun {σ6 H6 Q} S6 hq => gone_ok (S6.unsuite0 ok) hN hi hln hq
      cases f with
      | next =>
        obtain ⟨σ6, H6, S6, q6⟩ := hsp
        exact end_ S6 fun s7 J7 => ⟨_, _, J7, q6⟩
      | brk =>
        obtain ⟨σ6, H6, S6, q6⟩ := hsp
        exact q6.elim
      | cont =>
        obtain ⟨σ6, H6, S6, q6⟩ := hsp
        exact q6.elim
      | ret u =>
        obtain ⟨v6, σ6, H6, S6, r6, q6⟩ := hsp
        exact q6.elim
    | false =>
      show wpAny _ X.A (handleBy (.ref a) X.env []) _ _ _
      refine wpAny_handleBy_nil ?_
      obtain ⟨k1, k2, k3, oe, vs, T, oT, ts', he, hz, hd, h1, hr⟩ := id fl3
      unfold PySem.passOn
      refine wpAny_bind (wpAny_field he hd h1 ?_)
      rw [if_neg (show ¬ ((Value.ref T == Value.none) = true) from by simp)]
      have fin : wpAny (model X.prog X.w) X.A (setFlight (.ref a) X.env.frame) (fun _ s4 => wpAny (model X.prog X.w) X.A (throw (.ref a) : Sem Flow) (SP X pins D) X.xe s4) X.xe { s' with heap := h3 } := by
        rw [hf]
        refine HandSPX.setFlight_upZ fl3 fun h4 hh4 up4 => wpAny_throw (tk _ _ ?_)
        exact ⟨a, B, sI, pins, σ', H', cls, d, rfl, J, nb, (up.trans up3).trans up4, .inr (.inr (by rw [hs]; exact hh4)), na, os, ag, hno rfl⟩
      first
        | exact wpAny_bind (wpAny_pure (wpAny_bind fin))
        | exact wpAny_bind fin
  · cases f with
    | next =>
      obtain ⟨σ', H', J', q⟩ := hsp
      exact wpAny_execs_nil ⟨σ', H', J'.ofTry ok, q⟩
    | brk =>
      obtain ⟨σ', H', J', q⟩ := hsp
      exact ⟨σ', H', J'.ofTry ok, q⟩
    | cont =>
      obtain ⟨σ', H', J', q⟩ := hsp
      exact ⟨σ', H', J'.ofTry ok, q⟩
    | ret u =>
      obtain ⟨v, σ', H', J', r, q⟩ := hsp
      exact ⟨v, σ', H', J'.ofTry ok, r, q⟩
end
end L2

namespace SF
open PySem L2
/-- what the seven classes of exceptions say -/
def XAll (K : PySem.W.Frag) (C : Nat → Value) : Prop := ∀ k < 7, ∃ D, C k = .ref D ∧ ExcC K D ∧ PySem.W.exmOne K (.ref D) (C 0) = some true ∧ PySem.W.kitOne K (.ref D) (.type "ValueError") = some true ∧ ∀ c < 7, PySem.W.kitOne K (.ref D) (C c) = some (k == c || c == 0)
/-- try: f / except FitError as e: y = e -/
def fTry (i j : Nat) (ft : EvS) : EvS := fun ρ w => match ft ρ w with
  | .ok (.xc k ρ') w => if k < 7 then .ok (.nx (((ρ'.set i (.sh (.ex k))).set j (.sh (.ex k))).set i .no)) w else .bad
  | r => r
section
variable {X : Cx} {C : Nat → Value} {Wx : WX} {ft : EvS} {pos : Pos}
theorem ps_tryD {x n y : Str} {i j : Nat} {body : List Stmt} {np pn1 pn2 pa pos' : Pos} (hx : XAll X.K C) (hs : X.stack = X.env :: X.outer) (hf : X.env.frame = some X.env.locals) (hN : X.N.Nodup) (hi : X.N[i]? = some n) (hj : X.N[j]? = some y) (hln : X.env.kindOf n = some .local) (hy : Loc X.env.scope y) (hfy : X.fn y = true) (hc : Names X x (C 0)) (tk : Takes X Wx)
    (hdn : (n == ("__debug__" : Str)) = false) (hcn : (n == ("__classdict__" : Str)) = false)
    (hb : ∀ (W : WX) (pn : List (Addr × Obj)) (xe : Value → Shared → Prop), Takes (X.tr pn xe) W → PassesOwn (model X.prog X.w) X.A X.env xe → PSs (X.tr pn xe) body (tSD C W ft)) :
    PS X (.Try body [.ExceptHandler (some (.Name x np)) (some n) [.Assign [.Name y pn1] (.Name n pn2) pa] pos'] [] [] pos) (tSD C Wx (fTry i j ft)) := by
  refine (ps_tryA hs hf hN hi hj hln hy hfy hc tk hdn hcn hb).imp fun D σ H ⟨B, F, H0, ρ, w, S, G⟩ => ⟨B, F, H0, ρ, w, S, ?_⟩
  unfold fTry at G
  revert G
  cases ft ρ w with
  | ok fl w1 =>
    cases fl with
    | nx ρ' => exact fun G => G
    | rt d => exact fun G => G
    | xc k ρ' =>
      intro G σ' H' S'
      simp only at G
      split at G
      · rename_i hk
        obtain ⟨Dc, q1, q2, q3, q4, q5⟩ := hx k hk
        refine ⟨true, by rw [q1]; exact q3, fun _ => ⟨rfl, fun a na => ?_⟩, fun z => nomatch z⟩
        refine G _ _ ?_
        have S1 := S'.ext (Ext.new (o := ExcO (C k) a) na) (S'.w.new na)
        have S2 := S1.set (i := i) (v := .ref a) (d := .ex k) (.ex upd_same)
        have S3 := S2.set (i := j) (v := .ref a) (d := .ex k) (.ex upd_same)
        exact S3.wipe1 i none
      · exact G.elim
  | exc c w1 => exact fun G => G
  | bad => exact fun G => G
/-- isinstance(e, c) of an exception that is data -/
def rIsX (K : PySem.W.Frag) : List V → Hp → VK → Prop := fun xs H Q => ∃ (a D : Addr) (c : V) (cv : Value) (b : Bool), xs = [.ref a, c] ∧ (∀ u, RelV c u → u = cv) ∧ H a = some (ExcO (.ref D) a) ∧ ExcC K D ∧ PySem.W.kitOne K (.ref D) cv = some b ∧ Q (.bl b) H
theorem call_isX : CallR X (.builtin "isinstance") (rIsX X.K) := by
  intro pins s σ H xs us Q I r h
  obtain ⟨a, D, c, cv, b, rfl, hcv, hH, CC, e, q⟩ := h
  cases r with
  | cons rx rr =>
    cases rr with
    | cons rt rr =>
      cases rr
      cases rx
      have ec := hcv _ rt
      subst ec
      obtain ⟨⟨oe, hget, hz, vs, hv⟩, _⟩ := I.hok a _ hH
      have J : PySem.W.InstAt s.heap a oe D none := by
        obtain ⟨oc, od, oda, osl⟩ := oe
        obtain ⟨h1, h2⟩ := hz
        dsimp only at h1 h2 hv
        subst h1 h2 hv
        exact ⟨hget, rfl, rfl, trivial⟩
      exact PySem.W.kia_one (PySem.W.handS_kitx_exc CC.hg CC.hk CC.hs CC.hd CC.ha CC.hn CC.ht CC.hm) I.kIn J e (fun z => nomatch z) fun tk => ⟨.bl b, H, I.kept (t' := tk) fun _ _ z => z, rfl, q⟩
theorem pe_isiX {a : Expr} {fa : Ev D} {x T : Str} {k : Nat} {v : V} {cv : Value} {p pt : Pos} (hX : XAll X.K C) (hg : Gl X x) (hm : X.mg x = none) (hx : x = "isinstance") (hT : PE X (.Name T pt) (tC v)) (hv : ∀ u, RelV v u → u = cv) (hk : (cv = .type "ValueError" ∧ k = 0) ∨ (cv = C k ∧ k < 7))
    (ha : PE X a (tD C Wx fa)) (hs : okE a = true) :
    PE X (.Call (.Name x p) [a, .Name T pt] [] pos) (tD C Wx fun ρ w => (fa ρ w).bind fun x w => opt ((isiD x (.exc k)).map .bl) w) := by
  subst hx
  refine (pe_callB call_isX hg hm (by decide +kernel) (pa_cons ha (pa_cons hT pa_nil) (star_ok hs)) (by decide) (by decide) (star_ok hs) rfl).imp fun σ H Q ⟨B, P, ρ, w, S, G⟩ => ⟨B, P, ρ, w, S, Got.bind G fun d1 w1 v1 H1 e1 W1 r1 G1 => ?_⟩
  obtain ⟨d, hd, k1⟩ := Got.opt G1
  cases hq : isiD d1 (.exc k) with
  | none => rw [hq] at hd; cases hd
  | some q =>
    rw [hq] at hd
    have hd := Option.some.inj hd
    subst hd
    have hk1 := k1 (.bl q) H1 (Ext.refl B H1) W1 (.bl _)
    cases r1 with
    | @ex a c hH =>
      simp only [isiD] at hq
      split at hq
      · rename_i hc
        obtain ⟨Dc, q1, q2, q3, q4, q5⟩ := hX c hc
        have hq := Option.some.inj hq
        refine ⟨a, Dc, _, cv, q, rfl, hv, by rw [← q1]; exact hH, q2, ?_, hk1⟩
        rcases hk with ⟨rfl, rfl⟩ | ⟨rfl, hk⟩
        · rw [q4, ← hq]; simp
        · rw [q5 k hk, ← hq]
      · cases hq
    | _ => simp [isiD] at hq
end
end SF

namespace L2
open PySem PySem.Spec PyProof.Rows
section
variable {X : Cx} {CX : CXT} {k : Nat} {f C : Addr} {fd : FuncData} {ps : List Str} {sp : Sp} {E : St → XK} {m : Str} {pos apos : Pos} {e o : Expr} {es : List Expr} {ta : TE} {t : TA}
/-- o.m(..), an exception with the slots of the frame -/
def tMethS' (C : Addr) (m : Str) (sp : Sp) (E : St → XK) (ta : TE) (t : TA) : TE := fun σ H Q => ta σ H fun x H1 => ∃ a dx fs, x = .ref a ∧ H1 a = some (.ins C dx fs) ∧ fs.lookup m = none ∧
  t σ H1 fun vs H2 => sp (x :: vs) H2 Q (E σ)
theorem pe_methS' {pl : Sem Bool} (he : PE X o ta) (c : Cls X.K C) (hm : Meth X.K C m f) (F : FnOk X.prog X.w X.K X.mg X.base CX k f fd ps sp) (hr : Room k X.A) (hb : Binds X.K fd ps []) (hx : ∀ σ, PassesAt CX X σ (E σ)) (ha : PA X (e :: es) t)
    (hst : starEach (e :: es) X.env = (false, eval e X.env) :: starEach es X.env) (hpl : (backTo pos (starEach es X.env)).any (·.1) = false)
    (ht : eval (.Call (.Attribute o m apos) (e :: es) [] pos) X.env = (do
      let ov ← eval o X.env
      standAt apos.atName
      let (f, first) ← holding [ov] (getMethod ov m pl)
      callWith pos f first (backTo pos (starEach (e :: es) X.env)) (backToKw pos (keywordEach [] X.env)))) :
    PE X (.Call (.Attribute o m apos) (e :: es) [] pos) (tMethS' C m sp E ta t) := by
  refine ⟨fun pins s σ H Q I h => ?_⟩
  refine PySem.W.methodCall_KW (pl := pl) (thn (he.run pins s σ H _ I h) fun u s1 ⟨x, H1, I1, rx, a, dx, fs, ex, ea, l, q⟩ => ?_) ht
  subst ex
  obtain rfl : u = Value.ref a := rx
  refine getmeth_ok I1 ea c hm l ?_
  refine PySem.W.callWith_K (first := [.ref a]) (h₀ := X.base) I.ok.mod.kin hm.kp (thn (ha.run pos pins s1 σ H1 _ I1 q) fun us s2 ⟨vs, H2, I2, r, q2⟩ => ⟨I2.kIn, ?_⟩) hst hpl
  exact run_fnS (us := .ref a :: us) (vs := .ref a :: vs) F hr hb (hx σ) I2 (.cons rfl r) q2
theorem pe_meth0S' {pl : Sem Bool} (he : PE X o ta) (c : Cls X.K C) (hm : Meth X.K C m f) (F : FnOk X.prog X.w X.K X.mg X.base CX k f fd ps sp) (hr : Room k X.A) (hb : Binds X.K fd ps []) (hx : ∀ σ, PassesAt CX X σ (E σ))
    (ht : eval (.Call (.Attribute o m apos) [] [] pos) X.env = (do
      let ov ← eval o X.env
      standAt apos.atName
      let (f, first) ← holding [ov] (getMethod ov m pl)
      callWith pos f first (backTo pos (starEach [] X.env)) (backToKw pos (keywordEach [] X.env)))) :
    PE X (.Call (.Attribute o m apos) [] [] pos) (tMethS' C m sp E ta tNil) := by
  refine ⟨fun pins s σ H Q I h => ?_⟩
  refine PySem.W.methodCall_KW (pl := pl) (thn (he.run pins s σ H _ I h) fun u s1 ⟨x, H1, I1, rx, a, dx, fs, ex, ea, l, q⟩ => ?_) ht
  subst ex
  obtain rfl : u = Value.ref a := rx
  refine getmeth_ok I1 ea c hm l ?_
  exact PySem.W.callWith_K0 (first := [.ref a]) I1.kIn hm.kp (run_fnS (us := [.ref a]) (vs := [.ref a]) F hr hb (hx σ) I1 (.cons rfl .nil) q)
end
end L2
namespace SF
open PySem L2
section
variable {Cl : Nat → Value} {B B' : Bk Cl} {P P' : Addr → Prop} {H H' : Hp} {w w' : W} {f : Ft}
/-- the same without the fitter: its lists are plain data then -/
def Bk.off (B : Bk Cl) : Bk Cl := ⟨B.pd, B.pn, none⟩
def offP (P : Addr → Prop) (f : Ft) : Addr → Prop := fun a => P a ∧ a ≠ f.ls ∧ a ≠ f.lr
theorem WR.off (W : WR B P H w) (hf : B.ft = some f) : WR B.off (offP P f) H w := by
  have F := W.ft f hf
  refine ⟨W.pd, W.pn, W.ne, ⟨W.hd, F.n1.symm, F.n3.symm⟩, fun a z => ?_, fun g q => nomatch q⟩
  rcases z with z | ⟨g, q, _⟩
  · rw [z]; exact ⟨W.hn _ (.inl rfl), F.n2.symm, F.n4.symm⟩
  · exact nomatch q
theorem Fr.off (F : Fr B P H) : Fr B.off (offP P f) H := fun a z => F a z.1
theorem Ext.off (e : Ext B.off H H') : Ext B H H' := fun a o h h1 h2 => e a o h h1 (fun z => z.elim (fun z => h2 (.inl z)) fun ⟨_, q, _⟩ => nomatch q)
theorem WR.on (W : WR B P H w) (hf : B.ft = some f) (e : Ext B.off H H') (W' : WR B.off (offP P f) H' w') : WR B P H' { w' with kind := w.kind, srs := w.srs, rws := w.rws } := by
  refine ⟨W'.pd, W'.pn, W.ne, W.hd, W.hn, fun g hg => ?_⟩
  rw [hf] at hg
  cases hg
  have F := W.ft f hf
  have nl : ∀ {a : Addr} {o : HO}, H a = some o → a ≠ B.pd → a ≠ B.pn → H' a = some o := fun {a o} q n1 n2 => e a o q n1 fun z => z.elim n2 fun ⟨_, q, _⟩ => nomatch q
  have nn : ∀ {a : Addr} {o : HO}, H a = some o → (∀ vs, o ≠ .lst vs) → H' a = some o := fun {a o} q n => nl q (W.nD q n) (fun z => W.nV q n (.inl z))
  obtain ⟨cf, vk, a1, a2, a3⟩ := F.ob
  obtain ⟨vs, b1, _⟩ := F.ls
  obtain ⟨rs, c1, _⟩ := F.lr
  obtain ⟨x1, x2, x3, n1, n2, n3, n4, n5⟩ : FtAt B f H' w := F.mo ((nn a2 fun _ z => nomatch z).trans a2.symm) ((nl b1 F.n1 F.n2).trans b1.symm) ((nl c1 F.n3 F.n4).trans c1.symm) (moT (fun a vs q => nn q fun _ z => nomatch z) fun a φ q => nn q fun _ z => nomatch z) fun a o vs q => nn q fun _ z => nomatch z
  exact ⟨x1, x2, x3, n1, n2, n3, n4, n5⟩
mutual
theorem Rp.any : ∀ (n : Nat) (d : D) (v : V), flat d = true → plainAt n d = true → Rp B P H v d → Rp B' P' H v d
  | _, .non, _, _, _, .non => .non
  | _, .bl b, _, _, _, .bl _ => .bl b
  | _, .int i, _, _, _, .int _ => .int i
  | _, .str s, _, _, _, .str _ => .str s
  | 0, .tup ds, _, _, p, _ => by simp [plainAt] at p
  | n + 1, .tup ds, _, f, p, .tup h r => .tup h (Rps.any n ds _ (by simpa [flat] using f) (by simpa [plainAt] using p) r)
  | _, .lst ds, _, f, _, _ => by simp [flat] at f
  | _, .dT kds, _, f, _, _ => by simp [flat] at f
  | _, .dK kds, _, f, _, _ => by simp [flat] at f
  | _, .dr, _, _, p, _ => by simp [plainAt] at p
  | _, .ex c, _, _, p, _ => by simp [plainAt] at p
  | _, .ob, _, _, p, _ => by simp [plainAt] at p
theorem Rps.any : ∀ (n : Nat) (ds : List D) (vs : List V), flats ds = true → plainsAt n ds = true → Rps B P H vs ds → Rps B' P' H vs ds
  | _, [], _, _, _, .nil => .nil
  | n, d :: ds, _, f, p, .cons r rs => by
    simp only [flats, plainsAt, Bool.and_eq_true] at f p
    exact .cons (Rp.any n d _ f.1 p.1 r) (Rps.any n ds _ f.2 p.2 rs)
end
/-- the series as plain data -/
theorem off_ser (W : WR B P H w) (hf : B.ft = some f) : Rp B.off (offP P f) H (.ref f.ls) (.lst w.srs) := by
  obtain ⟨vs, b1, b2, b3, b4⟩ := (W.ft f hf).ls
  exact .lst (fun z => z.2.1 rfl) b1 (Rps.any 7 _ _ b3 b4 b2)
theorem isOb_of {B : Bk Cl} {σ : L2.St} {ρ : SF.Env} {i : Nat} (S : Sit B P H σ ρ w) (h : isOb ρ i w = true) : ∃ f, B.ft = some f ∧ σ[i]? = some (some (.ref f.po)) ∧ w.live = true := by
  unfold isOb at h
  split at h
  · rename_i e
    obtain ⟨v, h1, r⟩ := S.r i _ e
    cases r with
    | ob hf => exact ⟨_, hf, h1, h⟩
  · cases h
theorem flds_kind {a b c : V} : ([(sKind, a), (sSeries, b), (sRows, c)] : List (Str × V)).lookup sKind = some a := by
  simp [List.lookup]
theorem flds_series {a b c : V} : ([(sKind, a), (sSeries, b), (sRows, c)] : List (Str × V)).lookup sSeries = some b := by
  have : (sSeries == sKind) = false := by decide +kernel
  simp [List.lookup, this]
theorem flds_rows {a b c : V} : ([(sKind, a), (sSeries, b), (sRows, c)] : List (Str × V)).lookup sRows = some c := by
  have h1 : (sRows == sKind) = false := by decide +kernel
  have h2 : (sRows == sSeries) = false := by decide +kernel
  simp [List.lookup, h1, h2]
end
/-- what the class must say -/
structure FitC (K : PySem.W.Frag) (C : Nat → Value) : Prop where
  cls : ∃ cf, C 7 = .ref cf ∧ Cls K cf ∧ NoAttr K cf sKind ∧ NoAttr K cf sSeries ∧ NoAttr K cf sRows
section
variable {X : Cx} {C : Nat → Value} {Wx : WX} {pos : Pos}
/-- x.kind, x.series, x.rows: where they lie -/
def tFt (i : Nat) (g : Ft → W → V) : L2.St → Hp → VK → Prop := fun _ _ _ => True
theorem fld_read {σ : L2.St} {H : Hp} {Q : VK} {B : Bk C} {P : Addr → Prop} {ρ : SF.Env} {w : W} {i : Nat} {s : Str} (hC : FitC X.K C) (S : Sit B P H σ ρ w) (h : isOb ρ i w = true)
    (hs : s = sKind ∨ s = sSeries ∨ s = sRows) (hq : ∀ f, B.ft = some f → (s = sKind → ∀ z, w.kind = .str z → Q (.str (sOf z)) H) ∧ (s = sSeries → Q (.ref f.ls) H) ∧ (s = sRows → Q (.ref f.lr) H)) : tFld X.K (tVar i) s σ H Q := by
  obtain ⟨f, hf, h1, _⟩ := isOb_of S h
  obtain ⟨cf, z, a1, a2, a3⟩ := (S.w.ft f hf).ob
  obtain ⟨cf', c1, c2, c3, c4, c5⟩ := hC.cls
  rw [a1] at c1
  cases c1
  obtain ⟨q1, q2, q3⟩ := hq f hf
  rcases hs with rfl | rfl | rfl
  · exact ⟨_, h1, f.po, cf, f.dx, _, _, rfl, a2, c2, c3, flds_kind, q1 rfl z a3⟩
  · exact ⟨_, h1, f.po, cf, f.dx, _, _, rfl, a2, c2, c4, flds_series, q2 rfl⟩
  · exact ⟨_, h1, f.po, cf, f.dx, _, _, rfl, a2, c2, c5, flds_rows, q3 rfl⟩
theorem pe_fK {i : Nat} {x : Str} {p : Pos} (hC : FitC X.K C) (hN : X.N[i]? = some x) (hv : Vis X.env.scope x) (hd : (x == ("__debug__" : Str)) = false) (hcd : (x == ("__classdict__" : Str)) = false) :
    PE X (.Attribute (.Name x p) sKind pos) (tD C Wx fun ρ w => if isOb ρ i w then .ok w.kind w else .bad) :=
  (pe_fld (f := sKind) (pe_var hN hv hd hcd) rfl).imp fun σ H Q ⟨B, P, ρ, w, S, G⟩ => by
    dsimp only at G
    split at G
    · rename_i h
      refine fld_read hC S h (.inl rfl) fun f hf => ⟨fun _ z hz => G _ H (Ext.refl B H) S.w (by rw [hz]; exact .str z), fun q => ?_, fun q => ?_⟩
      · exact absurd q (by decide +kernel)
      · exact absurd q (by decide +kernel)
    · exact G.elim
end
end SF

namespace SF
open PySem L2
section
variable {Cl : Nat → Value} {B : Bk Cl} {P P' : Addr → Prop} {H H' : Hp} {w w' : W} {f : Ft}
theorem ser_at (W : WR B P H w) (hf : B.ft = some f) : ∃ vs, H f.ls = some (.lst vs) ∧ Rps B P' H vs w.srs := by
  obtain ⟨vs, b1, b2, b3, b4⟩ := (W.ft f hf).ls
  exact ⟨vs, b1, Rps.any 7 _ _ b3 b4 b2⟩
theorem nK1 : ¬ (sSeries = sKind) := by decide +kernel
theorem nK2 : ¬ (sSeries = sRows) := by decide +kernel
theorem nK3 : ¬ (sRows = sKind) := by decide +kernel
theorem nK4 : ¬ (sRows = sSeries) := by decide +kernel
theorem Rows.get : ∀ {rs : List V} {dss : List (List D)} {j : Nat} {ds : List D}, Rows B H rs dss → dss[j]? = some ds → ∃ r o us, rs[j]? = some (.ref r) ∧ H r = some (.frz o (.lst us)) ∧ Rps B P' H us ds
  | v :: rs, _ :: dss, 0, ds, ⟨⟨r, o, us, h1, h2, h3, h4, h5⟩, _⟩, e => by
    simp at e
    subst e
    exact ⟨r, o, us, by rw [h1]; rfl, h2, Rps.any 7 _ _ h4 h5 h3⟩
  | v :: rs, _ :: dss, j + 1, ds, ⟨_, h⟩, e => by
    obtain ⟨r, o, us, h1, h2⟩ := Rows.get h (by simpa using e)
    exact ⟨r, o, us, by simpa using h1, h2⟩
  | [], [], j, ds, h, e => by simp at e
  | [], _ :: _, _, _, h, _ => h.elim
  | _ :: _, [], _, _, h, _ => h.elim
theorem Rows.len : ∀ {rs : List V} {dss : List (List D)}, Rows B H rs dss → rs.length = dss.length
  | [], [], _ => rfl
  | _ :: _, _ :: _, ⟨_, h⟩ => by simp [Rows.len h]
  | [], _ :: _, h => h.elim
  | _ :: _, [], h => h.elim
theorem row_at (W : WR B P H w) (hf : B.ft = some f) {j : Int} {ds : List D} (e : SF.atI w.rws j = some ds) : ∃ rs r o us, H f.lr = some (.lst rs) ∧ L2.atI rs j = some (.ref r) ∧ H r = some (.frz o (.lst us)) ∧ Rps B P' H us ds := by
  obtain ⟨rs, c1, c2⟩ := (W.ft f hf).lr
  unfold SF.atI at e
  cases hj : SF.ixN w.rws.length j with
  | none => rw [hj] at e; simp at e
  | some k =>
    rw [hj] at e
    obtain ⟨r, o, us, h1, h2, h3⟩ := c2.get (P' := P') (by simpa using e)
    refine ⟨rs, r, o, us, c1, ?_, h2, h3⟩
    unfold L2.atI
    rw [ixN_same, c2.len, hj]
    exact h1
end
section
variable {X : Cx} {C : Nat → Value} {Wx : WX} {pos : Pos} {i : Nat} {x : Str} {p p1 p2 : Pos}
/-- len(x.series) -/
theorem pe_fL {l : Str} (hC : FitC X.K C) (hN : X.N[i]? = some x) (hv : Vis X.env.scope x) (hd : (x == ("__debug__" : Str)) = false) (hcd : (x == ("__classdict__" : Str)) = false) (hg : Gl X l) (hm : X.mg l = none) (hl : l = "len") :
    PE X (.Call (.Name l p1) [.Attribute (.Name x p) sSeries p2] [] pos) (tD C Wx fun ρ w => if isOb ρ i w then .ok (.int w.srs.length) w else .bad) := by
  subst hl
  refine (pe_callB call_len hg hm (by decide +kernel) (pa_cons (pe_fld (f := sSeries) (pe_var hN hv hd hcd) rfl) pa_nil rfl) (by decide) (by decide) rfl rfl).imp fun σ H Q ⟨B, P, ρ, w, S, G⟩ => ?_
  dsimp only at G
  split at G
  · rename_i h
    refine fld_read hC S h (.inr (.inl rfl)) fun f hf => ⟨fun q => absurd q nK1, fun _ => ?_, fun q => absurd q nK2⟩
    obtain ⟨vs, b1, b2⟩ := ser_at (P' := P) S.w hf
    exact ⟨.ref f.ls, vs.length, rfl, .inl ⟨vs, SqL.of b1, rfl⟩, by rw [b2.length]; exact G _ H (Ext.refl B H) S.w (.int _)⟩
  · exact G.elim
/-- list(x.series) -/
theorem pe_fA {l : Str} (hC : FitC X.K C) (hN : X.N[i]? = some x) (hv : Vis X.env.scope x) (hd : (x == ("__debug__" : Str)) = false) (hcd : (x == ("__classdict__" : Str)) = false) (hg : Gl X l) (hm : X.mg l = none) (hl : l = "list") :
    PE X (.Call (.Name l p1) [.Attribute (.Name x p) sSeries p2] [] pos) (tD C Wx fun ρ w => if isOb ρ i w then .ok (.lst w.srs) w else .bad) := by
  subst hl
  refine (pe_callTy call_list_of hg hm (by decide +kernel) (pa_cons (pe_fld (f := sSeries) (pe_var hN hv hd hcd) rfl) pa_nil rfl) (by decide) (by decide) rfl rfl).imp fun σ H Q ⟨B, P, ρ, w, S, G⟩ => ?_
  dsimp only at G
  split at G
  · rename_i h
    refine fld_read hC S h (.inr (.inl rfl)) fun f hf => ⟨fun q => absurd q nK1, fun _ => ?_, fun q => absurd q nK2⟩
    obtain ⟨vs, b1, b2⟩ := ser_at (P' := P) S.w hf
    exact ⟨_, _, rfl, .inl (SqL.of b1), fun l hl => G _ _ (Ext.new hl) (S.w.new hl) (new_lst S.w S.f hl b2)⟩
  · exact G.elim
/-- x.series[lo:hi] -/
def fSer (i : Nat) (fl fh : Ev (Option Int)) : Ev D := fun ρ w => if isOb ρ i w then (fl ρ w).bind fun l w => (fh ρ w).bind fun h w => if w.live then opt (slcO (.lst w.srs) l h) w else .bad else .bad
theorem pe_fS {lo hi : Option Expr} {fl fh : Ev (Option Int)} {p3 : Pos} (hC : FitC X.K C) (hN : X.N[i]? = some x) (hv : Vis X.env.scope x) (hd : (x == ("__debug__" : Str)) = false) (hcd : (x == ("__classdict__" : Str)) = false) (hl : PO X lo (tO C Wx fl)) (hh : PO X hi (tO C Wx fh)) :
    PE X (.Subscript (.Attribute (.Name x p) sSeries p2) (.Slice lo hi none p3) pos) (tD C Wx (fSer i fl fh)) := by
  refine (pe_slice sl_list (pe_fld (f := sSeries) (pe_var hN hv hd hcd) rfl) hl hh).imp fun σ H Q ⟨B, P, ρ, w, S, G⟩ => ?_
  unfold fSer at G
  split at G
  · rename_i h
    refine fld_read hC S h (.inr (.inl rfl)) fun f hf => ⟨fun q => absurd q nK1, fun _ => ?_, fun q => absurd q nK2⟩
    refine ⟨B, P, ρ, w, S, Got.bind G fun d2 w2 v2 H2 e2 W2 r2 G2 => ?_⟩
    have S2 := S.ext e2 W2
    refine ⟨B, P, ρ, w2, S2, Got.bind G2 fun d3 w3 v3 H3 e3 W3 r3 G3 => ?_⟩
    subst r2 r3
    split at G3
    · simp only [slcO, opt_some] at G3
      obtain ⟨vs, b1, b2⟩ := ser_at (P' := P) W3 hf
      exact ⟨_, _, rfl, SqL.of b1, fun q hq => G3 _ _ (Ext.new hq) (W3.new hq) (new_lst W3 (S2.ext e3 W3).f hq (cut_of b2 _ _))⟩
    · exact G3.elim
  · exact G.elim
/-- x.rows[a][b] -/
def fRowE (i : Nat) (fa fb : Ev D) : Ev D := fun ρ w => if isOb ρ i w then (fa ρ w).bind fun x w => match (if w.live then rowAt w.rws x else none) with
  | some r => (fb ρ w).bind fun y w => opt (idxD (.lst r) y) w
  | none => .bad
  else .bad
theorem pe_fR {a b : Expr} {fa fb : Ev D} {p3 : Pos} (hC : FitC X.K C) (hN : X.N[i]? = some x) (hv : Vis X.env.scope x) (hd : (x == ("__debug__" : Str)) = false) (hcd : (x == ("__classdict__" : Str)) = false) (ha : PE X a (tD C Wx fa)) (hb : PE X b (tD C Wx fb)) (hsa : PlainIx a) (hsb : PlainIx b) :
    PE X (.Subscript (.Subscript (.Attribute (.Name x p) sRows p2) a p3) b pos) (tD C Wx (fRowE i fa fb)) := by
  refine (pe_ix ix_list (pe_ix ix_list (pe_fld (f := sRows) (pe_var hN hv hd hcd) rfl) ha hsa) hb hsb).imp fun σ H Q ⟨B, P, ρ, w, S, G⟩ => ?_
  unfold fRowE at G
  split at G
  · rename_i h
    show tFld X.K (tVar i) sRows σ H (fun x H1 => tD C Wx fa σ H1 fun y H2 => rIxL X.K x y H2 fun x2 H3 => tD C Wx fb σ H3 fun y2 H4 => rIxL X.K x2 y2 H4 Q)
    refine fld_read hC S h (.inr (.inr rfl)) fun f hf => ⟨fun q => absurd q nK3, fun q => absurd q nK4, fun _ => ?_⟩
    refine ⟨B, P, ρ, w, S, Got.bind G fun d2 w2 v2 H2 e2 W2 r2 G2 => ?_⟩
    have S2 := S.ext e2 W2
    split at G2
    · rename_i row he
      split at he
      · cases d2 <;> simp only [rowAt, reduceCtorEq] at he
        rename_i j
        cases r2
        obtain ⟨rs, r, o, us, c1, c2, c3, c4⟩ := row_at (P' := P) W2 hf he
        refine ⟨_, _, _, _, rfl, rfl, SqL.of c1, c2, B, P, ρ, w2, S2, Got.bind G2 fun d3 w3 v3 H3 e3 W3 r3 G3 => ?_⟩
        obtain ⟨d, hd', k⟩ := Got.opt G3
        cases d3 <;> simp only [idxD, reduceCtorEq] at hd'
        rename_i j2
        cases r3
        have c5 := e3 r _ c3 (W2.nD c3 fun _ z => nomatch z) (W2.nV c3 fun _ z => nomatch z)
        obtain ⟨z, hz, rz⟩ := atI_of (c4.ext W2 e3) hd'
        exact ⟨_, _, _, z, rfl, rfl, .inl (.inr ⟨_, c5⟩), hz, k _ H3 (Ext.refl B H3) W3 rz⟩
      · cases he
    · exact G2.elim
  · exact G.elim
/-- len(x.rows[a]) -/
def fRowL (i : Nat) (fa : Ev D) : Ev D := fun ρ w => if isOb ρ i w then (fa ρ w).bind fun x w => match (if w.live then rowAt w.rws x else none) with
  | some r => .ok (.int r.length) w
  | none => .bad
  else .bad
theorem pe_fRL {l : Str} {a : Expr} {fa : Ev D} {p3 : Pos} (hC : FitC X.K C) (hN : X.N[i]? = some x) (hv : Vis X.env.scope x) (hd : (x == ("__debug__" : Str)) = false) (hcd : (x == ("__classdict__" : Str)) = false) (ha : PE X a (tD C Wx fa)) (hsa : PlainIx a) (hg : Gl X l) (hm : X.mg l = none) (hl : l = "len") :
    PE X (.Call (.Name l p1) [.Subscript (.Attribute (.Name x p) sRows p2) a p3] [] pos) (tD C Wx (fRowL i fa)) := by
  subst hl
  refine (pe_callB call_len hg hm (by decide +kernel) (pa_cons (pe_ix ix_list (pe_fld (f := sRows) (pe_var hN hv hd hcd) rfl) ha hsa) pa_nil rfl) (by decide) (by decide) rfl rfl).imp fun σ H Q ⟨B, P, ρ, w, S, G⟩ => ?_
  unfold fRowL at G
  split at G
  · rename_i h
    show tFld X.K (tVar i) sRows σ H (fun x H1 => tD C Wx fa σ H1 fun y H2 => rIxL X.K x y H2 fun x2 H3 => ∃ z n, [x2] = [z] ∧ LenV X.K z H3 n ∧ Q (V.int n) H3)
    refine fld_read hC S h (.inr (.inr rfl)) fun f hf => ⟨fun q => absurd q nK3, fun q => absurd q nK4, fun _ => ?_⟩
    refine ⟨B, P, ρ, w, S, Got.bind G fun d2 w2 v2 H2 e2 W2 r2 G2 => ?_⟩
    split at G2
    · rename_i row he
      split at he
      · cases d2 <;> simp only [rowAt, reduceCtorEq] at he
        rename_i j
        cases r2
        obtain ⟨rs, r, o, us, c1, c2, c3, c4⟩ := row_at (P' := P) W2 hf he
        exact ⟨_, _, _, _, rfl, rfl, SqL.of c1, c2, .ref r, us.length, rfl, .inl ⟨us, .inl (.inr ⟨_, c3⟩), rfl⟩, by rw [c4.length]; exact G2 _ H2 (Ext.refl B H2) W2 (.int _)⟩
      · cases he
    · exact G2.elim
  · exact G.elim
end
end SF

namespace SF
open PySem L2
section
variable {Cl : Nat → Value} {B : Bk Cl} {P P' : Addr → Prop} {H H' : Hp} {w w' : W} {f : Ft}
theorem ftn (hf : B.ft = some f) : B.V f.ls ∧ B.V f.lr := ⟨.inr ⟨f, hf, .inl rfl⟩, .inr ⟨f, hf, .inr rfl⟩⟩
theorem keepT {l : Addr} {vs us : List V} (h : H l = some (.lst vs)) : (∀ a zs, H a = some (.tup zs) → upd H l (.lst us) a = some (.tup zs)) ∧ (∀ a φ, H a = some (.ext φ) → upd H l (.lst us) a = some (.ext φ)) ∧ ∀ a o zs, H a = some (.frz o (.lst zs)) → upd H l (.lst us) a = some (.frz o (.lst zs)) :=
  ⟨fun a zs q => by rw [upd_ne (fun z => by rw [z, h] at q; cases q)]; exact q, fun a zs q => by rw [upd_ne (fun z => by rw [z, h] at q; cases q)]; exact q, fun a o zs q => by rw [upd_ne (fun z => by rw [z, h] at q; cases q)]; exact q⟩
/-- the series changes -/
theorem WR.ser (W : WR B P H w) (hf : B.ft = some f) {us : List V} {ds : List D} (r : Rps B (fun _ => True) H us ds) (h1 : flats ds = true) (h2 : plainsAt 7 ds = true) : WR B P (upd H f.ls (.lst us)) { w with srs := ds } := by
  have F := W.ft f hf
  obtain ⟨vs, b1, _⟩ := F.ls
  obtain ⟨k1, k2, k3⟩ := keepT (us := us) b1
  refine ⟨by rw [upd_ne F.n1.symm]; exact W.pd, by rw [upd_ne F.n2.symm]; exact W.pn, W.ne, W.hd, W.hn, fun g hg => ?_⟩
  rw [hf] at hg
  cases hg
  obtain ⟨cf, s, a1, a2, a3⟩ := F.ob
  obtain ⟨rs, c1, c2⟩ := F.lr
  exact ⟨⟨cf, s, a1, by rw [upd_ne (fun z => by rw [z, b1] at a2; cases a2)]; exact a2, a3⟩, ⟨us, upd_same, Rps.mo (moT k1 k2) _ _ r, h1, h2⟩, ⟨rs, by rw [upd_ne F.n5.symm]; exact c1, Rows.mo (moT k1 k2) k3 c2⟩, F.n1, F.n2, F.n3, F.n4, F.n5⟩
/-- the rows change -/
theorem WR.row (W : WR B P H w) (hf : B.ft = some f) {us : List V} {ds : List (List D)} (r : Rows B H us ds) : WR B P (upd H f.lr (.lst us)) { w with rws := ds } := by
  have F := W.ft f hf
  obtain ⟨vs, b1, _⟩ := F.lr
  obtain ⟨k1, k2, k3⟩ := keepT (us := us) b1
  refine ⟨by rw [upd_ne F.n3.symm]; exact W.pd, by rw [upd_ne F.n4.symm]; exact W.pn, W.ne, W.hd, W.hn, fun g hg => ?_⟩
  rw [hf] at hg
  cases hg
  obtain ⟨cf, s, a1, a2, a3⟩ := F.ob
  obtain ⟨rs, c1, c2, c3, c4⟩ := F.ls
  exact ⟨⟨cf, s, a1, by rw [upd_ne (fun z => by rw [z, b1] at a2; cases a2)]; exact a2, a3⟩, ⟨rs, by rw [upd_ne F.n5]; exact c1, Rps.mo (moT k1 k2) _ _ c2, c3, c4⟩, ⟨us, upd_same, Rows.mo (moT k1 k2) k3 r⟩, F.n1, F.n2, F.n3, F.n4, F.n5⟩
theorem Ext.vol {l : Addr} {o : HO} (h : B.V l) : Ext B H (upd H l o) := fun a u q _ n => by
  have : a ≠ l := fun z => n (by rw [z]; exact h)
  rw [upd_ne this]; exact q
theorem flats_mem {d : D} : ∀ {ds : List D}, flats ds = true → d ∈ ds → flat d = true
  | [], _, m => by cases m
  | e :: ds, h, m => by
    have h' : flat e = true ∧ flats ds = true := by simpa [flats] using h
    rcases List.mem_cons.mp m with z | z
    · rw [z]; exact h'.1
    · exact flats_mem h'.2 z
theorem flats_drop : ∀ {ds : List D}, flats ds = true → flats ds.dropLast = true
  | [], _ => rfl
  | [d], _ => rfl
  | d :: e :: ds, h => by
    have h' : flat d = true ∧ flats (e :: ds) = true := by simpa [flats] using h
    rw [List.dropLast_cons₂]
    simp [flats, h'.1, flats_drop h'.2]
theorem plains_drop {n : Nat} : ∀ {ds : List D}, plainsAt n ds = true → plainsAt n ds.dropLast = true
  | [], _ => by simp [plainsAt]
  | [d], _ => by simp [plainsAt]
  | d :: e :: ds, h => by
    have h' : plainAt n d = true ∧ plainsAt n (e :: ds) = true := by simpa [plainsAt] using h
    rw [List.dropLast_cons₂]
    simp [plainsAt, h'.1, plains_drop h'.2]
theorem Rps.dropLast : ∀ {ds : List D} {vs : List V}, Rps B P H vs ds → Rps B P H vs.dropLast ds.dropLast
  | _, _, .nil => .nil
  | _, _, .cons r .nil => .nil
  | _, _, .cons r (.cons q t) => by
    rw [List.dropLast_cons₂, List.dropLast_cons₂]
    exact .cons r (Rps.dropLast (.cons q t))
theorem Rows.dropLast : ∀ {vs : List V} {ds : List (List D)}, Rows B H vs ds → Rows B H vs.dropLast ds.dropLast
  | [], [], _ => trivial
  | [v], [d], _ => trivial
  | v :: u :: vs, d :: e :: ds, h => by
    rw [List.dropLast_cons₂, List.dropLast_cons₂]
    exact ⟨h.1, Rows.dropLast h.2⟩
  | [], _ :: _, h => h.elim
  | _ :: _, [], h => h.elim
  | [_], _ :: _ :: _, h => h.2.elim
  | _ :: _ :: _, [_], h => h.2.elim
theorem Rows.append : ∀ {vs us : List V} {ds es : List (List D)}, Rows B H vs ds → Rows B H us es → Rows B H (vs ++ us) (ds ++ es)
  | [], _, [], _, _, s => s
  | v :: vs, us, d :: ds, es, h, s => ⟨h.1, Rows.append h.2 s⟩
  | [], _, _ :: _, _, h, _ => h.elim
  | _ :: _, _, [], _, h, _ => h.elim
end
section
variable {X : Cx} {C : Nat → Value} {Wx : WX} {pos : Pos} {i : Nat} {x : Str} {p p1 p2 : Pos}
/-- x.series == [] -/
theorem fN_read {σ : L2.St} {H : Hp} {Q : VK} {q : Pos} (hC : FitC X.K C) (h : tD C Wx (fun ρ w => if isOb ρ i w then .ok (.bl w.srs.isEmpty) w else .bad) σ H Q) :
    tFld X.K (tVar i) sSeries σ H (fun x H1 => tLst tNil σ H1 fun y H2 => rD (bD (cmpD .eq)) x y H2 Q) := by
  obtain ⟨B, P, ρ, w, S, G⟩ := h
  dsimp only at G
  split at G
  · rename_i h
    refine fld_read hC S h (.inr (.inl rfl)) fun f hf => ⟨fun q => absurd q nK1, fun _ => ?_, fun q => absurd q nK2⟩
    refine ⟨by simp, fun p hp => ?_⟩
    have W1 := S.w.new (o := .lst []) hp
    have F1 : Fr B P (upd H p (.lst [])) := S.f.ext S.w W1 (Ext.new hp)
    have np : ¬ offP P f p := fun z => S.f.new hp z.1
    obtain ⟨_, _, _, _, b4⟩ := (S.w.ft f hf).ls
    have e : bD (cmpD .eq) (.lst w.srs) (.lst []) = some (.bl w.srs.isEmpty) := by
      have p1 : plain (.lst w.srs) = true := by simpa [plainAt] using b4
      have p2 : plain (.lst []) = true := by simp [plainAt, plainsAt]
      have p3 : eqD (.lst w.srs) (.lst []) = w.srs.isEmpty := by cases w.srs <;> simp [eqD, eqDs]
      simp only [bD, cmpD, p1, p2, Bool.and_true, if_true, p3, Option.map_some]
    refine ⟨_, B.off, offP P f, w, .lst w.srs, .lst [], _, W1.off hf, F1.off, off_ser W1 hf, .lst np upd_same .nil, e, fun v H' e' W' r => ?_⟩
    cases r
    exact G _ H' ((Ext.new hp).trans e'.off) (W1.on hf e' W') (.bl _)
  · exact G.elim
theorem pe_fN {q : Pos} (hu : X.A.units + 64 < cLine) (hC : FitC X.K C) (hN : X.N[i]? = some x) (hv : Vis X.env.scope x) (hd : (x == ("__debug__" : Str)) = false) (hcd : (x == ("__classdict__" : Str)) = false) :
    PE X (.Compare (.Attribute (.Name x p) sSeries p2) [.Eq] [.List [] q] pos) (tD C Wx fun ρ w => if isOb ρ i w then .ok (.bl w.srs.isEmpty) w else .bad) :=
  (pe_cmpR (op_eqDD hu) (pe_fld (f := sSeries) (pe_var hN hv hd hcd) rfl) (pe_lst pa_nil) rfl).imp fun σ H Q h => fN_read (q := q) hC h
theorem pt_fN {q : Pos} (hu : X.A.units + 64 < cLine) (hC : FitC X.K C) (hN : X.N[i]? = some x) (hv : Vis X.env.scope x) (hd : (x == ("__debug__" : Str)) = false) (hcd : (x == ("__classdict__" : Str)) = false) :
    PT X (.Compare (.Attribute (.Name x p) sSeries p2) [.Eq] [.List [] q] pos) (tT C Wx fun ρ w => if isOb ρ i w then .ok (.bl w.srs.isEmpty) w else .bad) :=
  (pt_cmpR (op_eqDD hu) (pe_fld (f := sSeries) (pe_var hN hv hd hcd) rfl) (pe_lst pa_nil) rfl).imp fun σ H Q ⟨B, P, ρ, w, S, G⟩ => fN_read (q := q) hC ⟨B, P, ρ, w, S, GotT.val G⟩
/-- x.series.pop() -/
theorem pe_fP {apos cpos : Pos} (hC : FitC X.K C) (hN : X.N[i]? = some x) (hv : Vis X.env.scope x) (hd : (x == ("__debug__" : Str)) = false) (hcd : (x == ("__classdict__" : Str)) = false) (hline : (apos.endLine == cpos.line) = true) :
    PE X (.Call (.Attribute (.Attribute (.Name x p) sSeries p2) "pop" apos) [] [] cpos) (tD C Wx fun ρ w => if isOb ρ i w then (match w.srs.getLast? with
      | some d => .ok d { w with srs := w.srs.dropLast }
      | none => .bad) else .bad) := by
  refine (pe_bm0 PySem.F.plainAttrs_list PySem.F.slot_list_pop PySem.F.type_list_pop mt_pop (pe_fld (f := sSeries) (pe_var hN hv hd hcd) rfl) rfl hline).imp fun σ H Q ⟨B, P, ρ, w, S, G⟩ => ?_
  dsimp only at G
  split at G
  · rename_i h
    refine fld_read hC S h (.inr (.inl rfl)) fun f hf => ⟨fun q => absurd q nK1, fun _ => ?_, fun q => absurd q nK2⟩
    split at G
    · rename_i d hd
      obtain ⟨vs, b1, b2, b3, b4⟩ := (S.w.ft f hf).ls
      have hlast : w.srs[w.srs.length - 1]? = some d := by rw [← hd, List.getLast?_eq_getElem?]
      obtain ⟨y, hy, ry⟩ := (Rps.any (B' := B) (P' := P) 7 _ _ b3 b4 b2).get hlast
      have hfl : flat d = true := by
        have hm := List.mem_of_getElem? hlast
        exact flats_mem b3 hm
      obtain ⟨k1, k2, _⟩ := keepT (us := vs.dropLast) b1
      refine ⟨.inl ⟨rfl, _, SqL.of b1⟩, f.ls, vs, y, rfl, rfl, b1, by rw [b2.length]; exact hy, ?_⟩
      exact G _ _ (Ext.vol (ftn hf).1) (S.w.ser hf b2.dropLast (flats_drop b3) (plains_drop b4)) (Rp.flat k1 k2 d y hfl ry)
    · exact G.elim
  · exact G.elim
end
end SF

namespace SF
open PySem L2
theorem ev_meth {env : PySem.Env} {o : Expr} {name : Str} {apos pos : Pos} {args : List Expr} (hbase : attributeBase o name env (eval o env) = eval o env)
    (hfew : methodCallForm (args.length + ([] : List Keyword).length) (backTo pos (starEach args env)) (backToKw pos (keywordEach [] env)) = true) (hline : (apos.endLine == pos.line) = true) :
    eval (.Call (.Attribute o name apos) args [] pos) env = (do
      let ov ← eval o env
      standAt apos.atName
      let (f, first) ← holding [ov] (getMethod ov name (do return (← importBound o env).getD true))
      callWith pos f first (backTo pos (starEach args env)) (backToKw pos (keywordEach [] env))) := by
  rw [arm_eval_Call, hbase]
  unfold methodCall calleeOf methodCallPos
  rw [hfew]
  simp only [hline, if_true, Bool.not_true, Bool.or_true]
  rfl
theorem few_ok {env : PySem.Env} {pos : Pos} {args : List Expr} (h : args.all okE = true) (hl : args.length < 20) : methodCallForm (args.length + ([] : List Keyword).length) (backTo pos (starEach args env)) (backToKw pos (keywordEach [] env)) = true := by
  have h1 := stars_ok (pos := pos) (env := env) h
  have h2 : (backTo pos (starEach args env)).all (fun x => !x.1) = true := by
    rw [List.all_eq_true]
    intro q hq
    have := List.any_eq_false.mp h1 q hq
    simpa using this
  have h3 : (backToKw pos (keywordEach [] env)) = [] := rfl
  unfold methodCallForm
  rw [h2, h3]
  simp
  omega
section
variable {X : Cx} {C : Nat → Value} {Wx : WX} {pos : Pos} {i : Nat} {x : Str} {p p1 p2 : Pos} {call : Nat → List D → W → R D} {e : Expr} {es : List Expr} {fe : Ev D} {fas : Ev (List D)}
theorem Rp.scal {B B' : Bk C} {P P' : Addr → Prop} {H : Hp} {v : V} {d : D} (h : SF.scal d = true) (r : Rp B P H v d) : Rp B' P' H v d := by
  cases r with
  | non => exact .non
  | bl b => exact .bl b
  | int i => exact .int i
  | str s => exact .str s
  | _ => simp [SF.scal] at h
/-- f(x.series, e), which returns None -/
def fCall (j i : Nat) (call : Nat → List D → W → R D) (fe : Ev D) : Ev D := fun ρ w => if isOb ρ i w then (fe ρ w).bind fun y w => if w.live && SF.scal y then keepF w (call j [.lst w.srs, y] w) else .bad else .bad
theorem pe_fCS {j k : Nat} {g : Str} {ga : Addr} {fd : FuncData} {ps : List Str} (hC : FitC X.K C) (hN : X.N[i]? = some x) (hv : Vis X.env.scope x) (hd : (x == ("__debug__" : Str)) = false) (hcd : (x == ("__classdict__" : Str)) = false)
    (F : FnOk X.prog X.w X.K X.mg X.base (L2.CX X.prog X.w) k ga fd ps (spF C call j)) (hr : Room k X.A) (hg : Gl X g) (hm : X.mg g = some (.ref ga)) (hk : PySem.W.keepIn X.K (.ref ga) = true)
    (hb : Binds X.K fd ps []) (tk : Takes X Wx) (he : PE X e (tD C Wx fe)) (hdb : (g == ("__debug__" : Str)) = false) (hs : okE e = true) :
    PE X (.Call (.Name g p1) [.Attribute (.Name x p) sSeries p2, e] [] pos) (tD C Wx (fCall j i call fe)) := by
  refine (pe_callS (E := WE Wx) F hr hg hm hk hb (fun σ => passAt tk σ) (pa_cons (pe_fld (f := sSeries) (pe_var hN hv hd hcd) rfl) (pa_cons he pa_nil (star_ok hs)) rfl) hdb rfl (stars_ok (by simpa using hs))).imp fun σ H Q ⟨B, P, ρ, w, S, G⟩ => ?_
  unfold fCall at G
  split at G
  · rename_i h
    show tFld X.K (tVar i) sSeries σ H (fun x H1 => tD C Wx fe σ H1 fun y H2 => spF C call j [x, y] H2 Q (WE Wx σ))
    refine fld_read hC S h (.inr (.inl rfl)) fun f hf => ⟨fun q => absurd q nK1, fun _ => ?_, fun q => absurd q nK2⟩
    refine ⟨B, P, ρ, w, S, Got.bind G fun d2 w2 v2 H2 e2 W2 r2 G2 => ?_⟩
    split at G2
    · rename_i hc
      simp only [Bool.and_eq_true] at hc
      refine ⟨B.off, offP P f, [.lst w2.srs, d2], w2, .cons (off_ser W2 hf) (.cons (Rp.scal hc.2 r2) .nil), W2.off hf, (S.ext e2 W2).f.off, ?_⟩
      revert G2
      cases call j [.lst w2.srs, d2] w2 with
      | ok d w' =>
        intro G2 v H' e' W' r
        cases r with
        | non => exact G2 _ H' e'.off (W2.on hf e' W') .non
        | _ => exact G2.elim
      | exc c w' => exact fun G2 H' e' W' => G2 H' e'.off (W2.on hf e' W')
      | bad => exact fun G2 => G2
    · exact G2.elim
  · exact G.elim
/-- x.m(..) -/
def fMth (j i : Nat) (call : Nat → List D → W → R D) (fas : Ev (List D)) : Ev D := fun ρ w => if isOb ρ i w then (fas ρ w).bind fun xs w => call j (.ob :: xs) w else .bad
theorem mth_read {m : Str} {j : Nat} {σ : L2.St} {H : Hp} {Q : VK} {t : TA} {cf : Addr} (hc : C 7 = .ref cf) (hm : ∀ {a b c : V}, ([(sKind, a), (sSeries, b), (sRows, c)] : List (Str × V)).lookup m = none)
    (ht : ∀ σ H Q, tAs C Wx fas σ H Q → t σ H Q) (h : tD C Wx (fMth j i call fas) σ H Q) : tMethS' cf m (spF C call j) (WE Wx) (tVar i) t σ H Q := by
  obtain ⟨B, P, ρ, w, S, G⟩ := h
  unfold fMth at G
  split at G
  · rename_i h
    obtain ⟨f, hf, h1, _⟩ := isOb_of S h
    obtain ⟨cf', z, a1, a2, a3⟩ := (S.w.ft f hf).ob
    rw [hc] at a1
    cases a1
    refine ⟨_, h1, f.po, f.dx, _, rfl, a2, hm, ht _ _ _ ⟨B, P, ρ, w, S, Got.bind G fun d2 w2 v2 H2 e2 W2 r2 G2 => ?_⟩⟩
    refine ⟨B, P, .ob :: d2, w2, .cons (.ob hf) r2, W2, (S.ext e2 W2).f, ?_⟩
    revert G2
    cases call j (.ob :: d2) w2 with
    | ok d w' => exact fun G => G
    | exc c w' => exact fun G => G
    | bad => exact fun G => G
  · exact G.elim
theorem pe_mth {m : Str} {j k : Nat} {cf ga : Addr} {fd : FuncData} {ps : List Str} {apos : Pos} (hc : C 7 = .ref cf) (hcl : Cls X.K cf) (hM : Meth X.K cf m ga) (hm : ∀ {a b c : V}, ([(sKind, a), (sSeries, b), (sRows, c)] : List (Str × V)).lookup m = none)
    (hN : X.N[i]? = some x) (hv : Vis X.env.scope x) (hd : (x == ("__debug__" : Str)) = false) (hcd : (x == ("__classdict__" : Str)) = false)
    (F : FnOk X.prog X.w X.K X.mg X.base (L2.CX X.prog X.w) k ga fd ps (spF C call j)) (hr : Room k X.A) (hb : Binds X.K fd ps []) (tk : Takes X Wx) (ha : PA X (e :: es) (tAs C Wx fas)) (he : okE e = true) (hs : es.all okE = true) (hl : es.length < 19) (hline : (apos.endLine == pos.line) = true) :
    PE X (.Call (.Attribute (.Name x p) m apos) (e :: es) [] pos) (tD C Wx (fMth j i call fas)) :=
  (pe_methS' (E := WE Wx) (pe_var hN hv hd hcd) hcl hM F hr hb (fun σ => passAt tk σ) ha (star_ok he) (stars_ok hs) (ev_meth rfl (few_ok (by simp [he, hs]) (by simp; omega)) hline)).imp fun σ H Q h => mth_read hc hm (fun _ _ _ z => z) h
theorem pe_mth0 {m : Str} {j k : Nat} {cf ga : Addr} {fd : FuncData} {ps : List Str} {apos : Pos} (hc : C 7 = .ref cf) (hcl : Cls X.K cf) (hM : Meth X.K cf m ga) (hm : ∀ {a b c : V}, ([(sKind, a), (sSeries, b), (sRows, c)] : List (Str × V)).lookup m = none)
    (hN : X.N[i]? = some x) (hv : Vis X.env.scope x) (hd : (x == ("__debug__" : Str)) = false) (hcd : (x == ("__classdict__" : Str)) = false)
    (F : FnOk X.prog X.w X.K X.mg X.base (L2.CX X.prog X.w) k ga fd ps (spF C call j)) (hr : Room k X.A) (hb : Binds X.K fd ps []) (tk : Takes X Wx) (hline : (apos.endLine == pos.line) = true) :
    PE X (.Call (.Attribute (.Name x p) m apos) [] [] pos) (tD C Wx (fMth j i call fun _ w => .ok [] w)) :=
  (pe_meth0S' (E := WE Wx) (pe_var hN hv hd hcd) hcl hM F hr hb (fun σ => passAt tk σ) (ev_meth rfl (few_ok rfl (by simp)) hline)).imp fun σ H Q h => mth_read hc hm (fun σ H Q ⟨B, P, ρ, w, S, G⟩ => G [] H (Ext.refl B H) S.w .nil) h
theorem flats_app : ∀ {a b : List D}, flats (a ++ b) = (flats a && flats b)
  | [], _ => by simp [flats]
  | d :: a, b => by simp [flats, flats_app (a := a) (b := b), Bool.and_assoc]
theorem plains_app {n : Nat} : ∀ {a b : List D}, plainsAt n (a ++ b) = (plainsAt n a && plainsAt n b)
  | [], _ => by simp [plainsAt]
  | d :: a, b => by simp [plainsAt, plains_app (a := a) (b := b), Bool.and_assoc]
/-- x.series.append(e) -/
def fApE (i : Nat) (fe : Ev D) : EvS := fun ρ w => if isOb ρ i w then (fe ρ w).st ρ fun d w => if w.live && flat d && plainAt 7 d && decide (w.srs.length < LIM) then .ok (.nx ρ) { w with srs := w.srs ++ [d] } else .bad else .bad
theorem ps_fApp {apos cpos : Pos} (hC : FitC X.K C) (hN : X.N[i]? = some x) (hv : Vis X.env.scope x) (hd : (x == ("__debug__" : Str)) = false) (hcd : (x == ("__classdict__" : Str)) = false) (he : PE X e (tD C Wx fe)) (hs : okE e = true) (hline : (apos.endLine == cpos.line) = true) :
    PS X (.Expr (.Call (.Attribute (.Attribute (.Name x p) sSeries p2) "append" apos) [e] [] cpos) pos) (tSD C Wx (fApE i fe)) := by
  have hstar := star_ok (es := []) (env := X.env) hs
  refine (ps_expr (pe_bm PySem.F.plainAttrs_list PySem.F.slot_list_append PySem.F.type_list_append mt_append (pe_fld (f := sSeries) (pe_var hN hv hd hcd) rfl) (pa_cons he pa_nil hstar) rfl ?_ hline hstar rfl)).imp fun D σ H h => ?_
  · rw [hstar]; rfl
  obtain ⟨B, F, H0, ρ, w, S, G⟩ := h
  unfold fApE at G
  split at G
  · rename_i h
    show tFld X.K (tVar i) sSeries σ H (fun x H1 => tyV X.K "list" x H1 ∧ tD C Wx fe σ H1 fun y H2 => rAppend x [y] H2 fun _ H3 => D.nx σ H3)
    refine fld_read hC S.sit0 h (.inr (.inl rfl)) fun f hf => ⟨fun q => absurd q nK1, fun _ => ?_, fun q => absurd q nK2⟩
    obtain ⟨vs0, b0, _⟩ := (S.w.ft f hf).ls
    refine ⟨.inl ⟨rfl, _, SqL.of b0⟩, B, _, ρ, w, S.sit0, GotS.st S G fun y w1 u H1 e1 W1 r1 G1 => ?_⟩
    have S1 := S.ext e1 W1
    split at G1
    · rename_i c
      simp only [Bool.and_eq_true, decide_eq_true_eq] at c
      obtain ⟨⟨⟨c1, c2⟩, c3⟩, c4⟩ := c
      obtain ⟨vs, b1, b2, b3, b4⟩ := (W1.ft f hf).ls
      refine ⟨f.ls, vs, u, rfl, rfl, b1, lim_lt (by rw [b2.length]; exact c4), ?_⟩
      refine G1 _ _ (S1.ext (Ext.vol (ftn hf).1) (W1.ser hf (b2.append (.cons (Rp.any 7 _ _ c2 c3 r1) .nil)) ?_ ?_))
      · rw [flats_app, b3]; simp [flats, c2]
      · rw [plains_app, b4]; simp [plainsAt, c3]
    · exact G1.elim
  · exact G.elim
/-- x.rows.pop() -/
theorem ps_fPpR {apos cpos : Pos} (hC : FitC X.K C) (hN : X.N[i]? = some x) (hv : Vis X.env.scope x) (hd : (x == ("__debug__" : Str)) = false) (hcd : (x == ("__classdict__" : Str)) = false) (hline : (apos.endLine == cpos.line) = true) :
    PS X (.Expr (.Call (.Attribute (.Attribute (.Name x p) sRows p2) "pop" apos) [] [] cpos) pos) (tSD C Wx fun ρ w => if isOb ρ i w && !w.rws.isEmpty then .ok (.nx ρ) { w with rws := w.rws.dropLast } else .bad) := by
  refine (ps_expr (pe_bm0 PySem.F.plainAttrs_list PySem.F.slot_list_pop PySem.F.type_list_pop mt_pop (pe_fld (f := sRows) (pe_var hN hv hd hcd) rfl) rfl hline)).imp fun D σ H h => ?_
  obtain ⟨B, F, H0, ρ, w, S, G⟩ := h
  dsimp only at G
  split at G
  · rename_i h
    simp only [Bool.and_eq_true, Bool.not_eq_true'] at h
    show tFld X.K (tVar i) sRows σ H (fun x H1 => tyV X.K "list" x H1 ∧ rPop x [] H1 fun _ H3 => D.nx σ H3)
    refine fld_read hC S.sit0 h.1 (.inr (.inr rfl)) fun f hf => ⟨fun q => absurd q nK3, fun q => absurd q nK4, fun _ => ?_⟩
    obtain ⟨rs, c1, c2⟩ := (S.w.ft f hf).lr
    have hl : rs.length - 1 < rs.length := by
      rw [c2.len]
      have : w.rws ≠ [] := fun z => by rw [z] at h; simp at h
      have := List.length_pos_iff.mpr this
      omega
    refine ⟨.inl ⟨rfl, _, SqL.of c1⟩, f.lr, rs, rs[rs.length - 1], rfl, rfl, c1, List.getElem?_eq_getElem hl, ?_⟩
    exact G _ _ (S.ext (P := F) (Ext.vol (ftn hf).2) (S.w.row hf c2.dropLast))
  · exact G.elim
end
end SF

namespace L2
open PySem PySem.Spec PyProof.Rows
/-- a thing is locked for good behind a statement -/
theorem ps_lockN {X : Cx} {st : Stmt} {t : TS} (h : PS X st t) : PS X st (fun D σ H => t { D with nx := fun σ' H' => ∃ d u, H' d = some u ∧ Mut (some u) ∧ ∀ od, D.nx σ' (upd H' d (.frz od u)) } σ H) := by
  refine ⟨fun pins s σ H D I hw => ?_⟩
  refine thn (h.run pins s σ H _ I hw) fun f s1 q => ?_
  cases f with
  | next =>
    obtain ⟨σ', H', I', d, u, hd, mu, k⟩ := q
    obtain ⟨od, I2⟩ := I'.lock hd mu
    exact ⟨σ', _, I2, k od⟩
  | brk => exact q
  | cont => exact q
  | ret v => exact q
end L2
namespace SF
open PySem L2
section
variable {C : Nat → Value} {B : Bk C} {F : Addr → Prop} {H0 H : Hp} {σ : L2.St} {ρ : SF.Env} {w : W}
/-- an owned list or dict is given away -/
theorem SEnv.gone (S : SEnv B F H0 H σ ρ w) {i : Nat} {l : Addr} {d : D} {o : HO} (hi : ρ[i]? = some (.ow d)) (hl : σ[i]? = some (some (.ref l))) : SEnv B F H0 (upd H l o) σ (ρ.set i .no) w := by
  obtain ⟨l', h1, h2, h3, h4⟩ := S.own i d hi
  rw [hl] at h1
  cases h1
  obtain ⟨oo, h5, h6⟩ := h4.has
  have hir : i < ρ.length := (List.getElem?_eq_some_iff.mp hi).1
  have ht : ∀ a vs, H a = some (.tup vs) → upd H l o a = some (.tup vs) := fun a vs q => by
    rw [upd_ne]
    · exact q
    · intro z; subst z; rw [q] at h5; cases h5; exact h6.1 vs rfl
  have hx : ∀ a φ, H a = some (.ext φ) → upd H l o a = some (.ext φ) := fun a vs q => by
    rw [upd_ne]
    · exact q
    · intro z; subst z; rw [q] at h5; cases h5; exact h6.2 vs rfl
  have how : ∀ (j : Nat) (s : Slot), (ρ.set i .no)[j]? = some s → s ≠ .no → i ≠ j ∧ ρ[j]? = some s := fun j s h hs => by
    by_cases e : i = j
    · subst e
      rw [List.getElem?_set_self hir] at h; cases h; exact absurd rfl hs
    · rw [List.getElem?_set_ne e] at h; exact ⟨e, h⟩
  have hsub : ∀ a, hidH F σ (ρ.set i .no) (fun _ => True) a → hidH F σ ρ (fun _ => True) a := fun a z => by
    rcases z with z | ⟨j, dj, _, q1, q2⟩
    · exact .inl z
    · exact .inr ⟨j, dj, trivial, (how j _ q1 (by simp)).2, q2⟩
  have hlh : hidH F σ ρ (fun _ => True) l := .inr ⟨i, d, trivial, hi, hl⟩
  refine ⟨fun a u q q1 q2 => ?_, S.w.put (S.nd h3).1 (S.nd h3).2 h4.soft, fun a z => ?_, by simpa using S.len, fun j dj h => ?_, fun j k dj dk m q1 q2 q3 q4 => ?_, fun j dj h => ?_⟩
  · rw [upd_ne (fun z => by rw [z, h2] at q; cases q)]
    exact S.ex a u q q1 q2
  · obtain ⟨u, q⟩ := S.f a z
    have hne : a ≠ l := fun e => h3 (by rw [← e]; exact z)
    rw [upd_ne hne]
    exact ⟨u, q⟩
  · obtain ⟨e, h⟩ := how j _ h (by simp)
    obtain ⟨m, q1, q2, q3, q4⟩ := S.own j dj h
    have hne : m ≠ l := fun z => e (S.inj i j d dj l hi h hl (z ▸ q1))
    exact ⟨m, q1, q2, q3, q4.mo (upd_ne hne) ht hx⟩
  · exact S.inj j k dj dk m (how j _ q1 (by simp)).2 (how k _ q2 (by simp)).2 q3 q4
  · obtain ⟨e, h⟩ := how j _ h (by simp)
    obtain ⟨u, q1, q2⟩ := S.sh j dj h
    have hnl : ∀ a, ¬ hidH F σ ρ (fun _ => True) a → a ≠ l := fun a p z => p (by rw [z]; exact hlh)
    refine ⟨u, q1, Rp.mo ⟨ht, fun a vs p q => ⟨fun z => p (hsub a z), ?_⟩, fun a kvs p q => ⟨fun z => p (hsub a z), ?_⟩, fun a kvs p q => ⟨fun z => p (hsub a z), ?_⟩, hx⟩ dj u q2⟩
    · rw [upd_ne (hnl a p)]; exact q
    · rcases q with q | ⟨oq, q⟩
      · exact .inl (by rw [upd_ne (hnl a p)]; exact q)
      · exact .inr ⟨oq, by rw [upd_ne (hnl a p)]; exact q⟩
    · rcases q with q | ⟨oq, q⟩
      · exact .inl (by rw [upd_ne (hnl a p)]; exact q)
      · exact .inr ⟨oq, by rw [upd_ne (hnl a p)]; exact q⟩
theorem upd_comm {H : Hp} {a b : Addr} {o u : HO} (h : a ≠ b) : upd (upd H a o) b u = upd (upd H b u) a o := by
  funext c
  by_cases h1 : c = b
  · subst h1
    rw [upd_same, upd_ne (Ne.symm h), upd_same]
  · rw [upd_ne h1]
    by_cases h2 : c = a
    · subst h2
      rw [upd_same, upd_same]
    · rw [upd_ne h2, upd_ne h2, upd_ne h1]
end
section
variable {X : Cx} {C : Nat → Value} {Wx : WX} {pos : Pos} {i j : Nat} {x y : Str} {p p1 p2 : Pos}
/-- x.rows.append(y), y an owned list -/
def fApRow (i j : Nat) : EvS := fun ρ w => if isOb ρ i w then (match ownList ρ j with
      | some xs => if flats xs && plainsAt 7 xs && decide (w.rws.length < LIM) then .ok (.nx (ρ.set j .no)) { w with rws := w.rws ++ [xs] } else .bad
      | none => .bad) else .bad
theorem ps_fApR {apos cpos : Pos} (hC : FitC X.K C) (hN : X.N[i]? = some x) (hv : Vis X.env.scope x) (hd : (x == ("__debug__" : Str)) = false) (hcd : (x == ("__classdict__" : Str)) = false)
    (hN' : X.N[j]? = some y) (hv' : Vis X.env.scope y) (hd' : (y == ("__debug__" : Str)) = false) (hcd' : (y == ("__classdict__" : Str)) = false) (hline : (apos.endLine == cpos.line) = true) :
    PS X (.Expr (.Call (.Attribute (.Attribute (.Name x p) sRows p2) "append" apos) [.Name y p1] [] cpos) pos) (tSD C Wx (fApRow i j)) := by
  refine (ps_lockN (ps_expr (pe_bm PySem.F.plainAttrs_list PySem.F.slot_list_append PySem.F.type_list_append mt_append (pe_fld (f := sRows) (pe_var hN hv hd hcd) rfl) (pa_cons (pe_var hN' hv' hd' hcd') pa_nil rfl) rfl rfl hline rfl rfl))).imp fun D σ H h => ?_
  obtain ⟨B, F, H0, ρ, w, S, G⟩ := h
  unfold fApRow at G
  split at G
  · rename_i h
    show tFld X.K (tVar i) sRows σ H (fun x H1 => tyV X.K "list" x H1 ∧ tVar j σ H1 fun y H2 => rAppend x [y] H2 fun _ H3 => ∃ d u, H3 d = some u ∧ Mut (some u) ∧ ∀ od, D.nx σ (upd H3 d (.frz od u)))
    refine fld_read hC S.sit0 h (.inr (.inr rfl)) fun f hf => ⟨fun q => absurd q nK3, fun q => absurd q nK4, fun _ => ?_⟩
    cases hx : ownList ρ j with
    | none => rw [hx] at G; exact G.elim
    | some xs =>
      rw [hx] at G
      simp only at G
      split at G
      · rename_i c
        simp only [Bool.and_eq_true, decide_eq_true_eq] at c
        obtain ⟨⟨c1, c2⟩, c3⟩ := c
        have hx := ownList_some hx
        obtain ⟨l, h1, h2, h3, us, h4, h5⟩ := S.own j _ hx
        obtain ⟨rs, b1, b2⟩ := (S.w.ft f hf).lr
        have hne : l ≠ f.lr := fun z => h3 (z ▸ S.w.hn _ (ftn hf).2)
        refine ⟨.inl ⟨rfl, _, SqL.of b1⟩, .ref l, h1, f.lr, rs, .ref l, rfl, rfl, b1, lim_lt (by rw [b2.len]; exact c3), l, .lst us, by rw [upd_ne hne]; exact h4, trivial, fun od => ?_⟩
        have S2 : SEnv B F H0 (upd H l (.frz od (.lst us))) σ (ρ.set j .no) w := S.gone hx h1
        have k := S2.w
        obtain ⟨rs', b1', b2'⟩ := (k.ft f hf).lr
        rw [upd_ne (Ne.symm hne), b1] at b1'
        cases b1'
        rw [upd_comm (Ne.symm hne)]
        have ht : ∀ a vs, H a = some (.tup vs) → upd H l (.frz od (.lst us)) a = some (.tup vs) := fun a vs q => by
          rw [upd_ne (fun z => by rw [z, h4] at q; cases q)]; exact q
        have hxx : ∀ a φ, H a = some (.ext φ) → upd H l (.frz od (.lst us)) a = some (.ext φ) := fun a vs q => by
          rw [upd_ne (fun z => by rw [z, h4] at q; cases q)]; exact q
        exact G _ _ (S2.ext (P := F) (Ext.vol (ftn hf).2) (k.row hf (b2'.append ⟨⟨l, od, us, rfl, upd_same, Rps.mo (moT ht hxx) _ _ h5, c1, c2⟩, trivial⟩)))
      · exact G.elim
  · exact G.elim
end
end SF

namespace L2
open PySem PySem.Spec PyProof.Rows
section
variable {X : Cx} {CX : CXT} {k : Nat} {f C : Addr} {fd : FuncData} {ps : List Str} {sp : Sp} {E : St → XK} {x : Str} {p pos : Pos} {e : Expr} {es : List Expr} {t : TA}
theorem run_makeS {pins : List (Addr × Obj)} {σ : St} {H : Hp} {s : Shared} {Q : VK} {us : List Value} {vs : List V} (M : Mk X.K C f) (F : FnOk X.prog X.w X.K X.mg X.base CX k f fd ps sp) (hr : Room (k + 1) X.A) (hb : Binds X.K fd ps [])
    (hx : PassesAt CX X σ (E σ)) (I : Inv X pins σ H s) (r : Vals vs us)
    (h : ∀ x dx, H x = none → H dx = none → dx ≠ x → sp (.ref x :: vs) (upd (upd H dx (.own x)) x (.ins C dx [])) (fun v H2 => v = .non ∧ Q (.ref x) H2) (E σ)) :
    wpAny (model X.prog X.w) X.A (call (.ref C) us) (EP X pins σ Q) X.xe s := by
  have hq := h (s.heap.objs.size + 1) s.heap.objs.size (I.hok.fresh (Nat.le_succ _)) (I.hok.fresh (Nat.le_refl _)) (Nat.ne_of_lt (Nat.lt_succ_self _))
  have I2 := Inv.made (C := C) I
  have r2 : Vals (V.ref (s.heap.objs.size + 1) :: vs) (Value.ref (s.heap.objs.size + 1) :: us) := .cons rfl r
  have hl : (Value.ref (s.heap.objs.size + 1) :: us).length = ps.length := by
    have e := r2.length
    rw [F.len _ _ _ _ hq] at e
    exact e.symm
  have b := hb _ (Value.ref (s.heap.objs.size + 1) :: us) I2.kIn (by rw [List.append_nil]; exact hl)
  rw [List.append_nil] at b
  refine wpAny_call (make_map (f := f) I.kIn M.makes M.init (beq_iff_eq.mp M.fn) (codeAny_mono (F.run _ X.stack _ _ ⟨Value.ref (s.heap.objs.size + 1) :: us, []⟩ (Value.ref (s.heap.objs.size + 1) :: us) _ _ (E σ) (hr.make C us [])
    (I2.env0.make C us []) b r2 hq) fun r s' hq' => ?_))
  cases r with
  | error e => exact hx pins _ _ e s' I2 hq'
  | ok fl =>
    cases fl with
    | ret u =>
      obtain ⟨v, H', I3, rv, ev, q3⟩ := I2.after hq'
      subst ev
      exact ⟨rv, ⟨V.ref (s.heap.objs.size + 1), H', I3, rfl, q3⟩⟩
    | next => exact False.elim hq'
    | brk => exact False.elim hq'
    | cont => exact False.elim hq'
def tMakeS (C : Addr) (sp : Sp) (E : St → XK) (t : TA) : TE := fun σ H Q => t σ H fun vs H1 => ∀ x dx, H1 x = none → H1 dx = none → dx ≠ x →
  sp (.ref x :: vs) (upd (upd H1 dx (.own x)) x (.ins C dx [])) (fun v H2 => v = .non ∧ Q (.ref x) H2) (E σ)
theorem pe_makeS (M : Mk X.K C f) (F : FnOk X.prog X.w X.K X.mg X.base CX k f fd ps sp) (hr : Room (k + 1) X.A) (hg : Gl X x) (hm : X.mg x = some (.ref C)) (hb : Binds X.K fd ps []) (hx : ∀ σ, PassesAt CX X σ (E σ))
    (ha : PA X (e :: es) t) (hdb : (x == ("__debug__" : Str)) = false) (he : starEach (e :: es) X.env = (false, eval e X.env) :: starEach es X.env) (hpl : (backTo pos (starEach es X.env)).any (·.1) = false) :
    PE X (.Call (.Name x p) (e :: es) [] pos) (tMakeS C sp E t) := by
  refine ⟨fun pins s σ H Q I h => ?_⟩
  refine wpAny_Call_Name_kw (ld_glob I hg hm ?_ hdb)
  refine PySem.W.callWith_K (h₀ := X.base) I.ok.mod.kin M.kp (thn (ha.run pos pins s σ H _ I h) fun us s1 ⟨vs, H1, I1, r, q⟩ => ⟨I1.kIn, ?_⟩) he hpl
  exact run_makeS M F hr hb (hx σ) I1 r q
end
end L2
namespace SF
open PySem L2
/-- a fitter has been made: what is new -/
structure Made (H1 H' : Hp) (po cf dx : Addr) (s : List Nat) (ls lr r t : Addr) : Prop where
  ob : H' po = some (.ins cf dx [(sKind, .str (sOf s)), (sSeries, .ref ls), (sRows, .ref lr)])
  hls : H' ls = some (.lst [])
  hlr : H' lr = some (.lst [.ref r])
  hr : H' r = some (.lst [.ref t])
  ht : H' t = some (.tup [.int 0, .int 1])
  n1 : H1 ls = none
  n2 : H1 lr = none
  n3 : H1 r = none
  n4 : H1 t = none
  d1 : ls ≠ lr
  d2 : r ≠ lr
  d3 : r ≠ ls
  d4 : t ≠ r
  old : ∀ a, a ≠ po → a ≠ ls → a ≠ lr → a ≠ r → a ≠ t → H' a = H1 a
/-- the promise of __init__ -/
def spInit (C : Nat → Value) (call : Nat → List D → W → R D) (jc : Nat) : Sp := fun vs H Q E => ∃ (B : Bk C), ∃ P d w cf dx po vk, vs = [.ref po, vk] ∧ C 7 = .ref cf ∧ H po = some (.ins cf dx []) ∧ Rp B P H vk d ∧ WR B P H w ∧ Fr B P H ∧
  match call jc [d] w with
  | .ok _ w' => ∃ s, d = .str s ∧ ∀ H1 H' ls lr r t, Ext B H H1 → WR B P H1 w' → Made H1 H' po cf dx s ls lr r t → Q .non H'
  | .exc c w' => ∀ H', Ext B H H' → WR B P H' w' → E (C c) none H'
  | .bad => False
def t_init (K : PySem.W.Frag) (sp : Sp) (E : L2.St → XK) : TS :=
  tSeq (tDrop (tCallS sp E (tCons (tVar 1) tNil))) <|
  tSeq (sFld K (tVar 0) (tVar 1) sKind) <|
  tSeq (sFld K (tVar 0) (tLst tNil) sSeries) <|
  sFld K (tVar 0) (tLst (tCons (tLst (tCons (tTup (tCons (tC (.int 0)) (tCons (tC (.int 1)) tNil))) tNil)) tNil)) sRows
theorem init_read {K : PySem.W.Frag} {C : Nat → Value} {call : Nat → List D → W → R D} {jc : Nat} {vs : List V} {H : Hp} {Q : VK} {E : XK} (hC : FitC K C) (h : spInit C call jc vs H Q E) :
    t_init K (spF C call jc) (fun _ => E) { nx := fun _ H' => Q .non H', rt := Q } (start ["self", "kind"] vs) H := by
  obtain ⟨B, P, d, w, cf, dx, po, vk, rfl, c7, hpo, rk, W, F, G⟩ := h
  obtain ⟨cf', q7, hcl, na1, na2, na3⟩ := hC.cls
  rw [c7] at q7
  cases q7
  refine ⟨vk, rfl, B, P, [d], w, .cons rk .nil, W, F, ?_⟩
  revert G
  cases call jc [d] w with
  | exc c w' => exact fun G => G
  | bad => exact fun G => G
  | ok d' w' =>
    rintro ⟨s, rfl, G⟩ v0 H1 e1 W1 _
    cases rk
    have h1 : H1 po = some (.ins cf dx []) := e1 _ _ hpo (W.nD hpo fun _ z => nomatch z) (W.nV hpo fun _ z => nomatch z)
    refine ⟨.str (sOf s), rfl, .ref po, rfl, po, cf, dx, [], rfl, h1, hcl, na1, by decide, ?_⟩
    refine ⟨by simp, fun ls hls => ⟨.ref po, rfl, po, cf, dx, [(sKind, .str (sOf s))], rfl, ?_, hcl, na2, by simp, ?_⟩⟩
    · rw [upd_ne (ne_of_none upd_same hls), upd_same]; rfl
    have n1 : po ≠ ls := ne_of_none upd_same hls
    refine ⟨(by decide : (2 : Nat) ≤ sizeLine), fun t ht => ⟨(by decide : (1 : Nat) ≤ sizeLine), fun r hr => ⟨(by decide : (1 : Nat) ≤ sizeLine), fun lr hlr => ⟨.ref po, rfl, po, cf, dx, putF sSeries (.ref ls) [(sKind, .str (sOf s))], rfl, ?_, hcl, na3, by simp [putF, show ¬ sKind = sSeries from fun z => nK1 z.symm], ?_⟩⟩⟩⟩
    · have n2 : po ≠ t := ne_of_none upd_same ht
      have n3 : po ≠ r := ne_of_none (by rw [upd_ne n2, upd_same]) hr
      have n4 : po ≠ lr := ne_of_none (by rw [upd_ne n3, upd_ne n2, upd_same]) hlr
      rw [upd_ne n4, upd_ne n3, upd_ne n2, upd_same]
    have n2 : po ≠ t := ne_of_none upd_same ht
    have n3 : po ≠ r := ne_of_none (by rw [upd_ne n2, upd_same]) hr
    have n4 : po ≠ lr := ne_of_none (by rw [upd_ne n3, upd_ne n2, upd_same]) hlr
    have m1 : ls ≠ t := ne_of_none (by rw [upd_ne (Ne.symm n1), upd_same]) ht
    have m2 : ls ≠ r := ne_of_none (by rw [upd_ne m1, upd_ne (Ne.symm n1), upd_same]) hr
    have m3 : ls ≠ lr := ne_of_none (by rw [upd_ne m2, upd_ne m1, upd_ne (Ne.symm n1), upd_same]) hlr
    have k1 : t ≠ r := ne_of_none upd_same hr
    have k2 : t ≠ lr := ne_of_none (by rw [upd_ne k1, upd_same]) hlr
    have k3 : r ≠ lr := ne_of_none upd_same hlr
    rw [upd_ne (Ne.symm n1)] at hls
    rw [upd_ne (Ne.symm n2), upd_ne (Ne.symm m1), upd_ne (Ne.symm n2)] at ht
    rw [upd_ne (Ne.symm k1), upd_ne (Ne.symm n3), upd_ne (Ne.symm m2), upd_ne (Ne.symm n3)] at hr
    rw [upd_ne (Ne.symm k3), upd_ne (Ne.symm k2), upd_ne (Ne.symm n4), upd_ne (Ne.symm m3), upd_ne (Ne.symm n4)] at hlr
    refine G H1 _ ls lr r t e1 W1 ⟨?_, ?_, ?_, ?_, ?_, hls, hlr, hr, ht, m3, k3, Ne.symm m2, k1, fun a a1 a2 a3 a4 a5 => ?_⟩
    · rw [upd_same]
      simp [putF, nK1, nK2, nK3, nK4, Ne.symm (show ¬ sSeries = sKind from nK1), show ¬ sKind = sSeries from fun z => nK1 z.symm, show ¬ sKind = sRows from fun z => nK3 z.symm, show ¬ sSeries = sRows from nK2]
    · rw [upd_ne (Ne.symm n1), upd_ne m3, upd_ne m2, upd_ne m1, upd_ne (Ne.symm n1), upd_same]
    · rw [upd_ne (Ne.symm n4), upd_same]
    · rw [upd_ne (Ne.symm n3), upd_ne k3, upd_same]
    · rw [upd_ne (Ne.symm n2), upd_ne k2, upd_ne k1, upd_same]
    · rw [upd_ne a1, upd_ne a3, upd_ne a4, upd_ne a5, upd_ne a1, upd_ne a2, upd_ne a1]
end SF

namespace SF
open PySem L2
section
variable {C : Nat → Value} {B B' : Bk C} {P P' : Addr → Prop} {H H' : Hp}
mutual
theorem Rp.bk (hf : B.ft = none) (hp : B'.pd = B.pd) : ∀ (d : D) (v : V), Rp B P H v d → Rp B' P H v d
  | .non, _, .non => .non
  | .bl b, _, .bl _ => .bl b
  | .int i, _, .int _ => .int i
  | .str s, _, .str _ => .str s
  | .tup ds, _, .tup h r => .tup h (Rps.bk hf hp ds _ r)
  | .lst ds, _, .lst p h r => .lst p h (Rps.bk hf hp ds _ r)
  | .dT kds, _, .dT p h r => .dT p h (RpT.bk hf hp kds _ r)
  | .dK kds, _, .dK p h r => .dK p h (RpK.bk hf hp kds _ r)
  | .dr, _, .dr => by rw [← hp]; exact .dr
  | .ex c, _, .ex h => .ex h
  | .ob, _, .ob h => by rw [hf] at h; cases h
theorem Rps.bk (hf : B.ft = none) (hp : B'.pd = B.pd) : ∀ (ds : List D) (vs : List V), Rps B P H vs ds → Rps B' P H vs ds
  | [], _, .nil => .nil
  | d :: ds, _, .cons r rs => .cons (Rp.bk hf hp d _ r) (Rps.bk hf hp ds _ rs)
theorem RpT.bk (hf : B.ft = none) (hp : B'.pd = B.pd) : ∀ (ds : List (List Int × D)) (vs : List (List Key × V)), RpT B P H vs ds → RpT B' P H vs ds
  | [], _, .nil => .nil
  | (_, d) :: ds, _, .cons r rs => .cons (Rp.bk hf hp d _ r) (RpT.bk hf hp ds _ rs)
theorem RpK.bk (hf : B.ft = none) (hp : B'.pd = B.pd) : ∀ (ds : List (Int × D)) (vs : List (Key × V)), RpK B P H vs ds → RpK B' P H vs ds
  | [], _, .nil => .nil
  | (_, d) :: ds, _, .cons r rs => .cons (Rp.bk hf hp d _ r) (RpK.bk hf hp ds _ rs)
end
theorem OwnAt.bk (hf : B.ft = none) (hp : B'.pd = B.pd) {l : Addr} {d : D} (h : OwnAt B H l d) : OwnAt B' H l d := by
  cases d with
  | lst ds => obtain ⟨vs, h, r⟩ := h; exact ⟨vs, h, Rps.bk hf hp _ _ r⟩
  | dK ds => obtain ⟨vs, h, r⟩ := h; exact ⟨vs, h, RpK.bk hf hp _ _ r⟩
  | dT ds => obtain ⟨vs, h, r⟩ := h; exact ⟨vs, h, RpT.bk hf hp _ _ r⟩
  | _ => exact h.elim
/-- a fitter is born: the same situation with it -/
theorem SEnv.born {F : Addr → Prop} {H0 H1 H2 : Hp} {σ : L2.St} {ρ : SF.Env} {w : W} {po cf dx ls lr r t : Addr} {s : List Nat} {od : Obj} (S : SEnv B F H0 H1 σ ρ w) (hf : B.ft = none) (h7 : C 7 = .ref cf) (h0 : H0 po = none) (hpo : H1 po = some (.ins cf dx []))
    (M : Made H1 H2 po cf dx s ls lr r t) :
    SEnv (⟨B.pd, B.pn, some ⟨po, dx, ls, lr⟩⟩ : Bk C) (fun a => F a ∨ a = ls ∨ a = lr) H0 (upd H2 r (.frz od (.lst [.ref t]))) σ ρ { w with kind := .str s, srs := [], rws := [[.tup [.int 0, .int 1]]] } := by
  have keep : ∀ {a : Addr} {o : HO}, H1 a = some o → (∀ c x fs, o ≠ .ins c x fs) → upd H2 r (.frz od (.lst [.ref t])) a = some o ∧ a ≠ ls ∧ a ≠ lr := fun {a o} q n => by
    have a1 : a ≠ po := fun z => by rw [z, hpo] at q; cases q; exact n _ _ _ rfl
    have a2 : a ≠ ls := fun z => by rw [z, M.n1] at q; cases q
    have a3 : a ≠ lr := fun z => by rw [z, M.n2] at q; cases q
    have a4 : a ≠ r := fun z => by rw [z, M.n3] at q; cases q
    have a5 : a ≠ t := fun z => by rw [z, M.n4] at q; cases q
    exact ⟨by rw [upd_ne a4, M.old a a1 a2 a3 a4 a5]; exact q, a2, a3⟩
  have kd := keep S.w.pd fun _ _ _ z => nomatch z
  have kn := keep S.w.pn fun _ _ _ z => nomatch z
  have hpr : po ≠ r := fun z => by rw [z, M.n3] at hpo; cases hpo
  have nV : ∀ a, ¬ (⟨B.pd, B.pn, some ⟨po, dx, ls, lr⟩⟩ : Bk C).V a → ¬ B.V a := fun a z q => by
    rcases q with q | ⟨f, q, _⟩
    · exact z (.inl q)
    · rw [hf] at q; cases q
  have m : Mo (hidH F σ ρ fun _ => True) (hidH (fun a => F a ∨ a = ls ∨ a = lr) σ ρ fun _ => True) H1 (upd H2 r (.frz od (.lst [.ref t]))) := by
    have hs : ∀ a o, H1 a = some o → (∀ c x fs, o ≠ .ins c x fs) → ¬ hidH F σ ρ (fun _ => True) a → ¬ hidH (fun a => F a ∨ a = ls ∨ a = lr) σ ρ (fun _ => True) a := fun a o q n p z => by
      obtain ⟨_, a2, a3⟩ := keep q n
      rcases z with (z | z | z) | z
      · exact p (.inl z)
      · exact a2 z
      · exact a3 z
      · exact p (.inr z)
    refine ⟨fun a vs q => (keep q fun _ _ _ z => nomatch z).1, fun a vs p q => ⟨hs a _ q (fun _ _ _ z => nomatch z) p, (keep q fun _ _ _ z => nomatch z).1⟩, fun a kvs p q => ?_, fun a kvs p q => ?_, fun a φ q => (keep q fun _ _ _ z => nomatch z).1⟩
    · rcases q with q | ⟨o, q⟩
      · exact ⟨hs a _ q (fun _ _ _ z => nomatch z) p, .inl (keep q fun _ _ _ z => nomatch z).1⟩
      · exact ⟨hs a _ q (fun _ _ _ z => nomatch z) p, .inr ⟨o, (keep q fun _ _ _ z => nomatch z).1⟩⟩
    · rcases q with q | ⟨o, q⟩
      · exact ⟨hs a _ q (fun _ _ _ z => nomatch z) p, .inl (keep q fun _ _ _ z => nomatch z).1⟩
      · exact ⟨hs a _ q (fun _ _ _ z => nomatch z) p, .inr ⟨o, (keep q fun _ _ _ z => nomatch z).1⟩⟩
  refine ⟨fun a o q q1 q2 => ?_, ⟨kd.1, kn.1, S.w.ne, .inl S.w.hd, fun a z => ?_, fun f q => ?_⟩, fun a z => ?_, S.len, fun i d h => ?_, S.inj, fun i d h => ?_⟩
  · have q3 := S.ex a o q q1 (nV a q2)
    have a1 : a ≠ po := fun z => by rw [z, h0] at q; cases q
    have a2 : a ≠ ls := fun z => by rw [z, M.n1] at q3; cases q3
    have a3 : a ≠ lr := fun z => by rw [z, M.n2] at q3; cases q3
    have a4 : a ≠ r := fun z => by rw [z, M.n3] at q3; cases q3
    have a5 : a ≠ t := fun z => by rw [z, M.n4] at q3; cases q3
    rw [upd_ne a4, M.old a a1 a2 a3 a4 a5]
    exact q3
  · rcases z with z | ⟨f, q, z⟩
    · exact .inl (S.w.hn a (.inl z))
    · cases q
      exact .inr z
  · cases q
    refine ⟨⟨cf, s, h7, by rw [upd_ne hpr]; exact M.ob, rfl⟩, ⟨[], by rw [upd_ne (Ne.symm M.d3)]; exact M.hls, .nil, rfl, by simp [plainsAt]⟩, ⟨[.ref r], by rw [upd_ne (Ne.symm M.d2)]; exact M.hlr, ⟨r, od, [.ref t], rfl, upd_same, .cons (.tup (by rw [upd_ne M.d4]; exact M.ht) (.cons (.int 0) (.cons (.int 1) .nil))) .nil, by simp [flats, flat], by simp [plainsAt, plainAt]⟩, trivial⟩, Ne.symm kd.2.1, Ne.symm kn.2.1, Ne.symm kd.2.2, Ne.symm kn.2.2, M.d1⟩
  · rcases z with z | z | z
    · obtain ⟨o, q⟩ := S.f a z
      by_cases e : a = po
      · subst e
        exact ⟨_, by rw [upd_ne hpr]; exact M.ob⟩
      · have a2 : a ≠ ls := fun z => by rw [z, M.n1] at q; cases q
        have a3 : a ≠ lr := fun z => by rw [z, M.n2] at q; cases q
        have a4 : a ≠ r := fun z => by rw [z, M.n3] at q; cases q
        have a5 : a ≠ t := fun z => by rw [z, M.n4] at q; cases q
        exact ⟨o, by rw [upd_ne a4, M.old a e a2 a3 a4 a5]; exact q⟩
    · subst z; exact ⟨_, by rw [upd_ne (Ne.symm M.d3)]; exact M.hls⟩
    · subst z; exact ⟨_, by rw [upd_ne (Ne.symm M.d2)]; exact M.hlr⟩
  · obtain ⟨l, q1, q2, q3, q4⟩ := S.own i d h
    obtain ⟨o, q5, q6⟩ := q4.has
    have hi : ∀ c x fs, o ≠ .ins c x fs := fun c x fs z => q4.soft.2.2.1 c x fs (z ▸ q5)
    obtain ⟨k1, k2, k3⟩ := keep q5 hi
    refine ⟨l, q1, q2, fun z => z.elim q3 fun z => z.elim k2 k3, ?_⟩
    exact OwnAt.bk (B' := ⟨B.pd, B.pn, some ⟨po, dx, ls, lr⟩⟩) hf rfl (q4.mo (k1.trans q5.symm) m.tup m.ex)
  · obtain ⟨v, q1, q2⟩ := S.sh i d h
    exact ⟨v, q1, Rp.bk (B' := ⟨B.pd, B.pn, some ⟨po, dx, ls, lr⟩⟩) hf rfl _ _ (Rp.mo m _ _ q2)⟩
end
end SF

namespace SF
open PySem L2
section
variable {X : Cx} {C : Nat → Value} {Wx : WX} {pos pa px p : Pos} {i : Nat} {x g : Str} {call : Nat → List D → W → R D} {e : Expr} {fe : Ev D} {fr : EvS} {rest : List Stmt}
/-- x = Fitter(e), then the rest -/
def fNew (jc i : Nat) (call : Nat → List D → W → R D) (fe : Ev D) (fr : EvS) : EvS := fun ρ w => (fe ρ w).st ρ fun k w => (call jc [k] w).st ρ fun _ w => match k with
  | .str s => if w.live then .bad else onlyB (fr (ρ.set i (.sh .ob)) { w with kind := .str s, srs := [], rws := [[.tup [.int 0, .int 1]]] })
  | _ => .bad
theorem live_ft {B : Bk C} {P : Addr → Prop} {H : Hp} {w : W} (W1 : WR B P H w) (h : w.live = false) : B.ft = none := by
  cases q : B.ft with
  | none => rfl
  | some f =>
    obtain ⟨cf, s, _, _, a3⟩ := (W1.ft f q).ob
    unfold W.live at h
    rw [a3] at h
    cases h
theorem GotS.unborn {B : Bk C} {F : Addr → Prop} {H0 H1 : Hp} {D : Ends} {σ : L2.St} {ρ : SF.Env} {w : W} {f : Ft} {r : R Fl} (S : SEnv B F H0 H1 σ ρ w) (hf : B.ft = none) (h1 : H1 f.ls = none) (h2 : H1 f.lr = none) (G : GotS C Wx B F H0 D (onlyB r)) :
    GotS C Wx (⟨B.pd, B.pn, some f⟩ : Bk C) (fun a => F a ∨ a = f.ls ∨ a = f.lr) H0 D r := by
  cases r with
  | ok fl w4 =>
    cases fl with
    | rt d =>
      cases d with
      | bl b =>
        intro v H' e' W' r'
        cases r'
        refine G _ H' (fun a o q q1 q2 => e' a o q q1 fun z => ?_) ⟨W'.pd, W'.pn, S.w.ne, S.w.hd, S.w.hn, fun g q => by rw [hf] at q; cases q⟩ (.bl b)
        have q3 := S.ex a o q q1 q2
        rcases z with z | ⟨g, q4, z | z⟩
        · exact q2 (.inl z)
        · cases q4; rw [z, h1] at q3; cases q3
        · cases q4; rw [z, h2] at q3; cases q3
      | _ => exact G.elim
    | _ => exact G.elim
  | exc c w4 => exact G.elim
  | bad => exact G.elim
theorem pss_newF {jc k : Nat} {cf fI : Addr} {fd : FuncData} {ps : List Str} (c7 : C 7 = .ref cf) (M : Mk X.K cf fI) (F : FnOk X.prog X.w X.K X.mg X.base (L2.CX X.prog X.w) k fI fd ps (spInit C call jc)) (hr : Room (k + 1) X.A) (hg : Gl X g) (hm : X.mg g = some (.ref cf)) (hb : Binds X.K fd ps []) (tk : Takes X Wx)
    (hdb : (g == ("__debug__" : Str)) = false) (he : PE X e (tD C Wx fe)) (hs : okE e = true) (hN : X.N.Nodup) (hi : X.N[i]? = some x) (hx : Loc X.env.scope x) (hfx : X.fn x = true) (hrest : PSs X rest (tSD C Wx fr)) :
    PSs X (.Assign [.Name x px] (.Call (.Name g p) [e] [] pos) pa :: rest) (tSD C Wx (fNew jc i call fe fr)) := by
  refine (pss_cons (ps_lockN (ps_asg (pe_makeS (E := WE Wx) M F hr hg hm hb (fun σ => passAt tk σ) (pa_cons he pa_nil (star_ok hs)) hdb (star_ok hs) rfl) (pg_name hN hi hx (.inl hfx)))) hrest).imp fun D σ H ⟨B, F, H0, ρ, w, S, G⟩ => ?_
  refine ⟨B, _, ρ, w, S.sit0, GotS.st S G fun kd w1 u H1 e1 W1 r1 G1 => fun po dx hpo hdx hne => ?_⟩
  have S1 := S.ext e1 W1
  have hpo' : upd H1 dx (.own po) po = none := by rw [upd_ne (Ne.symm hne)]; exact hpo
  have ea : Ext B H1 (upd (upd H1 dx (.own po)) po (.ins cf dx [])) := (Ext.new hdx).trans (Ext.new hpo')
  have Wa := (W1.new (o := .own po) hdx).new (o := .ins cf dx []) hpo'
  refine ⟨B, _, kd, w1, cf, dx, po, u, rfl, c7, upd_same, r1.ext W1 ea, Wa, (S.sit0.ext e1 W1).f.ext W1 Wa ea, ?_⟩
  revert G1
  cases call jc [kd] w1 with
  | bad => exact fun G1 => G1
  | exc c w2 => exact fun G1 H' e' W' => G1 σ H' (S1.ext (ea.trans e') W')
  | ok d' w2 =>
    intro G1
    simp only [st_ok] at G1
    split at G1
    · rename_i s
      split at G1
      · exact G1.elim
      · rename_i hl
        refine ⟨s, rfl, fun H2 H3 ls lr r t e2 W2 MM => ⟨rfl, r, .lst [.ref t], MM.hr, trivial, fun od => ?_⟩⟩
        have hf : B.ft = none := live_ft W2 (by simpa using hl)
        have S2 := S1.ext (ea.trans e2) W2
        have h0 : H0 po = none := none_of fun o q => by
          have := S1.ex po o q (fun z => by rw [z, W1.pd] at hpo; cases hpo) (W1.nN hpo)
          rw [hpo] at this
          cases this
        have hpo2 : H2 po = some (.ins cf dx []) := e2 _ _ upd_same (Wa.nD upd_same fun _ z => nomatch z) (Wa.nV upd_same fun _ z => nomatch z)
        exact ⟨_, _, H0, ρ.set i (.sh .ob), _, (S2.born (od := od) hf c7 h0 hpo2 MM).set (.ob (f := ⟨po, dx, ls, lr⟩) rfl), GotS.unborn (f := ⟨po, dx, ls, lr⟩) S2 hf MM.n1 MM.n2 G1⟩
    · exact G1.elim
end
end SF

namespace SF
open PySem L2
section
variable {X : Cx} {C : Nat → Value} {Wx : WX} {pos pa px p : Pos} {i : Nat} {x g : Str} {call : Nat → List D → W → R D} {e : Expr} {fe : Ev D} {fr : EvS} {rest : List Stmt}
/-- Fitter(e), which raises -/
theorem pe_fB {jc k : Nat} {cf fI : Addr} {fd : FuncData} {ps : List Str} (c7 : C 7 = .ref cf) (M : Mk X.K cf fI) (F : FnOk X.prog X.w X.K X.mg X.base (L2.CX X.prog X.w) k fI fd ps (spInit C call jc)) (hr : Room (k + 1) X.A) (hg : Gl X g) (hm : X.mg g = some (.ref cf)) (hb : Binds X.K fd ps []) (tk : Takes X Wx)
    (hdb : (g == ("__debug__" : Str)) = false) (he : PE X e (tD C Wx fe)) (hs : okE e = true) :
    PE X (.Call (.Name g p) [e] [] pos) (tD C Wx fun ρ w => (fe ρ w).bind fun x w => excOnly (call jc [x] w)) := by
  refine (pe_makeS (E := WE Wx) M F hr hg hm hb (fun σ => passAt tk σ) (pa_cons he pa_nil (star_ok hs)) hdb (star_ok hs) rfl).imp fun σ H Q ⟨B, P, ρ, w, S, G⟩ => ?_
  refine ⟨B, P, ρ, w, S, Got.bind G fun kd w1 u H1 e1 W1 r1 G1 => fun po dx hpo hdx hne => ?_⟩
  have hpo' : upd H1 dx (.own po) po = none := by rw [upd_ne (Ne.symm hne)]; exact hpo
  have ea : Ext B H1 (upd (upd H1 dx (.own po)) po (.ins cf dx [])) := (Ext.new hdx).trans (Ext.new hpo')
  have Wa := (W1.new (o := .own po) hdx).new (o := .ins cf dx []) hpo'
  refine ⟨B, _, kd, w1, cf, dx, po, u, rfl, c7, upd_same, r1.ext W1 ea, Wa, (S.ext e1 W1).f.ext W1 Wa ea, ?_⟩
  revert G1
  cases call jc [kd] w1 with
  | bad => exact fun G1 => G1
  | exc c w2 => exact fun G1 H' e' W' => G1 H' (ea.trans e') W'
  | ok d' w2 => exact fun G1 => G1.elim
end
end SF

namespace SF
open PySem L2
/-! ### texts -/
theorem nat_text (n : Nat) : (Nat.repr n).toList = Nat.toDigits 10 n := by simp [Nat.repr]
theorem int_text (i : Int) : Str.ofString (toString i) = sOf (intCps i) := by
  rw [Str.ofString_eq_toList]
  cases i with
  | ofNat n =>
    show Str.mk (((Nat.repr n).toList.map Char.toNat).toArray) = _
    rw [nat_text]
    rfl
  | negSucc n =>
    show Str.mk ((("-" ++ Nat.repr (n + 1)).toList.map Char.toNat).toArray) = _
    rw [String.toList_append, nat_text]
    rfl
theorem log_ok {i : Int} (h : i.natAbs < 2 ^ 1900) : i.natAbs.log2 < 1920 := by
  by_cases h0 : i.natAbs = 0
  · rw [h0]; decide
  · exact Nat.lt_trans ((Nat.log2_lt h0).mpr h) (by decide)
theorem joinS_eq (sep : List Nat) : ∀ ss : List (List Nat), TL.joinL sep ss = joinS sep ss
  | [] => rfl
  | [x] => rfl
  | x :: y :: r => by
    show x ++ (sep ++ TL.joinL sep (y :: r)) = x ++ sep ++ joinS sep (y :: r)
    rw [joinS_eq sep (y :: r), List.append_assoc]
section
variable {X : Cx} {C : Nat → Value} {Wx : WX} {pos apos : Pos} {o e : Expr} {fo fe fa fb : Ev D}
theorem call_strD : CallR X (.type "str") (rDs (bltD .str)) := by
  intro pins s σ H xs us Q I rx h
  obtain ⟨_, B, P, w, ds, d, W, F, r, e, k⟩ := h
  match ds, e with
  | [], e => simp [bltD] at e
  | _ :: _ :: _, e => simp [bltD] at e
  | [a], e =>
    obtain ⟨v, rfl, r1⟩ := rps1 r
    cases r1 with
    | int i =>
      simp only [bltD] at e
      split at e
      · rename_i hi
        have e := Option.some.inj e
        subst e
        refine call_str_int pins s σ H _ us Q I rx ⟨i, rfl, log_ok hi, ?_⟩
        rw [int_text]
        exact k _ H (Ext.refl B H) W (.str _)
      · cases e
    | _ => simp [bltD] at e
theorem strs_of {B : Bk C} {P : Addr → Prop} {H : Hp} : ∀ {ds : List D} {vs : List V} {ss : List (List Nat)}, Rps B P H vs ds → SF.strs ds = some ss → vs = (ss.map sOf).map V.str
  | [], _, is, .nil, e => by simp [SF.strs] at e; subst e; rfl
  | d :: ds, _, is, .cons r rs, e => by
    cases d <;> simp [SF.strs, strOf] at e
    rename_i i
    cases h : SF.strs ds with
    | none => rw [h] at e; simp at e
    | some js =>
      rw [h] at e
      simp at e
      subst e
      cases r
      rw [strs_of rs h]
      rfl
theorem of_strs {B : Bk C} {P : Addr → Prop} {H : Hp} : ∀ (ss : List (List Nat)), Rps B P H ((ss.map sOf).map V.str) (ss.map D.str)
  | [] => .nil
  | s :: ss => .cons (.str s) (of_strs ss)
theorem lens_sOf (ss : List (List Nat)) : (ss.map sOf).map (·.length) = ss.map List.length := SX.lens ss
/-- o.join(e) -/
theorem pe_joinD (ho : PE X o (tD C Wx fo)) (he : PE X e (tD C Wx fe)) (hs : okE e = true) (hbase : attributeBase o "join" X.env (eval o X.env) = eval o X.env) (hline : (apos.endLine == pos.line) = true) :
    PE X (.Call (.Attribute o "join" apos) [e] [] pos) (tD C Wx fun ρ w => (fo ρ w).bind fun y w => if isStr y then (fe ρ w).bind fun z w => opt (joinD y z) w else .bad) := by
  refine (pe_join ho he (star_ok hs) hbase hline).imp fun σ H Q ⟨B, P, ρ, w, S, G⟩ => ?_
  refine ⟨B, P, ρ, w, S, Got.bind G fun d1 w1 v1 H1 e1 W1 r1 G1 => ?_⟩
  have S1 := S.ext e1 W1
  cases r1 with
  | str a =>
    simp only [isStr, if_true] at G1
    refine ⟨⟨_, rfl⟩, B, P, ρ, w1, S1, Got.bind G1 fun d2 w2 v2 H2 e2 W2 r2 G2 => ?_⟩
    obtain ⟨d, hd, k⟩ := Got.opt G2
    cases r2 <;> simp only [joinD, reduceCtorEq] at hd
    rename_i vs ds p1 h1 s1
    split at hd
    · rename_i ss hss
      split at hd
      · rename_i hl
        have hd := Option.some.inj hd
        subst hd
        have hv := strs_of s1 hss
        subst hv
        refine ⟨_, _, ss.map sOf, rfl, rfl, .inl (SqL.of h1), ?_, ?_⟩
        · rw [lens_sOf, List.length_map, sOf_len]
          exact Nat.le_trans hl (by decide)
        · rw [show Txt.join (sOf a) (ss.map sOf) = sOf (joinS a ss) by rw [← joinS_eq]; exact SX.join_S a ss]
          exact k _ H2 (Ext.refl B H2) W2 (.str _)
      · cases hd
    · cases hd
  | _ => exact G1.elim
/-- f"{a}..{b}" -/
theorem int_len {i : Int} (h : i.natAbs < 2 ^ 1900) : (sOf (intCps i)).length ≤ 1921 := by
  rw [← int_text]
  exact PyProof.Rows.int_text_len_1921 (log_ok h)
def fFmt (fa : Ev D) (s : List Nat) (fb : Ev D) : Ev D := fun ρ w => (fa ρ w).bind fun x w => (opt (fmtD x) w).bind fun p w => (fb ρ w).bind fun y w => (opt (fmtD y) w).bind fun q w => .ok (.str (p ++ (s ++ q))) w
theorem pe_fmtD {a b : Expr} {s : List Nat} {p1 p2 p3 : Pos} {k : Nat} (ha : PE X a (tD C Wx fa)) (hb : PE X b (tD C Wx fb)) (hs : s.length ≤ 1000) :
    PE X (.JoinedStr [.FormattedValue a (-1) none p1, .Constant (.str (sOf s)) k p2, .FormattedValue b (-1) none p3] pos) (tD C Wx (fFmt fa s fb)) := by
  refine (pe_joined (.cons (pe_fmt ha) (.cons pe_str (.cons (pe_fmt hb) .nil)))).imp fun σ H Q ⟨B, P, ρ, w, S, G⟩ => ?_
  refine ⟨B, P, ρ, w, S, Got.bind G fun d1 w1 v1 H1 e1 W1 r1 G1 => ?_⟩
  have S1 := S.ext e1 W1
  cases r1 with
  | int i =>
    simp only [fmtD] at G1
    split at G1
    · rename_i hi
      simp only [opt_some, bind_ok] at G1
      have l1 := int_len hi
      refine .inr ⟨i, rfl, log_ok hi, _, rfl, ?_, _, rfl, ?_, ?_⟩
      · rw [int_text]
        show (Str.append Str.empty _).length ≤ _
        have : Str.append Str.empty (sOf (intCps i)) = sOf (intCps i) := sOf_app [] _
        rw [this]
        exact Nat.le_trans l1 (by decide)
      · rw [int_text]
        have : Str.empty ++ sOf (intCps i) ++ sOf s = sOf (intCps i ++ s) := (congrArg (· ++ sOf s) (sOf_app [] _)).trans (sOf_app _ _)
        rw [this, sOf_len, List.length_append]
        rw [sOf_len] at l1
        have : 3000 ≤ sizeLine := by decide
        omega
      · refine ⟨B, P, ρ, w1, S1, Got.bind G1 fun d2 w2 v2 H2 e2 W2 r2 G2 => ?_⟩
        cases r2 with
        | int j =>
          simp only [fmtD] at G2
          split at G2
          · rename_i hj
            simp only [opt_some, bind_ok] at G2
            have l2 := int_len hj
            have : Str.empty ++ sOf (intCps i) ++ sOf s ++ sOf (intCps j) = sOf (intCps i ++ (s ++ intCps j)) := by
              rw [← List.append_assoc]
              exact (congrArg (· ++ sOf (intCps j)) ((congrArg (· ++ sOf s) (sOf_app [] _)).trans (sOf_app _ _))).trans (sOf_app _ _)
            refine .inr ⟨j, rfl, log_ok hj, _, rfl, ?_, ?_⟩
            · rw [int_text, int_text, this, sOf_len, List.length_append, List.length_append]
              rw [sOf_len] at l1 l2
              have : 6000 ≤ sizeLine := by decide
              omega
            · rw [int_text, int_text]
              show Q (.str (Str.empty ++ sOf (intCps i) ++ sOf s ++ sOf (intCps j))) H2
              rw [this]
              exact G2 _ H2 (Ext.refl B H2) W2 (.str _)
          · exact G2.elim
        | _ => exact G2.elim
    · exact G1.elim
  | _ => exact G1.elim
/-! ### never reached; without an exception -/
theorem pe_stuck : PE X e (tD C Wx fun _ _ => .bad) := ⟨fun pins s σ H Q I ⟨B, P, ρ, w, S, G⟩ => G.elim⟩
theorem pt_stuck : PT X e (tT C Wx fun _ _ => .bad) := ⟨fun pins s σ H Q I ⟨B, P, ρ, w, S, G⟩ => G.elim⟩
theorem ps_stuck {st : Stmt} : PS X st (tSD C Wx fun _ _ => .bad) := ⟨fun pins s σ H Q I ⟨B, F, H0, ρ, w, S, G⟩ => G.elim⟩
theorem pss_stuck {st : List Stmt} : PSs X st (tSD C Wx fun _ _ => .bad) := ⟨fun pins s σ H Q I ⟨B, F, H0, ρ, w, S, G⟩ => G.elim⟩
theorem pe_calm (he : PE X e (tD C Wx fe)) : PE X e (tD C Wx fun ρ w => calm (fe ρ w)) := he.imp fun σ H Q ⟨B, P, ρ, w, S, G⟩ => ⟨B, P, ρ, w, S, by
  dsimp only at G
  revert G
  cases fe ρ w with
  | ok d w1 => exact fun G => G
  | exc c w1 => exact fun G => G.elim
  | bad => exact fun G => G⟩
end
def fldB (m : Str) : Bool := !(m == sKind) && !(m == sSeries) && !(m == sRows)
theorem fldB_of {m : Str} (h : fldB m = true) {a b c : V} : ([(sKind, a), (sSeries, b), (sRows, c)] : List (Str × V)).lookup m = none := by
  simp only [fldB, Bool.and_eq_true, Bool.not_eq_true'] at h
  simp [List.lookup, h.1.1, h.1.2, h.2]
end SF

namespace L2
open PySem PySem.Spec PyProof.Rows
section
variable {X : Cx} {CX : CXT} {k n : Nat} {f g C : Addr} {fd : FuncData} {ps : List Str} {sp : Sp} {E : St → XK} {x : Str} {p pos : Pos}
/-- f() -/
theorem pe_callS0 (F : FnOk X.prog X.w X.K X.mg X.base CX k f fd ps sp) (hr : Room k X.A) (hg : Gl X x) (hm : X.mg x = some (.ref f)) (hk : PySem.W.keepIn X.K (.ref f) = true) (hb : Binds X.K fd ps []) (hx : ∀ σ, PassesAt CX X σ (E σ))
    (hdb : (x == ("__debug__" : Str)) = false) : PE X (.Call (.Name x p) [] [] pos) (tCallS sp E tNil) := by
  refine ⟨fun pins s σ H Q I h => ?_⟩
  refine wpAny_Call_Name_kw (ld_glob I hg hm ?_ hdb)
  exact PySem.W.callWith_K0 I.kIn hk (run_fnS (us := []) F hr hb (hx σ) I .nil h)
/-- len(x), x of a class with its own __len__ -/
def rLenO (C : Addr) (sp : Sp) : List V → Hp → VK → Prop := fun xs H Q => ∃ a dx fs, xs = [V.ref a] ∧ H a = some (.ins C dx fs) ∧ sp [.ref a] H (fun z H' => ∃ n : Int, z = .int n ∧ 0 ≤ n ∧ n ≤ 1000000 ∧ Q z H') E0
theorem call_lenO (hm : Meth X.K C "__len__" g) (F : FnOk X.prog X.w X.K X.mg X.base (L2.CX X.prog X.w) n g fd ps sp) (hr : Room (n + 1) X.A) (hb : Binds X.K fd ps []) : CallR X (.builtin "len") (rLenO C sp) := by
  intro pins s σ H xs us Q I r h
  obtain ⟨a, dx, fs, rfl, ha, q⟩ := h
  obtain ⟨u, rfl, ru⟩ := vals1 r
  cases (show u = Value.ref a from ru)
  obtain ⟨mA, O, _⟩ := ins_get I.hok ha
  obtain ⟨od, J, _⟩ := O.look
  obtain ⟨m, hF⟩ := I.fr
  have hl : [Value.ref a].length = ps.length := by
    have := F.len _ _ _ _ q
    exact this
  have b := hb s [Value.ref a] I.kIn (by rw [List.append_nil]; exact hl)
  rw [List.append_nil] at b
  refine PySem.W.len_K hF I.ok.mod.kin J hm.at_ hm.fn (wpAny_call (codeAny_mono (F.run X.A.in1 X.stack s H ⟨[.ref a], []⟩ [.ref a] [.ref a] _ E0 hr.in1 I.env0.in1 b (.cons rfl .nil) q) fun r s' hq => ?_))
  cases r with
  | error e => exact passL pins σ H s e s' I hq
  | ok fl =>
    cases fl with
    | ret u =>
      obtain ⟨z', H', I', rz, n, ez, h0, h1, qz⟩ := I.after hq
      subst ez
      obtain ⟨t, e⟩ := (show ∃ t, u = Value.int n t from rz)
      cases e
      exact ⟨⟨h0, Int.lt_of_le_of_lt h1 (by decide)⟩, .int n, H', I'.tok _, ⟨_, rfl⟩, qz⟩
    | next => exact False.elim hq
    | brk => exact False.elim hq
    | cont => exact False.elim hq
end
end L2
namespace SF
open PySem L2
section
variable {X : Cx} {C : Nat → Value} {Wx : WX} {pos apos cpos ap cp : Pos} {i : Nat} {x g : Str} {p p1 : Pos} {call : Nat → List D → W → R D} {e : Expr} {fe : Ev D}
theorem pe_fn0D {j k : Nat} {f : Addr} {fd : FuncData} {ps : List Str} (F : FnOk X.prog X.w X.K X.mg X.base (L2.CX X.prog X.w) k f fd ps (spF C call j)) (hr : Room k X.A) (hg : Gl X x) (hm : X.mg x = some (.ref f)) (hk : PySem.W.keepIn X.K (.ref f) = true)
    (hb : Binds X.K fd ps []) (tk : Takes X Wx) (hdb : (x == ("__debug__" : Str)) = false) : PE X (.Call (.Name x p) [] [] pos) (tD C Wx fun ρ w => call j [] w) :=
  (pe_callS0 (E := WE Wx) F hr hg hm hk hb (fun σ => passAt tk σ) hdb).imp fun σ H Q ⟨B, P, ρ, w, S, G⟩ => by
    refine ⟨B, P, [], w, .nil, S.w, S.f, ?_⟩
    dsimp only at G
    revert G
    cases call j [] w with
    | ok d w' => exact fun G => G
    | exc c w' => exact fun G => G
    | bad => exact fun G => G
/-- len(x) of the fitter -/
theorem pe_fLn {l : Str} {j k : Nat} {cf ga : Addr} {fd : FuncData} {ps : List Str} (hc : C 7 = .ref cf) (hM : Meth X.K cf "__len__" ga) (F : FnOk X.prog X.w X.K X.mg X.base (L2.CX X.prog X.w) k ga fd ps (spF C call j)) (hr : Room (k + 1) X.A) (hb : Binds X.K fd ps [])
    (hN : X.N[i]? = some x) (hv : Vis X.env.scope x) (hd : (x == ("__debug__" : Str)) = false) (hcd : (x == ("__classdict__" : Str)) = false) (hg : Gl X l) (hm : X.mg l = none) (hl : l = "len") :
    PE X (.Call (.Name l p1) [.Name x p] [] pos) (tD C Wx fun ρ w => if isOb ρ i w then lenOnly (call j [.ob] w) else .bad) := by
  subst hl
  refine (pe_callB (call_lenO hM F hr hb) hg hm (by decide +kernel) (pa_cons (pe_var hN hv hd hcd) pa_nil rfl) (by decide) (by decide) rfl rfl).imp fun σ H Q ⟨B, P, ρ, w, S, G⟩ => ?_
  dsimp only at G
  split at G
  · rename_i h
    obtain ⟨f, hf, h1, _⟩ := isOb_of S h
    obtain ⟨cf', z, a1, a2, a3⟩ := (S.w.ft f hf).ob
    rw [hc] at a1
    cases a1
    refine ⟨_, h1, f.po, f.dx, _, rfl, a2, B, P, [.ob], w, .cons (.ob hf) .nil, S.w, S.f, ?_⟩
    revert G
    cases call j [.ob] w with
    | ok d w' =>
      intro G v H' e' W' r
      cases r <;> first | exact G.elim | skip
      rename_i n
      simp only [lenOnly] at G
      split at G
      · rename_i hn
        exact ⟨n, rfl, hn.1, hn.2, G _ H' e' W' (.int n)⟩
      · exact G.elim
    | exc c w' => exact fun G => G.elim
    | bad => exact fun G => G.elim
  · exact G.elim
def rLs (K : PySem.W.Frag) : List V → Hp → VK → Prop := fun xs H Q => ∃ p ys, xs = [.ref p] ∧ (SqL K H p ys ∨ SqT K H p ys) ∧ ∀ l, H l = none → Q (.ref l) (upd H l (.lst ys))
/-- the promise of entries: a new list -/
def spEnt (C : Nat → Value) : Sp := fun vs H Q _ => ∃ (B : Bk C), ∃ P w f, B.ft = some f ∧ vs = [.ref f.po] ∧ WR B P H w ∧ ∀ l us, H l = none → us.length = w.srs.length → Q (.ref l) (upd H l (.lst us))
def t_ent (K : PySem.W.Frag) : TS := tRet (tCB (rLs K) (tCons (tFld K (tVar 0) sSeries) tNil))
theorem ent_read {K : PySem.W.Frag} {vs : List V} {H : Hp} {Q : VK} {E : XK} {X' : L2.St → Hp → Prop} (hC : FitC K C) (h : spEnt C vs H Q E) : t_ent K { nx := X', rt := Q } (start ["self"] vs) H := by
  obtain ⟨B, P, w, f, hf, rfl, W, q⟩ := h
  obtain ⟨cf, z, a1, a2, a3⟩ := (W.ft f hf).ob
  obtain ⟨cf', c1, c2, c3, c4, c5⟩ := hC.cls
  rw [a1] at c1
  cases c1
  obtain ⟨us, b1, b2, _⟩ := (W.ft f hf).ls
  exact ⟨_, rfl, f.po, cf, f.dx, _, _, rfl, a2, c2, c4, flds_series, f.ls, us, rfl, .inl (SqL.of b1), fun l hl => q l us hl b2.length⟩
/-- x.entries().append(e) -/
def fEnt (j i : Nat) (call : Nat → List D → W → R D) (fe : Ev D) : EvS := fun ρ w => if isOb ρ i w && !isBad (call j [.ob] w) && decide (w.srs.length < LIM) then (fe ρ w).st ρ fun _ w => .ok (.nx ρ) w else .bad
theorem ps_fEA {j : Nat} {cf ga : Addr} {fd : FuncData} {ps : List Str} (hc : C 7 = .ref cf) (hcl : Cls X.K cf) (hM : Meth X.K cf "entries" ga) (F : FnOk X.prog X.w X.K X.mg X.base (L2.CX X.prog X.w) 1 ga fd ps (spEnt C)) (hr : Room 1 X.A) (hb : Binds X.K fd ps []) (tk : Takes X Wx)
    (hN : X.N[i]? = some x) (hv : Vis X.env.scope x) (hd : (x == ("__debug__" : Str)) = false) (hcd : (x == ("__classdict__" : Str)) = false) (he : PE X e (tD C Wx fe)) (hs : okE e = true) (hline : (apos.endLine == cpos.line) = true) (hline' : (ap.endLine == cp.line) = true) :
    PS X (.Expr (.Call (.Attribute (.Call (.Attribute (.Name x p) "entries" ap) [] [] cp) "append" apos) [e] [] cpos) pos) (tSD C Wx (fEnt j i call fe)) := by
  have hstar := star_ok (es := []) (env := X.env) hs
  refine (ps_expr (pe_bm PySem.F.plainAttrs_list PySem.F.slot_list_append PySem.F.type_list_append mt_append (pe_meth0S' (E := WE Wx) (pe_var hN hv hd hcd) hcl hM F hr hb (fun σ => passAt tk σ) (ev_meth rfl (few_ok rfl (by simp)) hline')) (pa_cons he pa_nil hstar) rfl ?_ hline hstar rfl)).imp fun D σ H h => ?_
  · rw [hstar]; rfl
  obtain ⟨B, F, H0, ρ, w, S, G⟩ := h
  unfold fEnt at G
  split at G
  · rename_i h
    simp only [Bool.and_eq_true, decide_eq_true_eq] at h
    obtain ⟨⟨h, _⟩, hw⟩ := h
    obtain ⟨f, hf, h1, _⟩ := isOb_of S.sit0 h
    obtain ⟨cf', z, a1, a2, a3⟩ := (S.w.ft f hf).ob
    rw [hc] at a1
    cases a1
    refine ⟨_, h1, f.po, f.dx, _, rfl, a2, fldB_of (by decide +kernel), B, _, w, f, hf, rfl, S.w, fun l us hl hus => ⟨.inl ⟨rfl, _, SqL.of upd_same⟩, ?_⟩⟩
    have S1 := S.ext (P := F) (Ext.new (o := .lst us) hl) (S.w.new hl)
    refine ⟨B, _, ρ, w, S1.sit0, GotS.st S1 G fun y w1 u H1 e1 W1 r1 G1 => ?_⟩
    have nd : l ≠ B.pd := fun z => by rw [z, S.w.pd] at hl; cases hl
    have nv : ¬ B.V l := S.w.nN hl
    have hl1 : H1 l = some (.lst us) := e1 l _ upd_same nd nv
    refine ⟨l, us, u, rfl, rfl, hl1, lim_lt (by rw [hus]; exact hw), ?_⟩
    refine G1 _ _ (S.ext (P := F) (fun a o q q1 q2 => ?_) (W1.put nd nv (Soft.lst hl1)))
    have hne : a ≠ l := fun z => by rw [z, hl] at q; cases q
    rw [upd_ne hne]
    exact e1 a o (by rw [upd_ne hne]; exact q) q1 q2
  · exact G.elim
end
/-! ### what a def may take of the class -/
structure Fit where
  jc : Nat
  ms : List (Str × Nat)
  jl : Option Nat
  je : Option Nat
def FitAt (ft : Option Fit) (P : Program) (w : World) (K : PySem.W.Frag) (mg : Str → Option Value) (base : Heap) (C : Nat → Value) (call : Nat → List D → W → R D) (k : Nat) : Prop :=
  ∀ t, ft = some t → ∃ cf, C 7 = .ref cf ∧ Cls K cf ∧ NoAttr K cf sKind ∧ NoAttr K cf sSeries ∧ NoAttr K cf sRows ∧ mg "Fitter" = some (.ref cf) ∧
    (∃ fI fd ps, Mk K cf fI ∧ Binds K fd ps [] ∧ ((∀ d w, call t.jc [d] w = .bad) ∨ ∃ k', k = k' + 1 ∧ FnOk P w K mg base (L2.CX P w) k' fI fd ps (spInit C call t.jc))) ∧
    (∀ m j, t.ms.lookup m = some j → ∃ ga fd ps, Meth K cf m ga ∧ Binds K fd ps [] ∧ FnOk P w K mg base (L2.CX P w) k ga fd ps (spF C call j)) ∧
    (∀ j, t.jl = some j → (∀ w, call j [.ob] w = .bad) ∨ ∃ k' ga fd ps, k = k' + 1 ∧ Meth K cf "__len__" ga ∧ Binds K fd ps [] ∧ FnOk P w K mg base (L2.CX P w) k' ga fd ps (spF C call j)) ∧
    (∀ j, t.je = some j → (∀ w, call j [.ob] w = .bad) ∨ ∃ ga fd ps, 1 ≤ k ∧ Meth K cf "entries" ga ∧ Binds K fd ps [] ∧ FnOk P w K mg base (L2.CX P w) 1 ga fd ps (spEnt C))
theorem FitAt.c {ft : Option Fit} {P : Program} {w : World} {K : PySem.W.Frag} {mg : Str → Option Value} {base : Heap} {C : Nat → Value} {call : Nat → List D → W → R D} {k : Nat} (F : FitAt ft P w K mg base C call k) (h : ft.isSome = true) : FitC K C := by
  cases ft with
  | none => cases h
  | some p =>
    obtain ⟨cf, h1, h2, h3, h4, h5, _⟩ := F p rfl
    exact ⟨cf, h1, h2, h3, h4, h5⟩
end SF

namespace SF
open PySem L2
section
variable {X : Cx} {C : Nat → Value} {Wx : WX} {pos pa px py pt pt2 pl p : Pos} {kt k2 : Nat} {i j : Nat} {x y g : Str} {call : Nat → List D → W → R D} {e : Expr} {fe : Ev D} {fr : EvS} {rest : List Stmt}
/-- x, y = Fitter(e), []; then the rest -/
def fNew2 (jc i j : Nat) (call : Nat → List D → W → R D) (fe : Ev D) (fr : EvS) : EvS := fun ρ w => (fe ρ w).st ρ fun k w => (call jc [k] w).st ρ fun _ w => match k with
  | .str s => if w.live then .bad else onlyB (fr ((ρ.set i (.sh .ob)).set j (.sh (.lst []))) { w with kind := .str s, srs := [], rws := [[.tup [.int 0, .int 1]]] })
  | _ => .bad
theorem pss_newF2 {jc k : Nat} {cf fI : Addr} {fd : FuncData} {ps : List Str} (c7 : C 7 = .ref cf) (M : Mk X.K cf fI) (F : FnOk X.prog X.w X.K X.mg X.base (L2.CX X.prog X.w) k fI fd ps (spInit C call jc)) (hr : Room (k + 1) X.A) (hg : Gl X g) (hm : X.mg g = some (.ref cf)) (hb : Binds X.K fd ps []) (tk : Takes X Wx)
    (hdb : (g == ("__debug__" : Str)) = false) (he : PE X e (tD C Wx fe)) (hs : okE e = true) (hc : X.calm = true) (hN : X.N.Nodup) (hi : X.N[i]? = some x) (hj : X.N[j]? = some y) (hij : i ≠ j) (hx : X.env.scope.names.lookup x = some .local) (hy : X.env.scope.names.lookup y = some .local)
    (hw : swappedStores [.Tuple [.Name x px, .Name y py] kt pt] (.Tuple [.Call (.Name g p) [e] [] pos, .List [] pl] k2 pt2) X.env = pure (some [x, y])) (hsw : swapsWithSole [.Tuple [.Name x px, .Name y py] kt pt] (.Tuple [.Call (.Name g p) [e] [] pos, .List [] pl] k2 pt2) pa.line X.env = pure false)
    (hrest : PSs X rest (tSD C Wx fr)) :
    PSs X (.Assign [.Tuple [.Name x px, .Name y py] kt pt] (.Tuple [.Call (.Name g p) [e] [] pos, .List [] pl] k2 pt2) pa :: rest) (tSD C Wx (fNew2 jc i j call fe fr)) := by
  refine (pss_cons (ps_lockN (ps_par hc hN hi hj hij hx hy (pa_cons (pe_makeS (E := WE Wx) M F hr hg hm hb (fun σ => passAt tk σ) (pa_cons he pa_nil (star_ok hs)) hdb (star_ok hs) rfl) (pa_cons (pe_lst pa_nil) pa_nil rfl) rfl) hw hsw)) hrest).imp fun D σ H ⟨B, F, H0, ρ, w, S, G⟩ => ?_
  refine ⟨B, _, ρ, w, S.sit0, GotS.st S G fun kd w1 u H1 e1 W1 r1 G1 => fun po dx hpo hdx hne => ?_⟩
  have S1 := S.ext e1 W1
  have hpo' : upd H1 dx (.own po) po = none := by rw [upd_ne (Ne.symm hne)]; exact hpo
  have ea : Ext B H1 (upd (upd H1 dx (.own po)) po (.ins cf dx [])) := (Ext.new hdx).trans (Ext.new hpo')
  have Wa := (W1.new (o := .own po) hdx).new (o := .ins cf dx []) hpo'
  refine ⟨B, _, kd, w1, cf, dx, po, u, rfl, c7, upd_same, r1.ext W1 ea, Wa, (S.sit0.ext e1 W1).f.ext W1 Wa ea, ?_⟩
  revert G1
  cases call jc [kd] w1 with
  | bad => exact fun G1 => G1
  | exc c w2 => exact fun G1 H' e' W' => G1 σ H' (S1.ext (ea.trans e') W')
  | ok d' w2 =>
    intro G1
    simp only [st_ok] at G1
    split at G1
    · rename_i s
      split at G1
      · exact G1.elim
      · rename_i hl
        refine ⟨s, rfl, fun H2 H3 ls lr r t e2 W2 MM => ⟨rfl, by simp, fun q hq => ⟨_, _, rfl, r, .lst [.ref t], ?_, trivial, fun od => ?_⟩⟩⟩
        · rw [upd_ne (ne_of_none MM.hr hq)]; exact MM.hr
        have hf : B.ft = none := live_ft W2 (by simpa using hl)
        have S2 := S1.ext (ea.trans e2) W2
        have h0 : H0 po = none := none_of fun o q => by
          have := S1.ex po o q (fun z => by rw [z, W1.pd] at hpo; cases hpo) (W1.nN hpo)
          rw [hpo] at this
          cases this
        have hpo2 : H2 po = some (.ins cf dx []) := e2 _ _ upd_same (Wa.nD upd_same fun _ z => nomatch z) (Wa.nV upd_same fun _ z => nomatch z)
        have hqr : q ≠ r := fun z => by rw [z, MM.hr] at hq; cases hq
        have S3 := (S2.born (od := od) hf c7 h0 hpo2 MM).set (i := i) (.ob (f := ⟨po, dx, ls, lr⟩) rfl)
        have hq3 : upd H3 r (.frz od (.lst [.ref t])) q = none := by rw [upd_ne hqr]; exact hq
        have S4 := S3.ext (Ext.new (o := .lst []) hq3) (S3.w.new hq3)
        rw [upd_comm hqr]
        refine ⟨_, _, H0, (ρ.set i (.sh .ob)).set j (.sh (.lst [])), _, S4.set (.lst ?_ upd_same .nil), GotS.unborn (f := ⟨po, dx, ls, lr⟩) S2 hf MM.n1 MM.n2 G1⟩
        rintro (z | ⟨k, d, _, z1, z2⟩)
        · exact S3.f.new hq3 z
        · obtain ⟨l, q1, _, _, q2⟩ := S3.own k d z1
          rw [z2] at q1
          cases q1
          obtain ⟨o, q3, _⟩ := q2.has
          rw [hq3] at q3
          cases q3
    · exact G1.elim
end
end SF

namespace L2
open PySem PySem.Spec PyProof.Rows
/-! ### an exception that leaves a comprehension -/
theorem note_same {u : Value} {p q : PySem.Env} (h : p.frame = q.frame) : noteFrame u p = noteFrame u q := by
  simp only [noteFrame, PySem.frameOf, h]
theorem frames_but {B B' g g' : Heap} {C : Addr} (hB : ∃ o, B.get? C = some o) (h1 : ∀ b, b ≠ C → B'.get? b = B.get? b) (h2 : ∀ b, b ≠ C → g'.get? b = g.get? b) : ∀ {l : List PySem.Env}, g.FunFrames B l → g'.FunFrames B' l
  | [], _ => trivial
  | p :: l, ⟨k1, ⟨L, o, k2, k3, k4, k5⟩, k6⟩ => by
    have hne : L ≠ C := fun z => by
      obtain ⟨o', q⟩ := hB
      rw [z, q] at k3
      cases k3
    exact ⟨k1, ⟨L, o, k2, (h1 L hne).trans k3, (h2 L hne).trans k4, k5⟩, frames_but hB h1 h2 k6⟩
/-- a block's own dict is given up while the exception is held -/
theorem held_but {B g g' : Heap} {l : List PySem.Env} {a C L : Addr} {Z : Obj → Prop} (hh : HandSPX.HeldZ B l a Z L g) (hs : ∀ b, b ≠ C → g'.get? b = g.get? b) (hB : ∃ o, B.get? C = some o) :
    ∃ B', (∀ b, b ≠ C → B'.get? b = B.get? b) ∧ B'.get? C = none ∧ HandSPX.HeldZ B' l a Z L g' := by
  obtain ⟨B', q1, q2⟩ := restrict B fun b => !decide (b = C)
  have r1 : ∀ b, b ≠ C → B'.get? b = B.get? b := fun b hb => q1 b (by simp [hb])
  have r2 : B'.get? C = none := q2 C (by simp)
  obtain ⟨k1, k2, k3, oe, vs, T, oT, ts, t1, t2, t3, t4, t5, t6, t7, t8, t9⟩ := hh
  have na : a ≠ C := fun z => by
    obtain ⟨o, q⟩ := hB
    rw [z, q] at k2
    cases k2
  have nT : T ≠ C := fun z => by
    obtain ⟨o, q⟩ := hB
    rw [z, q] at t5
    cases t5
  refine ⟨B', r1, r2, fun b o e => ?_, (r1 a na).trans k2, frames_but hB r1 hs k3, oe, vs, T, oT, ts, (hs a na).trans t1, t2, t3, t4, (r1 T nT).trans t5, t6, (hs T nT).trans t7, t8, t9⟩
  have hb : b ≠ C := fun z => by rw [z, r2] at e; cases e
  rw [r1 b hb] at e
  exact (hs b hb).trans (k1 b o e)
/-- how a comprehension that is stored by itself may end -/
def EndC (M : Model) (A : Around) (E : Value → Shared → Prop) (st : Value → Sem Unit) (Qr : Value → Shared → Prop) (acc : Value) (C : Addr) (fr : Option Addr) (r : Result) (z : Shared) : Prop :=
  match r with
  | .ok _ => wpAny M A (st acc) (fun _ y => ∃ m, y.heap.Ns C m ∧ ∀ g, Heap.SameBut C y.heap g → Qr .none { y with heap := g }) E z
  | .error x => ∃ m, z.heap.Ns C m ∧ ∀ g, Heap.SameBut C z.heap g → ∀ p : PySem.Env, p.frame = fr → wpAny M A (PySem.passOn "comprehension.variables-let-go" x p : Sem Value) (fun _ _ => False) E { z with heap := g }
theorem compX {M : Model} {A : Around} {E : Value → Shared → Prop} {s : Shared} {env : PySem.Env} {ex : Expr} {scope : Scope} {pos : Pos} {mk fst : Sem Value} {g : Comprehension} {gs : List Comprehension} {cl : List (Str × Addr)} {st : Value → Sem Unit} {Qr : Value → Shared → Prop}
    (c1 : clausesOf ex = g :: gs) (c2 : ∀ x, foldedSetIterable g.iter env x = pure x) (c3 : closureFor scope env = pure cl) (c4 : scope.kind = .function) (c5 : ∀ y ∈ scope.names, y.2 = .local → scope.names.lookup y.1 = some .local)
    (h : wpAny M A fst (fun x s1 => wpAny M A (pyIter x) (fun it s2 => wpAny M A mk (fun acc s3 => wpAny M A (newFunctionEnv scope env.globals cl [] env.qual none .none (some env)) (fun p s4 =>
      p.frame = env.frame ∧ codeAny M A (.compStart ex 0 it acc { p with scope := relabel scope env }) (EndC M A E st Qr acc p.locals env.frame) s4) E s3) E s2) E s1) E s) :
    wpAny M A (comprehension ex scope env pos mk false fst (some st)) Qr E s := by
  unfold comprehension
  rw [c3, c1]
  have idE : ∀ (a : Value) (z : Shared), E a z → E a z := fun _ _ q => q
  refine wpAny_bind (wpAny_mono h (fun x s1 k1 => ?_) idE)
  refine wpAny_bind (wpAny_standAt (wpAny_bind (wpAny_of_eq (c2 x) (wpAny_bind (wpAny_holding (wpAny_mono k1 (fun it s2 k2 => ?_) idE))))))
  refine wpAny_standIf (wpAny_bind (wpAny_mono k2 (fun acc s3 k3 => ?_) idE))
  refine wpAny_bind (wpAny_pure (wpAny_bind (wpAny_mono k3 (fun p s4 k4 => ?_) idE)))
  obtain ⟨hfr, k4⟩ := k4
  dsimp only
  have vis : ∀ y ∈ scope.names, y.2 = .local → Env.kindOf { p with scope := relabel scope env } y.1 = some .local := fun y hy hl => lookup_relabel_local (c5 y hy hl)
  have inN : ∀ y, y ∈ (scope.names.filter fun x => (x.2 == .local || x.2 == .cell) && x.1 != (".0" : Str)).reverse → y ∈ scope.names := fun y hy => (List.mem_filter.mp (List.mem_reverse.mp hy)).1
  refine wpAny_holding (wpAny_bind (wpAny_attempt (wpAny_holding (wpAny_run (codeAny_mono k4 fun r z hz => ?_)))))
  cases r with
  | ok f =>
    refine wpAny_bind (wpAny_rule (wpAny_bind (wpAny_holding (wpAny_mono hz (fun _ y hy => ?_) idE))))
    obtain ⟨m, hn, hq⟩ := hy
    refine wpAny_bind (wpAny_comp_letGo (cenv := { p with scope := relabel scope env }) c4 _ y m (fun v hv hl => vis v (inN v ?_) hl) hn fun g' m' _ sb => wpAny_pure (hq g' sb))
    exact (List.mem_append.mp hv).elim List.mem_of_mem_drop List.mem_of_mem_take
  | error x =>
    obtain ⟨m, hn, hq⟩ := hz
    refine wpAny_bind (wpAny_holding (wpAny_comp_letGo (cenv := { p with scope := relabel scope env }) c4 _ z m (fun v hv hl => vis v (inN v hv) hl) hn fun g' m' _ sb => ?_))
    exact wpAny_mono (hq g' sb _ hfr) (fun _ _ f => f.elim) idE
section
variable {X : Cx} {pins : List (Addr × Obj)} {σ : St} {H H3 : Hp} {s s3 : Shared} {Wx : WX}
/-- in the air of a block, over the frames of the def -/
def XFl (X : Cx) (W : WX) (u : Value) (z : Shared) : Prop :=
  ∃ (a : Addr) (B : Heap) (y : Shared) (pn : List (Addr × Obj)) (σ : St) (H : Hp) (cls : Value) (d : Option Addr),
    u = .ref a ∧ Inv X pn σ H y ∧ (∀ b o, y.heap.get? b = some o → b ∉ frs X.stack → B.get? b = some o) ∧ y.heap.UpToSlots z.heap ∧ HandSPX.FlyingZ B X.stack a (Zc cls d) z.heap ∧ H a = none ∧ z.os = y.os ∧ AllBare z.gens ∧ W cls d σ H
theorem Inv.re (I : Inv X pins σ H s) (xe : Value → Shared → Prop) : Inv (X.tr X.pn xe) pins σ H s := ⟨I.ok.toTry _ _, I.os, I.bare, I.base, I.loc, I.cell, I.free, I.freeC, I.pin, I.hok, I.len⟩
theorem Inv.er {xe : Value → Shared → Prop} (I : Inv (X.tr X.pn xe) pins σ H s) : Inv X pins σ H s := ⟨I.ok.ofTry, I.os, I.bare, I.base, I.loc, I.cell, I.free, I.freeC, I.pin, I.hok, I.len⟩
theorem passF (σ : St) : PassesAt (L2.CX X.prog X.w) (X.tr X.pn (XFl X Wx)) σ (WE Wx σ) := fun pins H s e s' I c => by
  have x := XE.of_call (X := X) (W := Wx) (E := WE Wx σ) I.er (fun _ _ _ h => h) c
  obtain ⟨a, B, y, pn, σ1, H1, cls, d, rfl, J, nb, up, sky, na, os, ag, w⟩ := x
  obtain ⟨a', B', H', cls', d', e', fl, _⟩ := c
  cases e'
  obtain ⟨_, _, _, oe, vs, T, oT, ts, t1, _, t3, t4, _, _, t7, t8, t9⟩ := fl
  rcases sky with ⟨_, _, _, oe2, vs2, q1, _, q3, q4⟩ | f | hd
  · rw [t1] at q1
    cases q1
    rw [t3] at q3
    cases q3
    rw [t4] at q4
    cases q4
  · exact ⟨a, B, y, pn, σ1, H1, cls, d, rfl, J, nb, up, f, na, os, ag, w⟩
  · obtain ⟨_, _, _, oe2, vs2, T2, oT2, ts2, q1, _, q3, q4, _, _, q7, q8, q9⟩ := hd
    rw [t1] at q1
    cases q1
    rw [t3] at q3
    cases q3
    rw [t4] at q4
    cases q4
    rw [t7] at q7
    cases q7
    rw [t8] at q8
    cases q8
    rw [t9] at q9
    cases q9
/-- out of the block: noted, its dict given up, held by the def -/
theorem lc_err {scope : Scope} {ce : PySem.Env} {fp : List Addr} {C : Addr} {u : Value} {z : Shared} {st : Value → Sem Unit} {Qr : Value → Shared → Prop} {acc : Value} (hs : X.stack = X.env :: X.outer) (hf : X.env.frame = some X.env.locals) (tk : Takes X Wx) (I3 : Inv X pins σ H3 s3)
    (hC : ce.locals = C) (hC3 : s3.heap.objs.size = C) (cfr : ce.frame = X.env.frame) (f3 : ∀ b ∈ fp, FpOk X pins H3 b) (x : XFl (X.blk s3 H3 scope ce fp) (fun cls d _ H => Wx cls d σ H) u z) :
    notedBy (model X.prog X.w) X.A ce (fun e y => EndC (model X.prog X.w) X.A X.xe st Qr acc C X.env.frame (.error e) y) u z := by
  obtain ⟨a, B, y, pn, σ1, H1, cls, d, rfl, J, nb, up, fl, na, os, ag, w⟩ := x
  show wpAny _ _ (noteFrame (.ref a) ce) _ _ _
  rw [note_same cfr]
  have hfr : X.A.frames = some (X.env :: X.outer) := by rw [← hs]; exact I3.ok.frames
  have fl' : HandSPX.FlyingZ B (X.env :: X.outer) a (Zc cls d) z.heap := by rw [← hs]; exact fl
  refine HandSPX.looks_onZ Zc.steady hfr hf fl' fun h2 held up2 => ?_
  have J2 := J.landed (s' := { z with heap := h2 }) nb held.1 (up.trans up2) os ag
  obtain ⟨m, hn, _⟩ := J2.loc
  have hn : h2.Ns ce.locals m := hn
  rw [hC] at hn
  have nC : H1 C = none := by
    have q : H1 ce.locals = none := J.free
    rw [hC] at q
    exact q
  have fC : FpOk X pins H1 C := I3.fpOk (Nat.le_of_eq hC3) nC
  obtain ⟨c0, c1, c2, c3, c4, c5⟩ := fC
  have nfr : C ∉ frs X.stack := fun q => by
    rw [hs] at q
    obtain ⟨p, hp, e⟩ := List.mem_filterMap.mp q
    rcases List.mem_cons.mp hp with rfl | hp
    · rw [hf] at e
      cases e
      exact c1 rfl
    · exact c2 (List.mem_filterMap.mpr ⟨p, hp, e⟩)
  have hB : ∃ o, B.get? C = some o := by
    obtain ⟨m', hn', _⟩ := J.loc
    obtain ⟨o, _, _, ho, _⟩ := hn'
    have ho : y.heap.get? ce.locals = some o := ho
    rw [hC] at ho
    exact ⟨o, nb C o ho nfr⟩
  refine ⟨m, hn, fun g sb p hp => ?_⟩
  obtain ⟨B', r1, r2, held'⟩ := held_but held (fun b hb => sb.2 b hb) hB
  have held2 := held'
  obtain ⟨_, _, _, oe, vs, T, oT, ts, t1, _, t3, t4, _⟩ := held2
  unfold PySem.passOn
  refine wpAny_bind (wpAny_field t1 t3 t4 ?_)
  rw [if_neg (by simp)]
  rw [hp, hf]
  refine wpAny_bind (HandSPX.setFlight_onZ held' fun g4 h4 up4 => ?_)
  have I7 : Inv X pins σ H1 y := I3.call' (ch := fp) J.os J.base J.hok J.bare fun b hb => ⟨(f3 b hb).2.2.2.1, (f3 b hb).2.1, (f3 b hb).2.2.2.2.1, (f3 b hb).2.2.2.2.2⟩
  obtain ⟨G, q1, q2⟩ := restrict y.heap fun b => !decide (b = C)
  have G1 : ∀ b, b ≠ C → G.get? b = y.heap.get? b := fun b hb => q1 b (by simp [hb])
  have G2 : G.get? C = none := q2 C (by simp)
  have GC : ∀ b o, G.get? b = some o → b ≠ C ∧ y.heap.get? b = some o := fun b o e => by
    have hb : b ≠ C := fun z => by rw [z, G2] at e; cases e
    exact ⟨hb, by rw [← G1 b hb]; exact e⟩
  have I8 := I7.turned (t' := y.toks) (h' := G) (it := C) (fun b o hb e => (G1 b hb).trans e) c0 c1 c3 c4 c5
  refine wpAny_throw (tk _ _ ⟨a, B', { y with heap := G, toks := y.toks }, pins, σ, H1, cls, d, rfl, I8, fun b o e hb => ?_, fun b o e hnf => ?_, .inr (.inr (by rw [hs]; exact h4)), na, os, ag, w⟩)
  · obtain ⟨k1, k2⟩ := GC b o e
    rw [r1 b k1]
    exact nb b o k2 hb
  · obtain ⟨k1, k2⟩ := GC b o e
    obtain ⟨sl, k3⟩ := (up.trans up2) b o k2 hnf
    have k3 : h2.get? b = some { o with slots := sl } := k3
    obtain ⟨sl', k4⟩ := up4 b _ ((sb.2 b k1).trans k3) hnf
    exact ⟨sl', k4⟩
/-- y = [elt for tg in iter], where elt may raise -/
theorem ps_setLcX {i : Nat} {y : Str} {py : Pos} {elt tg iter : Expr} {scope : Scope} {own : List (Str × Nat)} {pos spos : Pos} {wi : TI} {g : TG} {te : St → TE} (hc : X.calm = true) (hN : X.N.Nodup) (hy : X.N[i]? = some y) (hyl : X.env.scope.names.lookup y = some .local)
    (hsw : swapsWith (.ListComp elt [⟨tg, iter, [], 0⟩] scope pos) (some (.Name y py)) spos.line X.env = pure true) (hs : X.stack = X.env :: X.outer) (hf : X.env.frame = some X.env.locals) (tk : Takes X Wx) (hi : PI X tg iter wi) (ok : BlkOk X.N X.env.scope scope own)
    (hg : ∀ (s : Shared) (H : Hp) (C : Addr) (cl : List (Str × Addr)) (fp : List Addr), PG (X.blk s H scope (compEnvC scope cl C X.env) fp) tg g)
    (he : ∀ (s : Shared) (H : Hp) (C : Addr) (cl : List (Str × Addr)) (fp : List Addr) (σ : St), PE ((X.blk s H scope (compEnvC scope cl C X.env) fp).tr [] (XFl (X.blk s H scope (compEnvC scope cl C X.env) fp) (fun cls d _ H => Wx cls d σ H))) elt (te σ))
    (hset : ∀ x, foldedSetIterable iter X.env x = pure x) :
    PS X (.Assign [.Name y py] (.ListComp elt [⟨tg, iter, [], 0⟩] scope pos) spos) (fun D σ H => tLc wi g tYes (te σ) (own.map (·.2)) σ H fun x H1 => gName i x σ H1 D.nx) := by
  refine ⟨fun pins s σ H D I h => ?_⟩
  rw [exec_Assign_Name_used _ _ _ _ hsw]
  refine wpAny_bind (wpAny_standAt (wpAny_bind ?_))
  show wpAny _ X.A (do let _ ← comprehension (.ListComp elt [⟨tg, iter, [], 0⟩] scope pos) scope X.env (firstIterPos [⟨tg, iter, [], 0⟩] pos) (newList []) false (eval iter X.env) (some (assign (.Name y py) X.env))) _ _ s
  have ends : wpAny (model X.prog X.w) X.A (comprehension (.ListComp elt [⟨tg, iter, [], 0⟩] scope pos) scope X.env (firstIterPos [⟨tg, iter, [], 0⟩] pos) (newList []) false (eval iter X.env) (some (assign (.Name y py) X.env))) (fun _ z => SP X pins D .next z) X.xe s := by
    have clo : ∀ v ∈ scope.names, v.2 = .free → ∃ c, X.env.cells.lookup v.1 = some c := fun v hv e => (ok.free v hv e).elim (fun k => I.ok.has _ (.inl k)) fun k => I.ok.has _ (.inr k)
    refine compX (gs := []) rfl hset (closure_ok clo) ok.kind (fun v hv e => by rw [ok.uniq v hv, e]) (thn (hi.run pins s σ H _ I h) fun xv s1 k1 => thn k1 fun itv s2 k2 => ?_)
    obtain ⟨it, fp, tn, J, H2, rfl, I2, T, st2, f2, q⟩ := k2
    refine wpAny_newObj_type (newEnv_comp ?_) (Nat.zero_le _)
    refine ⟨rfl, ?_⟩
    obtain ⟨L, hL⟩ : ∃ L, L = s2.heap.objs.size := ⟨_, rfl⟩
    have fL : H2 L = none := I2.hok.fresh (Nat.le_of_eq hL.symm)
    obtain ⟨Inw, ⟨m0, w0⟩, turn⟩ := q L fL
    rw [← hL]
    obtain ⟨s3, e3⟩ : ∃ z : Shared, z = { s2 with heap := s2.heap.push { cls := .type "list", data := .seq ([] : List Value).toArray } } := ⟨_, rfl⟩
    have hp3 : s3.heap = s2.heap.push { cls := .type "list", data := .seq ([] : List Value).toArray } := by rw [e3]
    have up23 : ∀ b o, s2.heap.get? b = some o → s3.heap.get? b = some o := fun b o k => by rw [hp3]; exact Heap.get?_push_of_some _ k
    obtain ⟨H3, eH3⟩ : ∃ Z : Hp, Z = upd H2 L (.lst []) := ⟨_, rfl⟩
    rw [← eH3] at w0
    have I3 : Inv X pins σ H3 s3 := by
      rw [eH3, e3]
      refine I2.laid (t' := s2.toks) (fun b o k => Heap.get?_push_of_some _ k) (Nat.le_of_eq hL.symm) ⟨Nat.zero_le _, [], 0, .nil, ?_⟩
      rw [hL]
      exact Heap.get?_push_size _ rfl
    have lt2 : ∀ b ∈ fp, b < s2.heap.objs.size := fun b hb => by
      obtain ⟨o, k, _⟩ := T.obj _ _ st2 b hb
      exact Heap.lt_size k
    have f3 : ∀ b ∈ fp, FpOk X pins H3 b ∧ b < s3.heap.objs.size := fun b hb => by
      have z := lt2 b hb
      refine ⟨⟨?_, (f2 b hb).2⟩, by rw [hp3, Heap.size_push]; exact Nat.lt_succ_of_lt z⟩
      rw [eH3, upd_ne (by rw [hL]; exact Nat.ne_of_lt z)]
      exact (f2 b hb).1
    have st3 : tn 0 s3.heap := T.keep _ _ _ st2 fun b _ o k => up23 b o k
    have I4 := block_start I3 ok hN f3
    obtain ⟨cl, ecl⟩ : ∃ z, z = cellsFrom (s3.heap.objs.size + 1) scope.names (cloFrom X.env.cells scope.names []) := ⟨_, rfl⟩
    obtain ⟨ce, ece⟩ : ∃ z, z = compEnvC scope cl s3.heap.objs.size X.env := ⟨_, rfl⟩
    have pg := hg s3 H3 s3.heap.objs.size cl fp
    have pe := he s3 H3 s3.heap.objs.size cl fp σ
    rw [← ecl] at I4
    rw [← ece] at I4 pg pe
    have lC : ce.locals = s3.heap.objs.size := by rw [ece]; rfl
    have fC : ce.frame = X.env.frame := by rw [ece]; rfl
    rw [← e3]
    show codeAny _ _ (.compStart (.ListComp elt [⟨tg, iter, [], 0⟩] scope pos) 0 (.ref it) (.ref L) (compEnvC scope (cellsFrom (s3.heap.objs.size + 1) scope.names (cloFrom X.env.cells scope.names [])) s3.heap.objs.size X.env)) (EndC (model X.prog X.w) X.A X.xe (assign (.Name y py) X.env) (fun _ z => SP X pins D .next z) (.ref L) s3.heap.objs.size X.env.frame) { s3 with heap := pushCells (s3.heap.push { cls := .type "dict", data := .dict #[] }) scope.names }
    rw [← ecl, ← ece]
    obtain ⟨s4, e4⟩ : ∃ z : Shared, z = { s3 with heap := pushCells (s3.heap.push { cls := .type "dict", data := .dict #[] }) scope.names } := ⟨_, rfl⟩
    rw [← e4] at I4 ⊢
    have st4 : tn 0 s4.heap := T.keep _ _ _ st3 fun b _ o k => by rw [e4]; exact pushCells_keeps _ _ _ _ (Heap.get?_push_of_some _ k)
    have fpB : ∀ {σ' : St} {H' : Hp} {z : Shared}, Inv (X.blk s3 H3 scope ce fp) [] σ' H' z → (∀ b ∈ fp, H' b = none) → ∀ b ∈ fp, FpOk (X.blk s3 H3 scope ce fp) [] H' b := fun {σ' H' z} K hn b hb =>
      ⟨hn b hb, (K.ok.exf b hb).1, K.ok.exfs b hb, .inl hb, fun v c k => (K.ok.exf b hb).2 v c k, fun p hp => nomatch hp⟩
    have loop : codeAny (model X.prog X.w) X.A (.compLoop (.ListComp elt [⟨tg, iter, [], 0⟩] scope pos) 0 (.ref it) (.ref L) ce) (EndC (model X.prog X.w) X.A X.xe (assign (.Name y py) X.env) (fun _ z => SP X pins D .next z) (.ref L) s3.heap.objs.size X.env.frame) s4 := by
      refine compLoop_any (fun n z => ∃ j H', Inv (X.blk s3 H3 scope ce fp) [] (wipe σ (own.map (·.2))) H' z ∧ tn j z.heap ∧ (∀ b ∈ fp, H' b = none) ∧ Inw j n H') ?_ m0 ⟨0, H3, I4, st4, fun b hb => (f3 b hb).1.1, w0⟩
      rintro n s5 ⟨j, H5, I5, st5, n5, w5⟩
      rcases turn j n H5 w5 with ⟨stp, qq⟩ | ⟨go, Nx, hNx, step⟩
      · refine thnF (T.done (X.blk s3 H3 scope ce fp) rfl rfl rfl hc j [] s5 _ H5 (fun _ _ => False) I5 (fpB I5 n5) st5 stp) fun r s6 ⟨hr, I6⟩ => ?_
        subst hr
        have I7 : Inv X pins σ H5 s6 := I3.call' (ch := fp) I6.os I6.base I6.hok I6.bare fun b hb => let k := (f3 b hb).1.2; ⟨k.2.2.1, k.1, k.2.2.2.1, k.2.2.2.2⟩
        have n7 : H5 s3.heap.objs.size = none := by
          have z : H5 ce.locals = none := I6.free
          rw [lC] at z
          exact z
        obtain ⟨m, hn, _⟩ := I6.loc
        have hn : s6.heap.Ns ce.locals m := hn
        rw [lC] at hn
        obtain ⟨k0, k1, k2, k3, k4, k5⟩ := I3.fpOk (Nat.le_refl _) n7
        refine wpAny_assign_Name (store_ok2 (v := V.ref L) I7 hN hy (.inl hyl) rfl (fun s8 I8 ⟨c, sb, hc'⟩ => ?_) (.inr hyl))
        have ne : s3.heap.objs.size ≠ c := by
          rcases hc' with z | z
          · rw [z]; exact k1
          · exact fun e => k4 y c z e.symm
        exact ⟨m, hn.sameBut sb ne, fun g' sb' => ⟨_, H5, I8.turned (t' := s8.toks) (fun b o hb k => (sb'.2 b hb).trans k) k0 k1 k3 k4 k5, qq⟩⟩
      · refine thnF (T.item (X.blk s3 H3 scope ce fp) rfl rfl rfl hc j [] s5 _ H5 (fun _ _ => False) I5 (fpB I5 n5) st5 go) fun r s6 ⟨v, hr, k6⟩ => ?_
        subst hr
        refine thnF k6 fun _ s7 ⟨x, H7, I7, r7, y7, st7, n7⟩ => ?_
        have P7 := I7.pinned (fpB I7 n7) (T.obj _ _ st7)
        refine thnF (pg.run _ s7 _ H7 x v _ P7 r7 (step x H7 y7)) fun _ s8 ⟨σ8, H8, I8, hw8, q8⟩ => ?_
        refine wpAny_tests_nil ?_
        simp only [if_true]
        have q8 : te σ σ8 H8 _ := q8
        refine wpAny_mono (pe.run _ s8 σ8 H8 _ (I8.re _) q8) (fun v9 s9 k9 => ?_) fun u z k => lc_err hs hf tk I3 lC rfl fC (fun b hb => (f3 b hb).1) k
        obtain ⟨yv, H9, I9, r9, acc, hD9, hz9, nx⟩ := k9
        refine app_ok (X := X.blk s3 H3 scope ce fp) (Inv.er (X := X.blk s3 H3 scope ce fp) I9) hD9 hz9 r9 fun s10 I10 => ?_
        obtain ⟨m', hm, w'⟩ := hNx _ nx
        have pin' : ∀ b ∈ fp, ∀ o, s7.heap.get? b = some o → s10.heap.get? b = some o ∧ (upd H9 L (.lst (acc ++ [yv]))) b = none := fun b hb o k =>
          let z := I10.pin (b, o) (List.mem_append_right _ (List.mem_append_right _ (mem_pinsAt hb k)))
          ⟨z.1, z.2.1⟩
        have hlen : (wipe σ (own.map (·.2))).length = σ8.length := by rw [← hw8, wipe_length]
        refine ⟨m', hm, j + 1, _, (I10.unpinned (pins := [])).weak hlen (fun k w e => ?_), T.keep _ _ _ st7 fun b hb o k => (pin' b hb o k).1, fun b hb => ?_, w'⟩
        · rw [← hw8] at e
          exact (wipe_some e).1
        · obtain ⟨o, k, _⟩ := T.obj _ _ st7 b hb
          exact (pin' b hb o k).2
    exact codeAny_compStart_list loop (T.self X.A 0 _ _ _ st4 loop)
  exact wpAny_bind (thn ends fun _ z hz => wpAny_pure (wpAny_pure hz))
end
end L2

namespace SF
open PySem L2
/-! ### numbers of texts, parts of texts -/
theorem dgs_of {l : List Nat} (h : dgs l = true) : NumText.AllDigits l := fun c hc => by
  have := List.all_eq_true.mp h c hc
  simp only [Bool.and_eq_true, decide_eq_true_eq] at this
  exact this
theorem int_read {s : List Nat} {n : Int} (h : cpsInt s = some n) (hl : s.length ≤ 600) : PySem.intText? (sOf s) = some n := by
  have hl2 : (sOf s).length ≤ 4300 := by rw [sOf_len]; omega
  unfold cpsInt at h
  split at h
  · cases h
  · rename_i r
    split at h
    · rename_i q
      simp only [Bool.and_eq_true, Bool.not_eq_true'] at q
      cases h
      exact PySem.intText_neg (x := sOf (45 :: r)) (cs := r) rfl (dgs_of q.2) (fun z => by rw [z] at q; simp at q) hl2
    · cases h
  · rename_i c r _
    split at h
    · rename_i q
      cases h
      exact PySem.intText_digits (x := sOf (c :: r)) (dgs_of q) (by simp [sOf]) hl2
    · cases h
section
variable {X : Cx} {C : Nat → Value} {Wx : WX} {pos apos : Pos} {o e : Expr} {fo fe f : Ev D}
theorem call_intD : CallR X (.type "int") (rDs (bltD .int)) := by
  intro pins s σ H xs us Q I rx h
  obtain ⟨_, B, P, w, ds, d, W, F, r, e, k⟩ := h
  match ds, e with
  | [], e => simp [bltD] at e
  | _ :: _ :: _, e => simp [bltD] at e
  | [a], e =>
    obtain ⟨v, rfl, r1⟩ := rps1 r
    cases r1 with
    | str s =>
      simp only [bltD] at e
      split at e
      · rename_i hl
        cases hn : cpsInt s with
        | none => rw [hn] at e; cases e
        | some n =>
          rw [hn] at e
          cases e
          exact call_int_str pins _ σ H _ us Q I rx ⟨_, n, rfl, int_read hn hl, by rw [sOf_len]; omega, k _ H (Ext.refl B H) W (.int n)⟩
      · cases e
    | _ => simp [bltD] at e
theorem spl_split (c : Nat) : ∀ (l acc : List Nat), TL.spl [c] 0 acc l = splitS c acc l
  | [], acc => rfl
  | x :: r, acc => by
    rw [splitS]
    by_cases h : x = c
    · rw [if_pos h, TL.spl_hit (by simp [TL.pre, h])]
      show acc :: TL.spl [c] 0 [] r = _
      rw [spl_split c r []]
    · rw [if_neg h, TL.spl_miss (TL.pre_of_head [] r h), spl_split c r (acc ++ [x])]
theorem pe_splitD (ho : PE X o (tD C Wx fo)) (he : PE X e (tD C Wx fe)) (hs : okE e = true) (hbase : attributeBase o "split" X.env (eval o X.env) = eval o X.env) (hline : (apos.endLine == pos.line) = true) :
    PE X (.Call (.Attribute o "split" apos) [e] [] pos) (tD C Wx fun ρ w => (fo ρ w).bind fun y w => if isStr y then (fe ρ w).bind fun z w => opt (splitD y z) w else .bad) := by
  refine (pe_split ho he (star_ok hs) hbase hline).imp fun σ H Q ⟨B, P, ρ, w, S, G⟩ => ?_
  refine ⟨B, P, ρ, w, S, Got.bind G fun d1 w1 v1 H1 e1 W1 r1 G1 => ?_⟩
  have S1 := S.ext e1 W1
  cases r1 with
  | str a =>
    simp only [isStr, if_true] at G1
    refine ⟨⟨_, rfl⟩, B, P, ρ, w1, S1, Got.bind G1 fun d2 w2 v2 H2 e2 W2 r2 G2 => ?_⟩
    obtain ⟨d, hd, k⟩ := Got.opt G2
    cases r2 with
    | str b =>
      match b, hd with
      | [], hd => simp [splitD] at hd
      | _ :: _ :: _, hd => simp [splitD] at hd
      | [c], hd =>
        simp only [splitD] at hd
        split at hd
        · rename_i hl
          have hd := Option.some.inj hd
          subst hd
          refine ⟨_, _, rfl, rfl, by rw [sOf_len]; rfl, ?_, ?_⟩
          · rw [sOf_len]
            exact Nat.le_trans (Nat.add_le_add_right hl.1 2) (by decide)
          · rw [show Txt.split (sOf a) (sOf [c]) = ((splitS c [] a).map sOf) by
              rw [← spl_split]
              exact SX.split_S (by simp) (by simp [hl.2])]
            intro p hp
            exact k _ _ (Ext.new hp) (W2.new hp) (new_lst W2 (S1.ext e2 W2).f hp (of_strs _))
        · cases hd
    | _ => simp [splitD] at hd
  | _ => exact G1.elim
/-- for c in e, e a text -/
theorem pi_charsD {tg : Expr} (hl : PE X e (tD C Wx f)) : PI X tg e (tI C Wx fun ρ w => (f ρ w).bind fun x w => opt (charsD x) w) := by
  refine ⟨fun pins s σ H R I h => (pi_str hl).run pins s σ H R I ?_⟩
  obtain ⟨B, P, ρ, w, S, G⟩ := h
  refine ⟨B, P, ρ, w, S, Got.bind G fun d1 w1 v1 H1 e1 W1 r1 G1 => ?_⟩
  obtain ⟨xs, hx, k⟩ := Got.opt G1
  cases r1 with
  | str t =>
    simp only [charsD] at hx
    have hx := Option.some.inj hx
    subst hx
    have hsz : (sOf t).cps.size = t.length := by simp [sOf]
    refine ⟨sOf t, rfl, k _ H1 (Ext.refl B H1) W1 ⟨fun P' H2 i m hi => ?_, fun P' H2 i d v H3 m hd y => ?_, fun P' H2 m => ?_⟩⟩
    · show i < (sOf t).cps.size
      rw [hsz]
      simpa using hi
    · obtain ⟨rfl, c, hc, rfl⟩ := y
      refine ⟨fun _ _ z => z, ?_⟩
      have hc' : t[i]? = some c := by
        have : (sOf t).cps[i]? = t[i]? := by simp [sOf]
        rw [← this]
        exact hc
      rw [List.getElem?_map, hc'] at hd
      cases hd
      exact .str [c]
    · show (sOf t).cps.size ≤ _
      rw [hsz]
      simp
  | _ => simp [charsD] at hx
/-! ### x = [f(t) for t in it] -/
def preR (ds : List D) (r : R (List D)) : R (List D) := r.bind fun ys w => .ok (ds ++ ys) w
structure LcM (C : Nat → Value) (B : Bk C) (P : Addr → Prop) (L : Addr) (H1 : Hp) (call : Nat → List SF.D → W → R SF.D) (j : Nat) (xs : List SF.D) (tot : R (List SF.D)) (i m : Nat) (H : Hp) : Prop where
  m : m = xs.length - i
  le : i ≤ xs.length
  ex : ∃ vs ds w, H L = some (.lst vs) ∧ Rps B (PD P L) H vs ds ∧ WR B (PD P L) H w ∧ Ext B H1 H ∧ preR ds (mapC call j (xs.drop i) w) = tot ∧ ds.length = i
theorem map_mid {own : List Nat} {σ : L2.St} {H1 : Hp} {Q : VK} {B : Bk C} {P : Addr → Prop} {ρ : SF.Env} {w1 : W} {J : It} {xs : List SF.D} {call : Nat → List SF.D → W → R SF.D} {j t : Nat} (ht : t < σ.length) (ho : t ∈ own)
    (S1 : Sit B P H1 σ ρ w1) (hlim : xs.length ≤ LIM) (hJE : ∀ D, H1 D = none → WkE B P J xs H1 D)
    (G : match mapC call j xs w1 with
      | .ok ys wN => ∀ D H', H1 D = none → Ext B H1 H' → WR B P H' wN → Rp B P H' (.ref D) (.lst ys) → Q (.ref D) H'
      | .exc c wN => ∀ H', Ext B H1 H' → WR B P H' wN → Wx (C c) none σ H'
      | .bad => False) :
    tLc (fun _ _ Rk => Rk J H1) (gName t) tYes (tCallS (spF C call j) (WE fun cls d _ H => Wx cls d σ H) (tCons (tVar t) tNil)) own σ H1 Q := by
  intro L hL
  have hJ := hJE L hL
  have W1 := S1.w
  have hDd : B.pd ≠ L := fun z => by rw [← z, W1.pd] at hL; cases hL
  have hDn : ¬ B.V L := W1.nN hL
  have nP : ¬ P L := S1.f.new hL
  refine ⟨LcM C B P L H1 call j xs (mapC call j xs w1), ⟨xs.length, rfl, Nat.zero_le _, [], [], w1, upd_same, .nil, (W1.new hL).sub fun _ z => .inl z, Ext.new hL, ?_, rfl⟩, ?_⟩
  · rw [List.drop_zero, preR]
    cases mapC call j xs w1 <;> rfl
  rintro i m H2 ⟨hm, hle, vs, ds, w2, hLv, rv, W2, e2, htot, hdl⟩
  have M12 : Mo P (PD P L) H1 H2 := mo_PD hL W1 e2
  by_cases hi : i < xs.length
  · right
    refine ⟨hJ.go H2 i M12 e2 hi, LcM C B P L H1 call j xs (mapC call j xs w1) (i + 1) (m - 1), fun H' n => ⟨m - 1, by omega, n⟩, fun x H3 y => ?_⟩
    have hxi : xs[i]? = some xs[i] := List.getElem?_eq_getElem hi
    obtain ⟨x23, rx⟩ := hJ.yld H2 i _ x H3 M12 e2 hxi y
    rw [List.drop_eq_getElem_cons hi, mapC] at htot
    have E23 : Ext B H2 H3 := fun a o q _ _ => x23 a o q
    have W3 : WR B (PD P L) H3 w2 := W2.up x23
    have e3 : Ext B H1 H3 := e2.trans E23
    have F3 : Fr B (PD P L) H3 := fun a p => by
      rcases p with p | p
      · exact S1.f.ext W1 (w' := w2) (W3.re W1) e3 a p
      · exact ⟨_, p ▸ x23 _ _ hLv⟩
    refine ⟨by rw [wipe_set ho, wipe_wipe], ?_⟩
    have hlen : t < (L2.wipe σ own).length := by rw [L2.wipe_length]; exact ht
    refine ⟨x, List.getElem?_set_self hlen, B, PD P L, [xs[i]], w2, .cons rx .nil, W3, F3, ?_⟩
    cases hcl : call j [xs[i]] w2 with
    | bad =>
      rw [hcl] at htot
      rw [← htot] at G
      exact G.elim
    | exc c w4 =>
      rw [hcl] at htot
      rw [← htot] at G
      intro H4 e4 W4
      exact G H4 (e3.trans e4) (W4.re W1)
    | ok dy w4 =>
      rw [hcl] at htot
      simp only [bind_ok] at htot
      intro y' H4 e4 W4 r4
      have hLv4 : H4 L = some (.lst vs) := e4 L _ (x23 _ _ hLv) (fun z => hDd z.symm) hDn
      have rv4 : Rps B (PD P L) H4 vs ds := (rv.ext W2 E23).ext W3 e4
      refine ⟨vs, hLv4, lim_lt (by rw [rv4.length]; omega), ?_⟩
      have keep : ∀ a o, a ≠ L → H4 a = some o → upd H4 L (.lst (vs ++ [y'])) a = some o := fun a o hne q => by rw [upd_ne hne]; exact q
      have M45 : Mo (PD P L) (PD P L) H4 (upd H4 L (.lst (vs ++ [y']))) := by
        refine ⟨fun a us q => keep a _ (fun z => by rw [z, hLv4] at q; cases q) q, fun a us p q => ⟨p, keep a _ (fun z => p (.inr z)) q⟩, fun a us p q => ⟨p, ?_⟩, fun a us p q => ⟨p, ?_⟩, fun a us q => keep a _ (fun z => by rw [z, hLv4] at q; cases q) q⟩
        · exact q.elim (fun q => .inl (keep a _ (fun z => p (.inr z)) q)) fun ⟨o, q⟩ => .inr ⟨o, keep a _ (fun z => p (.inr z)) q⟩
        · exact q.elim (fun q => .inl (keep a _ (fun z => p (.inr z)) q)) fun ⟨o, q⟩ => .inr ⟨o, keep a _ (fun z => p (.inr z)) q⟩
      refine ⟨by omega, by omega, vs ++ [y'], ds ++ [dy], w4, upd_same, Rps.mo M45 _ _ (rv4.append (.cons r4 .nil)), W4.put (Ne.symm hDd) hDn (.lst hLv4), fun a o q h1 h2 => keep a o (fun z => by rw [z, hL] at q; cases q) ((e3.trans e4) a o q h1 h2), ?_, by simp [hdl]⟩
      rw [← htot]
      unfold preR
      cases mapC call j (xs.drop (i + 1)) w4 with
      | ok ys w5 => simp only [bind_ok, List.append_assoc, List.singleton_append]
      | exc c w5 => rfl
      | bad => rfl
  · have e : i = xs.length := by omega
    subst e
    left
    refine ⟨hJ.stop H2 M12 e2, ?_⟩
    rw [List.drop_length, mapC] at htot
    simp only [preR, bind_ok, List.append_nil] at htot
    rw [← htot] at G
    refine G L H2 hL e2 (W2.re W1) (.lst nP hLv (Rps.mo ?_ _ _ rv))
    exact ⟨fun _ _ z => z, fun a _ p q => ⟨fun z => p (.inl z), q⟩, fun a _ p q => ⟨fun z => p (.inl z), q⟩, fun a _ p q => ⟨fun z => p (.inl z), q⟩, fun _ _ z => z⟩
def fAsgX (i j : Nat) (call : Nat → List SF.D → W → R SF.D) (fi : Ev (List SF.D)) : EvS := fun ρ w => (fi ρ w).st ρ fun xs w => if xs.length ≤ LIM then (mapC call j xs w).st ρ fun ys w => .ok (.nx ((freezeAt [] 0 ρ).set i (.sh (.lst ys)))) w else .bad
theorem asgX_read {own : List Nat} {D : Ends} {σ : L2.St} {H : Hp} {fi : Ev (List SF.D)} {call : Nat → List SF.D → W → R SF.D} {i j t : Nat} (ht : t < σ.length) (ho : t ∈ own) (h : tSD C Wx (fAsgX i j call fi) D σ H) :
    tLc (tI C Wx fi) (gName t) tYes (tCallS (spF C call j) (WE fun cls d _ H => Wx cls d σ H) (tCons (tVar t) tNil)) own σ H (fun x H1 => gName i x σ H1 D.nx) := by
  obtain ⟨B, F, H0, ρ, w, S, G⟩ := h
  refine ⟨B, _, ρ, w, S.sit0, GotS.st S G fun xs w1 J H1 e1 W1 hJ G1 => ?_⟩
  split at G1
  · rename_i hl
    refine map_mid (Q := fun x H1 => gName i x σ H1 D.nx) (Wx := Wx) (call := call) (j := j) ht ho (S.sit0.ext e1 W1) hl (fun D _ => ⟨fun H2 i m _ hi => hJ.go _ H2 i m hi, fun H2 i d v H3 m _ hd y => hJ.yld _ H2 i d v H3 m hd y, fun H2 m _ => hJ.stop _ H2 m⟩) ?_
    have S1 := S.ext e1 W1
    revert G1
    cases mapC call j xs w1 with
    | ok ys wN =>
      intro G1 L H' hL e' W' r
      have r2 : Rp B (hidH F σ ρ (· ∈ ([] : List Nat))) H' (.ref L) (.lst ys) := Rp.mo (mo_sub fun a z => z.elim (fun z => z) fun ⟨_, _, q, _⟩ => nomatch q) _ _ r
      obtain ⟨S3, r3⟩ := (S1.ext e' W').thaw (hd := []) (d := .lst ys) r2
      exact G1 _ _ (S3.set r3)
    | exc c wN => exact fun G1 H' e' W' => G1 σ H' (S1.ext e' W')
    | bad => exact fun G1 => G1
  · exact G1.elim
end
end SF

namespace SF
open PySem L2
structure Cfg where
  N : List Str
  fns : List (Str × Nat)
  excs : List (Str × Nat)
  gi : List (Str × Int)
  gs : List (Str × List Nat)
  gt : List (Str × List (List Nat))
  ft : Option Fit

def visB (sc : Scope) (x : Str) : Bool := match sc.names.lookup x with
  | some .local => true
  | some .cell => true
  | some .free => true
  | _ => false
def locB (sc : Scope) (x : Str) : Bool := match sc.names.lookup x with
  | some .local => true
  | some .cell => true
  | _ => false
def glB (sc : Scope) (x : Str) : Bool := match sc.names.lookup x with
  | some .globalImplicit => true
  | _ => false
def nmB (x : Str) : Bool := !(x == ("__debug__" : Str)) && !(x == ("__classdict__" : Str)) && !(x == ("__name__" : Str))
theorem visB_of {sc : Scope} {x : Str} (h : visB sc x = true) : Vis sc x := by
  unfold visB at h
  unfold Vis
  split at h <;> first | (rename_i e; simp [e]; done) | cases h
theorem locB_of {sc : Scope} {x : Str} (h : locB sc x = true) : L2.Loc sc x := by
  unfold locB at h
  unfold L2.Loc
  split at h <;> first | (rename_i e; simp [e]; done) | cases h
theorem glB_of {sc : Scope} {x : Str} (h : glB sc x = true) : sc.names.lookup x = some .globalImplicit := by
  unfold glB at h
  split at h <;> first | (rename_i e; exact e) | cases h
theorem nmB_of {x : Str} (h : nmB x = true) : (x == ("__debug__" : Str)) = false ∧ (x == ("__classdict__" : Str)) = false ∧ x ≠ "__name__" := by
  unfold nmB at h
  simp only [Bool.and_eq_true, Bool.not_eq_true'] at h
  exact ⟨h.1.1, h.1.2, fun z => by rw [z] at h; simp at h⟩

def opB : Operator → Op → Bool
  | .Add, .add => true
  | .Sub, .sub => true
  | .Mult, .mul => true
  | .FloorDiv, .div => true
  | .Mod, .mod => true
  | .Pow, .pow => true
  | _, _ => false
def cmB : CmpOp → Cm → Bool
  | .Eq, .eq => true
  | .NotEq, .ne => true
  | .Lt, .lt => true
  | .LtE, .le => true
  | .Gt, .gt => true
  | .GtE, .ge => true
  | .In, .isin => true
  | .NotIn, .notin => true
  | _, _ => false
/-- the names of the built-in functions that are served -/
def bltNm : Bl → Option (Str × Bool × Nat)
  | .len => some ("len", false, 1)
  | .abs => some ("abs", false, 1)
  | .sum => some ("sum", false, 1)
  | .sorted => some ("sorted", false, 1)
  | .sortT => some ("sorted", false, 1)
  | .sortC => some ("sorted", false, 1)
  | .min1 => some ("min", false, 1)
  | .min2 => some ("min", false, 2)
  | .max2 => some ("max", false, 2)
  | .list => some ("list", true, 1)
  | .tuple => some ("tuple", true, 1)
  | .all => some ("all", false, 1)
  | .str => some ("str", true, 1)
  | .int => some ("int", true, 1)
  | _ => none
def bltNms : List Str := ["len", "abs", "sum", "sorted", "min", "max", "list", "tuple", "all", "range", "enumerate", "isinstance", "int", "bool", "str", "set", "ValueError"]
def tyNm : Ty → Option Str
  | .int => some "int"
  | .bool => some "bool"
  | .str => some "str"
  | .tuple => some "tuple"
  | .list => some "list"
  | .exc _ => none

/-- the name T is the class of exceptions ty -/
def excT (cf : Cfg) (ty : Ty) (T : Str) : Bool := match ty with
  | .exc k => decide (cf.excs.lookup ("FitError" : Str) = some 0) && ((decide (T = "ValueError") && decide (k = 0)) || (decide (cf.excs.lookup T = some k) && decide (k < 7)))
  | _ => false
def chkTg (N : List Str) (sc : Scope) (fn : Str → Bool) (tg : Expr) (T : Tg) : Bool :=
  let one := fun (x : Str) (i : Nat) => decide (N[i]? = some x) && locB sc x && (fn x || decide (sc.names.lookup x = some .local))
  match T, tg with
  | .nm i, .Name x _ => one x i
  | .tp is, .Tuple es _ _ => decide (es.length = is.length) && (es.zip is).all fun p => match p.1 with
    | .Name x _ => one x p.2
    | _ => false
  | _, _ => false
/-- a name or a constant -/
def isPl : Expr → Bool
  | .Name .. => true
  | .Constant .. => true
  | _ => false
theorem base_ok {o : Expr} {m : Str} {env : PySem.Env} (h : isPl o = true) : attributeBase o m env (eval o env) = eval o env := by
  cases o <;> first | (simp [isPl] at h; done) | rfl
def tgSlots : Tg → List Nat
  | .nm i => [i]
  | .tp is => is

section
variable (cf : Cfg)
mutual
def chkE : Nat → Scope → Expr → E → Bool
  | 0, _, _, _ => false
  | n + 1, sc, e, E => okE e && match E with
    | .var i => match e with
      | .Name x _ => decide (cf.N[i]? = some x) && visB sc x && nmB x
      | _ => false
    | .int i => match e with
      | .Constant (.int j) _ _ => decide (i = j)
      | .Name x _ => glB sc x && nmB x && decide (cf.gi.lookup x = some i)
      | _ => false
    | .str s => match e with
      | .Constant (.str x) _ _ => decide (x = sOf s)
      | .Name x _ => glB sc x && nmB x && decide (cf.gs.lookup x = some s)
      | _ => false
    | .bl b => match e with
      | .Constant (.bool c) _ _ => b == c
      | _ => false
    | .non => match e with
      | .Constant .none _ _ => true
      | _ => false
    | .bin o x y => match e with
      | .BinOp a op b _ => opB op o && chkE n sc a x && chkE n sc b y
      | _ => false
    | .neg x => match e with
      | .UnaryOp .USub a _ => chkE n sc a x
      | _ => false
    | .not x => match e with
      | .UnaryOp .Not a _ => chkE n sc a x
      | _ => false
    | .and x y => match e with
      | .BoolOp .And (a :: r) _ => chkE n sc a x && chkB n sc true r y
      | _ => false
    | .or x y => match e with
      | .BoolOp .Or (a :: r) _ => chkE n sc a x && chkB n sc false r y
      | _ => false
    | .cmp o x y => match e with
      | .Compare a [op] [b] _ => cmB op o && chkE n sc a x && chkE n sc b y
      | _ => false
    | .chn o1 o2 x y z => match e with
      | .Compare a [p1, p2] [b, c] _ => cmB p1 o1 && cmB p2 o2 && chkE n sc a x && chkE n sc b y && chkE n sc c z
      | _ => false
    | .isb ng o x => match e with
      | .Compare a [op] [.Constant c _ _] _ => decide (op = if ng then .IsNot else .Is) && decide (c = match o with | none => .none | some b => .bool b) && chkE n sc a x
      | _ => false
    | .inK ng x ks => match e with
      | .Compare a [op] [.Name y _] _ => decide (op = if ng then .NotIn else .In) && glB sc y && nmB y && decide (cf.gt.lookup y = some ks) && chkE n sc a x
      | _ => false
    | .ife c x y => match e with
      | .IfExp d a b _ => chkT n sc d c && chkE n sc a x && chkE n sc b y
      | _ => false
    | .tup xs => match e with
      | .Tuple es _ _ => decide (xs.length ≤ 1000) && chkEs n sc es xs
      | _ => false
    | .lst xs => match e with
      | .List es _ => decide (xs.length ≤ 1000) && chkEs n sc es xs
      | _ => false
    | .dnil t => match e with
      | .Dict [] [] _ => true
      | _ => false
    | .done t x y => match e with
      | .Dict [some a] [b] _ => chkE n sc a x && chkE n sc b y
      | _ => false
    | .call f xs => match e with
      | .Call (.Name x _) es [] _ => glB sc x && nmB x && decide (cf.fns.lookup x = some f) && chkEs n sc es xs
      | _ => false
    | .blt b xs => match e with
      | .Call (.Name x _) es [] _ => glB sc x && nmB x && decide (bltNm b = some (x, (match b with | .list => true | .tuple => true | .str => true | .int => true | _ => false), es.length)) && chkEs n sc es xs
      | _ => false
    | .rgT l x y => match e with
      | .Call (.Name f _) [.Call (.Name g _) [a, b] [] _] [] _ => decide (f = if l then "list" else "tuple") && decide (g = "range") && glB sc f && glB sc g && okE a && okE b && chkE n sc a x && chkE n sc b y
      | .Call (.Name f _) [.Call (.Name g _) [b] [] _] [] _ => l && (match x with | .int 0 => true | _ => false) && decide (f = "list") && decide (g = "range") && glB sc f && glB sc g && okE b && chkE n sc b y
      | _ => false
    | .sset x => match e with
      | .Call (.Name f _) [.Call (.Name g _) [a] [] _] [] _ => decide (f = "sorted") && decide (g = "set") && glB sc f && glB sc g && okE a && chkE n sc a x
      | _ => false
    | .cnt a x => match a, e with
      | .var i, .Call (.Attribute (.Name y _) m apos) [b] [] cpos => decide (m = "count") && decide (cf.N[i]? = some y) && visB sc y && nmB y && (apos.endLine == cpos.line) && chkE n sc b x
      | _, _ => false
    | .ixo a x => match a, e with
      | .var i, .Call (.Attribute (.Name y _) m apos) [b] [] cpos => decide (m = "index") && decide (cf.N[i]? = some y) && visB sc y && nmB y && (apos.endLine == cpos.line) && chkE n sc b x
      | _, _ => false
    | .isi x ty => match e with
      | .Call (.Name f _) [a, .Name T _] [] _ => decide (f = "isinstance") && glB sc f && glB sc T && nmB T && (decide (tyNm ty = some T) || excT cf ty T) && chkE n sc a x
      | _ => false
    | .rev x => match e with
      | .Subscript a (.Slice none none (some (.UnaryOp .USub (.Constant (.int 1) _ _) _)) _) _ => chkE n sc a x
      | _ => false
    | .get a x y => match a, e with
      | .var i, .Call (.Attribute (.Name z _) m apos) [b, c] [] cpos => decide (m = "get") && decide (cf.N[i]? = some z) && visB sc z && nmB z && (apos.endLine == cpos.line) && okE b && okE c && chkE n sc b x && chkE n sc c y
      | _, _ => false
    | .lcK x tg i cd own => match e with
      | .ListComp elt [⟨tgE, .Name y _, ifs, asy⟩] scope _ =>
        let ow := (tgSlots tg).filterMap fun i => (cf.N[i]?).map fun y => (y, i)
        decide (asy = 0) && decide (own = ow.map (·.2)) && blkC cf.N sc scope ow && chkTg cf.N (relS scope sc) (fun x => scope.names.lookup x == some .cell) tgE tg && decide (cf.N[i]? = some y) && visB sc y && nmB y && chkE n (relS scope sc) elt x &&
          (match ifs with
          | [c] => chkT n (relS scope sc) c cd
          | _ => false)
      | _ => false
    | .slc x l h => match e with
      | .Subscript a (.Slice lo hi none _) _ => chkE n sc a x && chkP n sc lo l && chkP n sc hi h
      | _ => false
    | .idx x y => match e with
      | .Subscript a b _ => okE b && chkE n sc a x && chkE n sc b y
      | _ => false
    | .lc x tg it cd own => match e with
      | .ListComp elt [⟨tgE, iter, ifs, asy⟩] scope _ =>
        let ow := (tgSlots tg).filterMap fun i => (cf.N[i]?).map fun y => (y, i)
        decide (asy = 0) && decide (own = ow.map (·.2)) && blkC cf.N sc scope ow && chkTg cf.N (relS scope sc) (fun x => scope.names.lookup x == some .cell) tgE tg && chkI n sc tgE iter it && okE iter && chkE n (relS scope sc) elt x &&
          (match ifs with
          | [] => (match cd with | .bl true => true | _ => false)
          | [c] => chkT n (relS scope sc) c cd
          | _ => false)
      | _ => false
    | .fmt x s y => match e with
      | .JoinedStr [.FormattedValue a c none _, .Constant (.str z) _ _, .FormattedValue b d none _] _ => decide (c = -1) && decide (d = -1) && decide (z = sOf s) && decide (s.length ≤ 1000) && chkE n sc a x && chkE n sc b y
      | _ => false
    | .join x y => match e with
      | .Call (.Attribute o m apos) [b] [] cpos => decide (m = "join") && isPl o && (apos.endLine == cpos.line) && chkE n sc o x && chkE n sc b y
      | _ => false
    | .split x y => match e with
      | .Call (.Attribute o m apos) [b] [] cpos => decide (m = "split") && isPl o && (apos.endLine == cpos.line) && chkE n sc o x && chkE n sc b y
      | _ => false
    | .fK i => match e with
      | .Attribute (.Name x _) a _ => cf.ft.isSome && decide (a = sKind) && decide (cf.N[i]? = some x) && visB sc x && nmB x
      | _ => false
    | .fN i => match e with
      | .Compare (.Attribute (.Name x _) a _) [op] [.List [] _] _ => cf.ft.isSome && decide (op = .Eq) && decide (a = sSeries) && decide (cf.N[i]? = some x) && visB sc x && nmB x
      | _ => false
    | .fL i => match e with
      | .Call (.Name l _) [.Attribute (.Name x _) a _] [] _ => cf.ft.isSome && decide (l = "len") && decide (a = sSeries) && glB sc l && decide (cf.N[i]? = some x) && visB sc x && nmB x
      | _ => false
    | .fA i => match e with
      | .Call (.Name l _) [.Attribute (.Name x _) a _] [] _ => cf.ft.isSome && decide (l = "list") && decide (a = sSeries) && glB sc l && decide (cf.N[i]? = some x) && visB sc x && nmB x
      | _ => false
    | .fS i lo hi => match e with
      | .Subscript (.Attribute (.Name x _) a _) (.Slice l h none _) _ => cf.ft.isSome && decide (a = sSeries) && decide (cf.N[i]? = some x) && visB sc x && nmB x && chkP n sc l lo && chkP n sc h hi
      | _ => false
    | .fR i y z => match e with
      | .Subscript (.Subscript (.Attribute (.Name x _) a _) b _) c _ => cf.ft.isSome && decide (a = sRows) && decide (cf.N[i]? = some x) && visB sc x && nmB x && chkE n sc b y && chkE n sc c z
      | _ => false
    | .fRL i y => match e with
      | .Call (.Name l _) [.Subscript (.Attribute (.Name x _) a _) b _] [] _ => cf.ft.isSome && decide (l = "len") && decide (a = sRows) && glB sc l && decide (cf.N[i]? = some x) && visB sc x && nmB x && chkE n sc b y
      | _ => false
    | .fP i => match e with
      | .Call (.Attribute (.Attribute (.Name x _) a _) m apos) [] [] cpos => cf.ft.isSome && decide (a = sSeries) && decide (m = "pop") && (apos.endLine == cpos.line) && decide (cf.N[i]? = some x) && visB sc x && nmB x
      | _ => false
    | .fCS f i y => match e with
      | .Call (.Name g _) [.Attribute (.Name x _) a _, b] [] _ => cf.ft.isSome && decide (a = sSeries) && glB sc g && nmB g && decide (cf.fns.lookup g = some f) && decide (cf.N[i]? = some x) && visB sc x && nmB x && chkE n sc b y
      | _ => false
    | .mth f i ys => match e with
      | .Call (.Attribute (.Name x _) m apos) es [] cpos => (match cf.ft with | some t => decide (t.ms.lookup m = some f) | none => false) && fldB m && (apos.endLine == cpos.line) && decide (cf.N[i]? = some x) && visB sc x && nmB x && decide (es.length < 19) && chkEs n sc es ys
      | _ => false
    | .fB f y => match e with
      | .Call (.Name g _) [b] [] _ => (match cf.ft with | some t => decide (t.jc = f) | none => false) && decide (g = "Fitter") && glB sc g && chkE n sc b y
      | _ => false
    | .fLn f i => match e with
      | .Call (.Name l _) [.Name x _] [] _ => (match cf.ft with | some t => decide (t.jl = some f) | none => false) && decide (l = "len") && glB sc l && decide (cf.N[i]? = some x) && visB sc x && nmB x
      | _ => false
    | .stk => true
    | _ => false
/-- the rest of an and, of an or -/
def chkB : Nat → Scope → Bool → List Expr → E → Bool
  | 0, _, _, _, _ => false
  | n + 1, sc, an, [a], E => okE a && chkE n sc a E
  | n + 1, sc, true, a :: b :: r, E => match E with
    | .and x y => chkE n sc a x && chkB n sc true (b :: r) y
    | _ => false
  | n + 1, sc, false, a :: b :: r, E => match E with
    | .or x y => chkE n sc a x && chkB n sc false (b :: r) y
    | _ => false
  | _, _, _, _, _ => false
def chkEs : Nat → Scope → List Expr → List E → Bool
  | 0, _, _, _ => false
  | _ + 1, _, [], [] => true
  | n + 1, sc, e :: es, x :: xs => okE e && chkE n sc e x && chkEs n sc es xs
  | _, _, _, _ => false
/-- a part of a slice -/
def chkP : Nat → Scope → Option Expr → E → Bool
  | 0, _, _, _ => false
  | _ + 1, _, none, .non => true
  | n + 1, sc, some e, x => (match x with | .bin .. => true | .int .. => true | .neg .. => true | .blt .. => true | .idx .. => true | .var .. => true | _ => false) && chkE n sc e x
  | _, _, _, _ => false
/-- a test -/
def chkT : Nat → Scope → Expr → E → Bool
  | 0, _, _, _ => false
  | n + 1, sc, e, E => chkE n sc e E && (match e, E with
    | .UnaryOp .Not a _, .not x => chkT n sc a x
    | .BoolOp .And (a :: r) _, .and x y => chkT n sc a x && chkTB n sc true r y
    | .BoolOp .Or (a :: r) _, .or x y => chkT n sc a x && chkTB n sc false r y
    | .Compare .., _ => true
    | e, _ => okT e)
def chkTB : Nat → Scope → Bool → List Expr → E → Bool
  | 0, _, _, _, _ => false
  | n + 1, sc, an, [a], E => chkT n sc a E
  | n + 1, sc, true, a :: b :: r, E => match E with
    | .and x y => chkT n sc a x && chkTB n sc true (b :: r) y
    | _ => false
  | n + 1, sc, false, a :: b :: r, E => match E with
    | .or x y => chkT n sc a x && chkTB n sc false (b :: r) y
    | _ => false
  | _, _, _, _, _ => false
/-- what is walked -/
def chkI : Nat → Scope → Expr → Expr → E → Bool
  | 0, _, _, _, _ => false
  | n + 1, sc, tg, e, E => match E with
    | .rng x y z => match e with
      | .Call (.Name f _) [b] [] _ => decide (f = "range") && glB sc f && okE b && (match x with | .int 0 => true | _ => false) && (match z with | .int 1 => true | _ => false) && chkE n sc b y
      | .Call (.Name f _) [a, b] [] _ => decide (f = "range") && glB sc f && okE a && okE b && (match z with | .int 1 => true | _ => false) && chkE n sc a x && chkE n sc b y
      | .Call (.Name f _) [a, b, c] [] _ => decide (f = "range") && glB sc f && okE a && okE b && okE c && chkE n sc a x && chkE n sc b y && chkE n sc c z
      | _ => false
    | .enm x => match e, tg with
      | .Call (.Name f _) [a] [] _, .Tuple .. => decide (f = "enumerate") && glB sc f && okE a && chkE n sc a x
      | _, _ => false
    | .enmT x => match e, tg with
      | .Call (.Name f _) [a] [] _, .Tuple .. => decide (f = "enumerate") && glB sc f && okE a && chkE n sc a x
      | _, _ => false
    | .chars x => chkE n sc e x
    | E => chkE n sc e E
end
end
end SF

set_option maxHeartbeats 4000000
namespace SF
open PySem L2
abbrev veB : List Value := [.type "ValueError", .type "Exception", .type "BaseException", .type "object"]
structure CxOk (cf : Cfg) (X : Cx) (sc : Scope) (C : Nat → Value) (Wx : WX) (call : Nat → List D → W → R D) (k : Nat) : Prop where
  N : X.N = cf.N
  nd : X.N.Nodup
  sc : X.env.scope = sc
  calm : X.calm = true
  room : Room k X.A
  tk : Takes X Wx
  fns : ∀ x i, cf.fns.lookup x = some i → ∃ f fd ps, X.mg x = some (.ref f) ∧ PySem.W.keepIn X.K (.ref f) = true ∧ Binds X.K fd ps [] ∧ FnOk X.prog X.w X.K X.mg X.base (L2.CX X.prog X.w) k f fd ps (spF C call i)
  blt : ∀ x ∈ bltNms, X.mg x = none
  gi : ∀ x i, cf.gi.lookup x = some i → ∃ t, X.mg x = some (.int i t)
  gs : ∀ x s, cf.gs.lookup x = some s → ∃ t, X.mg x = some (.str (sOf s) t)
  gt : ∀ x ks, cf.gt.lookup x = some ks → ∃ a, X.mg x = some (.ref a) ∧ ∀ H, SqT X.K H a (ks.map fun k => V.str (sOf k))
  exc : ∀ x c, cf.excs.lookup x = some c → ∃ Ca, C c = .ref Ca ∧ X.mg x = some (.ref Ca) ∧ PySem.W.keepIn X.K (.ref Ca) = true ∧ PySem.W.excIn X.K Ca veB "ValueError.__new__" = true ∧ PySem.W.subIn X.K (.ref Ca) (.type "BaseException") = some true ∧ PySem.W.typeIn X.K (.ref Ca) = some (.type "type")
  xs : cf.excs.lookup ("FitError" : Str) = some 0 → XAll X.K C
  fit : FitAt cf.ft X.prog X.w X.K X.mg X.base C call k
section
variable {cf : Cfg} {X : Cx} {sc : Scope} {C : Nat → Value} {Wx : WX} {call : Nat → List D → W → R D} {k : Nat}
theorem CxOk.gl (O : CxOk cf X sc C Wx call k) {x : Str} (h : glB sc x = true) : Gl X x := by
  show X.env.scope.names.lookup x = _
  rw [O.sc]
  exact glB_of h
theorem CxOk.un (O : CxOk cf X sc C Wx call k) : X.A.units + 65 < cLine := by have := O.room.un; omega
theorem CxOk.blk (O : CxOk cf X sc C Wx call k) (s : Shared) (H : Hp) (scope : Scope) (Ca : Addr) (cl : List (Str × Addr)) (fp : List Addr) : CxOk cf (X.blk s H scope (compEnvC scope cl Ca X.env) fp) (relS scope sc) C W0 call k where
  N := O.N
  nd := O.nd
  sc := by rw [← O.sc]; rfl
  calm := O.calm
  room := O.room
  tk := takes0
  fns := O.fns
  blt := O.blt
  gi := O.gi
  gs := O.gs
  gt := O.gt
  exc := O.exc
  xs := O.xs
  fit := O.fit
/-! targets -/
theorem tg_one {N : List Str} {fn : Str → Bool} {x : Str} {i : Nat} {pos : Pos} (hN : X.N = N) (hsc : X.env.scope = sc) (nd : X.N.Nodup) (hfn : fn x = true → X.fn x = true)
    (h : (decide (N[i]? = some x) && locB sc x && (fn x || decide (sc.names.lookup x = some .local))) = true) : PG X (.Name x pos) (gName i) := by
  simp only [Bool.and_eq_true, decide_eq_true_eq, Bool.or_eq_true] at h
  refine pg_name nd (by rw [hN]; exact h.1.1) (by rw [hsc]; exact locB_of h.1.2) ?_
  rcases h.2 with z | z
  · exact .inl (hfn z)
  · exact .inr (by rw [hsc]; exact z)
theorem pgs_many {N : List Str} {fn : Str → Bool} (hN : X.N = N) (hsc : X.env.scope = sc) (nd : X.N.Nodup) (hfn : ∀ x, fn x = true → X.fn x = true) : ∀ (es : List Expr) (is : List Nat), es.length = is.length →
    ((es.zip is).all fun p => match p.1 with | .Name x _ => decide (N[p.2]? = some x) && locB sc x && (fn x || decide (sc.names.lookup x = some .local)) | _ => false) = true → PGs X es (gNames is)
  | [], [], _, _ => pgs_nil
  | [], _ :: _, h, _ => by simp at h
  | _ :: _, [], h, _ => by simp at h
  | e :: es, i :: is, hl, h => by
    simp only [List.zip_cons_cons, List.all_cons, Bool.and_eq_true] at h
    cases e with
    | Name x p => exact pgs_cons (tg_one hN hsc nd (hfn x) (by simpa using h.1)) (pgs_many hN hsc nd hfn es is (by simpa using hl) h.2)
    | _ => simp at h
def nmAll (es : List Expr) : Bool := es.all fun e => match e with | .Name .. => true | _ => false
theorem asgE_len {env : PySem.Env} : ∀ {es : List Expr}, nmAll es = true → (assignEach es env).length = es.length ∧ (assignEach es env).findIdx? (·.1) = none
  | [], _ => ⟨rfl, rfl⟩
  | e :: es, h => by
    simp only [nmAll, List.all_cons, Bool.and_eq_true] at h
    cases e with
    | Name x p =>
      have ih := asgE_len (env := env) (es := es) h.2
      show ((false, _) :: assignEach es env).length = _ ∧ ((false, _) :: assignEach es env).findIdx? (·.1) = none
      rw [List.findIdx?_cons, ih.2]
      simp [ih.1]
    | _ => simp at h
theorem nmAll_of {N : List Str} {fn : Str → Bool} : ∀ (es : List Expr) (is : List Nat), es.length = is.length →
    ((es.zip is).all fun p => match p.1 with | .Name x _ => decide (N[p.2]? = some x) && locB sc x && (fn x || decide (sc.names.lookup x = some .local)) | _ => false) = true → nmAll es = true
  | [], _, _, _ => rfl
  | _ :: _, [], h, _ => by simp at h
  | e :: es, i :: is, hl, h => by
    simp only [List.zip_cons_cons, List.all_cons, Bool.and_eq_true] at h
    have ih := nmAll_of es is (by simpa using hl) h.2
    cases e with
    | Name x p => simpa [nmAll] using ih
    | _ => simp at h
def tgG (K : PySem.W.Frag) : Tg → TG
  | .nm i => gName i
  | .tp is => gTup K is.length (gNames is)
theorem tgG_read (K : PySem.W.Frag) (t : Tg) : TgR (tgG K t) t := by
  cases t with
  | nm i => exact tg_nm i
  | tp is => exact tg_tp K is
theorem chkTg_ok {N : List Str} {fn : Str → Bool} {tg : Expr} {T : Tg} (hN : X.N = N) (hsc : X.env.scope = sc) (nd : X.N.Nodup) (hc : X.calm = true) (hfn : ∀ x, fn x = true → X.fn x = true) (h : chkTg N sc fn tg T = true) : PG X tg (tgG X.K T) := by
  unfold chkTg at h
  cases T with
  | nm i =>
    cases tg with
    | Name x p => exact tg_one hN hsc nd (hfn x) h
    | _ => simp at h
  | tp is =>
    cases tg with
    | Tuple es kk p =>
      simp only [Bool.and_eq_true, decide_eq_true_eq] at h
      have h2 := pgs_many hN hsc nd hfn es is h.1 h.2
      have h3 := asgE_len (env := X.env) (nmAll_of es is h.1 h.2)
      exact pg_tup (k := kk) (pos := p) hc h2 (h3.1.trans h.1) h3.2
    | _ => simp at h
end
/-! ### the induction -/
structure Snd (cf : Cfg) (n : Nat) : Prop where
  e : ∀ {X sc C Wx call k E e}, CxOk cf X sc C Wx call k → chkE cf n sc e E = true → PE X e (tD C Wx (ev call E))
  b : ∀ {X sc C Wx call k E r pos an}, CxOk cf X sc C Wx call k → chkB cf n sc an r E = true → PE X (.BoolOp (if an then .And else .Or) r pos) (tD C Wx (ev call E))
  es : ∀ {X sc C Wx call k Es es}, CxOk cf X sc C Wx call k → chkEs cf n sc es Es = true → PA X es (tAs C Wx (evs call Es)) ∧ es.all okE = true ∧ es.length = Es.length
  p : ∀ {X sc C Wx call k E o}, CxOk cf X sc C Wx call k → chkP cf n sc o E = true → PO X o (tO C Wx fun ρ w => partR E (ev call E ρ w))
  t : ∀ {X sc C Wx call k E e}, CxOk cf X sc C Wx call k → chkT cf n sc e E = true → PT X e (tT C Wx (ev call E))
  tb : ∀ {X sc C Wx call k E r pos an}, CxOk cf X sc C Wx call k → chkTB cf n sc an r E = true → PW X (.BoolOp (if an then .And else .Or) r pos) (tT C Wx (ev call E))
  ct : ∀ {X sc C Wx call k E a ops bs pos}, CxOk cf X sc C Wx call k → chkE cf n sc (.Compare a ops bs pos) E = true → PT X (.Compare a ops bs pos) (tT C Wx (ev call E))
  i : ∀ {X sc C Wx call k E tg e}, CxOk cf X sc C Wx call k → chkI cf n sc tg e E = true → PI X tg e (tI C Wx fun ρ w => (ev call E ρ w).bind fun x w => opt (itemsD x) w)
theorem evw {X : Cx} {e : Expr} {C : Nat → Value} {Wx : WX} {f g : Ev D} (p : PE X e (tD C Wx f)) (h : ∀ ρ w, g ρ w = f ρ w) : PE X e (tD C Wx g) := by
  have : g = f := funext fun ρ => funext fun w => h ρ w
  rw [this]
  exact p
theorem evt {X : Cx} {e : Expr} {C : Nat → Value} {Wx : WX} {f g : Ev D} (p : PT X e (tT C Wx f)) (h : ∀ ρ w, g ρ w = f ρ w) : PT X e (tT C Wx g) := by
  have : g = f := funext fun ρ => funext fun w => h ρ w
  rw [this]
  exact p
theorem evp {X : Cx} {e : Expr} {C : Nat → Value} {Wx : WX} {f g : Ev D} (p : PW X e (tT C Wx f)) (h : ∀ ρ w, g ρ w = f ρ w) : PW X e (tT C Wx g) := by
  have : g = f := funext fun ρ => funext fun w => h ρ w
  rw [this]
  exact p
theorem eva {X : Cx} {es : List Expr} {C : Nat → Value} {Wx : WX} {f g : Ev (List D)} (p : PA X es (tAs C Wx f)) (h : ∀ ρ w, g ρ w = f ρ w) : PA X es (tAs C Wx g) := by
  have : g = f := funext fun ρ => funext fun w => h ρ w
  rw [this]
  exact p
theorem evi {X : Cx} {tg e : Expr} {C : Nat → Value} {Wx : WX} {f g : Ev (List D)} (p : PI X tg e (tI C Wx f)) (h : ∀ ρ w, g ρ w = f ρ w) : PI X tg e (tI C Wx g) := by
  have : g = f := funext fun ρ => funext fun w => h ρ w
  rw [this]
  exact p
theorem evo {X : Cx} {o : Option Expr} {C : Nat → Value} {Wx : WX} {f g : Ev (Option Int)} (p : PO X o (tO C Wx f)) (h : ∀ ρ w, g ρ w = f ρ w) : PO X o (tO C Wx g) := by
  have : g = f := funext fun ρ => funext fun w => h ρ w
  rw [this]
  exact p
section
variable {cf : Cfg} {n : Nat}
theorem op_ok {X : Cx} {op : Operator} {o : Op} (h : opB op o = true) : OpR X (binaryOp op) (rD (binD o)) := by
  cases op <;> cases o <;> first | (simp [opB] at h; done) | exact op_addD | exact op_subD | exact op_mulD | exact op_divD | exact op_modD | exact op_powD
theorem cm_ok {X : Cx} {op : CmpOp} {o : Cm} (hu : X.A.units + 65 < cLine) (h : cmB op o = true) : OpR X (compareOp op) (rD (bD (cmpD o))) := by
  cases op <;> cases o <;> first | (simp [cmB] at h; done) | exact op_eqDD (by omega) | exact op_neDD (by omega) | exact op_ltD (by omega) | exact op_leD | exact op_gtD | exact op_geD | exact op_inDD hu | exact op_notInDD hu
theorem chkE_ok {sc : Scope} {e : Expr} {E : E} {m : Nat} (h : chkE cf m sc e E = true) : okE e = true := by
  cases m with
  | zero => simp [chkE] at h
  | succ m => simp only [chkE, Bool.and_eq_true] at h; exact h.1
theorem evs_lim {call : Nat → List D → W → R D} {Es : List E} (h : Es.length ≤ 1000) : ∀ ρ w ds w', evs call Es ρ w = .ok ds w' → ds.length ≤ LIM := fun ρ w ds w' q => by
  rw [evs_len q]
  exact Nat.le_trans h (by decide)
theorem part_ok {call : Nat → List D → W → R D} {E : E} (h : (match E with | .bin .. => true | .int .. => true | .neg .. => true | .blt .. => true | .idx .. => true | .var .. => true | _ => false) = true) : True := trivial
theorem lc_eq {call : Nat → List D → W → R D} (x : E) (tg : Tg) (it cd : E) (own : List Nat) (ρ : SF.Env) (w : W) :
    ev call (.lc x tg it cd own) ρ w = fLc (fun ρ w => (ev call it ρ w).bind fun x w => opt (itemsD x) w) tg (ev call cd) (ev call x) own ρ w := by
  simp only [ev, fLc]
  cases h : ev call it ρ w with
  | ok d w1 =>
    simp only [bind_ok]
    cases h2 : itemsD d with
    | none => rfl
    | some xs =>
      simp only [opt_some, bind_ok]
      rfl
  | exc c w1 => rfl
  | bad => rfl
theorem lcK_eq {call : Nat → List D → W → R D} (x : E) (tg : Tg) (i : Nat) (cd : E) (own : List Nat) (ρ : SF.Env) (w : W) : ev call (.lcK x tg i cd own) ρ w = fLcK i tg (ev call cd) (ev call x) own ρ w := by
  simp only [ev, fLcK]
  cases h : getS ρ i with
  | none => rfl
  | some d => cases d <;> rfl
theorem tgIn_self {tg : Tg} {ow : List (Str × Nat)} {N : List Str} (h : ow = (tgSlots tg).filterMap fun i => (N[i]?).map fun y => (y, i)) (hi : ∀ i ∈ tgSlots tg, ∃ y, N[i]? = some y) : tgIn tg (ow.map (·.2)) = true := by
  have key : ∀ i ∈ tgSlots tg, i ∈ ow.map (·.2) := fun i hm => by
    obtain ⟨y, hy⟩ := hi i hm
    rw [h]
    exact List.mem_map.mpr ⟨(y, i), List.mem_filterMap.mpr ⟨i, hm, by rw [hy]; rfl⟩, rfl⟩
  unfold tgIn
  cases tg with
  | nm i => exact decide_eq_true (key i (by simp [tgSlots]))
  | tp is => exact List.all_eq_true.mpr fun i hm => decide_eq_true (key i hm)
theorem chkTg_slots {N : List Str} {sc : Scope} {fn : Str → Bool} {tgE : Expr} {tg : Tg} (h : chkTg N sc fn tgE tg = true) : ∀ i ∈ tgSlots tg, ∃ y, N[i]? = some y := by
  unfold chkTg at h
  cases tg with
  | nm i =>
    cases tgE <;> simp at h
    intro j hj
    simp [tgSlots] at hj
    subst hj
    exact ⟨_, h.1.1⟩
  | tp is =>
    cases tgE <;> simp only [Bool.and_eq_true, decide_eq_true_eq, Bool.false_eq_true] at h
    rename_i es kk p
    intro j hj
    have hj : j ∈ is := hj
    obtain ⟨h1, h2⟩ := h
    clear hj
    have : ∀ (es : List Expr) (is : List Nat), es.length = is.length → ((es.zip is).all fun p => match p.1 with | .Name x _ => decide (N[p.2]? = some x) && locB sc x && (fn x || decide (sc.names.lookup x = some .local)) | _ => false) = true → ∀ j ∈ is, ∃ y, N[j]? = some y := by
      intro es
      induction es with
      | nil => intro is hl _ j hj; cases is <;> simp at hl hj
      | cons e es ih =>
        intro is hl ha j hj
        cases is with
        | nil => simp at hl
        | cons i is =>
          simp only [List.zip_cons_cons, List.all_cons, Bool.and_eq_true] at ha
          rcases List.mem_cons.mp hj with rfl | hj
          · cases e with
            | Name x p =>
              have := ha.1
              simp only [Bool.and_eq_true, decide_eq_true_eq] at this
              exact ⟨_, this.1.1⟩
            | _ => simp at ha
          · exact ih is (by simpa using hl) ha.2 j hj
    exact this es is h1 h2 j ‹_›
/-- a comprehension: its parts -/
structure LcParts (cf : Cfg) (X : Cx) (C : Nat → Value) (Wx : WX) (call : Nat → List D → W → R D) (elt tgE iter : Expr) (ifs : List Expr) (scope : Scope) (own : List (Str × Nat)) (x : E) (tg : Tg) (it cd : E) : Prop where
  hi : PI X tgE iter (tI C Wx fun ρ w => (ev call it ρ w).bind fun x w => opt (itemsD x) w)
  ok : BlkOk X.N X.env.scope scope own
  hg : ∀ (s : Shared) (H : Hp) (Ca : Addr) (cl : List (Str × Addr)) (fp : List Addr), PG (X.blk s H scope (compEnvC scope cl Ca X.env) fp) tgE (tgG X.K tg)
  ht : ∀ (s : Shared) (H : Hp) (Ca : Addr) (cl : List (Str × Addr)) (fp : List Addr), PTs (X.blk s H scope (compEnvC scope cl Ca X.env) fp) ifs (tT C W0 (ev call cd))
  he : ∀ (s : Shared) (H : Hp) (Ca : Addr) (cl : List (Str × Addr)) (fp : List Addr), PE (X.blk s H scope (compEnvC scope cl Ca X.env) fp) elt (tD C W0 (ev call x))
  hs : okE iter = true
  hto : tgIn tg (own.map (·.2)) = true
theorem PTs.imp {X : Cx} {es : List Expr} {t t' : TT} (h : PTs X es t) (hi : ∀ σ H Q, t' σ H Q → t σ H Q) : PTs X es t' := ⟨fun pins s σ H Q I q => h.run pins s σ H Q I (hi σ H Q q)⟩
theorem lc_parts (ih : Snd cf n) {X : Cx} {sc : Scope} {C : Nat → Value} {Wx : WX} {call : Nat → List D → W → R D} {k : Nat} {x it cd : E} {tg : Tg} {own : List Nat} {elt tgE iter : Expr} {ifs : List Expr} {scope : Scope} {asy : Int} {ow : List (Str × Nat)} (O : CxOk cf X sc C Wx call k)
    (how : ow = (tgSlots tg).filterMap fun i => (cf.N[i]?).map fun y => (y, i))
    (h : (decide (asy = 0) && decide (own = ow.map (·.2)) && blkC cf.N sc scope ow && chkTg cf.N (relS scope sc) (fun x => scope.names.lookup x == some .cell) tgE tg && chkI cf n sc tgE iter it && okE iter && chkE cf n (relS scope sc) elt x &&
          (match ifs with
          | [] => (match cd with | .bl true => true | _ => false)
          | [c] => chkT cf n (relS scope sc) c cd
          | _ => false)) = true) : asy = 0 ∧ own = ow.map (·.2) ∧ LcParts cf X C Wx call elt tgE iter ifs scope ow x tg it cd := by
  simp only [Bool.and_eq_true, decide_eq_true_eq] at h
  obtain ⟨⟨⟨⟨⟨⟨⟨h1, h2⟩, h3⟩, h4⟩, h5⟩, h6⟩, h7⟩, h8⟩ := h
  refine ⟨h1, h2, ih.i O h5, ?_, fun s H Ca cl fp => ?_, fun s H Ca cl fp => ?_, fun s H Ca cl fp => ih.e (O.blk s H scope Ca cl fp) h7, h6, tgIn_self how (chkTg_slots h4)⟩
  · rw [O.N, O.sc]
    exact blkOk_by h3
  · exact chkTg_ok (X := X.blk s H scope (compEnvC scope cl Ca X.env) fp) O.N (by rw [← O.sc]; rfl) O.nd O.calm (fun _ z => z) h4
  · split at h8
    · split at h8
      · exact PTs.imp pts_nil fun σ H Q ⟨B, P, ρ, w, S, G⟩ => by
          obtain ⟨b, hb, k⟩ := G
          cases hb
          exact k H (Ext.refl B H) S.w
      · cases h8
    · exact pts_one (ih.t (O.blk s H scope Ca cl fp) h8)
    · cases h8
theorem snd_chkE (ih : Snd cf n) {X : Cx} {sc : Scope} {C : Nat → Value} {Wx : WX} {call : Nat → List D → W → R D} {k : Nat} {e : Expr} {E : E} (O : CxOk cf X sc C Wx call k) (h : chkE cf (n + 1) sc e E = true) : PE X e (tD C Wx (ev call E)) := by
  simp only [chkE, Bool.and_eq_true] at h
  obtain ⟨hok, h⟩ := h
  cases E with
  | var i =>
    simp only at h
    split at h
    · simp only [Bool.and_eq_true, decide_eq_true_eq] at h
      have h2 := nmB_of h.2
      exact evw (pe_varD (show X.N[i]? = some _ by rw [O.N]; exact h.1.1) (by rw [O.sc]; exact visB_of h.1.2) h2.1 h2.2.1) fun _ _ => rfl
    · cases h
  | int i =>
    simp only at h
    split at h
    · simp only [decide_eq_true_eq] at h
      subst h
      exact evw (pe_cD pe_int fun _ _ _ => .int _) fun _ _ => rfl
    · simp only [Bool.and_eq_true, decide_eq_true_eq] at h
      obtain ⟨t, hm⟩ := O.gi _ _ h.2
      exact evw (pe_cD (pe_glob (v := .int i) (O.gl h.1.1) hm ⟨t, rfl⟩ (nmB_of h.1.2).1) fun _ _ _ => .int _) fun _ _ => rfl
    · cases h
  | str s =>
    simp only at h
    split at h
    · simp only [decide_eq_true_eq] at h
      subst h
      exact evw (pe_cD pe_str fun _ _ _ => .str _) fun _ _ => rfl
    · simp only [Bool.and_eq_true, decide_eq_true_eq] at h
      obtain ⟨t, hm⟩ := O.gs _ _ h.2
      exact evw (pe_cD (pe_glob (v := .str (sOf s)) (O.gl h.1.1) hm ⟨t, rfl⟩ (nmB_of h.1.2).1) fun _ _ _ => .str _) fun _ _ => rfl
    · cases h
  | bl b =>
    simp only at h
    split at h
    · have h := eq_of_beq h
      subst h
      exact evw (pe_cD pe_bl fun _ _ _ => .bl _) fun _ _ => rfl
    · cases h
  | non =>
    simp only at h
    split at h
    · exact evw (pe_cD pe_non fun _ _ _ => .non) fun _ _ => rfl
    · cases h
  | bin o x y =>
    simp only at h
    split at h
    · simp only [Bool.and_eq_true] at h
      exact evw (pe_opD (op_ok h.1.1) (ih.e O h.1.2) (ih.e O h.2)) fun _ _ => rfl
    · cases h
  | neg x =>
    simp only at h
    split at h
    · exact evw (pe_negD (ih.e O h)) fun _ _ => rfl
    · cases h
  | not x =>
    simp only at h
    split at h
    · exact evw (pe_notD (ih.e O h)) fun _ _ => rfl
    · cases h
  | and x y =>
    simp only at h
    split at h
    · rename_i a r pos
      simp only [Bool.and_eq_true] at h
      have hb := ih.b (pos := pos) O h.2
      cases r with
      | nil => cases n <;> simp [chkB] at h
      | cons b r => exact evw (pe_andD (ih.e O h.1) hb) fun _ _ => rfl
    · cases h
  | or x y =>
    simp only at h
    split at h
    · rename_i a r pos
      simp only [Bool.and_eq_true] at h
      have hb := ih.b (pos := pos) O h.2
      cases r with
      | nil => cases n <;> simp [chkB] at h
      | cons b r => exact evw (pe_orD (ih.e O h.1) hb) fun _ _ => rfl
    · cases h
  | cmp o x y =>
    simp only at h
    split at h
    · simp only [Bool.and_eq_true] at h
      exact evw (pe_cmpD (cm_ok O.un h.1.1) (ih.e O h.1.2) (ih.e O h.2) (marks_ok (chkE_ok h.2))) fun _ _ => rfl
    · cases h
  | chn o1 o2 x y z =>
    simp only at h
    split at h
    · simp only [Bool.and_eq_true] at h
      exact evw (pe_chnD (cm_ok O.un h.1.1.1.1) (cm_ok O.un h.1.1.1.2) (ih.e O h.1.1.2) (ih.e O h.1.2) (ih.e O h.2) (marks_ok (chkE_ok h.2))) fun _ _ => rfl
    · cases h
  | isb ng o x =>
    simp only at h
    split at h
    · simp only [Bool.and_eq_true, decide_eq_true_eq] at h
      obtain ⟨⟨h1, h2⟩, h3⟩ := h
      subst h1 h2
      exact evw (pe_isD (ih.e O h3)) fun _ _ => rfl
    · cases h
  | inK ng x ks =>
    simp only at h
    split at h
    · simp only [Bool.and_eq_true, decide_eq_true_eq] at h
      obtain ⟨⟨⟨⟨h1, h2⟩, h3⟩, h4⟩, h5⟩ := h
      subst h1
      obtain ⟨ad, hm, hk⟩ := O.gt _ _ h4
      exact evw (pe_inKD (O.gl h2) hm hk (nmB_of h3).1 (ih.e O h5)) fun _ _ => rfl
    · cases h
  | ife c x y =>
    simp only at h
    split at h
    · simp only [Bool.and_eq_true] at h
      exact evw (pe_ifD (ih.t O h.1.1) (ih.e O h.1.2) (ih.e O h.2)) fun _ _ => rfl
    · cases h
  | tup xs =>
    simp only at h
    split at h
    · simp only [Bool.and_eq_true, decide_eq_true_eq] at h
      exact evw (pe_tupD (ih.es O h.2).1 (evs_lim h.1)) fun _ _ => rfl
    · cases h
  | lst xs =>
    simp only at h
    split at h
    · simp only [Bool.and_eq_true, decide_eq_true_eq] at h
      exact evw (pe_lstD (ih.es O h.2).1 (evs_lim h.1)) fun _ _ => rfl
    · cases h
  | dnil t =>
    simp only at h
    split at h
    · cases t with
      | true => exact evw (toD pe_dnilT) fun _ _ => rfl
      | false => exact evw (toD pe_dnilK) fun _ _ => rfl
    · cases h
  | done t x y =>
    simp only at h
    split at h
    · simp only [Bool.and_eq_true] at h
      cases t with
      | true => exact evw (toD (pe_doneT (by have := O.un; omega) (ih.e O h.1) (ih.e O h.2))) fun _ _ => rfl
      | false => exact evw (toD (pe_doneK (ih.e O h.1) (ih.e O h.2))) fun _ _ => rfl
    · cases h
  | call f xs =>
    simp only at h
    split at h
    · rename_i x p es pos
      simp only [Bool.and_eq_true, decide_eq_true_eq] at h
      obtain ⟨⟨⟨h1, h2⟩, h3⟩, h5⟩ := h
      obtain ⟨fa, fd, ps, q1, q2, q3, q4⟩ := O.fns _ _ h3
      obtain ⟨a1, a2, a3⟩ := ih.es O h5
      cases es with
      | nil =>
        cases xs with
        | nil => exact evw (pe_fn0D q4 O.room (O.gl h1) q1 q2 q3 O.tk (nmB_of h2).1) fun ρ w => by simp only [ev, evs, bind_ok]
        | cons y ys => simp at a3
      | cons e0 es0 =>
        simp only [List.all_cons, Bool.and_eq_true] at a2
        exact evw (pe_fnD q4 O.room (O.gl h1) q1 q2 q3 O.tk a1 (nmB_of h2).1 a2.1 a2.2) fun _ _ => rfl
    · cases h
  | blt b xs =>
    simp only at h
    split at h
    · rename_i x p es pos
      simp only [Bool.and_eq_true, decide_eq_true_eq] at h
      obtain ⟨⟨⟨h1, h2⟩, h3⟩, h5⟩ := h
      obtain ⟨a1, a2, a3⟩ := ih.es O h5
      have hg := O.gl h1
      have hn := nmB_of h2
      cases es with
      | nil => cases b <;> simp [bltNm] at h3
      | cons e0 es0 =>
        simp only [List.all_cons, Bool.and_eq_true] at a2
        cases b with
        | len =>
          simp only [bltNm, Option.some.injEq, Prod.mk.injEq] at h3
          obtain ⟨rfl, -, -⟩ := h3
          exact evw (pe_bltD call_lenD hg (O.blt _ (by decide)) (by decide +kernel) a1 hn.2.2 hn.1 a2.1 a2.2) fun _ _ => rfl
        | abs =>
          simp only [bltNm, Option.some.injEq, Prod.mk.injEq] at h3
          obtain ⟨rfl, -, -⟩ := h3
          exact evw (pe_bltD call_absD hg (O.blt _ (by decide)) (by decide +kernel) a1 hn.2.2 hn.1 a2.1 a2.2) fun _ _ => rfl
        | sum =>
          simp only [bltNm, Option.some.injEq, Prod.mk.injEq] at h3
          obtain ⟨rfl, -, -⟩ := h3
          exact evw (pe_bltD (call_sumD O.calm) hg (O.blt _ (by decide)) (by decide +kernel) a1 hn.2.2 hn.1 a2.1 a2.2) fun _ _ => rfl
        | sorted =>
          simp only [bltNm, Option.some.injEq, Prod.mk.injEq] at h3
          obtain ⟨rfl, -, -⟩ := h3
          exact evw (pe_bltD (call_sortedD2 O.calm) hg (O.blt _ (by decide)) (by decide +kernel) a1 hn.2.2 hn.1 a2.1 a2.2) fun _ _ => rfl
        | sortT =>
          simp only [bltNm, Option.some.injEq, Prod.mk.injEq] at h3
          obtain ⟨rfl, -, -⟩ := h3
          exact evw (pe_bltD (call_sortTD O.calm) hg (O.blt _ (by decide)) (by decide +kernel) a1 hn.2.2 hn.1 a2.1 a2.2) fun _ _ => rfl
        | sortC =>
          simp only [bltNm, Option.some.injEq, Prod.mk.injEq] at h3
          obtain ⟨rfl, -, -⟩ := h3
          exact evw (pe_bltD (call_sortCD (by have := O.un; omega)) hg (O.blt _ (by decide)) (by decide +kernel) a1 hn.2.2 hn.1 a2.1 a2.2) fun _ _ => rfl
        | min1 =>
          simp only [bltNm, Option.some.injEq, Prod.mk.injEq] at h3
          obtain ⟨rfl, -, -⟩ := h3
          exact evw (pe_bltD (call_min1D O.calm) hg (O.blt _ (by decide)) (by decide +kernel) a1 hn.2.2 hn.1 a2.1 a2.2) fun _ _ => rfl
        | min2 =>
          simp only [bltNm, Option.some.injEq, Prod.mk.injEq] at h3
          obtain ⟨rfl, -, -⟩ := h3
          exact evw (pe_bltD (call_min2D O.calm) hg (O.blt _ (by decide)) (by decide +kernel) a1 hn.2.2 hn.1 a2.1 a2.2) fun _ _ => rfl
        | max2 =>
          simp only [bltNm, Option.some.injEq, Prod.mk.injEq] at h3
          obtain ⟨rfl, -, -⟩ := h3
          exact evw (pe_bltD (call_max2D O.calm) hg (O.blt _ (by decide)) (by decide +kernel) a1 hn.2.2 hn.1 a2.1 a2.2) fun _ _ => rfl
        | all =>
          simp only [bltNm, Option.some.injEq, Prod.mk.injEq] at h3
          obtain ⟨rfl, -, -⟩ := h3
          exact evw (pe_bltD (call_allD O.calm) hg (O.blt _ (by decide)) (by decide +kernel) a1 hn.2.2 hn.1 a2.1 a2.2) fun _ _ => rfl
        | list =>
          simp only [bltNm, Option.some.injEq, Prod.mk.injEq] at h3
          obtain ⟨rfl, -, -⟩ := h3
          exact evw (pe_bltTyD call_listD hg (O.blt _ (by decide)) (by decide +kernel) a1 hn.2.2 hn.1 a2.1 a2.2) fun _ _ => rfl
        | tuple =>
          simp only [bltNm, Option.some.injEq, Prod.mk.injEq] at h3
          obtain ⟨rfl, -, -⟩ := h3
          exact evw (pe_bltTyD call_tupleD hg (O.blt _ (by decide)) (by decide +kernel) a1 hn.2.2 hn.1 a2.1 a2.2) fun _ _ => rfl
        | str =>
          simp only [bltNm, Option.some.injEq, Prod.mk.injEq] at h3
          obtain ⟨rfl, -, -⟩ := h3
          exact evw (pe_bltTyD call_strD hg (O.blt _ (by decide)) (by decide +kernel) a1 hn.2.2 hn.1 a2.1 a2.2) fun _ _ => rfl
        | int =>
          simp only [bltNm, Option.some.injEq, Prod.mk.injEq] at h3
          obtain ⟨rfl, -, -⟩ := h3
          exact evw (pe_bltTyD call_intD hg (O.blt _ (by decide)) (by decide +kernel) a1 hn.2.2 hn.1 a2.1 a2.2) fun _ _ => rfl
        | _ => simp [bltNm] at h3
    · cases h
  | rgT l x y =>
    simp only at h
    split at h
    · rename_i f p g p2 a b pos2 pos
      simp only [Bool.and_eq_true, decide_eq_true_eq] at h
      obtain ⟨⟨⟨⟨⟨⟨⟨h1, h2⟩, h3⟩, h4⟩, h5⟩, h6⟩, h7⟩, h8⟩ := h
      subst h1 h2
      have key : ∀ ρ w, fRg2 (fun xs => if l then D.lst xs else D.tup xs) (ev call x) (ev call y) ρ w = ev call (.rgT l x y) ρ w := by
        intro ρ w
        simp only [ev, fRg2]
        try rfl
      cases l with
      | true => exact evw (pe_listRgD O.calm (O.gl h3) (O.blt _ (by decide)) (O.gl h4) (O.blt _ (by decide)) (ih.e O h7) h5 (ih.e O h8) h6 rfl) fun ρ w => key ρ w
      | false => exact evw (pe_tupRgD O.calm (O.gl h3) (O.blt _ (by decide)) (O.gl h4) (O.blt _ (by decide)) (ih.e O h7) h5 (ih.e O h8) h6 rfl) fun ρ w => key ρ w
    · rename_i f p g p2 b pos2 pos
      simp only [Bool.and_eq_true, decide_eq_true_eq] at h
      obtain ⟨⟨⟨⟨⟨⟨⟨h0, hx⟩, h1⟩, h2⟩, h3⟩, h4⟩, h5⟩, h6⟩ := h
      subst h1 h2 h0
      split at hx
      · refine evw (pe_listRg1D O.calm (O.gl h3) (O.blt _ (by decide)) (O.gl h4) (O.blt _ (by decide)) (ih.e O h6) h5 rfl) fun ρ w => ?_
        simp only [ev, fRg2, if_true]
        try rfl
      · cases hx
    · cases h
  | sset x =>
    simp only at h
    split at h
    · rename_i f p g p2 a pos2 pos
      simp only [Bool.and_eq_true, decide_eq_true_eq] at h
      obtain ⟨⟨⟨⟨⟨h1, h2⟩, h3⟩, h4⟩, h5⟩, h6⟩ := h
      subst h1 h2
      exact evw (pe_ssetD O.calm (O.gl h3) (O.blt _ (by decide)) (O.gl h4) (O.blt _ (by decide)) (ih.e O h6) h5 rfl) fun ρ w => by simp only [ev]
    · cases h
  | cnt a x =>
    simp only at h
    split at h
    · simp only [Bool.and_eq_true, decide_eq_true_eq] at h
      obtain ⟨⟨⟨⟨⟨h1, h2⟩, h3⟩, h4⟩, h5⟩, h6⟩ := h
      subst h1
      exact evw (pe_cntD O.un (by rw [O.N]; exact h2) (by rw [O.sc]; exact visB_of h3) (nmB_of h4).1 (nmB_of h4).2.1 (ih.e O h6) (chkE_ok h6) h5) fun ρ w => by simp only [ev, fCnt]
    · cases h
  | ixo a x =>
    simp only at h
    split at h
    · simp only [Bool.and_eq_true, decide_eq_true_eq] at h
      obtain ⟨⟨⟨⟨⟨h1, h2⟩, h3⟩, h4⟩, h5⟩, h6⟩ := h
      subst h1
      exact evw (pe_ixoD O.un (by rw [O.N]; exact h2) (by rw [O.sc]; exact visB_of h3) (nmB_of h4).1 (nmB_of h4).2.1 (ih.e O h6) (chkE_ok h6) h5) fun ρ w => by simp only [ev, fCnt]
    · cases h
  | isi x ty =>
    simp only at h
    split at h
    · simp only [Bool.and_eq_true, decide_eq_true_eq] at h
      obtain ⟨⟨⟨⟨⟨h1, h2⟩, h3⟩, h4⟩, h5⟩, h6⟩ := h
      subst h1
      have ha := chkE_ok h6
      rw [Bool.or_eq_true] at h5
      rcases h5 with h5 | h5
      rotate_left
      · cases ty <;> first | (simp [excT] at h5; done) | skip
        rename_i c
        simp only [excT, Bool.and_eq_true, decide_eq_true_eq, Bool.or_eq_true] at h5
        obtain ⟨q0, ⟨q1, q2⟩ | ⟨q1, q2⟩⟩ := h5
        · subst q1 q2
          exact evw (pe_isiX (O.xs q0) (O.gl h2) (O.blt _ (by decide)) rfl (pe_bltn (v := .ty "ValueError") (O.gl h3) (O.blt _ (by decide)) (by decide +kernel) rfl (nmB_of h4).2.2 (nmB_of h4).1) (fun u z => z) (.inl ⟨rfl, rfl⟩) (ih.e O h6) ha) fun _ _ => rfl
        · obtain ⟨Ca, z1, z2, _⟩ := O.exc _ _ q1
          exact evw (pe_isiX (O.xs q0) (O.gl h2) (O.blt _ (by decide)) rfl (pe_glob (v := .ref Ca) (O.gl h3) z2 rfl (nmB_of h4).1) (fun u z => z.trans z1.symm) (.inr ⟨rfl, q2⟩) (ih.e O h6) ha) fun _ _ => rfl
      rw [decide_eq_true_eq] at h5
      cases ty <;> simp only [tyNm, Option.some.injEq, reduceCtorEq] at h5 <;> subst h5
      · exact evw (pe_isiD (n := "int") rfl (O.gl h2) (O.blt _ (by decide)) rfl (O.gl h3) (O.blt _ (by decide)) (by decide +kernel) (nmB_of h4).2.2 (nmB_of h4).1 (ih.e O h6) ha) fun _ _ => rfl
      · exact evw (pe_isiD (n := "bool") rfl (O.gl h2) (O.blt _ (by decide)) rfl (O.gl h3) (O.blt _ (by decide)) (by decide +kernel) (nmB_of h4).2.2 (nmB_of h4).1 (ih.e O h6) ha) fun _ _ => rfl
      · exact evw (pe_isiD (n := "str") rfl (O.gl h2) (O.blt _ (by decide)) rfl (O.gl h3) (O.blt _ (by decide)) (by decide +kernel) (nmB_of h4).2.2 (nmB_of h4).1 (ih.e O h6) ha) fun _ _ => rfl
      · exact evw (pe_isiD (n := "tuple") rfl (O.gl h2) (O.blt _ (by decide)) rfl (O.gl h3) (O.blt _ (by decide)) (by decide +kernel) (nmB_of h4).2.2 (nmB_of h4).1 (ih.e O h6) ha) fun _ _ => rfl
      · exact evw (pe_isiD (n := "list") rfl (O.gl h2) (O.blt _ (by decide)) rfl (O.gl h3) (O.blt _ (by decide)) (by decide +kernel) (nmB_of h4).2.2 (nmB_of h4).1 (ih.e O h6) ha) fun _ _ => rfl
    · cases h
  | rev x =>
    simp only at h
    split at h
    · exact evw (pe_revD (ih.e O h)) fun ρ w => by simp only [ev]
    · cases h
  | get a x y =>
    simp only at h
    split at h
    · simp only [Bool.and_eq_true, decide_eq_true_eq] at h
      obtain ⟨⟨⟨⟨⟨⟨⟨⟨h1, h2⟩, h3⟩, h4⟩, h5⟩, h6⟩, h7⟩, h8⟩, h9⟩ := h
      subst h1
      exact evw (pe_getD O.un (by rw [O.N]; exact h2) (by rw [O.sc]; exact visB_of h3) (nmB_of h4).1 (nmB_of h4).2.1 (ih.e O h8) h6 (ih.e O h9) h7 h5) fun ρ w => by simp only [ev, fGet]
    · cases h
  | lcK x tg i cd own =>
    simp only at h
    split at h
    · rename_i elt tgE y py ifs asy scope pos
      simp only [Bool.and_eq_true, decide_eq_true_eq] at h
      obtain ⟨⟨⟨⟨⟨⟨⟨⟨h1, h2⟩, h3⟩, h4⟩, h5⟩, h6⟩, h7⟩, h8⟩, h9⟩ := h
      subst h1
      rw [h2]
      refine evw (toD (pe_lcKN O.calm O.nd (by rw [O.N]; exact h5) (by rw [O.sc]; exact visB_of h6) (nmB_of h7).1 (nmB_of h7).2.1 (by rw [O.N, O.sc]; exact blkOk_by h3) (fun s H Ca cl fp => chkTg_ok (X := X.blk s H scope (compEnvC scope cl Ca X.env) fp) O.N (by rw [← O.sc]; rfl) O.nd O.calm (fun _ z => z) h4) (fun s H Ca cl fp => ?_) (fun s H Ca cl fp => ih.e (O.blk s H scope Ca cl fp) h8) (tgG_read X.K tg) (tgIn_self rfl (chkTg_slots h4)))) fun ρ w => lcK_eq x tg i cd _ ρ w
      split at h9
      · exact pts_one (ih.t (O.blk s H scope Ca cl fp) h9)
      · cases h9
    · cases h
  | slc x l hh =>
    simp only at h
    split at h
    · simp only [Bool.and_eq_true] at h
      exact evw (pe_slcD (ih.e O h.1.1) (ih.p O h.1.2) (ih.p O h.2)) fun _ _ => rfl
    · cases h
  | idx x y =>
    simp only at h
    split at h
    · simp only [Bool.and_eq_true] at h
      exact evw (pe_ixD (ix_D (by have := O.un; omega)) (ih.e O h.1.2) (ih.e O h.2) (ix_ok h.1.1)) fun _ _ => rfl
    · cases h
  | lc x tg it cd own =>
    simp only at h
    split at h
    · obtain ⟨h1, h2, L⟩ := lc_parts ih O rfl h
      subst h1
      rw [h2]
      exact evw (toD (pe_lcN O.calm O.nd L.hi L.ok L.hg L.ht L.he L.hs (tgG_read X.K tg) L.hto)) fun ρ w => lc_eq x tg it cd _ ρ w
    · cases h
  | fmt x s y =>
    simp only at h
    split at h
    · simp only [Bool.and_eq_true, decide_eq_true_eq] at h
      obtain ⟨⟨⟨⟨⟨h1, h2⟩, h3⟩, h4⟩, h5⟩, h6⟩ := h
      subst h1 h2 h3
      exact evw (pe_fmtD (ih.e O h5) (ih.e O h6) h4) fun ρ w => by simp only [ev, fFmt]
    · cases h
  | join x y =>
    simp only at h
    split at h
    · simp only [Bool.and_eq_true, decide_eq_true_eq] at h
      obtain ⟨⟨⟨⟨h1, h2⟩, h3⟩, h4⟩, h5⟩ := h
      subst h1
      exact evw (pe_joinD (ih.e O h4) (ih.e O h5) (chkE_ok h5) (base_ok h2) h3) fun ρ w => by simp only [ev]
    · cases h
  | split x y =>
    simp only at h
    split at h
    · simp only [Bool.and_eq_true, decide_eq_true_eq] at h
      obtain ⟨⟨⟨⟨h1, h2⟩, h3⟩, h4⟩, h5⟩ := h
      subst h1
      exact evw (pe_splitD (ih.e O h4) (ih.e O h5) (chkE_ok h5) (base_ok h2) h3) fun ρ w => by simp only [ev]
    · cases h
  | fK i =>
    simp only at h
    split at h
    · simp only [Bool.and_eq_true, decide_eq_true_eq] at h
      obtain ⟨⟨⟨⟨h0, h1⟩, h2⟩, h3⟩, h4⟩ := h
      subst h1
      exact evw (pe_fK (O.fit.c h0) (by rw [O.N]; exact h2) (by rw [O.sc]; exact visB_of h3) (nmB_of h4).1 (nmB_of h4).2.1) fun ρ w => by simp only [ev]
    · cases h
  | fN i =>
    simp only at h
    split at h
    · simp only [Bool.and_eq_true, decide_eq_true_eq] at h
      obtain ⟨⟨⟨⟨⟨h0, h1⟩, h5⟩, h2⟩, h3⟩, h4⟩ := h
      subst h1 h5
      exact evw (pe_fN (by have := O.un; omega) (O.fit.c h0) (by rw [O.N]; exact h2) (by rw [O.sc]; exact visB_of h3) (nmB_of h4).1 (nmB_of h4).2.1) fun ρ w => by simp only [ev]
    · cases h
  | fL i =>
    simp only at h
    split at h
    · simp only [Bool.and_eq_true, decide_eq_true_eq] at h
      obtain ⟨⟨⟨⟨⟨⟨h0, h1⟩, h5⟩, h6⟩, h2⟩, h3⟩, h4⟩ := h
      subst h1 h5
      exact evw (pe_fL (O.fit.c h0) (by rw [O.N]; exact h2) (by rw [O.sc]; exact visB_of h3) (nmB_of h4).1 (nmB_of h4).2.1 (O.gl h6) (O.blt _ (by decide)) rfl) fun ρ w => by simp only [ev]
    · cases h
  | fA i =>
    simp only at h
    split at h
    · simp only [Bool.and_eq_true, decide_eq_true_eq] at h
      obtain ⟨⟨⟨⟨⟨⟨h0, h1⟩, h5⟩, h6⟩, h2⟩, h3⟩, h4⟩ := h
      subst h1 h5
      exact evw (pe_fA (O.fit.c h0) (by rw [O.N]; exact h2) (by rw [O.sc]; exact visB_of h3) (nmB_of h4).1 (nmB_of h4).2.1 (O.gl h6) (O.blt _ (by decide)) rfl) fun ρ w => by simp only [ev]
    · cases h
  | fS i lo hi =>
    simp only at h
    split at h
    · simp only [Bool.and_eq_true, decide_eq_true_eq] at h
      obtain ⟨⟨⟨⟨⟨⟨h0, h1⟩, h2⟩, h3⟩, h4⟩, h5⟩, h6⟩ := h
      subst h1
      exact evw (pe_fS (O.fit.c h0) (by rw [O.N]; exact h2) (by rw [O.sc]; exact visB_of h3) (nmB_of h4).1 (nmB_of h4).2.1 (ih.p O h5) (ih.p O h6)) fun ρ w => by simp only [ev, fSer]
    · cases h
  | fR i y z =>
    simp only at h
    split at h
    · simp only [Bool.and_eq_true, decide_eq_true_eq] at h
      obtain ⟨⟨⟨⟨⟨⟨h0, h1⟩, h2⟩, h3⟩, h4⟩, h5⟩, h6⟩ := h
      subst h1
      exact evw (pe_fR (O.fit.c h0) (by rw [O.N]; exact h2) (by rw [O.sc]; exact visB_of h3) (nmB_of h4).1 (nmB_of h4).2.1 (ih.e O h5) (ih.e O h6) (ix_ok (chkE_ok h5)) (ix_ok (chkE_ok h6))) fun ρ w => by first | (simp only [ev, fRowE]; done) | (simp only [ev, fRowE]; rfl)
    · cases h
  | fRL i y =>
    simp only at h
    split at h
    · simp only [Bool.and_eq_true, decide_eq_true_eq] at h
      obtain ⟨⟨⟨⟨⟨⟨⟨h0, h1⟩, h5⟩, h6⟩, h2⟩, h3⟩, h4⟩, h7⟩ := h
      subst h1 h5
      exact evw (pe_fRL (O.fit.c h0) (by rw [O.N]; exact h2) (by rw [O.sc]; exact visB_of h3) (nmB_of h4).1 (nmB_of h4).2.1 (ih.e O h7) (ix_ok (chkE_ok h7)) (O.gl h6) (O.blt _ (by decide)) rfl) fun ρ w => by first | (simp only [ev, fRowL]; done) | (simp only [ev, fRowL]; rfl)
    · cases h
  | fP i =>
    simp only at h
    split at h
    · simp only [Bool.and_eq_true, decide_eq_true_eq] at h
      obtain ⟨⟨⟨⟨⟨⟨h0, h1⟩, h5⟩, h6⟩, h2⟩, h3⟩, h4⟩ := h
      subst h1 h5
      exact evw (pe_fP (O.fit.c h0) (by rw [O.N]; exact h2) (by rw [O.sc]; exact visB_of h3) (nmB_of h4).1 (nmB_of h4).2.1 h6) fun ρ w => by first | (simp only [ev]; done) | (simp only [ev]; rfl)
    · cases h
  | fCS f i y =>
    simp only at h
    split at h
    · simp only [Bool.and_eq_true, decide_eq_true_eq] at h
      obtain ⟨⟨⟨⟨⟨⟨⟨⟨h0, h1⟩, h5⟩, h6⟩, h7⟩, h2⟩, h3⟩, h4⟩, h8⟩ := h
      subst h1
      obtain ⟨fa, fd, ps, q1, q2, q3, q4⟩ := O.fns _ _ h7
      exact evw (pe_fCS (O.fit.c h0) (by rw [O.N]; exact h2) (by rw [O.sc]; exact visB_of h3) (nmB_of h4).1 (nmB_of h4).2.1 q4 O.room (O.gl h5) q1 q2 q3 O.tk (ih.e O h8) (nmB_of h6).1 (chkE_ok h8)) fun ρ w => by first | (simp only [ev, fCall]; done) | (simp only [ev, fCall]; rfl)
    · cases h
  | mth f i ys =>
    simp only at h
    split at h
    · rename_i x px m apos es cpos
      simp only [Bool.and_eq_true, decide_eq_true_eq] at h
      obtain ⟨⟨⟨⟨⟨⟨⟨h0, h1⟩, h5⟩, h2⟩, h3⟩, h4⟩, h6⟩, h7⟩ := h
      split at h0
      · rename_i t hft
        rw [decide_eq_true_eq] at h0
        obtain ⟨cf', c1, c2, -, -, -, -, -, hm, -, -⟩ := O.fit t hft
        obtain ⟨ga, fd, ps, m1, m2, m3⟩ := hm _ _ h0
        obtain ⟨a1, a2, a3⟩ := ih.es O h7
        cases es with
        | nil =>
          cases ys with
          | nil => exact evw (pe_mth0 c1 c2 m1 (fldB_of h1) (by rw [O.N]; exact h2) (by rw [O.sc]; exact visB_of h3) (nmB_of h4).1 (nmB_of h4).2.1 m3 O.room m2 O.tk h5) fun ρ w => by simp only [ev, fMth, evs]
          | cons y ys => simp at a3
        | cons e0 es0 =>
          simp only [List.all_cons, Bool.and_eq_true] at a2
          exact evw (pe_mth c1 c2 m1 (fldB_of h1) (by rw [O.N]; exact h2) (by rw [O.sc]; exact visB_of h3) (nmB_of h4).1 (nmB_of h4).2.1 m3 O.room m2 O.tk a1 a2.1 a2.2 (by simp at h6; omega) h5) fun ρ w => by simp only [ev, fMth]
      · cases h0
    · cases h
  | fB f y =>
    simp only at h
    split at h
    · simp only [Bool.and_eq_true, decide_eq_true_eq] at h
      obtain ⟨⟨⟨h0, h1⟩, h2⟩, h3⟩ := h
      subst h1
      split at h0
      · rename_i t hft
        rw [decide_eq_true_eq] at h0
        subst h0
        obtain ⟨cf', c1, c2, -, -, -, c6, ⟨fI, fd, ps, m1, m2, hI⟩, -⟩ := O.fit _ hft
        rcases hI with hI | ⟨k', rfl, hI⟩
        · refine evw pe_stuck fun ρ w => ?_
          simp only [ev]
          cases ev call y ρ w with
          | ok d w1 => simp only [calm, bind_ok, hI, excOnly]
          | exc c w1 => rfl
          | bad => rfl
        · exact evw (pe_fB c1 m1 hI O.room (O.gl h2) c6 m2 O.tk (by decide +kernel) (pe_calm (ih.e O h3)) (chkE_ok h3)) fun ρ w => by simp only [ev]
      · cases h0
    · cases h
  | fLn f i =>
    simp only at h
    split at h
    · simp only [Bool.and_eq_true, decide_eq_true_eq] at h
      obtain ⟨⟨⟨⟨⟨h0, h1⟩, h2⟩, h3⟩, h4⟩, h5⟩ := h
      subst h1
      split at h0
      · rename_i t hft
        rw [decide_eq_true_eq] at h0
        obtain ⟨cf', c1, c2, -, -, -, -, -, -, hl, -⟩ := O.fit _ hft
        rcases hl _ h0 with hb | ⟨k', ga, fd, ps, rfl, m1, m2, m3⟩
        · refine evw pe_stuck fun ρ w => ?_
          simp only [ev, hb, lenOnly]
          split <;> rfl
        · exact evw (pe_fLn c1 m1 m3 O.room m2 (by rw [O.N]; exact h3) (by rw [O.sc]; exact visB_of h4) (nmB_of h5).1 (nmB_of h5).2.1 (O.gl h2) (O.blt _ (by decide)) rfl) fun ρ w => by simp only [ev]
      · cases h0
    · cases h
  | stk => exact evw pe_stuck fun ρ w => by simp only [ev]
  | _ => cases h
theorem snd_chkB (ih : Snd cf n) {X : Cx} {sc : Scope} {C : Nat → Value} {Wx : WX} {call : Nat → List D → W → R D} {k : Nat} {r : List Expr} {E : E} {pos : Pos} {an : Bool} (O : CxOk cf X sc C Wx call k) (h : chkB cf (n + 1) sc an r E = true) : PE X (.BoolOp (if an then .And else .Or) r pos) (tD C Wx (ev call E)) := by
  match r, an, h with
  | [], true, h => simp [chkB] at h
  | [], false, h => simp [chkB] at h
  | [a], an, h =>
    simp only [chkB, Bool.and_eq_true] at h
    exact pe_one (ih.e O h.2)
  | a :: b :: r, true, h =>
    simp only [chkB] at h
    split at h
    · simp only [Bool.and_eq_true] at h
      have hb : PE X (.BoolOp .And (b :: r) pos) _ := ih.b (pos := pos) O h.2
      exact evw (pe_andD (ih.e O h.1) hb) fun _ _ => rfl
    · cases h
  | a :: b :: r, false, h =>
    simp only [chkB] at h
    split at h
    · simp only [Bool.and_eq_true] at h
      have hb : PE X (.BoolOp .Or (b :: r) pos) _ := ih.b (pos := pos) O h.2
      exact evw (pe_orD (ih.e O h.1) hb) fun _ _ => rfl
    · cases h
theorem snd_chkTB (ih : Snd cf n) {X : Cx} {sc : Scope} {C : Nat → Value} {Wx : WX} {call : Nat → List D → W → R D} {k : Nat} {r : List Expr} {E : E} {pos : Pos} {an : Bool} (O : CxOk cf X sc C Wx call k) (h : chkTB cf (n + 1) sc an r E = true) : PW X (.BoolOp (if an then .And else .Or) r pos) (tT C Wx (ev call E)) := by
  match r, an, h with
  | [], true, h => simp [chkTB] at h
  | [], false, h => simp [chkTB] at h
  | [a], true, h =>
    simp only [chkTB] at h
    exact pw_and1 (ih.t O h)
  | [a], false, h =>
    simp only [chkTB] at h
    exact pw_or1 (ih.t O h)
  | a :: b :: r, true, h =>
    simp only [chkTB] at h
    split at h
    · simp only [Bool.and_eq_true] at h
      have hb : PW X (.BoolOp .And (b :: r) pos) _ := ih.tb (pos := pos) O h.2
      exact evp (pw_andD (ih.t O h.1) hb) fun _ _ => rfl
    · cases h
  | a :: b :: r, false, h =>
    simp only [chkTB] at h
    split at h
    · simp only [Bool.and_eq_true] at h
      have hb : PW X (.BoolOp .Or (b :: r) pos) _ := ih.tb (pos := pos) O h.2
      exact evp (pw_orD (ih.t O h.1) hb) fun _ _ => rfl
    · cases h
theorem snd_chkEs (ih : Snd cf n) {X : Cx} {sc : Scope} {C : Nat → Value} {Wx : WX} {call : Nat → List D → W → R D} {k : Nat} {es : List Expr} {Es : List E} (O : CxOk cf X sc C Wx call k) (h : chkEs cf (n + 1) sc es Es = true) : PA X es (tAs C Wx (evs call Es)) ∧ es.all okE = true ∧ es.length = Es.length := by
  match es, Es, h with
  | [], [], _ => exact ⟨eva pa_nilD fun _ _ => rfl, rfl, rfl⟩
  | e :: es, x :: xs, h =>
    simp only [chkEs, Bool.and_eq_true] at h
    obtain ⟨a1, a2, a3⟩ := ih.es O h.2
    exact ⟨eva (pa_consD (ih.e O h.1.2) a1 h.1.1) fun _ _ => rfl, by simp only [List.all_cons, Bool.and_eq_true]; exact ⟨h.1.1, a2⟩, by simp [a3]⟩
  | [], _ :: _, h => simp [chkEs] at h
  | _ :: _, [], h => simp [chkEs] at h
theorem snd_chkP (ih : Snd cf n) {X : Cx} {sc : Scope} {C : Nat → Value} {Wx : WX} {call : Nat → List D → W → R D} {k : Nat} {o : Option Expr} {E : E} (O : CxOk cf X sc C Wx call k) (h : chkP cf (n + 1) sc o E = true) : PO X o (tO C Wx fun ρ w => partR E (ev call E ρ w)) := by
  cases o with
  | none =>
    cases E <;> first | (simp [chkP] at h; done) | exact evo po_noneD fun _ _ => rfl
  | some e =>
    simp only [chkP, Bool.and_eq_true] at h
    have := po_someD (ih.e O h.2)
    cases E <;> first | (simp at h; done) | exact evo this fun _ _ => rfl
theorem snd_ct (ih : Snd cf n) {X : Cx} {sc : Scope} {C : Nat → Value} {Wx : WX} {call : Nat → List D → W → R D} {k : Nat} {E : E} {a : Expr} {ops : List CmpOp} {bs : List Expr} {pos : Pos} (O : CxOk cf X sc C Wx call k) (h : chkE cf (n + 1) sc (.Compare a ops bs pos) E = true) : PT X (.Compare a ops bs pos) (tT C Wx (ev call E)) := by
  simp only [chkE, Bool.and_eq_true] at h
  obtain ⟨hok, h⟩ := h
  cases E with
  | cmp o x y =>
    simp only at h
    split at h
    · rename_i q
      cases q
      simp only [Bool.and_eq_true] at h
      exact evt (pt_cmpD (cm_ok O.un h.1.1) (ih.e O h.1.2) (ih.e O h.2) (marks_ok (chkE_ok h.2))) fun _ _ => rfl
    · cases h
  | chn o1 o2 x y z =>
    simp only at h
    split at h
    · rename_i q
      cases q
      simp only [Bool.and_eq_true] at h
      exact evt (pt_chnD (cm_ok O.un h.1.1.1.1) (cm_ok O.un h.1.1.1.2) (ih.e O h.1.1.2) (ih.e O h.1.2) (ih.e O h.2) (marks_ok (chkE_ok h.2))) fun _ _ => rfl
    · cases h
  | isb ng o x =>
    simp only at h
    split at h
    · rename_i q
      cases q
      simp only [Bool.and_eq_true, decide_eq_true_eq] at h
      obtain ⟨⟨h1, h2⟩, h3⟩ := h
      subst h1 h2
      exact evt (pt_isD (ih.e O h3)) fun _ _ => rfl
    · cases h
  | inK ng x ks =>
    simp only at h
    split at h
    · rename_i q
      cases q
      simp only [Bool.and_eq_true, decide_eq_true_eq] at h
      obtain ⟨⟨⟨⟨h1, h2⟩, h3⟩, h4⟩, h5⟩ := h
      subst h1
      obtain ⟨ad, hm, hk⟩ := O.gt _ _ h4
      exact evt (pt_inKD (O.gl h2) hm hk (nmB_of h3).1 (ih.e O h5)) fun _ _ => rfl
    · cases h
  | fN i =>
    simp only at h
    split at h
    · rename_i q
      cases q
      simp only [Bool.and_eq_true, decide_eq_true_eq] at h
      obtain ⟨⟨⟨⟨⟨h0, h1⟩, h5⟩, h2⟩, h3⟩, h4⟩ := h
      subst h1 h5
      exact evt (pt_fN (by have := O.un; omega) (O.fit.c h0) (by rw [O.N]; exact h2) (by rw [O.sc]; exact visB_of h3) (nmB_of h4).1 (nmB_of h4).2.1) fun ρ w => by simp only [ev]
    · cases h
  | stk => exact evt pt_stuck fun ρ w => by simp only [ev]
  | _ => simp at h
theorem snd_chkT (ih : Snd cf n) {X : Cx} {sc : Scope} {C : Nat → Value} {Wx : WX} {call : Nat → List D → W → R D} {k : Nat} {e : Expr} {E : E} (O : CxOk cf X sc C Wx call k) (h : chkT cf (n + 1) sc e E = true) : PT X e (tT C Wx (ev call E)) := by
  simp only [chkT, Bool.and_eq_true] at h
  obtain ⟨h1, h2⟩ := h
  split at h2
  · exact evt (pt_notD (ih.t O h2)) fun _ _ => rfl
  · rename_i a r pos x y
    simp only [Bool.and_eq_true] at h2
    cases r with
    | nil => cases n <;> simp [chkTB] at h2
    | cons b r =>
      have hb : PW X (.BoolOp .And (b :: r) pos) _ := ih.tb (pos := pos) O h2.2
      exact PW.pt (evp (pw_andD (ih.t O h2.1) hb) fun _ _ => rfl)
  · rename_i a r pos x y
    simp only [Bool.and_eq_true] at h2
    cases r with
    | nil => cases n <;> simp [chkTB] at h2
    | cons b r =>
      have hb : PW X (.BoolOp .Or (b :: r) pos) _ := ih.tb (pos := pos) O h2.2
      exact PW.pt (evp (pw_orD (ih.t O h2.1) hb) fun _ _ => rfl)
  · exact ih.ct O h1
  · exact pt_valD (ih.e O h1) h2
theorem enm_eq {call : Nat → List D → W → R D} (x : E) (ρ : SF.Env) (w : W) : ((ev call (.enm x) ρ w).bind fun x w => opt (itemsD x) w) = (ev call x ρ w).bind fun x w => match x with | .lst xs => .ok (enumL 0 xs) w | _ => .bad := by
  simp only [ev]
  cases ev call x ρ w with
  | ok d w1 => cases d <;> rfl
  | exc c w1 => rfl
  | bad => rfl
theorem enmT_eq {call : Nat → List D → W → R D} (x : E) (ρ : SF.Env) (w : W) : ((ev call (.enmT x) ρ w).bind fun x w => opt (itemsD x) w) = (ev call x ρ w).bind fun x w => match x with | .tup xs => .ok (enumL 0 xs) w | _ => .bad := by
  simp only [ev]
  cases ev call x ρ w with
  | ok d w1 => cases d <;> rfl
  | exc c w1 => rfl
  | bad => rfl
theorem chars_eq {call : Nat → List D → W → R D} (x : E) (ρ : SF.Env) (w : W) : ((ev call (.chars x) ρ w).bind fun x w => opt (itemsD x) w) = (ev call x ρ w).bind fun x w => opt (charsD x) w := by
  simp only [ev]
  cases ev call x ρ w with
  | ok d w1 => cases d <;> rfl
  | exc c w1 => rfl
  | bad => rfl
theorem snd_chkI (ih : Snd cf n) {X : Cx} {sc : Scope} {C : Nat → Value} {Wx : WX} {call : Nat → List D → W → R D} {k : Nat} {tg e : Expr} {E : E} (O : CxOk cf X sc C Wx call k) (h : chkI cf (n + 1) sc tg e E = true) : PI X tg e (tI C Wx fun ρ w => (ev call E ρ w).bind fun x w => opt (itemsD x) w) := by
  simp only [chkI] at h
  split at h
  · rename_i x y z
    have key : ∀ {x' y' z' : E}, ∀ ρ w, ((ev call (.rng x' y' z') ρ w).bind fun x w => opt (itemsD x) w) = fRng (ev call x') (ev call y') (ev call z') ρ w := by
      intro x' y' z' ρ w
      simp only [ev, fRng]
      cases h1 : ev call x' ρ w with
      | ok a w1 =>
        simp only [bind_ok]
        cases h2 : ev call y' ρ w1 with
        | ok b w2 =>
          simp only [bind_ok]
          cases h3 : ev call z' ρ w2 with
          | ok c w3 =>
            simp only [bind_ok]
            cases a <;> cases b <;> cases c <;> simp only [bind_bad]
            rename_i i j q
            cases rangeL i j q <;> rfl
          | exc c w3 => rfl
          | bad => rfl
        | exc c w2 => rfl
        | bad => rfl
      | exc c w1 => rfl
      | bad => rfl
    split at h
    · simp only [Bool.and_eq_true, decide_eq_true_eq] at h
      obtain ⟨⟨⟨⟨⟨h1, h2⟩, h3⟩, h4⟩, h5⟩, h6⟩ := h
      split at h4
      · split at h5
        · exact evi (pi_rng1D h1 (O.gl h2) (by rw [h1]; exact O.blt _ (by decide)) (ih.e O h6) h3) fun ρ w => key ρ w
        · cases h5
      · cases h4
    · simp only [Bool.and_eq_true, decide_eq_true_eq] at h
      obtain ⟨⟨⟨⟨⟨⟨h1, h2⟩, h3⟩, h3b⟩, h5⟩, h6⟩, h7⟩ := h
      split at h5
      · exact evi (pi_rng2D h1 (O.gl h2) (by rw [h1]; exact O.blt _ (by decide)) (ih.e O h6) h3 (ih.e O h7) h3b) fun ρ w => key ρ w
      · cases h5
    · simp only [Bool.and_eq_true, decide_eq_true_eq] at h
      obtain ⟨⟨⟨⟨⟨⟨⟨h1, h2⟩, h3⟩, h3b⟩, h3c⟩, h6⟩, h7⟩, h8⟩ := h
      exact evi (pi_rng3D h1 (O.gl h2) (by rw [h1]; exact O.blt _ (by decide)) (ih.e O h6) h3 (ih.e O h7) h3b (ih.e O h8) h3c) fun ρ w => key ρ w
    · cases h
  · split at h
    · simp only [Bool.and_eq_true, decide_eq_true_eq] at h
      obtain ⟨⟨⟨h1, h2⟩, h3⟩, h6⟩ := h
      exact evi (pi_enmD h1 (O.gl h2) (by rw [h1]; exact O.blt _ (by decide)) (ih.e O h6) h3) fun ρ w => enm_eq _ ρ w
    · cases h
  · split at h
    · simp only [Bool.and_eq_true, decide_eq_true_eq] at h
      obtain ⟨⟨⟨h1, h2⟩, h3⟩, h6⟩ := h
      exact evi (pi_enmTD h1 (O.gl h2) (by rw [h1]; exact O.blt _ (by decide)) (ih.e O h6) h3) fun ρ w => enmT_eq _ ρ w
    · cases h
  · exact evi (pi_charsD (ih.e O h)) fun ρ w => chars_eq _ ρ w
  · exact pi_seqD (ih.e O h)
theorem snd_all (cf : Cfg) : ∀ n, Snd cf n
  | 0 => by
    constructor <;> intros <;> rename_i h <;> first | (simp [chkE] at h; done) | (simp [chkB] at h; done) | (simp [chkEs] at h; done) | (simp [chkP] at h; done) | (simp [chkT] at h; done) | (simp [chkTB] at h; done) | (simp [chkI] at h; done)
  | n + 1 => ⟨snd_chkE (snd_all cf n), snd_chkB (snd_all cf n), snd_chkEs (snd_all cf n), snd_chkP (snd_all cf n), snd_chkT (snd_all cf n), snd_chkTB (snd_all cf n), snd_ct (snd_all cf n), snd_chkI (snd_all cf n)⟩
end
end SF

namespace SF
open PySem L2
/-! ### how a, b = x, y is stored -/
def isTup : Expr → Bool
  | .Tuple .. => true
  | _ => false
theorem sw_other {ts : List Expr} {k : Nat} {p : Pos} {value : Expr} {env : PySem.Env} (h : isTup value = false) : swappedStores [.Tuple ts k p] value env = pure none := by
  cases value <;> first | (simp [isTup] at h; done) | rfl
def swNames (sc : Scope) (ts : List Expr) : List Str := ts.filterMap fun
  | .Name id pos => if sc.names.lookup id == some .local && pos.line == (ts.head?.map (·.pos.line)).getD 0 then some id else none
  | _ => none
def starAny (vs : List Expr) : Bool := vs.any fun | .Starred .. => true | _ => false
/-- what the stores of a, b = x, y are: none: one after another; some: swapped -/
def swR (sc : Scope) (ts vs : List Expr) : Option (Option (List Str)) :=
  if (!(ts.length == 2 || ts.length == 3) || vs.length != ts.length) = true then some none
  else if starAny vs = true then some none
  else if ((swNames sc ts).length != ts.length || (swNames sc ts).eraseDups.length != (swNames sc ts).length) = true then some none
  else if vs.all (foldedForSure 8) = true then some none
  else if vs.all (constantsAlone 8) = true then none
  else some (some (swNames sc ts))
theorem swR_ok {sc : Scope} {ts vs : List Expr} {k1 k2 : Nat} {p1 p2 : Pos} {env : PySem.Env} {r : Option (List Str)} (hs : env.scope = sc) (hf : sc.kind = .function) (h : swR sc ts vs = some r) : swappedStores [.Tuple ts k1 p1] (.Tuple vs k2 p2) env = pure r := by
  have hk : env.blockKind = .function := by unfold Env.blockKind; rw [hs, hf]; rfl
  have hnn : (ts.filterMap fun
    | .Name id pos => if env.kindOf id == some .local && pos.line == (ts.head?.map (·.pos.line)).getD 0 then some id else none
    | _ => none) = swNames sc ts := by
    unfold swNames
    congr 1
    funext x
    cases x <;> try rfl
    rename_i id pos
    show (if env.scope.names.lookup id == _ && _ then _ else _) = _
    rw [hs]
  unfold swR at h
  show (do
    if !(ts.length == 2 || ts.length == 3) || vs.length != ts.length || env.blockKind != .function then return none
    if vs.any fun | .Starred .. => true | _ => false then return none
    let line := (ts.head?.map (·.pos.line)).getD 0
    let names := ts.filterMap fun
      | .Name id pos => if env.kindOf id == some .local && pos.line == line then some id else none
      | _ => none
    if names.length != ts.length || names.eraseDups.length != names.length then return none
    if vs.all (foldedForSure 8) then return none
    if vs.all (constantsAlone 8) then unsupported "assign.tuple-of-constant-expressions:order-of-the-stores"
    return some names : Sem (Option (List Str))) = pure r
  dsimp only
  rw [hnn, hk]
  have hb : (ScopeKind.function != ScopeKind.function) = false := by decide
  rw [hb, Bool.or_false]
  split at h
  · rename_i c
    cases h
    rw [if_pos c]
  · rename_i c
    rw [if_neg c]
    split at h
    · rename_i c2
      cases h
      exact if_pos c2
    · rename_i c2
      refine (if_neg c2).trans ?_
      split at h
      · rename_i c3
        cases h
        rw [if_pos c3]
      · rename_i c3
        rw [if_neg c3]
        split at h
        · rename_i c4
          cases h
          rw [if_pos c4]
        · rename_i c4
          rw [if_neg c4]
          split at h
          · cases h
          · rename_i c5
            cases h
            rw [if_neg c5]
/-! ### statements -/
theorem ip_ok {X : Cx} {op : Operator} {o : Op} (h : (match op, o with | .Add, .add => true | .Sub, .sub => true | _, _ => false) = true) : PIp X op (rD (augD o)) := by
  intro pins s σ H x y v u Q I rx ry q
  obtain ⟨_, B, P, w, d1, d2, d, W, F, r1, r2, e, k⟩ := q
  cases op <;> cases o <;> first | (simp at h; done) | skip
  · cases r1 with
    | int i =>
      cases r2 <;> simp [augD] at e
      subst e
      exact ip_add pins s σ H _ _ v u Q I rx ry ⟨_, _, rfl, rfl, k _ H (Ext.refl B H) W (.int _)⟩
    | tup h1 s1 => exact ip_addTD I rx ry W F h1 s1 r2 e k
    | _ => simp [augD] at e
  · cases r1 <;> cases r2 <;> simp [augD] at e
    subst e
    exact ip_sub pins s σ H _ _ v u Q I rx ry ⟨_, _, rfl, rfl, k _ H (Ext.refl B H) W (.int _)⟩
def isLc : Expr → Bool
  | .ListComp .. => true
  | .SetComp .. => true
  | .DictComp .. => true
  | _ => false
theorem sw_no {e : Expr} {t : Option Expr} {l : Nat} {env : PySem.Env} (h : isLc e = false) : swapsWith e t l env = pure false := by
  cases e <;> first | (simp [isLc] at h; done) | rfl
theorem sw_tup {e : Expr} {ts : List Expr} {k : Nat} {p : Pos} {l : Nat} {env : PySem.Env} : swapsWithSole [.Tuple ts k p] e l env = pure false := by
  show swapsWith e (some (.Tuple ts k p)) l env = _
  cases e <;> rfl
theorem sw_cell {elt : Expr} {gs : List Comprehension} {scope : Scope} {pos py : Pos} {y : Str} {l : Nat} {env : PySem.Env} (hy : env.scope.names.lookup y = some .cell) : swapsWith (.ListComp elt gs scope pos) (some (.Name y py)) l env = pure false := by
  have ky : env.kindOf y = some .cell := hy
  unfold swapsWith
  simp only [ky]
  cases env.blockKind == .function <;> rfl
def isNew : E → Bool
  | .lst _ => true
  | .dnil _ => true
  | .blt .list [_] => true
  | .done .. => true
  | _ => false
/-- x, y = [], [], the first owned -/
def fParE (i j : Nat) (hd : List Nat) : EvS := fun ρ w => .ok (.nx (((freezeAt hd 0 ρ).set i (.ow (.lst []))).set j (.sh (.lst [])))) w
theorem parE_read {C : Nat → Value} {Wx : WX} {D : Ends} {σ : L2.St} {H : Hp} {i j : Nat} {hd : List Nat} (h : tSD C Wx (fParE i j hd) D σ H) : tPar i j (tCons (tLst tNil) (tCons (tLst tNil) tNil)) D σ H := by
  obtain ⟨B, F, H0, ρ, w, S, G⟩ := h
  refine ⟨by simp, fun p hp => ⟨by simp, fun q hq => ⟨_, _, rfl, G _ _ ?_⟩⟩⟩
  have S1 := (S.freeze hd).setOwn (i := i) (d := .lst []) (Ext.new (o := .lst []) hp) (S.w.new hp) hp ⟨[], upd_same, .nil⟩
  have S2 := S1.ext (Ext.new (o := .lst []) hq) (S1.w.new hq)
  refine S2.set (.lst ?_ upd_same .nil)
  rintro (z | ⟨k, d, _, z1, z2⟩)
  · exact S1.f.new hq z
  · obtain ⟨l, q1, _, _, q2⟩ := S1.own k d z1
    rw [z2] at q1
    cases q1
    obtain ⟨o, q3, _⟩ := q2.has
    rw [hq] at q3
    cases q3
section
variable (cf : Cfg)
mutual
def chkS : Nat → Scope → Stmt → S → Bool
  | 0, _, _, _ => false
  | n + 1, sc, st, S => match S with
    | .asg i e own hd => match st with
      | .Assign [.Name x py] ex _ => decide (cf.N[i]? = some x) && locB sc x && chkE cf n sc ex e &&
          (match ex with
          | .ListComp _ [⟨_, _, _, _⟩] scope lp => (match e with | .lc .. => true | _ => false) && (match sc.names.lookup x with
            | some .local => (py.line == lp.line) && !(scope.names.any fun (m, k) => m == x && (k == .local || k == .cell))
            | some .cell => !own
            | _ => false)
          | _ => !isLc ex && (!own || isNew e))
      | _ => false
    | .asgT is e hd => match st with
      | .Assign [.Tuple ts _ _] ex _ => chkTg cf.N sc (fun _ => true) (.Tuple ts 0 ⟨0, 0, 0, 0⟩) (.tp is) && chkE cf n sc ex e &&
          (match ex with
          | .Tuple vs _ _ => (match swR sc ts vs with | some none => true | _ => false)
          | _ => true)
      | _ => false
    | .par i j a b hd => match st with
      | .Assign [.Tuple [.Name x px, .Name y py] kt pt] (.Tuple [ea, eb] _ _) _ => decide (cf.N[i]? = some x) && decide (cf.N[j]? = some y) && decide (i ≠ j) && decide (sc.names.lookup x = some .local) && decide (sc.names.lookup y = some .local) &&
          decide (swR sc [.Name x px, .Name y py] [ea, eb] = some (some [x, y])) && chkE cf n sc ea a && chkE cf n sc eb b
      | _ => false
    | .parE i j hd => match st with
      | .Assign [.Tuple [.Name x px, .Name y py] kt pt] (.Tuple [.List [] pa, .List [] pb] _ _) _ => decide (cf.N[i]? = some x) && decide (cf.N[j]? = some y) && decide (i ≠ j) && decide (sc.names.lookup x = some .local) && decide (sc.names.lookup y = some .local) &&
          decide (swR sc [.Name x px, .Name y py] [.List [] pa, .List [] pb] = some (some [x, y]))
      | _ => false
    | .aug i o e => match st with
      | .AugAssign (.Name x _) op ex _ => decide (cf.N[i]? = some x) && locB sc x && (match op, o with | .Add, .add => true | .Sub, .sub => true | _, _ => false) && chkE cf n sc ex e
      | _ => false
    | .ext i e => match st with
      | .AugAssign (.Name x _) .Add ex _ => decide (cf.N[i]? = some x) && locB sc x && chkE cf n sc ex e
      | _ => false
    | .app i e => match st with
      | .Expr (.Call (.Attribute (.Name x _) m apos) [ex] [] cpos) _ => decide (m = "append") && decide (cf.N[i]? = some x) && visB sc x && nmB x && (apos.endLine == cpos.line) && chkE cf n sc ex e
      | _ => false
    | .set i k e => match st with
      | .Assign [.Subscript (.Name x _) kx _] ex _ => decide (cf.N[i]? = some x) && visB sc x && nmB x && chkE cf n sc kx k && chkE cf n sc ex e
      | _ => false
    | .rem i e => match st with
      | .Expr (.Call (.Attribute (.Name x _) m apos) [ex] [] cpos) _ => decide (m = "remove") && decide (cf.N[i]? = some x) && visB sc x && nmB x && (apos.endLine == cpos.line) && chkE cf n sc ex e
      | _ => false
    | .exp e => match st with
      | .Expr ex _ => !isLc ex && chkE cf n sc ex e
      | _ => false
    | .ife c a b => match st with
      | .If cx xs ys _ => chkT cf n sc cx c && chkSs n sc xs a && chkSs n sc ys b
      | _ => false
    | .for tg it hd body => match st with
      | .For tgE iter bx [] _ => chkTg cf.N sc (fun _ => true) tgE tg && chkI cf n sc tgE iter it && okE iter && chkSs n sc bx body
      | _ => false
    | .forK tg i hd body => match st with
      | .For tgE (.Name x _) bx [] _ => chkTg cf.N sc (fun _ => true) tgE tg && decide (cf.N[i]? = some x) && visB sc x && nmB x && chkSs n sc bx body
      | _ => false
    | .whl c body => match st with
      | .While cx bx [] _ => chkT cf n sc cx c && chkSs n sc bx body
      | _ => false
    | .ret e => match st with
      | .Return (some ex) _ => chkE cf n sc ex e
      | _ => false
    | .retN => match st with
      | .Return none _ => true
      | _ => false
    | .raise c => match st with
      | .Raise (some (.Call (.Name x _) [.Constant (.str _) _ _] [] _)) none _ => glB sc x && nmB x && decide (cf.excs.lookup x = some c)
      | _ => false
    | .tryE bd c i su => match st, su with
      | .Try bx [.ExceptHandler (some (.Name x _)) (some nm) [.Assign [.Name y _] (.Name nm' _) _] _] [] [] _, [.asg j (.var i') false []] =>
        decide (c = 0) && decide (i' = i) && decide (nm' = nm) && decide (cf.N[i]? = some nm) && decide (cf.N[j]? = some y) && decide (sc.names.lookup nm = some .local) && locB sc y && nmB nm && glB sc x && nmB x && decide (x = "FitError") && decide (cf.excs.lookup ("FitError" : Str) = some 0) && chkSs n sc bx bd
      | _, _ => false
    | .fApp i e => match st with
      | .Expr (.Call (.Attribute (.Attribute (.Name x _) a _) m apos) [ex] [] cpos) _ => cf.ft.isSome && decide (a = sSeries) && decide (m = "append") && decide (cf.N[i]? = some x) && visB sc x && nmB x && (apos.endLine == cpos.line) && chkE cf n sc ex e
      | _ => false
    | .fApR i j => match st with
      | .Expr (.Call (.Attribute (.Attribute (.Name x _) a _) m apos) [.Name y _] [] cpos) _ => cf.ft.isSome && decide (a = sRows) && decide (m = "append") && decide (cf.N[i]? = some x) && visB sc x && nmB x && decide (cf.N[j]? = some y) && visB sc y && nmB y && (apos.endLine == cpos.line)
      | _ => false
    | .fPpR i => match st with
      | .Expr (.Call (.Attribute (.Attribute (.Name x _) a _) m apos) [] [] cpos) _ => cf.ft.isSome && decide (a = sRows) && decide (m = "pop") && decide (cf.N[i]? = some x) && visB sc x && nmB x && (apos.endLine == cpos.line)
      | _ => false
    | .fEA f i e => match st with
      | .Expr (.Call (.Attribute (.Call (.Attribute (.Name x _) m ap) [] [] cp) m2 apos) [ex] [] cpos) _ => (match cf.ft with | some t => decide (t.je = some f) | none => false) && decide (m = "entries") && decide (m2 = "append") && decide (cf.N[i]? = some x) && visB sc x && nmB x && (apos.endLine == cpos.line) && (ap.endLine == cp.line) && chkE cf n sc ex e
      | _ => false
    | .asgX i f t it => match st with
      | .Assign [.Name x py] (.ListComp (.Call (.Name g _) [.Name v _] [] _) [⟨.Name v' pv, iter, [], asy⟩] scope lp) _ =>
        decide (asy = 0) && decide (v' = v) && decide (cf.N[i]? = some x) && decide (sc.names.lookup x = some .local) && (py.line == lp.line) && !(scope.names.any fun (m, k) => m == x && (k == .local || k == .cell)) && decide (cf.N[t]? = some v) && blkC cf.N sc scope [(v, t)] &&
          chkTg cf.N (relS scope sc) (fun x => scope.names.lookup x == some .cell) (.Name v' pv) (.nm t) && chkI cf n sc (.Name v' pv) iter it && okE iter && glB (relS scope sc) g && nmB g && decide (cf.fns.lookup g = some f) && visB (relS scope sc) v && nmB v
      | _ => false
    | .stk => true
    | _ => false
def chkSs : Nat → Scope → List Stmt → List S → Bool
  | 0, _, _, _ => false
  | _ + 1, _, [], [] => true
  | n + 1, sc, st :: r, s :: ss => match s, ss with
    | .newF f i none e rest, [] => (match st with
      | .Assign [.Name x _] (.Call (.Name g _) [b] [] _) _ => (match cf.ft with | some t => decide (t.jc = f) | none => false) && decide (g = "Fitter") && glB sc g && decide (cf.N[i]? = some x) && locB sc x && chkE cf n sc b e && chkSs n sc r rest
      | _ => false)
    | .newF f i (some j) e rest, [] => (match st with
      | .Assign [.Tuple [.Name x px, .Name y py] _ _] (.Tuple [.Call (.Name g pg) [b] [] pb, .List [] pl] _ _) _ => (match cf.ft with | some t => decide (t.jc = f) | none => false) && decide (g = "Fitter") && glB sc g && decide (cf.N[i]? = some x) && decide (cf.N[j]? = some y) && decide (i ≠ j) && decide (sc.names.lookup x = some .local) && decide (sc.names.lookup y = some .local) &&
          decide (swR sc [.Name x px, .Name y py] [.Call (.Name g pg) [b] [] pb, .List [] pl] = some (some [x, y])) && chkE cf n sc b e && chkSs n sc r rest
      | _ => false)
    | s, ss => chkS n sc st s && chkSs n sc r ss
  | _, _, _, _ => false
end
end
structure SOk (cf : Cfg) (X : Cx) (sc : Scope) (C : Nat → Value) (Wx : WX) (call : Nat → List D → W → R D) (k : Nat) : Prop where
  cx : CxOk cf X sc C Wx call k
  fn : ∀ x, X.fn x = true
  pass : PassesOwn (model X.prog X.w) X.A X.env X.xe
  kind : X.env.scope.kind = ScopeKind.function
  stk : X.stack = X.env :: X.outer
  frm : X.env.frame = some X.env.locals
theorem SOk.tr {cf : Cfg} {X : Cx} {sc : Scope} {C : Nat → Value} {Wx Wy : WX} {call : Nat → List D → SF.W → R D} {k : Nat} (O : SOk cf X sc C Wx call k) {pn : List (Addr × Obj)} {xe : Value → Shared → Prop} (tk : Takes (X.tr pn xe) Wy) (ps : PassesOwn (model X.prog X.w) X.A X.env xe) : SOk cf (X.tr pn xe) sc C Wy call k where
  cx := {
    N := O.cx.N
    nd := O.cx.nd
    sc := O.cx.sc
    calm := O.cx.calm
    room := O.cx.room
    tk := tk
    fns := O.cx.fns
    blt := O.cx.blt
    gi := O.cx.gi
    gs := O.cx.gs
    gt := O.cx.gt
    exc := O.cx.exc
    xs := O.cx.xs
    fit := O.cx.fit }
  fn := O.fn
  pass := ps
  kind := O.kind
  stk := O.stk
  frm := O.frm
theorem pe_listN1 {X : Cx} {C : Nat → Value} {Wx : WX} {fas : Ev (List D)} {pos : Pos} {x : Str} {p : Pos} : ∀ {es : List Expr}, es.length = 1 → Gl X x → X.mg x = none → x = "list" → PA X es (tAs C Wx fas) → es.all okE = true → PE X (.Call (.Name x p) es [] pos) (tN C Wx fun ρ w => (fas ρ w).bind fun xs w => opt (bltD .list xs) w)
  | [e], _, hg, hm, hx, ha, he => pe_listN hg hm hx ha (by simpa using he)
  | [], h, _, _, _, _, _ => by simp at h
  | _ :: _ :: _, h, _, _, _, _, _ => by simp at h
theorem evS {X : Cx} {st : Stmt} {C : Nat → Value} {Wx : WX} {f g : EvS} (p : PS X st (tSD C Wx f)) (h : ∀ ρ w, g ρ w = f ρ w) : PS X st (tSD C Wx g) := by
  have : g = f := funext fun ρ => funext fun w => h ρ w
  rw [this]
  exact p
theorem evSs {X : Cx} {st : List Stmt} {C : Nat → Value} {Wx : WX} {f g : EvS} (p : PSs X st (tSD C Wx f)) (h : ∀ ρ w, g ρ w = f ρ w) : PSs X st (tSD C Wx g) := by
  have : g = f := funext fun ρ => funext fun w => h ρ w
  rw [this]
  exact p
structure SndS (cf : Cfg) (n : Nat) : Prop where
  s : ∀ {X sc C Wx call k st s}, SOk cf X sc C Wx call k → chkS cf n sc st s = true → PS X st (tSD C Wx (ex call s))
  ss : ∀ {X sc C Wx call k st s}, SOk cf X sc C Wx call k → chkSs cf n sc st s = true → PSs X st (tSD C Wx (exs call s))
/-- new objects -/
theorem new_ok {cf : Cfg} {n : Nat} {X : Cx} {sc : Scope} {C : Nat → Value} {Wx : WX} {call : Nat → List D → W → R D} {k : Nat} {e : Expr} {E : E} (O : CxOk cf X sc C Wx call k) (h : chkE cf n sc e E = true) (hn : isNew E = true) : PE X e (tN C Wx (ev call E)) := by
  cases n with
  | zero => simp [chkE] at h
  | succ n =>
    have ih := snd_all cf n
    have fw : ∀ {f g : Ev D}, PE X e (tN C Wx f) → (∀ ρ w, g ρ w = f ρ w) → PE X e (tN C Wx g) := fun p h => by
      rw [show _ = _ from funext fun ρ => funext fun w => h ρ w]; exact p
    simp only [chkE, Bool.and_eq_true] at h
    obtain ⟨hok, h⟩ := h
    cases E with
    | lst xs =>
      simp only at h
      split at h
      · simp only [Bool.and_eq_true, decide_eq_true_eq] at h
        exact fw (pe_lstN (ih.es O h.2).1 (evs_lim h.1)) fun _ _ => rfl
      · cases h
    | dnil t =>
      simp only at h
      split at h
      · cases t with
        | true => exact fw pe_dnilT fun _ _ => rfl
        | false => exact fw pe_dnilK fun _ _ => rfl
      · cases h
    | done t x y =>
      simp only at h
      split at h
      · simp only [Bool.and_eq_true] at h
        cases t with
        | true => exact fw (pe_doneT (by have := O.un; omega) (ih.e O h.1) (ih.e O h.2)) fun _ _ => rfl
        | false => exact fw (pe_doneK (ih.e O h.1) (ih.e O h.2)) fun _ _ => rfl
      · cases h
    | blt b xs =>
      cases b <;> first | (simp [isNew] at hn; done) | skip
      simp only at h
      split at h
      · simp only [Bool.and_eq_true, decide_eq_true_eq] at h
        obtain ⟨⟨⟨h1, h2⟩, h3⟩, h5⟩ := h
        obtain ⟨a1, a2, a3⟩ := ih.es O h5
        simp only [bltNm, Option.some.injEq, Prod.mk.injEq] at h3
        obtain ⟨h3, -, hl⟩ := h3
        exact fw (pe_listN1 hl.symm (O.gl h1) (by rw [← h3]; exact O.blt _ (by decide)) h3.symm a1 a2) fun _ _ => rfl
      · cases h
    | _ => simp [isNew] at hn
theorem nomis {X : Cx} {is : List Nat} {ts : List Expr} {k : Nat} {p : Pos} {sc : Scope} {N : List Str} (hN : X.N = N) (hsc : X.env.scope = sc) (nd : X.N.Nodup) (hc : X.calm = true) (hfn : ∀ x, X.fn x = true) (h : chkTg N sc (fun _ => true) (.Tuple ts 0 ⟨0, 0, 0, 0⟩) (.tp is) = true) : PG X (.Tuple ts k p) (gTL X.K is) := by
  unfold chkTg at h
  simp only [Bool.and_eq_true, decide_eq_true_eq] at h
  have h2 := pgs_many (X := X) hN hsc nd (fun x _ => hfn x) ts is h.1 h.2
  have h3 := asgE_len (env := X.env) (nmAll_of ts is h.1 h.2)
  have g1 : PG X (.Tuple ts k p) (gTup X.K is.length (gNames is)) := pg_tup hc h2 (h3.1.trans h.1) h3.2
  have g2 : PG X (.Tuple ts k p) (gLst X.K is.length (gNames is)) := pg_lst hc h2 (h3.1.trans h.1) h3.2
  exact ⟨fun pins s σ H v u Q I r q => q.elim (g1.run pins s σ H v u Q I r) (g2.run pins s σ H v u Q I r)⟩
section
variable {cf : Cfg} {n : Nat} {X : Cx} {sc : Scope} {C : Nat → Value} {Wx : WX} {call : Nat → List D → W → R D} {k : Nat}
theorem snd_chkS (ih : SndS cf n) {st : Stmt} {s : S} (O : SOk cf X sc C Wx call k) (h : chkS cf (n + 1) sc st s = true) : PS X st (tSD C Wx (ex call s)) := by
  have ie := snd_all cf n
  have hsc := O.cx.sc
  have hnm : ∀ {i : Nat} {x : Str}, cf.N[i]? = some x → X.N[i]? = some x := fun h => by rw [O.cx.N]; exact h
  have hlc : ∀ {x : Str}, locB sc x = true → L2.Loc X.env.scope x := fun h => by rw [hsc]; exact locB_of h
  simp only [chkS] at h
  cases s with
  | asg i e own hd =>
    simp only at h
    split at h
    · rename_i x py vx pos
      simp only [Bool.and_eq_true, decide_eq_true_eq] at h
      obtain ⟨⟨⟨h1, h2⟩, h3⟩, h4⟩ := h
      split at h4
      · rename_i elt tgE iter ifs asy scope lp
        rw [Bool.and_eq_true] at h4
        obtain ⟨h4a, h4⟩ := h4
        cases n with
        | zero => simp [chkE] at h3
        | succ n =>
          have ie' := snd_all cf n
          have h3' := h3
          simp only [chkE, Bool.and_eq_true] at h3
          obtain ⟨-, h3⟩ := h3
          cases e with
          | lc xx tg it cd ow =>
            simp only at h3
            obtain ⟨q1, q2, L⟩ := lc_parts ie' O.cx rfl h3
            subst q1
            split at h4
            · rename_i hl
              simp only [Bool.and_eq_true, Bool.not_eq_true'] at h4
              have := ps_asgLc (hd := hd) (spos := pos) (py := py) O.cx.calm O.cx.nd (hnm h1) (by rw [hsc]; exact hl) (sw_true O.kind (by rw [hsc]; exact hl) h4.1 h4.2) L.hi L.ok L.hg L.ht L.he L.hs (tgG_read X.K tg) L.hto own
              refine evS this fun ρ w => ?_
              rw [q2]
              cases own with
              | true => simp only [ex, if_true, fAsgO, lc_eq]
              | false => simp only [ex, if_false, fAsg, lc_eq, Bool.false_eq_true]
            · rename_i hl
              have ho : own = false := by simpa using h4
              subst ho
              exact evS (ps_asgD (hd := hd) O.cx.nd (hnm h1) (hlc h2) (ie.e O.cx h3') (sw_cell (by rw [hsc]; exact hl)) (.inl (O.fn _))) fun ρ w => by simp only [ex, if_false, fAsg, Bool.false_eq_true]
            · cases h4
          | lcK _ _ _ _ _ => simp at h4a
          | stk => simp at h4a
          | _ => simp at h3
      · simp only [Bool.and_eq_true, Bool.not_eq_true', Bool.or_eq_true] at h4
        cases own with
        | false => exact evS (ps_asgD (hd := hd) O.cx.nd (hnm h1) (hlc h2) (ie.e O.cx h3) (sw_no h4.1) (.inl (O.fn _))) fun ρ w => by simp only [ex, if_false, fAsg, Bool.false_eq_true]
        | true =>
          rcases h4.2 with z | z
          · cases z
          · exact evS (ps_asgOD (hd := hd) O.cx.nd (hnm h1) (hlc h2) (new_ok O.cx h3 z) (sw_no h4.1) (.inl (O.fn _))) fun ρ w => by simp only [ex, if_true, fAsgO]
    · cases h
  | asgT is e hd =>
    simp only at h
    split at h
    · rename_i ts k1 p1 vx pos
      simp only [Bool.and_eq_true] at h
      obtain ⟨⟨h1, h2⟩, h3⟩ := h
      refine evS (ps_asgTD (hd := hd) (nomis O.cx.N hsc O.cx.nd O.cx.calm O.fn h1) (ie.e O.cx h2) sw_tup ?_ rfl) fun ρ w => by first | (simp only [ex]; done) | (simp only [ex]; rfl)
      split at h3
      · split at h3
        · rename_i hz
          exact swR_ok hsc (by rw [← hsc]; exact O.kind) hz
        · cases h3
      · rename_i hz
        refine sw_other ?_
        cases vx <;> first | rfl | exact absurd rfl (hz _ _ _)
    · cases h
  | par i j a b hd =>
    simp only at h
    split at h
    · simp only [Bool.and_eq_true, decide_eq_true_eq] at h
      obtain ⟨⟨⟨⟨⟨⟨⟨h1, h2⟩, h3⟩, h4⟩, h5⟩, h6⟩, h7⟩, h8⟩ := h
      refine evS (f := fPar i j (ev call a) (ev call b) hd) ?_ fun ρ w => by simp only [ex, fPar]
      exact (ps_par O.cx.calm O.cx.nd (hnm h1) (hnm h2) h3 (by rw [hsc]; exact h4) (by rw [hsc]; exact h5) (pa_cons (ie.e O.cx h7) (pa_cons (ie.e O.cx h8) pa_nil (star_ok (chkE_ok h8))) (star_ok (chkE_ok h7))) (swR_ok hsc (by rw [← hsc]; exact O.kind) h6) sw_tup).imp fun D σ H h => par_read (hd := hd) h
    · cases h
  | parE i j hd =>
    simp only at h
    split at h
    · simp only [Bool.and_eq_true, decide_eq_true_eq] at h
      obtain ⟨⟨⟨⟨⟨h1, h2⟩, h3⟩, h4⟩, h5⟩, h6⟩ := h
      refine evS (f := fParE i j hd) ?_ fun ρ w => by simp only [ex, fParE]
      exact (ps_par O.cx.calm O.cx.nd (hnm h1) (hnm h2) h3 (by rw [hsc]; exact h4) (by rw [hsc]; exact h5) (pa_cons (pe_lst pa_nil) (pa_cons (pe_lst pa_nil) pa_nil)) (swR_ok hsc (by rw [← hsc]; exact O.kind) h6) sw_tup).imp fun D σ H h => parE_read (hd := hd) h
    · cases h
  | aug i o e =>
    simp only at h
    split at h
    · simp only [Bool.and_eq_true, decide_eq_true_eq] at h
      obtain ⟨⟨⟨h1, h2⟩, h3⟩, h4⟩ := h
      exact evS (ps_augD O.cx.nd (hnm h1) (hlc h2) (ie.e O.cx h4) (ip_ok h3) (.inl (O.fn _))) fun ρ w => by first | (simp only [ex]; done) | (simp only [ex]; rfl)
    · cases h
  | ext i e =>
    simp only at h
    split at h
    · simp only [Bool.and_eq_true, decide_eq_true_eq] at h
      exact evS (ps_extD O.cx.nd (hnm h.1.1) (hlc h.1.2) (ie.e O.cx h.2) (.inl (O.fn _))) fun ρ w => by first | (simp only [ex]; done) | (simp only [ex]; rfl)
    · cases h
  | app i e =>
    simp only at h
    split at h
    · simp only [Bool.and_eq_true, decide_eq_true_eq] at h
      obtain ⟨⟨⟨⟨⟨h1, h2⟩, h3⟩, h4⟩, h5⟩, h6⟩ := h
      subst h1
      exact evS (ps_appD (hnm h2) (by rw [hsc]; exact visB_of h3) (nmB_of h4).1 (nmB_of h4).2.1 (ie.e O.cx h6) (chkE_ok h6) h5) fun ρ w => by first | (simp only [ex]; done) | (simp only [ex]; rfl)
    · cases h
  | set i k e =>
    simp only at h
    split at h
    · simp only [Bool.and_eq_true, decide_eq_true_eq] at h
      obtain ⟨⟨⟨⟨h1, h2⟩, h3⟩, h4⟩, h5⟩ := h
      exact evS (ps_setD (by have := O.cx.un; omega) (hnm h1) (by rw [hsc]; exact visB_of h2) (nmB_of h3).1 (nmB_of h3).2.1 (ie.e O.cx h5) (ie.e O.cx h4) (chkE_ok h4)) fun ρ w => by first | (simp only [ex]; done) | (simp only [ex]; rfl)
    · cases h
  | rem i e =>
    simp only at h
    split at h
    · simp only [Bool.and_eq_true, decide_eq_true_eq] at h
      obtain ⟨⟨⟨⟨⟨h1, h2⟩, h3⟩, h4⟩, h5⟩, h6⟩ := h
      subst h1
      exact evS (ps_remD O.cx.un (hnm h2) (by rw [hsc]; exact visB_of h3) (nmB_of h4).1 (nmB_of h4).2.1 (ie.e O.cx h6) (chkE_ok h6) h5) fun ρ w => by first | (simp only [ex]; done) | (simp only [ex]; rfl)
    · cases h
  | exp e =>
    simp only at h
    split at h
    · simp only [Bool.and_eq_true, Bool.not_eq_true'] at h
      exact evS (ps_expD (ie.e O.cx h.2) (sw_no h.1)) fun ρ w => by simp only [ex]
    · cases h
  | ife c a b =>
    simp only at h
    split at h
    · simp only [Bool.and_eq_true] at h
      exact evS (ps_ifD (ie.t O.cx h.1.1) (ih.ss O h.1.2) (ih.ss O h.2)) fun ρ w => by first | (simp only [ex]; done) | (simp only [ex]; rfl)
    · cases h
  | «for» tg it hd body =>
    simp only at h
    split at h
    · simp only [Bool.and_eq_true] at h
      obtain ⟨⟨⟨h1, h2⟩, h3⟩, h4⟩ := h
      refine evS (ps_forD (hd := hd) O.pass O.cx.calm (ie.i O.cx h2) (chkTg_ok O.cx.N hsc O.cx.nd O.cx.calm (fun x _ => O.fn x) h1) (ih.ss O h4) h3 (tgG_read X.K tg)) fun ρ w => ?_
      simp only [ex, fFor]
      cases ev call it (hide ρ hd) w with
      | ok d w1 =>
        simp only [st_ok, bind_ok]
        cases itemsD d with
        | none => rfl
        | some xs => rfl
      | exc c w1 => rfl
      | bad => rfl
    · cases h
  | forK tg i hd body =>
    simp only at h
    split at h
    · simp only [Bool.and_eq_true, decide_eq_true_eq] at h
      obtain ⟨⟨⟨⟨h1, h2⟩, h3⟩, h4⟩, h5⟩ := h
      refine evS (ps_forKD (hd := hd) O.pass O.cx.calm (hnm h2) (by rw [hsc]; exact visB_of h3) (nmB_of h4).1 (nmB_of h4).2.1 (chkTg_ok O.cx.N hsc O.cx.nd O.cx.calm (fun x _ => O.fn x) h1) (ih.ss O h5) (tgG_read X.K tg)) fun ρ w => ?_
      simp only [ex, fForK]
      cases getS (hide ρ hd) i with
      | none => rfl
      | some d => cases d <;> rfl
    · cases h
  | whl c body =>
    simp only at h
    split at h
    · simp only [Bool.and_eq_true] at h
      exact evS (ps_whlD O.pass (ie.t O.cx h.1) (ih.ss O h.2)) fun ρ w => by first | (simp only [ex]; done) | (simp only [ex]; rfl)
    · cases h
  | ret e =>
    simp only at h
    split at h
    · exact evS (ps_retD (ie.e O.cx h)) fun ρ w => by simp only [ex]
    · cases h
  | retN =>
    simp only at h
    split at h
    · exact evS ps_retND fun ρ w => by simp only [ex]
    · cases h
  | raise c =>
    simp only at h
    split at h
    · simp only [Bool.and_eq_true, decide_eq_true_eq] at h
      obtain ⟨⟨h1, h2⟩, h3⟩ := h
      obtain ⟨Ca, q0, q1, q2, q3, q4, q5⟩ := O.cx.exc _ _ h3
      refine (ps_raise O.cx.calm O.cx.tk (pmk_own PySem.F.excBase_ValueError q3 q1 q2 (raises_own q4 q5) (O.cx.gl h1) (nmB_of h2).1)).imp fun D σ H ⟨B, F, H0, ρ, w, S, G⟩ => ?_
      simp only [ex] at G
      have := G σ H S
      rw [q0] at this
      exact this
    · cases h
  | tryE bd c i su =>
    simp only at h
    split at h
    · simp only [Bool.and_eq_true, decide_eq_true_eq] at h
      obtain ⟨⟨⟨⟨⟨⟨⟨⟨⟨⟨⟨⟨h1, h2⟩, h3⟩, h4⟩, h5⟩, h6⟩, h7⟩, h8⟩, h9⟩, h10⟩, h11⟩, h12⟩, h13⟩ := h
      subst h1 h2 h3
      obtain ⟨Ca, z1, z2, _⟩ := O.cx.exc _ _ (h11 ▸ h12)
      refine evS (ps_tryD (O.cx.xs h12) O.stk O.frm O.cx.nd (by rw [O.cx.N]; exact h4) (by rw [O.cx.N]; exact h5) (show X.env.scope.names.lookup _ = _ by rw [O.cx.sc]; exact h6) (by rw [O.cx.sc]; exact locB_of h7) (O.fn _) ⟨O.cx.gl h9, (nmB_of h10).1, .inl (by rw [z1]; exact z2)⟩ O.cx.tk (nmB_of h8).1 (nmB_of h8).2.1 fun W pn xe tk ps => ih.ss (O.tr tk ps) h13) fun ρ w => ?_
      simp only [ex, fTry, if_true] <;> (rcases exs call bd ρ w with ⟨fl, w1⟩ | ⟨c, w1⟩ | _ <;> first | rfl | (cases fl <;> rfl))
    · cases h
  | fApp i e =>
    simp only at h
    split at h
    · simp only [Bool.and_eq_true, decide_eq_true_eq] at h
      obtain ⟨⟨⟨⟨⟨⟨⟨h0, h1⟩, h2⟩, h3⟩, h4⟩, h5⟩, h6⟩, h7⟩ := h
      subst h1 h2
      exact evS (ps_fApp (O.cx.fit.c h0) (hnm h3) (by rw [hsc]; exact visB_of h4) (nmB_of h5).1 (nmB_of h5).2.1 (ie.e O.cx h7) (chkE_ok h7) h6) fun ρ w => by first | (simp only [ex, fApE]; done) | (simp only [ex, fApE]; rfl)
    · cases h
  | fApR i j =>
    simp only at h
    split at h
    · simp only [Bool.and_eq_true, decide_eq_true_eq] at h
      obtain ⟨⟨⟨⟨⟨⟨⟨⟨⟨h0, h1⟩, h2⟩, h3⟩, h4⟩, h5⟩, h6⟩, h7⟩, h8⟩, h9⟩ := h
      subst h1 h2
      exact evS (ps_fApR (O.cx.fit.c h0) (hnm h3) (by rw [hsc]; exact visB_of h4) (nmB_of h5).1 (nmB_of h5).2.1 (hnm h6) (by rw [hsc]; exact visB_of h7) (nmB_of h8).1 (nmB_of h8).2.1 h9) fun ρ w => by first | (simp only [ex, fApRow]; done) | (simp only [ex, fApRow]; rfl)
    · cases h
  | fPpR i =>
    simp only at h
    split at h
    · simp only [Bool.and_eq_true, decide_eq_true_eq] at h
      obtain ⟨⟨⟨⟨⟨⟨h0, h1⟩, h2⟩, h3⟩, h4⟩, h5⟩, h6⟩ := h
      subst h1 h2
      exact evS (ps_fPpR (O.cx.fit.c h0) (hnm h3) (by rw [hsc]; exact visB_of h4) (nmB_of h5).1 (nmB_of h5).2.1 h6) fun ρ w => by first | (simp only [ex]; done) | (simp only [ex]; rfl)
    · cases h
  | fEA f i e =>
    simp only at h
    split at h
    · simp only [Bool.and_eq_true, decide_eq_true_eq] at h
      obtain ⟨⟨⟨⟨⟨⟨⟨⟨h0, h1⟩, h2⟩, h3⟩, h4⟩, h5⟩, h6⟩, h7⟩, h8⟩ := h
      subst h1 h2
      split at h0
      · rename_i t hft
        rw [decide_eq_true_eq] at h0
        obtain ⟨cf', c1, c2, -, -, -, -, -, -, -, he⟩ := O.cx.fit _ hft
        rcases he _ h0 with hb | ⟨ga, fd, ps, hk, m1, m2, m3⟩
        · refine evS ps_stuck fun ρ w => ?_
          simp only [ex, hb, isBad]
          simp
        · exact evS (ps_fEA (call := call) (j := f) c1 c2 m1 m3 (O.cx.room.mono hk) m2 O.cx.tk (hnm h3) (by rw [hsc]; exact visB_of h4) (nmB_of h5).1 (nmB_of h5).2.1 (ie.e O.cx h8) (chkE_ok h8) h6 h7) fun ρ w => by first | (simp only [ex, fEnt]; done) | (simp only [ex, fEnt]; rfl)
      · cases h0
    · cases h
  | asgX i f t it =>
    simp only at h
    split at h
    · rename_i x py g pg v pv pc v' pv' iter asy scope lp pos
      simp only [Bool.and_eq_true, decide_eq_true_eq, Bool.not_eq_true'] at h
      obtain ⟨⟨⟨⟨⟨⟨⟨⟨⟨⟨⟨⟨⟨⟨⟨h1, h2⟩, h3⟩, h4⟩, h5⟩, h6⟩, h7⟩, h8⟩, h9⟩, h10⟩, h11⟩, h12⟩, h13⟩, h14⟩, h15⟩, h16⟩ := h
      subst h1 h2
      obtain ⟨fa, fd, ps, q1, q2, q3, q4⟩ := O.cx.fns _ _ h14
      have hloc : X.env.scope.names.lookup x = some .local := by rw [hsc]; exact h4
      refine evS (f := fAsgX i f call fun ρ w => (ev call it ρ w).bind fun x w => opt (itemsD x) w) ?_ fun ρ w => ?_
      · have hB : ∀ (s : Shared) (H : Hp) (Ca : Addr) (cl : List (Str × Addr)) (fp : List Addr), (X.blk s H scope (compEnvC scope cl Ca X.env) fp).env.scope = relS scope sc := fun s H Ca cl fp => by rw [← hsc]; rfl
        have key := ps_setLcX (own := [(v', t)]) (Wx := Wx) (py := py) (spos := pos) (te := fun σ => tCallS (spF C call f) (WE fun cls d _ H => Wx cls d σ H) (tCons (tVar t) tNil)) O.cx.calm O.cx.nd (hnm h3) hloc (sw_true O.kind hloc h5 h6) O.stk O.frm O.cx.tk (ie.i O.cx h10) (by rw [O.cx.N, hsc]; exact blkOk_by h8)
          (fun s H Ca cl fp => chkTg_ok (X := X.blk s H scope (compEnvC scope cl Ca X.env) fp) O.cx.N (hB s H Ca cl fp) O.cx.nd O.cx.calm (fun _ z => z) h9)
          (fun s H Ca cl fp σ => pe_callS (X := (X.blk s H scope (compEnvC scope cl Ca X.env) fp).tr [] _) (E := WE fun cls d _ H => Wx cls d σ H) (e := .Name v' pv) (es := []) (p := pg) (pos := pc) q4 O.cx.room (show (X.blk s H scope (compEnvC scope cl Ca X.env) fp).env.scope.names.lookup g = _ by rw [hB s H Ca cl fp]; exact glB_of h12) q1 q2 q3 (fun σ' => passF (X := X.blk s H scope (compEnvC scope cl Ca X.env) fp) σ')
            (pa_cons (pe_var (hnm h7) (show Vis (X.blk s H scope (compEnvC scope cl Ca X.env) fp).env.scope _ by rw [hB s H Ca cl fp]; exact visB_of h15) (nmB_of h16).1 (nmB_of h16).2.1) pa_nil rfl) (nmB_of h13).1 rfl rfl) (fun y => fold_ok h11 y)
        refine ⟨fun pins s σ H D I hh => key.run pins s σ H D I (asgX_read ?_ (by simp) hh)⟩
        rw [I.len]
        exact (List.getElem?_eq_some_iff.mp (hnm h7)).1
      · simp only [ex, fAsgX]
        cases ev call it ρ w with
        | ok d w1 =>
          simp only [st_ok, bind_ok]
          cases itemsD d with
          | none => rfl
          | some xs => rfl
        | exc c w1 => rfl
        | bad => rfl
    · cases h
  | stk => exact evS ps_stuck fun ρ w => by simp only [ex]
  | _ => cases h
theorem new_one {ρ : SF.Env} {w : W} {f i : Nat} {e : E} {rest : List S} : exs call [.newF f i none e rest] ρ w = fNew f i call (fun ρ w => calm (ev call e ρ w)) (exs call rest) ρ w := by
  simp only [exs, ex, fNew]
  cases ev call e ρ w with
  | ok d w1 =>
    simp only [calm, st_ok]
    cases call f [d] w1 with
    | ok d2 w2 =>
      simp only [st_ok]
      cases d with
      | str s =>
        simp only
        cases w2.live with
        | true => rfl
        | false =>
          simp only [Bool.false_eq_true, if_false]
          cases exs call rest (ρ.set i (.sh .ob)) { w2 with kind := .str s, srs := [], rws := [[.tup [.int 0, .int 1]]] } with
          | ok fl w3 =>
            cases fl with
            | rt d3 => cases d3 <;> rfl
            | _ => rfl
          | exc c w3 => rfl
          | bad => rfl
      | _ => rfl
    | exc c w2 => rfl
    | bad => rfl
  | exc c w1 => rfl
  | bad => rfl
theorem new_two {ρ : SF.Env} {w : W} {f i j : Nat} {e : E} {rest : List S} : exs call [.newF f i (some j) e rest] ρ w = fNew2 f i j call (fun ρ w => calm (ev call e ρ w)) (exs call rest) ρ w := by
  simp only [exs, ex, fNew2]
  cases ev call e ρ w with
  | ok d w1 =>
    simp only [calm, st_ok]
    cases call f [d] w1 with
    | ok d2 w2 =>
      simp only [st_ok]
      cases d with
      | str s =>
        simp only
        cases w2.live with
        | true => rfl
        | false =>
          simp only [Bool.false_eq_true, if_false]
          cases exs call rest ((ρ.set i (.sh .ob)).set j (.sh (.lst []))) { w2 with kind := .str s, srs := [], rws := [[.tup [.int 0, .int 1]]] } with
          | ok fl w3 =>
            cases fl with
            | rt d3 => cases d3 <;> rfl
            | _ => rfl
          | exc c w3 => rfl
          | bad => rfl
      | _ => rfl
    | exc c w2 => rfl
    | bad => rfl
  | exc c w1 => rfl
  | bad => rfl
theorem snd_chkSs (ih : SndS cf n) {st : List Stmt} {s : List S} (O : SOk cf X sc C Wx call k) (h : chkSs cf (n + 1) sc st s = true) : PSs X st (tSD C Wx (exs call s)) := by
  match st, s, h with
  | [], [], _ => exact evSs pss_nilD fun _ _ => by simp only [exs]
  | st :: r, s :: ss, h =>
    simp only [chkSs] at h
    split at h
    · rename_i f i e rest
      split at h
      · rename_i x px g pg b pb pa
        simp only [Bool.and_eq_true, decide_eq_true_eq] at h
        obtain ⟨⟨⟨⟨⟨⟨h0, h1⟩, h2⟩, h3⟩, h4⟩, h5⟩, h6⟩ := h
        subst h1
        split at h0
        · rename_i t hft
          rw [decide_eq_true_eq] at h0
          subst h0
          obtain ⟨cf', c1, c2, -, -, -, c6, ⟨fI, fd, ps, m1, m2, hI⟩, -⟩ := O.cx.fit _ hft
          rcases hI with hI | ⟨k', rfl, hI⟩
          · refine evSs pss_stuck fun ρ w => ?_
            rw [new_one]
            unfold fNew
            dsimp only
            cases ev call e ρ w with
            | ok d w1 =>
              show (R.st (call _ [d] w1) ρ _) = _
              rw [hI]
              rfl
            | exc c w1 => rfl
            | bad => rfl
          · exact evSs (pss_newF c1 m1 hI O.cx.room (O.cx.gl h2) c6 m2 O.cx.tk (by decide +kernel) (pe_calm ((snd_all cf n).e O.cx h5)) (chkE_ok h5) O.cx.nd (by rw [O.cx.N]; exact h3) (by rw [O.cx.sc]; exact locB_of h4) (O.fn _) (ih.ss O h6)) fun ρ w => new_one
        · cases h0
      · cases h
    · rename_i f i j e rest
      split at h
      · rename_i x px y py kt pt g pg b pb pl k2 pt2 pa
        simp only [Bool.and_eq_true, decide_eq_true_eq] at h
        obtain ⟨⟨⟨⟨⟨⟨⟨⟨⟨⟨h0, h1⟩, h2⟩, h3⟩, h4⟩, h5⟩, h6⟩, h7⟩, h8⟩, h9⟩, h10⟩ := h
        subst h1
        split at h0
        · rename_i t hft
          rw [decide_eq_true_eq] at h0
          subst h0
          obtain ⟨cf', c1, c2, -, -, -, c6, ⟨fI, fd, ps, m1, m2, hI⟩, -⟩ := O.cx.fit _ hft
          rcases hI with hI | ⟨k', rfl, hI⟩
          · refine evSs pss_stuck fun ρ w => ?_
            rw [new_two]
            unfold fNew2
            dsimp only
            cases ev call e ρ w with
            | ok d w1 =>
              show (R.st (call _ [d] w1) ρ _) = _
              rw [hI]
              rfl
            | exc c w1 => rfl
            | bad => rfl
          · exact evSs (pss_newF2 c1 m1 hI O.cx.room (O.cx.gl h2) c6 m2 O.cx.tk (by decide +kernel) (pe_calm ((snd_all cf n).e O.cx h9)) (chkE_ok h9) O.cx.calm O.cx.nd (by rw [O.cx.N]; exact h3) (by rw [O.cx.N]; exact h4) h5 (by rw [O.cx.sc]; exact h6) (by rw [O.cx.sc]; exact h7) (swR_ok O.cx.sc (by rw [← O.cx.sc]; exact O.kind) h8) sw_tup (ih.ss O h10)) fun ρ w => new_two
        · cases h0
      · cases h
    · simp only [Bool.and_eq_true] at h
      exact evSs (pss_consD (ih.s O h.1) (ih.ss O h.2)) fun _ _ => by simp only [exs]
  | [], _ :: _, h => simp [chkSs] at h
  | _ :: _, [], h => simp [chkSs] at h
theorem snd_stmts (cf : Cfg) : ∀ n, SndS cf n
  | 0 => ⟨fun _ h => by simp [chkS] at h, fun _ h => by simp [chkSs] at h⟩
  | n + 1 => ⟨snd_chkS (snd_stmts cf n), snd_chkSs (snd_stmts cf n)⟩
end
end SF

namespace SF
open PySem PySem.Spec PyProof.Rows L2
/-! ### a def -/
theorem start_len {N : List Str} {vs : List V} (h : vs.length ≤ N.length) : (start N vs).length = N.length := by
  unfold L2.start
  simp
  omega
theorem mkEnv_len {ds : List D} {ns : Nat} (h : ds.length ≤ ns) : (mkEnv ds ns).length = ns := by
  unfold mkEnv
  simp
  omega
theorem mkEnv_get {ds : List D} {ns i : Nat} {s : Slot} (h : (mkEnv ds ns)[i]? = some s) : (∃ d, ds[i]? = some d ∧ s = .sh d) ∨ s = .no := by
  unfold mkEnv at h
  rw [List.getElem?_append] at h
  split at h
  · rw [List.getElem?_map] at h
    cases e : ds[i]? with
    | none => rw [e] at h; cases h
    | some d => rw [e] at h; cases h; exact .inl ⟨d, rfl, rfl⟩
  · right
    rw [List.getElem?_replicate] at h
    split at h
    · cases h; rfl
    · cases h
theorem start_env {Cl : Nat → Value} {B : Bk Cl} {P : Addr → Prop} {H : Hp} {w : W} {N : List Str} {vs : List V} {ds : List D} (r : Rps B P H vs ds) (W : WR B P H w) (F : Fr B P H) (hl : vs.length ≤ N.length) : SEnv B P H H (start N vs) (mkEnv ds N.length) w := by
  have hno : ∀ (i : Nat) (d : D), (mkEnv ds N.length)[i]? ≠ some (.ow d) := fun i d h => by
    rcases mkEnv_get h with ⟨d', _, z⟩ | z <;> cases z
  refine ⟨Ext.refl B H, W, F, ?_, fun i d h => absurd h (hno i d), fun i j di dj l h => absurd h (hno i di), fun i d h => ?_⟩
  · rw [start_len hl, mkEnv_len (by rw [← r.length]; exact hl)]
  · rcases mkEnv_get h with ⟨d', h1, h2⟩ | z
    · cases h2
      obtain ⟨v, h3, h4⟩ := r.get h1
      refine ⟨v, ?_, Rp.mo (mo_sub fun a z => ?_) _ _ h4⟩
      · unfold L2.start
        have hi : i < (vs.map some).length := by
          rw [List.length_map]
          exact (List.getElem?_eq_some_iff.mp h3).1
        rw [List.getElem?_append_left hi, List.getElem?_map, h3]
        rfl
      · rcases z with z | ⟨j, dj, _, q, _⟩
        · exact z
        · exact absurd q (hno j dj)
    · cases z
/-- what all defs of a text share -/
structure Glob (fns excs : List (Str × Nat)) (gi : List (Str × Int)) (gs : List (Str × List Nat)) (gt : List (Str × List (List Nat))) (P : Program) (w : World) (K : PySem.W.Frag) (mg : Str → Option Value) (base : Heap) (C : Nat → Value) : Prop where
  blt : ∀ x ∈ bltNms, mg x = none
  gi : ∀ x i, gi.lookup x = some i → ∃ t, mg x = some (.int i t)
  gs : ∀ x s, gs.lookup x = some s → ∃ t, mg x = some (.str (sOf s) t)
  gt : ∀ x ks, gt.lookup x = some ks → ∃ a, mg x = some (.ref a) ∧ ∀ H, SqT K H a (ks.map fun k => V.str (sOf k))
  exc : ∀ x c, excs.lookup x = some c → ∃ Ca, C c = .ref Ca ∧ mg x = some (.ref Ca) ∧ PySem.W.keepIn K (.ref Ca) = true ∧ PySem.W.excIn K Ca veB "ValueError.__new__" = true ∧ PySem.W.subIn K (.ref Ca) (.type "BaseException") = some true ∧ PySem.W.typeIn K (.ref Ca) = some (.type "type")
  xs : excs.lookup ("FitError" : Str) = some 0 → XAll K C
/-- the def of function i keeps its promise, by run at level m -/
def FnAt (P : Program) (w : World) (K : PySem.W.Frag) (mg : Str → Option Value) (base : Heap) (C : Nat → Value) (T : Nat → Option Fn) (x : Str) (i m : Nat) : Prop :=
  ∃ f fd ps, mg x = some (.ref f) ∧ PySem.W.keepIn K (.ref f) = true ∧ Binds K fd ps [] ∧ FnOk P w K mg base (L2.CX P w) m f fd ps (spF C (run T m) i)
/-- all defs and the class, by run at level m -/
structure Lev (fns : List (Str × Nat)) (ft : Option Fit) (P : Program) (w : World) (K : PySem.W.Frag) (mg : Str → Option Value) (base : Heap) (C : Nat → Value) (T : Nat → Option Fn) (m : Nat) : Prop where
  fns : ∀ x i, fns.lookup x = some i → FnAt P w K mg base C T x i m
  fit : FitAt ft P w K mg base C (run T m) m
section
variable {ft : Option Fit} {fns excs : List (Str × Nat)} {gi : List (Str × Int)} {gs : List (Str × List Nat)} {gt : List (Str × List (List Nat))} {P : Program} {w : World} {K : PySem.W.Frag} {mg : Str → Option Value} {base : Heap} {C : Nat → Value} {T : Nat → Option Fn}
theorem cx_def {cf : Cfg} {N ps : List Str} {qual : Str} {scope : Scope} {f : Addr} {cdv : Value} {A : Around} {outer : List PySem.Env} {s : Shared} {H : Hp} {E : XK} {m : Nat} {call : Nat → List D → W → R D} (hN : cf.N = N) (h1 : cf.fns = fns) (h2 : cf.excs = excs) (h3 : cf.gi = gi) (h4 : cf.gs = gs) (h5 : cf.gt = gt) (h6 : cf.ft = ft)
    (G : Glob fns excs gi gs gt P w K mg base C) (S : FnScope N ps scope) (hr : Room m (A.deeper (envOfC qual scope s.heap.objs.size f cdv)))
    (hf : ∀ x i, fns.lookup x = some i → ∃ f fd ps, mg x = some (.ref f) ∧ PySem.W.keepIn K (.ref f) = true ∧ Binds K fd ps [] ∧ FnOk P w K mg base (L2.CX P w) m f fd ps (spF C call i)) (hF : FitAt ft P w K mg base C call m) :
    SOk cf (cxOf (L2.CX P w) P w K mg base N qual scope f cdv A outer s H E) scope C (fun cls d _ H => E cls d H) call m where
  cx := {
    N := hN.symm
    nd := S.nd
    sc := rfl
    calm := rfl
    room := hr
    tk := takes_of rfl rfl rfl rfl
    fns := by rw [h1]; exact hf
    blt := G.blt
    gi := by rw [h3]; exact G.gi
    gs := by rw [h4]; exact G.gs
    gt := by rw [h5]; exact G.gt
    exc := by rw [h2]; exact G.exc
    xs := by rw [h2]; exact G.xs
    fit := by rw [h6]; exact hF }
  fn := fun _ => rfl
  pass := passes_of rfl
  kind := S.kind
  stk := rfl
  frm := rfl
theorem fn_ok {cf : Cfg} {N ps : List Str} {x qual : Str} {st : Stmt} {f : Addr} {fd : FuncData} {fn : Fn} {i m n : Nat} (hN : cf.N = N) (h1 : cf.fns = fns) (h2 : cf.excs = excs) (h3 : cf.gi = gi) (h4 : cf.gs = gs) (h5 : cf.gt = gt) (h6 : cf.ft = ft)
    (G : Glob fns excs gi gs gt P w K mg base C) (F : Fun K x qual st f fd) (S : FnScope N ps (defScope st)) (hT : T i = some fn) (hi : i ≠ fDraw) (hnp : fn.np = ps.length) (hns : fn.ns = N.length) (hpn : ps.length ≤ N.length)
    (hc : chkSs cf n (defScope st) (defBody st) fn.body = true)
    (hf : Lev fns ft P w K mg base C T m) :
    FnOk P w K mg base (L2.CX P w) (m + 1) f fd ps (spF C (run T (m + 1)) i) := by
  have hlen : ∀ vs H Q E, spF C (run T (m + 1)) i vs H Q E → vs.length = ps.length := fun vs H Q E h => by
    obtain ⟨B, P', ds, w', r, W, F', G'⟩ := h
    rw [r.length, ← hnp]
    refine Decidable.byContradiction fun z => ?_
    simp only [run, hT] at G'
    rw [if_neg hi, if_neg z] at G'
    exact G'
  refine F.okX S hlen fun cdv A outer s H vs Q E hr h => ?_
  have hl := hlen vs H Q E h
  obtain ⟨B, P', ds, w', r, W, F', G'⟩ := h
  refine ⟨_, (snd_stmts cf n).ss (call := run T m) (cx_def (outer := outer) (E := E) hN h1 h2 h3 h4 h5 h6 G S hr hf.fns hf.fit) hc, B, P', H, mkEnv ds N.length, w', start_env r W F' (by rw [hl]; exact hpn), ?_⟩
  have hdl : ds.length = fn.np := by rw [← r.length, hl, hnp]
  simp only [run, hT] at G'
  rw [if_neg hi, if_pos hdl, hns] at G'
  revert G'
  cases exs (run T m) fn.body (mkEnv ds N.length) w' with
  | ok fl w2 =>
    cases fl with
    | nx ρ => exact fun G' σ' H' S' => G' .non H' S'.ex S'.w .non
    | rt d => exact fun G' => G'
    | xc c ρ => exact fun G' σ' H' S' => G' H' S'.ex S'.w
  | exc c w2 => exact fun G' => G'
  | bad => exact fun G' => G'
/-- level 0 promises nothing -/
theorem fn_zero {x : Str} {i : Nat} {f : Addr} {fd : FuncData} {ps : List Str} : FnOk P w K mg base (L2.CX P w) 0 f fd ps (spF C (run T 0) i) :=
  ⟨fun vs H Q E h => by obtain ⟨B, P', ds, w', r, W, F', G'⟩ := h; exact G'.elim, fun A outer s H args us vs Q E _ _ _ _ h => by obtain ⟨B, P', ds, w', r, W, F', G'⟩ := h; exact G'.elim⟩
/-! ### the class's __init__ -/
/-- calls another, returns None -/
def wrapF (j : Nat) : Fn := ⟨1, 1, [.exp (.call j [.var 0])]⟩
def noVal : R D → R D
  | .ok _ w => .ok .non w
  | .exc c w => .exc c w
  | .bad => .bad
theorem run_wrap {i j m : Nat} (hT : T i = some (wrapF j)) (hi : i ≠ fDraw) (d : D) (w : W) : run T (m + 1) i [d] w = noVal (run T m j [d] w) := by
  simp only [run, hT, if_neg hi, wrapF]
  rw [if_pos (show [d].length = 1 from rfl)]
  simp only [exs, ex, ev, evs, mkEnv, getS]
  show fin (((run T m j [d] w).st _ _).sq _) = _
  cases run T m j [d] w with
  | ok x w1 => rfl
  | exc c w1 => rfl
  | bad => rfl
theorem ent_ok {st : Stmt} {f : Addr} {fd : FuncData} {m : Nat} (F : Fun K "entries" "Fitter.entries" st f fd) (S : FnScope ["self"] ["self"] (defScope st)) (hC : FitC K C)
    (hb : ∀ (cdv : Value) (A : Around) (outer : List PySem.Env) (s : Shared) (H : Hp) (E : XK), PSs (cxOf (L2.CX P w) P w K mg base ["self"] "Fitter.entries" (defScope st) f cdv A outer s H E) (defBody st) (t_ent K)) :
    FnOk P w K mg base (L2.CX P w) 1 f fd ["self"] (spEnt C) := by
  refine F.okX S (fun vs H Q E h => ?_) fun cdv A outer s H vs Q E hr h => ?_
  · obtain ⟨B, P', w', f', _, rfl, _⟩ := h
    rfl
  · exact ⟨_, hb cdv A outer s H E, ent_read hC h⟩
/-- calls another, returns what it returns -/
def wrapR (j : Nat) : Fn := ⟨1, 1, [.ret (.call j [.var 0])]⟩
theorem run_wrapR {i j m : Nat} (hT : T i = some (wrapR j)) (hi : i ≠ fDraw) (ds : List D) (w : W) : run T (m + 1) i ds w = .bad ∨ ∃ d, ds = [d] ∧ run T (m + 1) i [d] w = run T m j [d] w := by
  by_cases hl : ds.length = 1
  · right
    obtain ⟨d, rfl⟩ := List.length_eq_one_iff.mp hl
    refine ⟨d, rfl, ?_⟩
    simp only [run, hT, if_neg hi, wrapR]
    rw [if_pos (show [d].length = 1 from rfl)]
    simp only [exs, ex, ev, evs, mkEnv, getS]
    show fin (((run T m j [d] w).st _ _).sq _) = _
    cases run T m j [d] w with
    | ok x w1 => rfl
    | exc c w1 => rfl
    | bad => rfl
  · left
    simp only [run, hT, if_neg hi, wrapR]
    rw [if_neg hl]
theorem init_ok {st : Stmt} {f : Addr} {fd : FuncData} {m jk : Nat} (F : Fun K "__init__" "Fitter.__init__" st f fd) (S : FnScope ["self", "kind"] ["self", "kind"] (defScope st)) (hC : FitC K C)
    (hb : ∀ (cdv : Value) (A : Around) (outer : List PySem.Env) (s : Shared) (H : Hp) (E : XK), Room m (A.deeper (envOfC "Fitter.__init__" (defScope st) s.heap.objs.size f cdv)) →
      PSs (cxOf (L2.CX P w) P w K mg base ["self", "kind"] "Fitter.__init__" (defScope st) f cdv A outer s H E) (defBody st) (t_init K (spF C (run T m) jk) (fun _ => E))) :
    FnOk P w K mg base (L2.CX P w) (m + 1) f fd ["self", "kind"] (spInit C (run T m) jk) := by
  refine F.okX S (fun vs H Q E h => ?_) fun cdv A outer s H vs Q E hr h => ?_
  · obtain ⟨B, P', d, w', cf, dx, po, vk, rfl, _⟩ := h
    rfl
  · exact ⟨_, hb cdv A outer s H E hr, init_read hC h⟩
end
end SF

namespace SF
open PySem PySem.Spec PyProof.Rows L2
/-! ### the draw -/
abbrev rAdd : R2 := rI0 fun i j => .int (i + j)
abbrev rMod : R2 := rI (fun _ j => 0 < j) fun i j => .int (i % j)
abbrev rFd : R2 := rI CDiv fun i j => .int (i / j)
abbrev rMul : R2 := rI CMul fun i j => .int (i * j)
abbrev rPow : R2 := rI CPow fun i j => .int (i ^ j.toNat)
abbrev rGe : R2 := rI0 fun i j => .bl (decide (j ≤ i))
abbrev kI' (i : Int) : TE := tC (.int i)
def rLn (K : PySem.W.Frag) : List V → Hp → VK → Prop := fun xs H Q => ∃ p ys, xs = [.ref p] ∧ (SqL K H p ys ∨ SqT K H p ys) ∧ Q (.int ys.length) H
def t_draw (K : PySem.W.Frag) : TS :=
  tSeq (tAsg (tOp (rIxL K) (tVar 0) (kI' 0)) (gName 2)) <|
  tSeq (tAsg (tOp rAdd (tOp (rIxL K) (tVar 0) (kI' 1)) (kI' 1)) (gSub (tVar 0) (kI' 1) rSetL)) <|
  tSeq (tAsg (tOp rMod (tOp (rIxL K) (tVar 0) (kI' 1)) (tCB (rLn K) (tCons (tVar 2) tNil))) (gName 3)) <|
  tSeq (tAsg (tOp (rIxL K) (tVar 2) (tVar 3)) (gName 4)) <|
  tSeq (tIfS (tTest (tOp rGe (tVar 4) (kI' 1000000000000000000)))
    (tSeq (tAsg (tOp rFd (tVar 4) (tVar 1)) (gSub (tVar 2) (tVar 3) rSetL)) (tRet (tOp rMod (tVar 4) (tVar 1)))) tNext) <|
  tSeq (tAsg (tOp rMod (tOp rAdd (tVar 4) (tOp rMul (kI' 104729) (tOp (rIxL K) (tVar 0) (kI' 1)))) (kI' 4294967291)) (gName 5)) <|
  tSeq (tAsg (tOp rMod (tOp rPow (tVar 5) (kI' 5)) (kI' 4294967279)) (gName 5)) <|
  tRet (tOp rMod (tOp rFd (tOp rMod (tOp rAdd (tOp rMul (tOp rFd (tVar 5) (kI' 64)) (kI' 69621)) (tVar 5)) (kI' 4294967231)) (kI' 8)) (tVar 1))
theorem ixn_nat {n j : Nat} (hj : j < n) : ixN n (j : Int) = some j := by
  unfold ixN
  rw [if_pos (by omega), if_pos (by omega)]
  simp
/-- the draws alone have changed -/
theorem WR.drawn {Cl : Nat → Value} {B : Bk Cl} {P : Addr → Prop} {H H' : Hp} {w w' : W} (W : WR B P H w) (h : ∀ a, a ≠ B.pd → a ≠ B.pn → H' a = H a) (e1 : w'.kind = w.kind) (e2 : w'.srs = w.srs) (e3 : w'.rws = w.rws) : ∀ f, B.ft = some f → FtAt B f H' w' := fun f hf => by
  have F := W.ft f hf
  have nl : ∀ {a : Addr} {o : HO}, H a = some o → (∀ vs, o ≠ .lst vs) → H' a = some o := fun {a o} q n => by
    rw [h a (W.nD q n) (fun z => W.nV q n (.inl z))]; exact q
  obtain ⟨cf, vk, a1, a2, a3⟩ := F.ob
  have F' : FtAt B f H' w := F.mo ((nl a2 fun _ z => nomatch z).trans a2.symm) (h _ F.n1 F.n2) (h _ F.n3 F.n4) (moT (fun a vs q => nl q fun _ z => nomatch z) fun a φ q => nl q fun _ z => nomatch z) fun a o vs q => nl q fun _ z => nomatch z
  obtain ⟨x1, x2, x3, n1, n2, n3, n4, n5⟩ := F'
  exact ⟨by rw [e1]; exact x1, by rw [e2]; exact x2, by rw [e3]; exact x3, n1, n2, n3, n4, n5⟩
theorem draw_read {K : PySem.W.Frag} {Cl : Nat → Value} {B : Bk Cl} {P : Addr → Prop} {H : Hp} {w : W} {l : Int} {d : D} {w' : W} {Q : VK} {X : L2.St → Hp → Prop} (W : WR B P H w) (e : drawW l w = .ok d w')
    (q : ∀ v H', Ext B H H' → WR B P H' w' → Rp B P H' v d → Q v H') :
    t_draw K { nx := X, rt := Q } (start ["draws", "limit", "numbers", "at", "cell", "mixed"] [.ref B.pd, .int l]) H := by
  unfold drawW at e
  split at e
  · cases e
  rename_i hb
  have hl : 0 < l := by
    refine Int.not_le.mp fun z => hb (.inl z)
  have hl2 : l < 1000000000 := by
    refine Int.not_le.mp fun z => hb (.inr (.inl z))
  have hne : w.nums ≠ [] := fun z => hb (.inr (.inr z))
  have hlen : 0 < w.nums.length := List.length_pos_iff.mpr hne
  dsimp only at e
  generalize hat : ((w.cnt + 1) % (w.nums.length : Int)).toNat = at' at e
  have hat' : (w.cnt + 1) % (w.nums.length : Int) = (at' : Int) := by
    rw [← hat]
    exact (Int.toNat_of_nonneg (Int.emod_nonneg _ (by omega))).symm
  have hlt : at' < w.nums.length := by
    have := Int.emod_lt_of_pos (w.cnt + 1) (b := (w.nums.length : Int)) (by omega)
    omega
  have hcell : w.nums[at']? = some (w.nums[at']) := List.getElem?_eq_getElem hlt
  rw [hcell] at e
  dsimp only at e
  generalize hc : w.nums[at'] = cell at e hcell
  -- the heaps
  have h1 : ∀ {o : HO}, upd H B.pd o B.pn = some (.lst (w.nums.map V.int)) := by
    intro o
    rw [upd_ne W.ne.symm]
    exact W.pn
  have gv : (w.nums.map V.int)[at']? = some (.int cell) := by
    rw [List.getElem?_map, hcell]
    rfl
  refine ⟨.ref B.pd, rfl, B.pd, _, 0, .ref B.pn, rfl, rfl, .inl (.inl W.pd), atI_nat (j := 0) rfl, ?_⟩
  refine ⟨.ref B.pd, rfl, B.pd, _, 1, .int w.cnt, rfl, rfl, .inl (.inl W.pd), atI_nat (j := 1) rfl, w.cnt, 1, rfl, rfl, .ref B.pd, rfl, B.pd, _, 1, 1, rfl, rfl, W.pd, rfl, ?_⟩
  have hp2 : upd H B.pd (.lst ([V.ref B.pn, .int w.cnt].set 1 (.int (w.cnt + 1)))) B.pd = some (.lst [V.ref B.pn, .int (w.cnt + 1)]) := upd_same
  generalize hH2 : upd H B.pd (.lst ([V.ref B.pn, .int w.cnt].set 1 (.int (w.cnt + 1)))) = H2
  have hn2 : H2 B.pn = some (.lst (w.nums.map V.int)) := by rw [← hH2]; exact h1
  rw [hH2] at hp2
  have ho2 : ∀ a, a ≠ B.pd → H2 a = H a := fun a z => by rw [← hH2]; exact upd_ne z
  refine ⟨.ref B.pd, rfl, B.pd, _, 1, .int (w.cnt + 1), rfl, rfl, .inl (.inl hp2), atI_nat (j := 1) rfl, .ref B.pn, rfl, B.pn, _, rfl, .inl (.inl (.inl hn2)), w.cnt + 1, _, rfl, rfl, ?_, ?_⟩
  · rw [List.length_map]
    omega
  dsimp only
  rw [List.length_map, hat']
  refine ⟨.ref B.pn, rfl, .int at', rfl, B.pn, _, at', .int cell, rfl, rfl, .inl (.inl hn2), atI_nat gv, ?_⟩
  refine ⟨.int cell, rfl, cell, _, rfl, rfl, _, rfl, ?_⟩
  by_cases hbig : (1000000000000000000 : Int) ≤ cell
  · rw [decide_eq_true hbig]
    dsimp only
    rw [if_pos rfl]
    rw [if_pos hbig] at e
    cases e
    refine ⟨.int cell, rfl, .int l, rfl, cell, l, rfl, rfl, ⟨hl, by omega⟩, .ref B.pn, rfl, .int at', rfl, B.pn, _, at', at', rfl, rfl, hn2, ixn_nat (by rw [List.length_map]; exact hlt), ?_⟩
    refine ⟨.int cell, rfl, .int l, rfl, cell, l, rfl, rfl, hl, ?_⟩
    refine q _ _ (fun a o h n1 n2 => ?_) ⟨?_, ?_, W.ne, W.hd, W.hn, W.drawn (fun a z1 z2 => by rw [upd_ne z2, ho2 a z1]) rfl rfl rfl⟩ (.int _)
    · rw [upd_ne (fun z => n2 (.inl z)), ho2 a n1]
      exact h
    · rw [upd_ne W.ne]
      exact hp2
    · rw [upd_same, List.map_set]
  · rw [decide_eq_false hbig]
    dsimp only
    rw [if_neg (by decide)]
    rw [if_neg hbig] at e
    cases e
    have m1a := Int.emod_nonneg (cell + 104729 * (w.cnt + 1)) (b := 4294967291) (by decide)
    have m1b := Int.emod_lt_of_pos (cell + 104729 * (w.cnt + 1)) (b := 4294967291) (by decide)
    refine ⟨.int cell, rfl, .ref B.pd, rfl, B.pd, _, 1, .int (w.cnt + 1), rfl, rfl, .inl (.inl hp2), atI_nat (j := 1) rfl, 104729, _, rfl, rfl, .inl ⟨by decide, by decide⟩, cell, _, rfl, rfl, _, 4294967291, rfl, rfl, (show (0 : Int) < 4294967291 by decide), ?_⟩
    dsimp only
    generalize (cell + 104729 * (w.cnt + 1)) % 4294967291 = m1 at *
    refine ⟨.int m1, rfl, m1, 5, rfl, rfl, ⟨by decide, by decide, ?_⟩, _, 4294967279, rfl, rfl, (show (0 : Int) < 4294967279 by decide), ?_⟩
    · have : m1.natAbs < 4294967291 := by omega
      exact Nat.lt_trans this (by decide)
    dsimp only
    have e5 : m1 ^ (5 : Int).toNat = m1 ^ 5 := rfl
    rw [e5]
    have m2a := Int.emod_nonneg (m1 ^ 5) (b := 4294967279) (by decide)
    have m2b := Int.emod_lt_of_pos (m1 ^ 5) (b := 4294967279) (by decide)
    generalize m1 ^ 5 % 4294967279 = m2 at *
    refine ⟨.int m2, rfl, m2, 64, rfl, rfl, ⟨by decide, by decide⟩, _, 69621, rfl, rfl, .inr ⟨by decide, by decide⟩, .int m2, rfl, _, m2, rfl, rfl, _, 4294967231, rfl, rfl, (show (0 : Int) < 4294967231 by decide), _, 8, rfl, rfl, ⟨by decide, by decide⟩, .int l, rfl, _, l, rfl, rfl, hl, ?_⟩
    refine q _ _ (fun a o h n1 n2 => ?_) ⟨hp2, hn2, W.ne, W.hd, W.hn, W.drawn (fun a z1 z2 => ho2 a z1) rfl rfl rfl⟩ (.int _)
    rw [ho2 a n1]
    exact h
section
variable {P : Program} {w : World} {K : PySem.W.Frag} {mg : Str → Option Value} {base : Heap} {C : Nat → Value} {T : Nat → Option Fn}
theorem draw_ok {st : Stmt} {f : Addr} {fd : FuncData} {m : Nat} (F : Fun K "_law_draw" "_law_draw" st f fd) (S : FnScope ["draws", "limit", "numbers", "at", "cell", "mixed"] ["draws", "limit"] (defScope st))
    (hb : ∀ (cdv : Value) (A : Around) (outer : List PySem.Env) (s : Shared) (H : Hp) (E : XK), PSs (cxOf (L2.CX P w) P w K mg base ["draws", "limit", "numbers", "at", "cell", "mixed"] "_law_draw" (defScope st) f cdv A outer s H E) (defBody st) (t_draw K)) :
    FnOk P w K mg base (L2.CX P w) (m + 1) f fd ["draws", "limit"] (spF C (run T (m + 1)) fDraw) := by
  have key : ∀ vs H Q E, spF C (run T (m + 1)) fDraw vs H Q E → ∃ (B : Bk C), ∃ P' w' l d w2, vs = [.ref B.pd, .int l] ∧ WR B P' H w' ∧ drawW l w' = .ok d w2 ∧ ∀ v H', Ext B H H' → WR B P' H' w2 → Rp B P' H' v d → Q v H' := fun vs H Q E h => by
    obtain ⟨B, P', ds, w', r, W, F', G'⟩ := h
    simp only [run, if_true] at G'
    revert G'
    split
    · rename_i d w2 he
      intro G'
      split at he
      · rename_i l
        cases r with
        | cons r1 r2 =>
          cases r2 with
          | cons r3 r4 =>
            cases r4
            cases r1
            cases r3
            exact ⟨B, P', w', l, d, w2, rfl, W, he, G'⟩
      · cases he
    · rename_i c w2 he
      intro G'
      split at he
      · unfold drawW at he
        split at he
        · cases he
        · dsimp only at he
          split at he
          · cases he
          · split at he <;> cases he
      · cases he
    · exact fun z => z.elim
  refine F.okX S (fun vs H Q E h => ?_) fun cdv A outer s H vs Q E hr h => ?_
  · obtain ⟨B, P', w', l, d, w2, rfl, _⟩ := key vs H Q E h
    rfl
  · obtain ⟨B, P', w', l, d, w2, rfl, W, e, q⟩ := key vs H Q E h
    exact ⟨_, hb cdv A outer s H E, draw_read W e q⟩
end
end SF

namespace SF
open PySem PySem.Spec PyProof.Rows L2
/-! ### the start -/
def t_start (K : PySem.W.Frag) : TS :=
  tRet (tLst (tCons (tIf (tTest (tOp (rNeD K) (tVar 0) (tLst tNil))) (tCB (rLs K) (tCons (tVar 0) tNil)) (tLst (tCons (kI' 0) tNil))) (tCons (kI' 0) tNil)))
def numsOf (ns : List Int) : List Int := if ns = [] then [0] else ns
def spS (K : PySem.W.Frag) : Sp := fun vs H Q _ => ∃ (a : Addr) (ns : List Int), vs = [.ref a] ∧ SqL K H a (ns.map V.int) ∧ ns.length ≤ 63 ∧
  ∀ H' pd pn, (∀ b o, H b = some o → H' b = some o) → pd ≠ pn → H' pn = some (.lst ((numsOf ns).map V.int)) → H' pd = some (.lst [.ref pn, .int 0]) → Q (.ref pd) H'
theorem ints_py {K : PySem.W.Frag} {H : Hp} : ∀ ns : List Int, DpAll K H (ns.map V.int) (toPys (ns.map D.int))
  | [] => by simp only [List.map, toPys]; exact .nil
  | n :: ns => by simp only [List.map, toPys, toPy]; exact .cons (.int n) (ints_py ns)
theorem ints_plain : ∀ ns : List Int, plainsAt 7 (ns.map D.int) = true
  | [] => rfl
  | n :: ns => by simp only [List.map, plainsAt, plainAt, ints_plain ns, Bool.and_true]
theorem eq_nil (ns : List Int) : eqD (.lst (ns.map D.int)) (.lst []) = decide (ns = []) := by
  cases ns with
  | nil => rfl
  | cons n ns => simp [eqD, eqDs]
theorem two_size (x y : V) : [x, y].length ≤ sizeLine := (by decide : 2 ≤ sizeLine)
theorem start_read {K : PySem.W.Frag} {H : Hp} {a : Addr} {ns : List Int} {Q : VK} {X : L2.St → Hp → Prop} (hS : SqL K H a (ns.map V.int)) (hl : ns.length ≤ 63)
    (q : ∀ H' pd pn, (∀ b o, H b = some o → H' b = some o) → pd ≠ pn → H' pn = some (.lst ((numsOf ns).map V.int)) → H' pd = some (.lst [.ref pn, .int 0]) → Q (.ref pd) H') :
    t_start K { nx := X, rt := Q } (start ["script"] [.ref a]) H := by
  have sm : ∀ {H : Hp} {l : Addr} {o : HO}, H l = none → Same H (upd H l o) := fun {H l o} h b x e => by
    rw [upd_ne (ne_of_none e h)]
    exact e
  refine ⟨.ref a, rfl, Nat.zero_le _, fun c nc => ?_⟩
  have s1 := sm (o := .lst []) nc
  have p1 : plainAt 8 (.lst (ns.map D.int)) = true := by simp only [plainAt]; exact ints_plain ns
  have p2 : plainAt 8 (.lst []) = true := rfl
  refine ⟨toPy (.lst (ns.map D.int)), toPy (.lst []), ?_, ?_, shaped_py p1, shaped_py p2, ?_⟩
  · simp only [toPy]
    exact .lst (s1.seq hS) (ints_py ns)
  · simp only [toPy, toPys]
    exact .lst (.inl (.inl upd_same)) .nil
  rw [eqv_py 8 8 _ _ p1 p2, eq_nil]
  refine ⟨_, rfl, ?_⟩
  dsimp only
  by_cases e : ns = []
  · rw [if_neg (by simp [e])]
    refine ⟨by decide, fun l nl => ?_⟩
    refine ⟨two_size _ _, fun pd np => ?_⟩
    have n1 : pd ≠ l := fun z => by rw [z, upd_same] at np; cases np
    refine q _ pd l (fun b o h => ?_) n1 ?_ upd_same
    · exact sm np _ _ (sm nl _ _ (s1 _ _ h))
    · rw [upd_ne n1.symm, upd_same, numsOf, if_pos e]
      rfl
  · rw [if_pos (by simp [e])]
    refine ⟨.ref a, rfl, a, _, rfl, .inl (s1.seq hS), fun l nl => ?_⟩
    refine ⟨two_size _ _, fun pd np => ?_⟩
    have n1 : pd ≠ l := fun z => by rw [z, upd_same] at np; cases np
    refine q _ pd l (fun b o h => ?_) n1 ?_ upd_same
    · exact sm np _ _ (sm nl _ _ (s1 _ _ h))
    · rw [upd_ne n1.symm, upd_same, numsOf, if_neg e]
section
variable {ft : Option Fit} {fns excs : List (Str × Nat)} {gi : List (Str × Int)} {gs : List (Str × List Nat)} {gt : List (Str × List (List Nat))} {P : Program} {w : World} {K : PySem.W.Frag} {mg : Str → Option Value} {base : Heap} {C : Nat → Value} {T : Nat → Option Fn}
theorem start_ok {st : Stmt} {f : Addr} {fd : FuncData} {m : Nat} (F : Fun K "_law_start" "_law_start" st f fd) (S : FnScope ["script"] ["script"] (defScope st))
    (hb : ∀ (cdv : Value) (A : Around) (outer : List PySem.Env) (s : Shared) (H : Hp) (E : XK), Room m (A.deeper (envOfC "_law_start" (defScope st) s.heap.objs.size f cdv)) → PSs (cxOf (L2.CX P w) P w K mg base ["script"] "_law_start" (defScope st) f cdv A outer s H E) (defBody st) (t_start K)) :
    FnOk P w K mg base (L2.CX P w) (m + 1) f fd ["script"] (spS K) := by
  refine F.okX S (fun vs H Q E h => ?_) fun cdv A outer s H vs Q E hr h => ?_
  · obtain ⟨a, ns, rfl, _⟩ := h
    rfl
  · obtain ⟨a, ns, rfl, hS, hl, q⟩ := h
    exact ⟨_, hb cdv A outer s H E hr, start_read hS hl q⟩
/-! ### the law -/
def spLaw (K : PySem.W.Frag) : Sp := fun vs H Q _ => ∃ (a : Addr) (ns : List Int), vs = [.ref a] ∧ SqL K H a (ns.map V.int) ∧ ns.length ≤ 63 ∧ ∀ H', Q (.bl true) H'
def law0 (n : Nat) : SF.Env := .no :: .sh .dr :: List.replicate (n - 2) .no
theorem law0_get {n i : Nat} {s : Slot} (h : (law0 n)[i]? = some s) : s = .no ∨ (i = 1 ∧ s = .sh .dr) := by
  match i, h with
  | 0, h => cases h; exact .inl rfl
  | 1, h => cases h; exact .inr ⟨rfl, rfl⟩
  | i + 2, h =>
    left
    have h2 : (List.replicate (n - 2) Slot.no)[i]? = some s := h
    rw [List.getElem?_replicate] at h2
    split at h2 <;> cases h2
    rfl
theorem law_ok {cf : Cfg} {N : List Str} {st : Stmt} {rest : List Stmt} {f fS : Addr} {fd fdS : FuncData} {fn : Fn} {m n : Nat} {p1 p2 p3 p4 p5 : Pos} (hN : cf.N = N) (h1 : cf.fns = fns) (h2 : cf.excs = excs) (h3 : cf.gi = gi) (h4 : cf.gs = gs) (h5 : cf.gt = gt) (h6 : cf.ft = ft)
    (G : Glob fns excs gi gs gt P w K mg base C) (F : Fun K "law" "law" st f fd) (S : FnScope N ["script"] (defScope st)) (hns : fn.ns = N.length) (hN0 : N[0]? = some ("script" : Str)) (hN1 : N[1]? = some ("draws" : Str))
    (hbd : defBody st = .Assign [.Name "draws" p1] (.Call (.Name "_law_start" p2) [.Name "script" p3] [] p4) p5 :: rest)
    (hg : (defScope st).names.lookup ("_law_start" : Str) = some .globalImplicit) (hs0 : (defScope st).names.lookup ("script" : Str) = some .local) (hs1 : L2.Loc (defScope st) ("draws" : Str))
    (hc : chkSs cf n (defScope st) rest fn.body = true)
    (OS : FnOk P w K mg base (L2.CX P w) m fS fdS ["script"] (spS K)) (gS : mg "_law_start" = some (.ref fS)) (kS : PySem.W.keepIn K (.ref fS) = true) (bS : Binds K fdS ["script"] [])
    (hf : Lev fns ft P w K mg base C T m)
    (hrun : ∀ nums : List Int, ∃ w', runLaw T m fn nums = .ok (.bl true) w') :
    FnOk P w K mg base (L2.CX P w) (m + 1) f fd ["script"] (spLaw K) := by
  refine F.okX S (fun vs H Q E h => ?_) fun cdv A outer s H vs Q E hr h => ?_
  · obtain ⟨a, ns, rfl, _⟩ := h
    rfl
  · obtain ⟨a, ns, rfl, hS, hl, q⟩ := h
    have O := cx_def (call := run T m) (outer := outer) (s := s) (H := H) (E := E) (cdv := cdv) (f := f) (qual := "law") hN h1 h2 h3 h4 h5 h6 G S hr hf.fns hf.fit
    rw [hbd]
    refine ⟨_, pss_cons (ps_set (i := 1) S.nd hN1 hs1 (pe_callS (E := WE fun cls d _ H => E cls d H) OS hr ?_ gS kS bS (fun σ => passAt O.cx.tk σ) (pa_cons (pe_var (i := 0) hN0 (.inl hs0)) pa_nil)) ?_) ((snd_stmts cf n).ss (call := run T m) O hc), ?_⟩
    · exact hg
    · rfl
    have hlen : 2 ≤ N.length := (List.getElem?_eq_some_iff.mp hN1).1
    have e0 : start N [.ref a] = some (.ref a) :: List.replicate (N.length - 1) none := rfl
    obtain ⟨k, hk⟩ : ∃ k, N.length = k + 2 := ⟨N.length - 2, by omega⟩
    rw [e0, hk]
    refine ⟨.ref a, rfl, a, ns, rfl, hS, hl, fun H' pd pn keep ne hpn hpd => ?_⟩
    obtain ⟨w', hw⟩ := hrun ns
    refine ⟨⟨pd, pn, none⟩, fun b => b = pd ∨ b = pn, H', law0 fn.ns, ⟨numsOf ns, 0, .non, [], []⟩, ⟨Ext.refl _ _, ⟨hpd, hpn, ne, .inl rfl, (fun a z => z.elim .inr fun ⟨f, q, _⟩ => nomatch q), fun f q => nomatch q⟩, ?_, ?_, ?_, ?_, ?_⟩, ?_⟩
    · rintro b (z | z)
      · exact ⟨_, z ▸ hpd⟩
      · exact ⟨_, z ▸ hpn⟩
    · rw [hns, hk]
      simp [law0]
    · intro i d z
      rcases law0_get z with z | ⟨_, z⟩ <;> cases z
    · intro i j d d' l z
      rcases law0_get z with z | ⟨_, z⟩ <;> cases z
    · intro i d z
      rcases law0_get z with z | ⟨e, z⟩
      · cases z
      · cases z
        subst e
        exact ⟨.ref pd, rfl, .dr⟩
    · have hw2 : fin (exs (run T m) fn.body (law0 fn.ns) ⟨numsOf ns, 0, .non, [], []⟩) = .ok (.bl true) w' := hw
      revert hw2
      cases exs (run T m) fn.body (law0 fn.ns) ⟨numsOf ns, 0, .non, [], []⟩ with
      | ok fl w2 =>
        cases fl with
        | nx ρ => intro z; simp [fin] at z
        | rt d =>
          intro z
          simp [fin] at z
          obtain ⟨rfl, rfl⟩ := z
          intro v H2 e W r
          cases r
          exact q _
        | xc c ρ => intro z; simp [fin] at z
      | exc c w2 => intro z; simp [fin] at z
      | bad => intro z; simp [fin] at z
end
end SF

namespace SF
open PySem PySem.Spec PyProof.Rows L2
/-! ### all defs of a text -/
/-- where a def of the text lies -/
def MF (K : PySem.W.Frag) (cf : Value) (x qual : Str) (st : Stmt) : Prop :=
  ∃ c f oc od sl kV dc pm an cd ct, cf = .ref c ∧ Meth K c x f ∧ K.lookup f = some ⟨oc, od, .func (PySem.W.fnOf x qual (defArgs st) (defBody st) (defScope st) .none kV dc pm an cd ct), sl⟩ ∧ PySem.W.codeIn K cd qual = true
theorem MF.mk {K : PySem.W.Frag} {x qual : Str} {st : Stmt} {c f : Addr} {od an : Option Addr} {sl : Array (Option Value)} {oc kV dc pm cd ct : Value} (a : PySem.W.findIn K (.ref c) x = some (some (.ref f))) (l : K.lookup f = some ⟨oc, od, .func (PySem.W.fnOf x qual (defArgs st) (defBody st) (defScope st) .none kV dc pm an cd ct), sl⟩) (g : PySem.W.isFn K (.ref f) = true) (cc : PySem.W.codeIn K cd qual = true) (k : PySem.W.keepIn K (.ref f) = true) : MF K (.ref c) x qual st :=
  ⟨c, f, oc, od, sl, kV, dc, pm, an, cd, ct, rfl, ⟨a, g, k⟩, l, cc⟩
/-- the class -/
def CF (K : PySem.W.Frag) (cf : Value) : Prop := ∃ c, cf = .ref c ∧ Cls K c ∧ NoAttr K c sKind ∧ NoAttr K c sSeries ∧ NoAttr K c sRows ∧ PySem.W.nsIn K mainGlobals "Fitter" = some (some (.ref c)) ∧ PySem.W.makesIn K c = true ∧ PySem.W.keepIn K (.ref c) = true
theorem CF.mk {K : PySem.W.Frag} {c : Addr} (a : PySem.W.nsIn K mainGlobals "Fitter" = some (some (.ref c))) (h1 : PySem.W.plainGet K c Str.empty = true) (h2 : PySem.W.hasDictIn K c = true) (h3 : PySem.W.plainOver K c = true) (h4 : PySem.W.findIn K (.ref c) "__setattr__" = some (some (.builtin "object.__setattr__")))
    (n1 : PySem.W.findIn K (.ref c) "kind" = some none) (n2 : PySem.W.findIn K (.ref c) "series" = some none) (n3 : PySem.W.findIn K (.ref c) "rows" = some none) (m : PySem.W.makesIn K c = true) (k : PySem.W.keepIn K (.ref c) = true) : CF K (.ref c) :=
  ⟨c, rfl, ⟨h1, h2, h3, h4⟩, n1, n2, n3, a, m, k⟩
theorem CF.c {K : PySem.W.Frag} {C : Nat → Value} (h : CF K (C 7)) : FitC K C := by
  obtain ⟨c, h1, h2, h3, h4, h5, _⟩ := h
  exact ⟨c, h1, h2, h3, h4, h5⟩
def FF (K : PySem.W.Frag) (x : Str) (st : Stmt) : Prop :=
  ∃ f oc od sl kV dc pm an cd ct, PySem.W.nsIn K mainGlobals x = some (some (.ref f)) ∧ K.lookup f = some ⟨oc, od, .func (PySem.W.fnOf x x (defArgs st) (defBody st) (defScope st) .none kV dc pm an cd ct), sl⟩ ∧ PySem.W.codeIn K cd x = true ∧ PySem.W.keepIn K (.ref f) = true
theorem FF.mk {K : PySem.W.Frag} {x : Str} {st : Stmt} {f : Addr} {od an : Option Addr} {sl : Array (Option Value)} {oc kV dc pm cd ct : Value} (a : PySem.W.nsIn K mainGlobals x = some (some (.ref f))) (l : K.lookup f = some ⟨oc, od, .func (PySem.W.fnOf x x (defArgs st) (defBody st) (defScope st) .none kV dc pm an cd ct), sl⟩) (c : PySem.W.codeIn K cd x = true) (k : PySem.W.keepIn K (.ref f) = true) : FF K x st :=
  ⟨f, oc, od, sl, kV, dc, pm, an, cd, ct, a, l, c, k⟩
theorem FF.fn {K : PySem.W.Frag} {x : Str} {st : Stmt} {h : Heap} {mg : Str → Option Value} (F : FF K x st) (X : K.In h) (G : h.Ns mainGlobals mg) : ∃ f fd, mg x = some (.ref f) ∧ PySem.W.keepIn K (.ref f) = true ∧ Fun K x x st f fd := by
  obtain ⟨f, oc, od, sl, kV, dc, pm, an, cd, ct, a, l, c, k⟩ := F
  exact ⟨f, _, PySem.W.mg_of X G a, k, fun_mk (st := st) l c k⟩
def BindQ (x qual : Str) (st : Stmt) (ps : List Str) : Prop := ∀ (kV doc pm : Value) (an : Option Addr) (cdv ct : Value) (us : List Value), us.length = ps.length → bindArgs (PySem.W.fnOf x qual (defArgs st) (defBody st) (defScope st) .none kV doc pm an cdv ct) ⟨us, []⟩ = pure (ps.zip us)
def BindOk (x : Str) (st : Stmt) (ps : List Str) : Prop := ∀ (kV doc pm : Value) (an : Option Addr) (cdv ct : Value) (us : List Value), us.length = ps.length → bindArgs (PySem.W.fnOf x x (defArgs st) (defBody st) (defScope st) .none kV doc pm an cdv ct) ⟨us, []⟩ = pure (ps.zip us)
/-- an exception's class -/
def EF (K : PySem.W.Frag) (x : Str) (v : Value) : Prop :=
  ∃ Ca, v = .ref Ca ∧ PySem.W.nsIn K mainGlobals x = some (some (.ref Ca)) ∧ PySem.W.keepIn K (.ref Ca) = true ∧ PySem.W.excIn K Ca veB "ValueError.__new__" = true ∧ PySem.W.subIn K (.ref Ca) (.type "BaseException") = some true ∧ PySem.W.typeIn K (.ref Ca) = some (.type "type")
theorem EF.mk {K : PySem.W.Frag} {x : Str} {Ca : Addr} (a : PySem.W.nsIn K mainGlobals x = some (some (.ref Ca))) (b : PySem.W.keepIn K (.ref Ca) = true) (c : PySem.W.excIn K Ca veB "ValueError.__new__" = true) (d : PySem.W.subIn K (.ref Ca) (.type "BaseException") = some true) (e : PySem.W.typeIn K (.ref Ca) = some (.type "type")) : EF K x (.ref Ca) :=
  ⟨Ca, rfl, a, b, c, d, e⟩
/-- an exception's class, as isinstance asks it -/
def XF (K : PySem.W.Frag) (v : Value) : Prop := ∃ D, v = .ref D ∧ L2.ExcC K D
theorem XF.mk {K : PySem.W.Frag} {D : Addr} (h1 : PySem.W.findIn K (.ref D) "__getattribute__" = some (some (.builtin "BaseException.__getattribute__"))) (h2 : PySem.W.findIn K (.ref D) "__getattr__" = some none) (h3 : PySem.W.subIn K (.ref D) (.type "BaseException") = some true) (h4 : PySem.W.hasDictIn K D = true)
    (h5 : PySem.W.findIn K (.ref D) "__class__" = some (some (.builtin "object.__class__"))) (h6 : PySem.W.specialIn K (.builtin "object.__class__") "__get__" = some (some (.builtin "getset_descriptor.__get__"))) (h7 : PySem.W.takesIn K (.builtin "object.__class__") = some true) (h8 : PySem.W.mroIn K D (.type "object") = some true) : XF K (.ref D) :=
  ⟨D, rfl, h1, h2, h3, h4, h5, h6, h7, h8⟩
theorem exm0 {K : PySem.W.Frag} {x : Str} {v v0 : Value} (e : EF K x v0) (x0 : XF K v0) (s : PySem.W.subIn K v v0 = some true) : PySem.W.exmOne K v v0 = some true := by
  obtain ⟨Ca, rfl, _, _, _, h1, h2⟩ := e
  obtain ⟨D, hD, q⟩ := x0
  cases hD
  exact PySem.W.exm_ref h1 q.hd h2 s
theorem xrow {K : PySem.W.Frag} {C : Nat → Value} {k : Nat} (x : XF K (C k)) (o : PySem.W.exmOne K (C k) (C 0) = some true) (u : PySem.W.kitOne K (C k) (.type "ValueError") = some true) (t : ∀ c < 7, PySem.W.kitOne K (C k) (C c) = some (k == c || c == 0)) :
    ∃ D, C k = .ref D ∧ L2.ExcC K D ∧ PySem.W.exmOne K (.ref D) (C 0) = some true ∧ PySem.W.kitOne K (.ref D) (.type "ValueError") = some true ∧ ∀ c < 7, PySem.W.kitOne K (.ref D) (C c) = some (k == c || c == 0) := by
  obtain ⟨D, hD, q⟩ := x
  rw [hD] at o u t
  exact ⟨D, hD, q, o, u, t⟩
theorem seven {p : Nat → Prop} (h0 : p 0) (h1 : p 1) (h2 : p 2) (h3 : p 3) (h4 : p 4) (h5 : p 5) (h6 : p 6) : ∀ k < 7, p k
  | 0, _ => h0
  | 1, _ => h1
  | 2, _ => h2
  | 3, _ => h3
  | 4, _ => h4
  | 5, _ => h5
  | 6, _ => h6
  | n + 7, h => absurd h (by omega)
/-- a tuple of texts -/
def GT (K : PySem.W.Frag) (x : Str) (ks : List (List Nat)) : Prop :=
  ∃ a o its n, PySem.W.nsIn K mainGlobals x = some (some (.ref a)) ∧ K.lookup a = some o ∧ o.cls = .type "tuple" ∧ o.data = .seq its n ∧ its.size ≤ sizeLine ∧ Vals (ks.map fun k => V.str (sOf k)) its.toList
theorem GT.mk {K : PySem.W.Frag} {x : Str} {ks : List (List Nat)} {a : Addr} {o : Obj} {its : Array Value} {n : Nat} (h1 : PySem.W.nsIn K mainGlobals x = some (some (.ref a))) (h2 : K.lookup a = some o) (h3 : o.cls = .type "tuple") (h4 : o.data = .seq its n) (h5 : its.size ≤ sizeLine) (h6 : Vals (ks.map fun k => V.str (sOf k)) its.toList) : GT K x ks :=
  ⟨a, o, its, n, h1, h2, h3, h4, h5, h6⟩
theorem cx_no {P : Program} {w : World} {H : Hp} {s s' : Shared} {e : Value} (z : L2.CX P w [] H s (fun _ _ _ => False) e s') : False := by
  obtain ⟨_, _, _, _, _, _, _, _, _, _, _, _, z⟩ := z
  exact z
section
variable {ft : Option Fit} {fns excs : List (Str × Nat)} {gi : List (Str × Int)} {gs : List (Str × List Nat)} {gt : List (Str × List (List Nat))} {P : Program} {w : World} {K : PySem.W.Frag} {mg : Str → Option Value} {base h : Heap} {C : Nat → Value} {T : Nat → Option Fn}
def Good (fns : List (Str × Nat)) (ft : Option Fit) (P : Program) (w : World) (K : PySem.W.Frag) (mg : Str → Option Value) (base : Heap) (C : Nat → Value) (T : Nat → Option Fn) (p : Str × Nat) : Prop :=
  ∃ f fd ps, mg p.1 = some (.ref f) ∧ PySem.W.keepIn K (.ref f) = true ∧ Binds K fd ps [] ∧ ∀ m, Lev fns ft P w K mg base C T m → FnOk P w K mg base (L2.CX P w) (m + 1) f fd ps (spF C (run T (m + 1)) p.2)
theorem mem_of_lookup {β : Type} {x : Str} {b : β} : ∀ {l : List (Str × β)}, l.lookup x = some b → (x, b) ∈ l
  | [], h => by simp at h
  | (y, c) :: l, h => by
    rw [List.lookup_cons] at h
    split at h
    · rename_i e
      cases h
      have e2 : x = y := by simpa using e
      rw [e2]
      exact List.mem_cons_self
    · exact List.mem_cons_of_mem _ (mem_of_lookup h)
/-- a method -/
def GoodM (fns : List (Str × Nat)) (ft : Option Fit) (P : Program) (w : World) (K : PySem.W.Frag) (mg : Str → Option Value) (base : Heap) (C : Nat → Value) (T : Nat → Option Fn) (p : Str × Nat) : Prop :=
  ∃ cf ga fd ps, C 7 = .ref cf ∧ Meth K cf p.1 ga ∧ Binds K fd ps [] ∧ ∀ m, Lev fns ft P w K mg base C T m → FnOk P w K mg base (L2.CX P w) (m + 1) ga fd ps (spF C (run T (m + 1)) p.2)
/-- the class and its methods -/
def GoodF (fns : List (Str × Nat)) (ft : Option Fit) (P : Program) (w : World) (K : PySem.W.Frag) (mg : Str → Option Value) (base : Heap) (C : Nat → Value) (T : Nat → Option Fn) : Prop :=
  ∀ t, ft = some t → ∃ cf ji jk, C 7 = .ref cf ∧ Cls K cf ∧ NoAttr K cf sKind ∧ NoAttr K cf sSeries ∧ NoAttr K cf sRows ∧ mg "Fitter" = some (.ref cf) ∧ T t.jc = some (wrapF ji) ∧ t.jc ≠ fDraw ∧ T ji = some (wrapF jk) ∧ ji ≠ fDraw ∧
    (∃ fI fd ps, Mk K cf fI ∧ Binds K fd ps [] ∧ ∀ m, Lev fns ft P w K mg base C T m → FnOk P w K mg base (L2.CX P w) (m + 1) fI fd ps (spInit C (run T m) jk)) ∧
    (∀ p ∈ t.ms, GoodM fns ft P w K mg base C T p) ∧
    (∀ j, t.jl = some j → ∃ jn, T j = some (wrapR jn) ∧ j ≠ fDraw ∧ t.ms.lookup ("__len__" : Str) = some jn) ∧
    (∀ j, t.je = some j → ∃ ga fd ps, Meth K cf "entries" ga ∧ Binds K fd ps [] ∧ FnOk P w K mg base (L2.CX P w) 1 ga fd ps (spEnt C))
theorem lev_fns (g : ∀ p ∈ fns, Good fns ft P w K mg base C T p) {m : Nat} (L : Lev fns ft P w K mg base C T m) : ∀ x i, fns.lookup x = some i → FnAt P w K mg base C T x i (m + 1) := fun x i h => by
  obtain ⟨f, fd, ps, h1, h2, h3, h4⟩ := g (x, i) (mem_of_lookup h)
  exact ⟨f, fd, ps, h1, h2, h3, h4 m L⟩
theorem init_imp {jc ji jk m : Nat} (h1 : T jc = some (wrapF ji)) (h2 : jc ≠ fDraw) (h3 : T ji = some (wrapF jk)) (h4 : ji ≠ fDraw) {vs : List V} {H : Hp} {Q : VK} {E : XK} (h : spInit C (run T (m + 2)) jc vs H Q E) : spInit C (run T m) jk vs H Q E := by
  obtain ⟨B, P', d, w', cf, dx, po, vk, q1, q2, q3, q4, q5, q6, G⟩ := h
  refine ⟨B, P', d, w', cf, dx, po, vk, q1, q2, q3, q4, q5, q6, ?_⟩
  rw [run_wrap h1 h2, run_wrap h3 h4] at G
  revert G
  cases run T m jk [d] w' with
  | ok x w1 => exact fun G => G
  | exc c w1 => exact fun G => G
  | bad => exact fun G => G
/-- the class one level up -/
theorem lev_fit (gf : GoodF fns ft P w K mg base C T) {m : Nat} (L : Lev fns ft P w K mg base C T m) (hI : ∀ t, ft = some t → ∀ cf ji jk fI fd ps, T t.jc = some (wrapF ji) → t.jc ≠ fDraw → T ji = some (wrapF jk) → ji ≠ fDraw → (∀ m, Lev fns ft P w K mg base C T m → FnOk P w K mg base (L2.CX P w) (m + 1) fI fd ps (spInit C (run T m) jk)) → Mk K cf fI →
    (∀ d w, run T (m + 1) t.jc [d] w = .bad) ∨ ∃ k', m + 1 = k' + 1 ∧ FnOk P w K mg base (L2.CX P w) k' fI fd ps (spInit C (run T (m + 1)) t.jc)) : FitAt ft P w K mg base C (run T (m + 1)) (m + 1) := fun t hft => by
  obtain ⟨cf, ji, jk, c1, c2, c3, c4, c5, c6, t1, t2, t3, t4, ⟨fI, fd, ps, m1, m2, m3⟩, hm, hl, he⟩ := gf t hft
  refine ⟨cf, c1, c2, c3, c4, c5, c6, ⟨fI, fd, ps, m1, m2, hI t hft cf ji jk fI fd ps t1 t2 t3 t4 m3 m1⟩, fun n j hl => ?_, fun j hj => ?_, fun j hj => ?_⟩
  · obtain ⟨cf', ga, fd, ps, q0, q1, q2, q3⟩ := hm (n, j) (mem_of_lookup hl)
    rw [c1] at q0
    cases q0
    exact ⟨ga, fd, ps, q1, q2, q3 m L⟩
  · obtain ⟨jn, r1, r2, r3⟩ := hl j hj
    right
    obtain ⟨cf', d1, _, _, _, _, _, _, hm', _⟩ := L.fit t hft
    rw [c1] at d1
    cases d1
    obtain ⟨ga, fd, ps, q1, q2, q3⟩ := hm' _ _ r3
    refine ⟨m, ga, fd, ps, rfl, q1, q2, q3.imp fun vs H Q E h => ?_⟩
    obtain ⟨B, P', ds, w', g1, g2, g3, G⟩ := h
    refine ⟨B, P', ds, w', g1, g2, g3, ?_⟩
    rcases run_wrapR (m := m) r1 r2 ds w' with z | ⟨d, rfl, z⟩
    · rw [z] at G; exact G.elim
    · rw [z] at G
      exact G
  · obtain ⟨ga, fd, ps, q1, q2, q3⟩ := he j hj
    exact .inr ⟨ga, fd, ps, by omega, q1, q2, q3⟩
theorem lev2 (g : ∀ p ∈ fns, Good fns ft P w K mg base C T p) (gf : GoodF fns ft P w K mg base C T) : ∀ m, Lev fns ft P w K mg base C T m ∧ Lev fns ft P w K mg base C T (m + 1)
  | 0 => by
    have L0 : Lev fns ft P w K mg base C T 0 := ⟨fun x i h => by
      obtain ⟨f, fd, ps, h1, h2, h3, _⟩ := g (x, i) (mem_of_lookup h)
      exact ⟨f, fd, ps, h1, h2, h3, fn_zero (x := x)⟩, fun t hft => by
      obtain ⟨cf, ji, jk, c1, c2, c3, c4, c5, c6, t1, t2, t3, t4, ⟨fI, fd, ps, m1, m2, _⟩, hm, _, _⟩ := gf t hft
      refine ⟨cf, c1, c2, c3, c4, c5, c6, ⟨fI, fd, ps, m1, m2, .inl fun d w => rfl⟩, fun m j hl => ?_, fun j _ => .inl fun w => rfl, fun j _ => .inl fun w => rfl⟩
      obtain ⟨cf', ga, fd, ps, q0, q1, q2, q3⟩ := hm (m, j) (mem_of_lookup hl)
      rw [c1] at q0
      cases q0
      exact ⟨ga, fd, ps, q1, q2, fn_zero (x := m)⟩⟩
    refine ⟨L0, lev_fns g L0, lev_fit gf L0 fun t hft cf ji jk fI fd ps t1 t2 t3 t4 _ _ => .inl fun d w => ?_⟩
    rw [run_wrap t1 t2]
    rfl
  | m + 1 => by
    obtain ⟨La, Lb⟩ := lev2 g gf m
    refine ⟨Lb, lev_fns g Lb, lev_fit gf Lb fun t hft cf ji jk fI fd ps t1 t2 t3 t4 m3 _ => .inr ⟨m + 1, rfl, ?_⟩⟩
    exact (m3 m La).imp fun vs H Q E h => init_imp t1 t2 t3 t4 h
theorem level (g : ∀ p ∈ fns, Good fns ft P w K mg base C T p) (gf : GoodF fns ft P w K mg base C T) (m : Nat) : Lev fns ft P w K mg base C T m := (lev2 g gf m).1
theorem good_none : GoodF fns none P w K mg base C T := fun _ h => nomatch h
theorem good_meth {N ps : List Str} {x qual : Str} {st : Stmt} {fn : Fn} {i n : Nat} (F : MF K (C 7) x qual st) (S : FnScope N ps (defScope st)) (hb : BindQ x qual st ps) (hT : T i = some fn)
    (hc : (decide (i ≠ fDraw) && (fn.np == ps.length && (fn.ns == N.length && (decide (ps.length ≤ N.length) && chkSs ⟨N, fns, excs, gi, gs, gt, ft⟩ n (defScope st) (defBody st) fn.body)))) = true) (G : Glob fns excs gi gs gt P w K mg base C) : GoodM fns ft P w K mg base C T (x, i) := by
  obtain ⟨c, f, oc, od, sl, kV, dc, pm, an, cd, ct, h1, h2, h3, h4⟩ := F
  simp only [Bool.and_eq_true, decide_eq_true_eq, beq_iff_eq] at hc
  have h5 := fun_mk (st := st) h3 h4 h2.kp
  exact ⟨c, f, _, ps, h1, h2, h5.binds hb, fun m hf => fn_ok (cf := ⟨N, fns, excs, gi, gs, gt, ft⟩) rfl rfl rfl rfl rfl rfl rfl G h5 S hT hc.1 hc.2.1 hc.2.2.1 hc.2.2.2.1 hc.2.2.2.2 hf⟩
theorem good_ent {st : Stmt} {cf : Addr} (c7 : C 7 = .ref cf) (hC : FitC K C) (F : MF K (C 7) "entries" "Fitter.entries" st) (S : FnScope ["self"] ["self"] (defScope st)) (hbd : BindQ "entries" "Fitter.entries" st ["self"])
    (hb : ∀ (f : Addr) (cdv : Value) (A : Around) (outer : List PySem.Env) (s : Shared) (H : Hp) (E : XK), PSs (cxOf (L2.CX P w) P w K mg base ["self"] "Fitter.entries" (defScope st) f cdv A outer s H E) (defBody st) (t_ent K)) :
    ∃ ga fd ps, Meth K cf "entries" ga ∧ Binds K fd ps [] ∧ FnOk P w K mg base (L2.CX P w) 1 ga fd ps (spEnt C) := by
  obtain ⟨c', f, oc, od, sl, kV, dc, pm, an, cd, ct, h1, h2, h3, h4⟩ := F
  rw [c7] at h1
  cases h1
  have h5 := fun_mk (st := st) h3 h4 h2.kp
  exact ⟨f, _, _, h2, h5.binds hbd, ent_ok (m := 0) h5 S hC (hb f)⟩
theorem gl_some {t : Fit} {j0 jn : Nat} (h : t.jl = some j0) (a : T j0 = some (wrapR jn)) (b : j0 ≠ fDraw) (c : t.ms.lookup ("__len__" : Str) = some jn) : ∀ j, t.jl = some j → ∃ jn, T j = some (wrapR jn) ∧ j ≠ fDraw ∧ t.ms.lookup ("__len__" : Str) = some jn := fun j hj => by
  rw [h] at hj
  cases hj
  exact ⟨jn, a, b, c⟩
theorem gl_none {t : Fit} (h : t.jl = none) : ∀ j, t.jl = some j → ∃ jn, T j = some (wrapR jn) ∧ j ≠ fDraw ∧ t.ms.lookup ("__len__" : Str) = some jn := fun j hj => by
  rw [h] at hj
  cases hj
theorem ge_some {t : Fit} {j0 : Nat} {p : Prop} (h : t.je = some j0) (a : p) : ∀ j, t.je = some j → p := fun _ _ => a
theorem ge_none {t : Fit} {p : Prop} (h : t.je = none) : ∀ j, t.je = some j → p := fun j hj => by
  rw [h] at hj
  cases hj
theorem good_fit {t : Fit} {ji jk : Nat} {st : Stmt} (X : K.In h) (Gn : h.Ns mainGlobals mg) (hC : CF K (C 7)) (t1 : T t.jc = some (wrapF ji)) (t2 : t.jc ≠ fDraw) (t3 : T ji = some (wrapF jk)) (t4 : ji ≠ fDraw) (F : MF K (C 7) "__init__" "Fitter.__init__" st) (S : FnScope ["self", "kind"] ["self", "kind"] (defScope st)) (hbd : BindQ "__init__" "Fitter.__init__" st ["self", "kind"])
    (hb : ∀ m, Lev fns (some t) P w K mg base C T m → ∀ (f : Addr) (cdv : Value) (A : Around) (outer : List PySem.Env) (s : Shared) (H : Hp) (E : XK), Room m (A.deeper (envOfC "Fitter.__init__" (defScope st) s.heap.objs.size f cdv)) →
      PSs (cxOf (L2.CX P w) P w K mg base ["self", "kind"] "Fitter.__init__" (defScope st) f cdv A outer s H E) (defBody st) (t_init K (spF C (run T m) jk) (fun _ => E)))
    (gm : ∀ p ∈ t.ms, GoodM fns (some t) P w K mg base C T p) (gl : ∀ j, t.jl = some j → ∃ jn, T j = some (wrapR jn) ∧ j ≠ fDraw ∧ t.ms.lookup ("__len__" : Str) = some jn)
    (ge : ∀ cf, C 7 = .ref cf → FitC K C → ∀ j, t.je = some j → ∃ ga fd ps, Meth K cf "entries" ga ∧ Binds K fd ps [] ∧ FnOk P w K mg base (L2.CX P w) 1 ga fd ps (spEnt C)) : GoodF fns (some t) P w K mg base C T := fun t' hft => by
  cases hft
  have hC2 := hC.c
  obtain ⟨c, c1, c2, c3, c4, c5, c6, c7, c8⟩ := hC
  obtain ⟨c', f, oc, od, sl, kV, dc, pm, an, cd, ct, h1, h2, h3, h4⟩ := F
  rw [c1] at h1
  cases h1
  have h5 := fun_mk (st := st) h3 h4 h2.kp
  exact ⟨c, ji, jk, c1, c2, c3, c4, c5, PySem.W.mg_of X Gn c6, t1, t2, t3, t4, ⟨f, _, _, ⟨c7, h2.at_, h2.fn, c8⟩, h5.binds hbd, fun m L => init_ok h5 S hC2 (hb m L f)⟩, gm, gl, ge c c1 hC2⟩
theorem good_def {N ps : List Str} {x : Str} {st : Stmt} {fn : Fn} {i n : Nat} (X : K.In h) (Gn : h.Ns mainGlobals mg) (F : FF K x st) (S : FnScope N ps (defScope st)) (hb : BindOk x st ps) (hT : T i = some fn)
    (hc : (decide (i ≠ fDraw) && (fn.np == ps.length && (fn.ns == N.length && (decide (ps.length ≤ N.length) && chkSs ⟨N, fns, excs, gi, gs, gt, ft⟩ n (defScope st) (defBody st) fn.body)))) = true) (G : Glob fns excs gi gs gt P w K mg base C) : Good fns ft P w K mg base C T (x, i) := by
  obtain ⟨f, fd, h1, h2, h3⟩ := F.fn X Gn
  simp only [Bool.and_eq_true, decide_eq_true_eq, beq_iff_eq] at hc
  exact ⟨f, fd, ps, h1, h2, h3.binds hb, fun m hf => fn_ok (cf := ⟨N, fns, excs, gi, gs, gt, ft⟩) rfl rfl rfl rfl rfl rfl rfl G h3 S hT hc.1 hc.2.1 hc.2.2.1 hc.2.2.2.1 hc.2.2.2.2 hf⟩
theorem good_draw {st : Stmt} (X : K.In h) (Gn : h.Ns mainGlobals mg) (F : FF K "_law_draw" st) (S : FnScope ["draws", "limit", "numbers", "at", "cell", "mixed"] ["draws", "limit"] (defScope st)) (hbd : BindOk "_law_draw" st ["draws", "limit"])
    (hb : ∀ (f : Addr) (cdv : Value) (A : Around) (outer : List PySem.Env) (s : Shared) (H : Hp) (E : XK), PSs (cxOf (L2.CX P w) P w K mg base ["draws", "limit", "numbers", "at", "cell", "mixed"] "_law_draw" (defScope st) f cdv A outer s H E) (defBody st) (t_draw K)) : Good fns ft P w K mg base C T ("_law_draw", 1) := by
  obtain ⟨f, fd, h1, h2, h3⟩ := F.fn X Gn
  exact ⟨f, fd, _, h1, h2, h3.binds hbd, fun m _ => draw_ok h3 S (hb f)⟩
theorem glob_of (X : K.In h) (Gn : h.Ns mainGlobals mg) (b : ∀ x ∈ bltNms, PySem.W.nsIn K mainGlobals x = some none) (i : ∀ p ∈ gi, ∃ t, PySem.W.nsIn K mainGlobals p.1 = some (some (.int p.2 t))) (s : ∀ p ∈ gs, ∃ t, PySem.W.nsIn K mainGlobals p.1 = some (some (.str (sOf p.2) t))) (t : ∀ p ∈ gt, GT K p.1 p.2) (e : ∀ p ∈ excs, EF K p.1 (C p.2)) (xs : excs.lookup ("FitError" : Str) = some 0 → XAll K C) :
    Glob fns excs gi gs gt P w K mg base C where
  blt := fun x hx => PySem.W.mg_none_of X Gn (b x hx)
  gi := fun x j hl => by
    obtain ⟨t, ht⟩ := i _ (mem_of_lookup hl)
    exact ⟨t, PySem.W.mg_of X Gn ht⟩
  gs := fun x j hl => by
    obtain ⟨t, ht⟩ := s _ (mem_of_lookup hl)
    exact ⟨t, PySem.W.mg_of X Gn ht⟩
  gt := fun x ks hl => by
    obtain ⟨a, o, its, n, h1, h2⟩ := t _ (mem_of_lookup hl)
    exact ⟨a, PySem.W.mg_of X Gn h1, fun H => .inr ⟨o, its, n, h2⟩⟩
  exc := fun x c hl => by
    obtain ⟨Ca, h1, h2, h3⟩ := e _ (mem_of_lookup hl)
    exact ⟨Ca, h1, PySem.W.mg_of X Gn h2, h3⟩
  xs := xs
/-- the whole text -/
theorem law_all {N : List Str} {st sS : Stmt} {rest : List Stmt} {fn : Fn} {m n : Nat} {p1 p2 p3 p4 p5 : Pos} {fa : Addr} (X : K.In h) (Gn : h.Ns mainGlobals mg) (hfa : mg "law" = some (.ref fa))
    (G : ∀ base, Glob fns excs gi gs gt P w K mg base C) (FL : FF K "law" st) (FS : FF K "_law_start" sS)
    (S : FnScope N ["script"] (defScope st)) (hbL : BindOk "law" st ["script"]) (SS : FnScope ["script"] ["script"] (defScope sS)) (hbS : BindOk "_law_start" sS ["script"])
    (hN0 : N[0]? = some ("script" : Str)) (hN1 : N[1]? = some ("draws" : Str))
    (hbd : defBody st = .Assign [.Name "draws" p1] (.Call (.Name "_law_start" p2) [.Name "script" p3] [] p4) p5 :: rest)
    (hg : (defScope st).names.lookup ("_law_start" : Str) = some .globalImplicit) (hs0 : (defScope st).names.lookup ("script" : Str) = some .local) (hs1 : L2.Loc (defScope st) ("draws" : Str))
    (hc : (fn.ns == N.length && chkSs ⟨N, fns, excs, gi, gs, gt, ft⟩ n (defScope st) rest fn.body) = true)
    (hb : ∀ (base : Heap) (f : Addr) (cdv : Value) (A : Around) (outer : List PySem.Env) (s : Shared) (H : Hp) (E : XK), Room m (A.deeper (envOfC "_law_start" (defScope sS) s.heap.objs.size f cdv)) → PSs (cxOf (L2.CX P w) P w K mg base ["script"] "_law_start" (defScope sS) f cdv A outer s H E) (defBody sS) (t_start K))
    (g : ∀ base, ∀ p ∈ fns, Good fns ft P w K mg base C T p) (gf : ∀ base, GoodF fns ft P w K mg base C T) (hrun : ∀ nums : List Int, ∃ w', runLaw T (m + 1) fn nums = .ok (.bl true) w') :
    ∃ fd : FuncData, (∀ (s : Shared) (u : Value), BindsTo s fd ⟨[u], []⟩ [("script", u)]) ∧ ∀ base : Heap, K.In base → base.Ns mainGlobals mg → FnOk P w K mg base (L2.CX P w) (m + 2) fa fd ["script"] (spLaw K) := by
  obtain ⟨f, oc, od, sl, kV, dc, pm, an, cd, ct, a, l, c, k⟩ := FL
  obtain ⟨f', fd', k1, k2, k3⟩ := FS.fn X Gn
  have e := hfa.symm.trans (PySem.W.mg_of X Gn a)
  cases e
  simp only [Bool.and_eq_true, beq_iff_eq] at hc
  exact ⟨_, fun s u => .of_eq (hbL kV dc pm an cd ct [u] rfl), fun base _ _ => law_ok (cf := ⟨N, fns, excs, gi, gs, gt, ft⟩) rfl rfl rfl rfl rfl rfl rfl (G base) (fun_mk (st := st) l c k) S hc.1 hN0 hN1 hbd hg hs0 hs1 hc.2 (start_ok k3 SS (hb base f')) k1 k2 (k3.binds hbS) (level (g base) (gf base) (m + 1)) hrun⟩
end
end SF

namespace SF.k12
open PySem PySem.Spec PyProof.Rows L2
def topS (i : Nat) : Stmt := PySem.Challenge.pw_stepfits_k12_whole_texts.main.body.getD i (.Pass ⟨0, 0, 0, 0⟩)
def fns : List (Str × Nat) := [(("is_int" : Str), 2), (("is_entry" : Str), 4), (("is_series" : Str), 5), (("check_series" : Str), 6), (("is_cut" : Str), 7), (("common" : Str), 8), (("check_cut" : Str), 20), (("parse_number" : Str), 91), (("format_series" : Str), 92), (("parse_entry" : Str), 93), (("parse_series" : Str), 94), (("format_cut" : Str), 95), (("format_fraction" : Str), 96), (("_law_draw" : Str), 1), (("_law_pick" : Str), 22), (("_law_error" : Str), 90), (("_law_series" : Str), 23), (("_law_low" : Str), 25), (("_law_written" : Str), 97), (("_law_parsed" : Str), 98), (("_law_fraction" : Str), 99), (("_law_rejected" : Str), 100)]
def excs : List (Str × Nat) := [("FitError", 0), ("BadKind", 1), ("BadSeries", 2), ("BadCut", 3), ("BadNumber", 4), ("BadText", 5), ("NotFound", 6)]
def gi : List (Str × Int) := [("MOST_VALUES", 14), ("MOST_VALUE", 999), ("MOST_WEIGHT", 9)]
def gs : List (Str × List Nat) := [("DIGITS", [48, 49, 50, 51, 52, 53, 54, 55, 56, 57])]
def gt : List (Str × List (List Nat)) := []
def ft : Option Fit := none
section
variable {P : Program} {w : World} {K : PySem.W.Frag} {mg : Str → Option Value} {base h : Heap} {C : Nat → Value}
theorem sc_is_int : FnScope ["value", "low", "high"] ["value", "low", "high"] (defScope (topS 11)) := ⟨rfl, rfl, rfl, by decide +kernel, rfl, by decide +kernel, by decide +kernel⟩
theorem bi_is_int : BindOk "is_int" (topS 11) ["value", "low", "high"] := fun _ _ _ _ _ _ us hl => match us, hl with | [_, _, _], _ => rfl
theorem sc_is_entry : FnScope ["value"] ["value"] (defScope (topS 12)) := ⟨rfl, rfl, rfl, by decide +kernel, rfl, by decide +kernel, by decide +kernel⟩
theorem bi_is_entry : BindOk "is_entry" (topS 12) ["value"] := fun _ _ _ _ _ _ us hl => match us, hl with | [_], _ => rfl
theorem sc_is_series : FnScope ["value", "entry"] ["value"] (defScope (topS 13)) := ⟨rfl, rfl, rfl, by decide +kernel, rfl, by decide +kernel, by decide +kernel⟩
theorem bi_is_series : BindOk "is_series" (topS 13) ["value"] := fun _ _ _ _ _ _ us hl => match us, hl with | [_], _ => rfl
theorem sc_check_series : FnScope ["value"] ["value"] (defScope (topS 14)) := ⟨rfl, rfl, rfl, by decide +kernel, rfl, by decide +kernel, by decide +kernel⟩
theorem bi_check_series : BindOk "check_series" (topS 14) ["value"] := fun _ _ _ _ _ _ us hl => match us, hl with | [_], _ => rfl
theorem sc_is_cut : FnScope ["series", "value", "place", "k"] ["series", "value"] (defScope (topS 15)) := ⟨rfl, rfl, rfl, by decide +kernel, rfl, by decide +kernel, by decide +kernel⟩
theorem bi_is_cut : BindOk "is_cut" (topS 15) ["series", "value"] := fun _ _ _ _ _ _ us hl => match us, hl with | [_, _], _ => rfl
theorem sc_common : FnScope ["one", "other"] ["one", "other"] (defScope (topS 17)) := ⟨rfl, rfl, rfl, by decide +kernel, rfl, by decide +kernel, by decide +kernel⟩
theorem bi_common : BindOk "common" (topS 17) ["one", "other"] := fun _ _ _ _ _ _ us hl => match us, hl with | [_, _], _ => rfl
theorem sc_check_cut : FnScope ["series", "cut"] ["series", "cut"] (defScope (topS 19)) := ⟨rfl, rfl, rfl, by decide +kernel, rfl, by decide +kernel, by decide +kernel⟩
theorem bi_check_cut : BindOk "check_cut" (topS 19) ["series", "cut"] := fun _ _ _ _ _ _ us hl => match us, hl with | [_, _], _ => rfl
theorem sc_parse_number : FnScope ["word", "plain", "sign"] ["word"] (defScope (topS 22)) := ⟨rfl, rfl, rfl, by decide +kernel, rfl, by decide +kernel, by decide +kernel⟩
theorem bi_parse_number : BindOk "parse_number" (topS 22) ["word"] := fun _ _ _ _ _ _ us hl => match us, hl with | [_], _ => rfl
theorem sc_format_series : FnScope ["series", "value", "weight"] ["series"] (defScope (topS 23)) := ⟨rfl, rfl, rfl, by decide +kernel, rfl, by decide +kernel, by decide +kernel⟩
theorem bi_format_series : BindOk "format_series" (topS 23) ["series"] := fun _ _ _ _ _ _ us hl => match us, hl with | [_], _ => rfl
theorem sc_parse_entry : FnScope ["word", "parts"] ["word"] (defScope (topS 24)) := ⟨rfl, rfl, rfl, by decide +kernel, rfl, by decide +kernel, by decide +kernel⟩
theorem bi_parse_entry : BindOk "parse_entry" (topS 24) ["word"] := fun _ _ _ _ _ _ us hl => match us, hl with | [_], _ => rfl
theorem sc_parse_series : FnScope ["text", "found", "word"] ["text"] (defScope (topS 25)) := ⟨rfl, rfl, rfl, by decide +kernel, rfl, by decide +kernel, by decide +kernel⟩
theorem bi_parse_series : BindOk "parse_series" (topS 25) ["text"] := fun _ _ _ _ _ _ us hl => match us, hl with | [_], _ => rfl
theorem sc_format_cut : FnScope ["series", "cut", "words", "value", "weight", "place"] ["series", "cut"] (defScope (topS 26)) := ⟨rfl, rfl, rfl, by decide +kernel, rfl, by decide +kernel, by decide +kernel⟩
theorem bi_format_cut : BindOk "format_cut" (topS 26) ["series", "cut"] := fun _ _ _ _ _ _ us hl => match us, hl with | [_, _], _ => rfl
theorem sc_format_fraction : FnScope ["value", "part"] ["value"] (defScope (topS 27)) := ⟨rfl, rfl, rfl, by decide +kernel, rfl, by decide +kernel, by decide +kernel⟩
theorem bi_format_fraction : BindOk "format_fraction" (topS 27) ["value"] := fun _ _ _ _ _ _ us hl => match us, hl with | [_], _ => rfl
theorem sc__law_draw : FnScope ["draws", "limit", "numbers", "at", "cell", "mixed"] ["draws", "limit"] (defScope (topS 30)) := ⟨rfl, rfl, rfl, by decide +kernel, rfl, by decide +kernel, by decide +kernel⟩
theorem bi__law_draw : BindOk "_law_draw" (topS 30) ["draws", "limit"] := fun _ _ _ _ _ _ us hl => match us, hl with | [_, _], _ => rfl
theorem sc__law_pick : FnScope ["draws", "choices"] ["draws", "choices"] (defScope (topS 31)) := ⟨rfl, rfl, rfl, by decide +kernel, rfl, by decide +kernel, by decide +kernel⟩
theorem bi__law_pick : BindOk "_law_pick" (topS 31) ["draws", "choices"] := fun _ _ _ _ _ _ us hl => match us, hl with | [_, _], _ => rfl
theorem sc__law_error : FnScope ["caught", "kinds"] ["caught"] (defScope (topS 32)) := ⟨rfl, rfl, rfl, by decide +kernel, rfl, by decide +kernel, by decide +kernel⟩
theorem bi__law_error : BindOk "_law_error" (topS 32) ["caught"] := fun _ _ _ _ _ _ us hl => match us, hl with | [_], _ => rfl
theorem sc__law_series : FnScope ["draws", "most", "wide", "heavy", "value", "found", "k"] ["draws", "most"] (defScope (topS 33)) := ⟨rfl, rfl, rfl, by decide +kernel, rfl, by decide +kernel, by decide +kernel⟩
theorem bi__law_series : BindOk "_law_series" (topS 33) ["draws", "most"] := fun _ _ _ _ _ _ us hl => match us, hl with | [_, _], _ => rfl
theorem sc__law_low : FnScope ["top", "under", "one", "other"] ["top", "under"] (defScope (topS 34)) := ⟨rfl, rfl, rfl, by decide +kernel, rfl, by decide +kernel, by decide +kernel⟩
theorem bi__law_low : BindOk "_law_low" (topS 34) ["top", "under"] := fun _ _ _ _ _ _ us hl => match us, hl with | [_, _], _ => rfl
theorem sc__law_written : FnScope ["series", "value", "weight"] ["series"] (defScope (topS 35)) := ⟨rfl, rfl, rfl, by decide +kernel, rfl, by decide +kernel, by decide +kernel⟩
theorem bi__law_written : BindOk "_law_written" (topS 35) ["series"] := fun _ _ _ _ _ _ us hl => match us, hl with | [_], _ => rfl
theorem sc__law_parsed : FnScope ["text", "found", "caught", "e"] ["text"] (defScope (topS 36)) := ⟨rfl, rfl, rfl, by decide +kernel, rfl, by decide +kernel, by decide +kernel⟩
theorem bi__law_parsed : BindOk "_law_parsed" (topS 36) ["text"] := fun _ _ _ _ _ _ us hl => match us, hl with | [_], _ => rfl
theorem sc__law_fraction : FnScope ["value", "found", "caught", "e"] ["value"] (defScope (topS 37)) := ⟨rfl, rfl, rfl, by decide +kernel, rfl, by decide +kernel, by decide +kernel⟩
theorem bi__law_fraction : BindOk "_law_fraction" (topS 37) ["value"] := fun _ _ _ _ _ _ us hl => match us, hl with | [_], _ => rfl
theorem sc__law_rejected : FnScope ["odd", "bad"] [] (defScope (topS 38)) := ⟨rfl, rfl, rfl, by decide +kernel, rfl, by decide +kernel, by decide +kernel⟩
theorem bi__law_rejected : BindOk "_law_rejected" (topS 38) [] := fun _ _ _ _ _ _ us hl => match us, hl with | [], _ => rfl
theorem sc__law_start : FnScope ["script"] ["script"] (defScope (topS 29)) := ⟨rfl, rfl, rfl, by decide +kernel, rfl, by decide +kernel, by decide +kernel⟩
theorem bi__law_start : BindOk "_law_start" (topS 29) ["script"] := fun _ _ _ _ _ _ us hl => match us, hl with | [_], _ => rfl
theorem sc_law : FnScope ["script", "draws", "series", "text", "cut", "place", "words", "mark", "value", "turn", "at", "other", "found"] ["script"] (defScope (topS 39)) := ⟨rfl, rfl, rfl, by decide +kernel, rfl, by decide +kernel, by decide +kernel⟩
theorem bi_law : BindOk "law" (topS 39) ["script"] := fun _ _ _ _ _ _ us hl => match us, hl with | [_], _ => rfl
theorem g_is_int (X : K.In h) (Gn : h.Ns mainGlobals mg) (F : FF K "is_int" (topS 11)) (G : Glob fns excs gi gs gt P w K mg base C) : Good fns ft P w K mg base C T0 ("is_int", 2) :=
  good_def (n := 60) X Gn F sc_is_int bi_is_int (fn := SF.b_is_int) rfl (by decide +kernel) G
theorem g_is_entry (X : K.In h) (Gn : h.Ns mainGlobals mg) (F : FF K "is_entry" (topS 12)) (G : Glob fns excs gi gs gt P w K mg base C) : Good fns ft P w K mg base C T0 ("is_entry", 4) :=
  good_def (n := 60) X Gn F sc_is_entry bi_is_entry (fn := SF.b_is_entry) rfl (by decide +kernel) G
theorem g_is_series (X : K.In h) (Gn : h.Ns mainGlobals mg) (F : FF K "is_series" (topS 13)) (G : Glob fns excs gi gs gt P w K mg base C) : Good fns ft P w K mg base C T0 ("is_series", 5) :=
  good_def (n := 60) X Gn F sc_is_series bi_is_series (fn := SF.b_is_series) rfl (by decide +kernel) G
theorem g_check_series (X : K.In h) (Gn : h.Ns mainGlobals mg) (F : FF K "check_series" (topS 14)) (G : Glob fns excs gi gs gt P w K mg base C) : Good fns ft P w K mg base C T0 ("check_series", 6) :=
  good_def (n := 60) X Gn F sc_check_series bi_check_series (fn := SF.b_check_series) rfl (by decide +kernel) G
theorem g_is_cut (X : K.In h) (Gn : h.Ns mainGlobals mg) (F : FF K "is_cut" (topS 15)) (G : Glob fns excs gi gs gt P w K mg base C) : Good fns ft P w K mg base C T0 ("is_cut", 7) :=
  good_def (n := 60) X Gn F sc_is_cut bi_is_cut (fn := SF.b_is_cut) rfl (by decide +kernel) G
theorem g_common (X : K.In h) (Gn : h.Ns mainGlobals mg) (F : FF K "common" (topS 17)) (G : Glob fns excs gi gs gt P w K mg base C) : Good fns ft P w K mg base C T0 ("common", 8) :=
  good_def (n := 60) X Gn F sc_common bi_common (fn := SF.b_common) rfl (by decide +kernel) G
theorem g_check_cut (X : K.In h) (Gn : h.Ns mainGlobals mg) (F : FF K "check_cut" (topS 19)) (G : Glob fns excs gi gs gt P w K mg base C) : Good fns ft P w K mg base C T0 ("check_cut", 20) :=
  good_def (n := 60) X Gn F sc_check_cut bi_check_cut (fn := SF.b_check_cut) rfl (by decide +kernel) G
theorem g_parse_number (X : K.In h) (Gn : h.Ns mainGlobals mg) (F : FF K "parse_number" (topS 22)) (G : Glob fns excs gi gs gt P w K mg base C) : Good fns ft P w K mg base C T0 ("parse_number", 91) :=
  good_def (n := 60) X Gn F sc_parse_number bi_parse_number (fn := SF.b_parse_number) rfl (by decide +kernel) G
theorem g_format_series (X : K.In h) (Gn : h.Ns mainGlobals mg) (F : FF K "format_series" (topS 23)) (G : Glob fns excs gi gs gt P w K mg base C) : Good fns ft P w K mg base C T0 ("format_series", 92) :=
  good_def (n := 60) X Gn F sc_format_series bi_format_series (fn := SF.b_format_series) rfl (by decide +kernel) G
theorem g_parse_entry (X : K.In h) (Gn : h.Ns mainGlobals mg) (F : FF K "parse_entry" (topS 24)) (G : Glob fns excs gi gs gt P w K mg base C) : Good fns ft P w K mg base C T0 ("parse_entry", 93) :=
  good_def (n := 60) X Gn F sc_parse_entry bi_parse_entry (fn := SF.b_parse_entry) rfl (by decide +kernel) G
theorem g_parse_series (X : K.In h) (Gn : h.Ns mainGlobals mg) (F : FF K "parse_series" (topS 25)) (G : Glob fns excs gi gs gt P w K mg base C) : Good fns ft P w K mg base C T0 ("parse_series", 94) :=
  good_def (n := 60) X Gn F sc_parse_series bi_parse_series (fn := SF.b_parse_series) rfl (by decide +kernel) G
theorem g_format_cut (X : K.In h) (Gn : h.Ns mainGlobals mg) (F : FF K "format_cut" (topS 26)) (G : Glob fns excs gi gs gt P w K mg base C) : Good fns ft P w K mg base C T0 ("format_cut", 95) :=
  good_def (n := 60) X Gn F sc_format_cut bi_format_cut (fn := SF.b_format_cut) rfl (by decide +kernel) G
theorem g_format_fraction (X : K.In h) (Gn : h.Ns mainGlobals mg) (F : FF K "format_fraction" (topS 27)) (G : Glob fns excs gi gs gt P w K mg base C) : Good fns ft P w K mg base C T0 ("format_fraction", 96) :=
  good_def (n := 60) X Gn F sc_format_fraction bi_format_fraction (fn := SF.b_format_fraction) rfl (by decide +kernel) G
theorem ps_draw (ml : mg "len" = none) (f : Addr) (cdv : Value) (A : Around) (outer : List PySem.Env) (s : Shared) (H : Hp) (E : XK) : PSs (cxOf (L2.CX P w) P w K mg base ["draws", "limit", "numbers", "at", "cell", "mixed"] "_law_draw" (defScope (topS 30)) f cdv A outer s H E) (defBody (topS 30)) (t_draw K) :=
  pss_cons (ps_set (i := 2) sc__law_draw.nd rfl (.inl rfl) (pe_ix ix_list (pv 0) pe_int (fun _ _ => rfl)))
  (pss_cons (ps_asg (pe_op op_add (pe_ix ix_list (pv 0) pe_int (fun _ _ => rfl)) pe_int) (pg_sub (pv 0) pe_int set_list))
  (pss_cons (ps_set (i := 3) sc__law_draw.nd rfl (.inl rfl) (pe_op op_mod (pe_ix ix_list (pv 0) pe_int (fun _ _ => rfl)) (pe_callB call_len_seq rfl ml PySem.boot_len (pa_cons (pv 2) pa_nil))))
  (pss_cons (ps_set (i := 4) sc__law_draw.nd rfl (.inl rfl) (pe_ix ix_list (pv 2) (pv 3) (fun _ _ => rfl)))
  (pss_cons (ps_if (pt_cmpR op_ge (pv 4) pe_int (nomark _)) (pss_cons (ps_asg (pe_op op_fdiv (pv 4) (pv 1)) (pg_sub (pv 2) (pv 3) set_list)) (pss_one (ps_ret (pe_op op_mod (pv 4) (pv 1))))) pss_nil)
  (pss_cons (ps_set (i := 5) sc__law_draw.nd rfl (.inl rfl) (pe_op op_mod (pe_op op_add (pv 4) (pe_op op_mul pe_int (pe_ix ix_list (pv 0) pe_int (fun _ _ => rfl)))) pe_int))
  (pss_cons (ps_set (i := 5) sc__law_draw.nd rfl (.inl rfl) (pe_op op_mod (pe_op op_pow (pv 5) pe_int) pe_int))
  (pss_one (ps_ret (pe_op op_mod (pe_op op_fdiv (pe_op op_mod (pe_op op_add (pe_op op_mul (pe_op op_fdiv (pv 5) pe_int) pe_int) (pv 5)) pe_int) pe_int) (pv 1))))))))))
theorem g__law_draw (X : K.In h) (Gn : h.Ns mainGlobals mg) (F : FF K "_law_draw" (topS 30)) (G : Glob fns excs gi gs gt P w K mg base C) : Good fns ft P w K mg base C T0 ("_law_draw", 1) :=
  good_draw X Gn F sc__law_draw bi__law_draw (ps_draw (G.blt "len" (by decide +kernel)))
theorem g__law_pick (X : K.In h) (Gn : h.Ns mainGlobals mg) (F : FF K "_law_pick" (topS 31)) (G : Glob fns excs gi gs gt P w K mg base C) : Good fns ft P w K mg base C T0 ("_law_pick", 22) :=
  good_def (n := 60) X Gn F sc__law_pick bi__law_pick (fn := SF.b__law_pick) rfl (by decide +kernel) G
theorem g__law_error (X : K.In h) (Gn : h.Ns mainGlobals mg) (F : FF K "_law_error" (topS 32)) (G : Glob fns excs gi gs gt P w K mg base C) : Good fns ft P w K mg base C T0 ("_law_error", 90) :=
  good_def (n := 60) X Gn F sc__law_error bi__law_error (fn := SF.b__law_error) rfl (by decide +kernel) G
theorem g__law_series (X : K.In h) (Gn : h.Ns mainGlobals mg) (F : FF K "_law_series" (topS 33)) (G : Glob fns excs gi gs gt P w K mg base C) : Good fns ft P w K mg base C T0 ("_law_series", 23) :=
  good_def (n := 60) X Gn F sc__law_series bi__law_series (fn := SF.b__law_series) rfl (by decide +kernel) G
theorem g__law_low (X : K.In h) (Gn : h.Ns mainGlobals mg) (F : FF K "_law_low" (topS 34)) (G : Glob fns excs gi gs gt P w K mg base C) : Good fns ft P w K mg base C T0 ("_law_low", 25) :=
  good_def (n := 60) X Gn F sc__law_low bi__law_low (fn := SF.b__law_low) rfl (by decide +kernel) G
theorem g__law_written (X : K.In h) (Gn : h.Ns mainGlobals mg) (F : FF K "_law_written" (topS 35)) (G : Glob fns excs gi gs gt P w K mg base C) : Good fns ft P w K mg base C T0 ("_law_written", 97) :=
  good_def (n := 60) X Gn F sc__law_written bi__law_written (fn := SF.b__law_written) rfl (by decide +kernel) G
theorem g__law_parsed (X : K.In h) (Gn : h.Ns mainGlobals mg) (F : FF K "_law_parsed" (topS 36)) (G : Glob fns excs gi gs gt P w K mg base C) : Good fns ft P w K mg base C T0 ("_law_parsed", 98) :=
  good_def (n := 60) X Gn F sc__law_parsed bi__law_parsed (fn := SF.b__law_parsed) rfl (by decide +kernel) G
theorem g__law_fraction (X : K.In h) (Gn : h.Ns mainGlobals mg) (F : FF K "_law_fraction" (topS 37)) (G : Glob fns excs gi gs gt P w K mg base C) : Good fns ft P w K mg base C T0 ("_law_fraction", 99) :=
  good_def (n := 60) X Gn F sc__law_fraction bi__law_fraction (fn := SF.b__law_fraction) rfl (by decide +kernel) G
theorem g__law_rejected (X : K.In h) (Gn : h.Ns mainGlobals mg) (F : FF K "_law_rejected" (topS 38)) (G : Glob fns excs gi gs gt P w K mg base C) : Good fns ft P w K mg base C T0 ("_law_rejected", 100) :=
  good_def (n := 60) X Gn F sc__law_rejected bi__law_rejected (fn := SF.b__law_rejected) rfl (by decide +kernel) G
theorem ps_start {m : Nat} (ml : mg "list" = none) (f : Addr) (cdv : Value) (A : Around) (outer : List PySem.Env) (s : Shared) (H : Hp) (E : XK) (hr : Room m (A.deeper (envOfC "_law_start" (defScope (topS 29)) s.heap.objs.size f cdv))) : PSs (cxOf (L2.CX P w) P w K mg base ["script"] "_law_start" (defScope (topS 29)) f cdv A outer s H E) (defBody (topS 29)) (t_start K) :=
  pss_one (ps_ret (pe_lst (pa_cons (pe_ifExp (pt_cmpR (op_neD hr.units) (pv 0) (pe_lst pa_nil) (nomark _)) (pe_callTy call_list_of rfl ml (by decide +kernel) (pa_cons (pv 0) pa_nil)) (pe_lst (pa_cons pe_int pa_nil))) (pa_cons pe_int pa_nil))))
theorem all {fa : Addr} {v_FitError v_BadKind v_BadSeries v_BadCut v_BadNumber v_BadText v_NotFound : Value} {t_MOST_VALUES} {t_MOST_VALUE} {t_MOST_WEIGHT} {t_DIGITS} (X : K.In h) (Gn : h.Ns mainGlobals mg) (hfa : mg "law" = some (.ref fa))  (q_is_int : FF K "is_int" (topS 11)) (q_is_entry : FF K "is_entry" (topS 12)) (q_is_series : FF K "is_series" (topS 13)) (q_check_series : FF K "check_series" (topS 14)) (q_is_cut : FF K "is_cut" (topS 15)) (q_common : FF K "common" (topS 17)) (q_check_cut : FF K "check_cut" (topS 19)) (q_parse_number : FF K "parse_number" (topS 22)) (q_format_series : FF K "format_series" (topS 23)) (q_parse_entry : FF K "parse_entry" (topS 24)) (q_parse_series : FF K "parse_series" (topS 25)) (q_format_cut : FF K "format_cut" (topS 26)) (q_format_fraction : FF K "format_fraction" (topS 27)) (q__law_draw : FF K "_law_draw" (topS 30)) (q__law_pick : FF K "_law_pick" (topS 31)) (q__law_error : FF K "_law_error" (topS 32)) (q__law_series : FF K "_law_series" (topS 33)) (q__law_low : FF K "_law_low" (topS 34)) (q__law_written : FF K "_law_written" (topS 35)) (q__law_parsed : FF K "_law_parsed" (topS 36)) (q__law_fraction : FF K "_law_fraction" (topS 37)) (q__law_rejected : FF K "_law_rejected" (topS 38)) (q__law_start : FF K "_law_start" (topS 29)) (q_law : FF K "law" (topS 39)) (e_FitError : EF K "FitError" v_FitError) (e_BadKind : EF K "BadKind" v_BadKind) (e_BadSeries : EF K "BadSeries" v_BadSeries) (e_BadCut : EF K "BadCut" v_BadCut) (e_BadNumber : EF K "BadNumber" v_BadNumber) (e_BadText : EF K "BadText" v_BadText) (e_NotFound : EF K "NotFound" v_NotFound) (x_FitError : XF K v_FitError) (x_BadKind : XF K v_BadKind) (x_BadSeries : XF K v_BadSeries) (x_BadCut : XF K v_BadCut) (x_BadNumber : XF K v_BadNumber) (x_BadText : XF K v_BadText) (x_NotFound : XF K v_NotFound) (o_FitError : PySem.W.subIn K v_FitError v_FitError = some true) (o_BadKind : PySem.W.subIn K v_BadKind v_FitError = some true) (o_BadSeries : PySem.W.subIn K v_BadSeries v_FitError = some true) (o_BadCut : PySem.W.subIn K v_BadCut v_FitError = some true) (o_BadNumber : PySem.W.subIn K v_BadNumber v_FitError = some true) (o_BadText : PySem.W.subIn K v_BadText v_FitError = some true) (o_NotFound : PySem.W.subIn K v_NotFound v_FitError = some true) (u_FitError : PySem.W.kitOne K v_FitError (.type "ValueError") = some true) (u_BadKind : PySem.W.kitOne K v_BadKind (.type "ValueError") = some true) (u_BadSeries : PySem.W.kitOne K v_BadSeries (.type "ValueError") = some true) (u_BadCut : PySem.W.kitOne K v_BadCut (.type "ValueError") = some true) (u_BadNumber : PySem.W.kitOne K v_BadNumber (.type "ValueError") = some true) (u_BadText : PySem.W.kitOne K v_BadText (.type "ValueError") = some true) (u_NotFound : PySem.W.kitOne K v_NotFound (.type "ValueError") = some true) (t_FitError_FitError : PySem.W.kitOne K v_FitError v_FitError = some true) (t_FitError_BadKind : PySem.W.kitOne K v_FitError v_BadKind = some false) (t_FitError_BadSeries : PySem.W.kitOne K v_FitError v_BadSeries = some false) (t_FitError_BadCut : PySem.W.kitOne K v_FitError v_BadCut = some false) (t_FitError_BadNumber : PySem.W.kitOne K v_FitError v_BadNumber = some false) (t_FitError_BadText : PySem.W.kitOne K v_FitError v_BadText = some false) (t_FitError_NotFound : PySem.W.kitOne K v_FitError v_NotFound = some false) (t_BadKind_FitError : PySem.W.kitOne K v_BadKind v_FitError = some true) (t_BadKind_BadKind : PySem.W.kitOne K v_BadKind v_BadKind = some true) (t_BadKind_BadSeries : PySem.W.kitOne K v_BadKind v_BadSeries = some false) (t_BadKind_BadCut : PySem.W.kitOne K v_BadKind v_BadCut = some false) (t_BadKind_BadNumber : PySem.W.kitOne K v_BadKind v_BadNumber = some false) (t_BadKind_BadText : PySem.W.kitOne K v_BadKind v_BadText = some false) (t_BadKind_NotFound : PySem.W.kitOne K v_BadKind v_NotFound = some false) (t_BadSeries_FitError : PySem.W.kitOne K v_BadSeries v_FitError = some true) (t_BadSeries_BadKind : PySem.W.kitOne K v_BadSeries v_BadKind = some false) (t_BadSeries_BadSeries : PySem.W.kitOne K v_BadSeries v_BadSeries = some true) (t_BadSeries_BadCut : PySem.W.kitOne K v_BadSeries v_BadCut = some false) (t_BadSeries_BadNumber : PySem.W.kitOne K v_BadSeries v_BadNumber = some false) (t_BadSeries_BadText : PySem.W.kitOne K v_BadSeries v_BadText = some false) (t_BadSeries_NotFound : PySem.W.kitOne K v_BadSeries v_NotFound = some false) (t_BadCut_FitError : PySem.W.kitOne K v_BadCut v_FitError = some true) (t_BadCut_BadKind : PySem.W.kitOne K v_BadCut v_BadKind = some false) (t_BadCut_BadSeries : PySem.W.kitOne K v_BadCut v_BadSeries = some false) (t_BadCut_BadCut : PySem.W.kitOne K v_BadCut v_BadCut = some true) (t_BadCut_BadNumber : PySem.W.kitOne K v_BadCut v_BadNumber = some false) (t_BadCut_BadText : PySem.W.kitOne K v_BadCut v_BadText = some false) (t_BadCut_NotFound : PySem.W.kitOne K v_BadCut v_NotFound = some false) (t_BadNumber_FitError : PySem.W.kitOne K v_BadNumber v_FitError = some true) (t_BadNumber_BadKind : PySem.W.kitOne K v_BadNumber v_BadKind = some false) (t_BadNumber_BadSeries : PySem.W.kitOne K v_BadNumber v_BadSeries = some false) (t_BadNumber_BadCut : PySem.W.kitOne K v_BadNumber v_BadCut = some false) (t_BadNumber_BadNumber : PySem.W.kitOne K v_BadNumber v_BadNumber = some true) (t_BadNumber_BadText : PySem.W.kitOne K v_BadNumber v_BadText = some false) (t_BadNumber_NotFound : PySem.W.kitOne K v_BadNumber v_NotFound = some false) (t_BadText_FitError : PySem.W.kitOne K v_BadText v_FitError = some true) (t_BadText_BadKind : PySem.W.kitOne K v_BadText v_BadKind = some false) (t_BadText_BadSeries : PySem.W.kitOne K v_BadText v_BadSeries = some false) (t_BadText_BadCut : PySem.W.kitOne K v_BadText v_BadCut = some false) (t_BadText_BadNumber : PySem.W.kitOne K v_BadText v_BadNumber = some false) (t_BadText_BadText : PySem.W.kitOne K v_BadText v_BadText = some true) (t_BadText_NotFound : PySem.W.kitOne K v_BadText v_NotFound = some false) (t_NotFound_FitError : PySem.W.kitOne K v_NotFound v_FitError = some true) (t_NotFound_BadKind : PySem.W.kitOne K v_NotFound v_BadKind = some false) (t_NotFound_BadSeries : PySem.W.kitOne K v_NotFound v_BadSeries = some false) (t_NotFound_BadCut : PySem.W.kitOne K v_NotFound v_BadCut = some false) (t_NotFound_BadNumber : PySem.W.kitOne K v_NotFound v_BadNumber = some false) (t_NotFound_BadText : PySem.W.kitOne K v_NotFound v_BadText = some false) (t_NotFound_NotFound : PySem.W.kitOne K v_NotFound v_NotFound = some true) (b_len : PySem.W.nsIn K mainGlobals "len" = some none) (b_abs : PySem.W.nsIn K mainGlobals "abs" = some none) (b_sum : PySem.W.nsIn K mainGlobals "sum" = some none) (b_sorted : PySem.W.nsIn K mainGlobals "sorted" = some none) (b_min : PySem.W.nsIn K mainGlobals "min" = some none) (b_max : PySem.W.nsIn K mainGlobals "max" = some none) (b_list : PySem.W.nsIn K mainGlobals "list" = some none) (b_tuple : PySem.W.nsIn K mainGlobals "tuple" = some none) (b_all : PySem.W.nsIn K mainGlobals "all" = some none) (b_range : PySem.W.nsIn K mainGlobals "range" = some none) (b_enumerate : PySem.W.nsIn K mainGlobals "enumerate" = some none) (b_isinstance : PySem.W.nsIn K mainGlobals "isinstance" = some none) (b_int : PySem.W.nsIn K mainGlobals "int" = some none) (b_bool : PySem.W.nsIn K mainGlobals "bool" = some none) (b_str : PySem.W.nsIn K mainGlobals "str" = some none) (b_set : PySem.W.nsIn K mainGlobals "set" = some none) (b_ValueError : PySem.W.nsIn K mainGlobals "ValueError" = some none) (i_MOST_VALUES : PySem.W.nsIn K mainGlobals "MOST_VALUES" = some (some (.int 14 t_MOST_VALUES))) (i_MOST_VALUE : PySem.W.nsIn K mainGlobals "MOST_VALUE" = some (some (.int 999 t_MOST_VALUE))) (i_MOST_WEIGHT : PySem.W.nsIn K mainGlobals "MOST_WEIGHT" = some (some (.int 9 t_MOST_WEIGHT))) (s_DIGITS : PySem.W.nsIn K mainGlobals "DIGITS" = some (some (.str (sOf [48, 49, 50, 51, 52, 53, 54, 55, 56, 57]) t_DIGITS))) 
    (hrun : ∀ nums : List Int, ∃ w', runLaw T0 13 b_law nums = .ok (.bl true) w') :
    ∃ fd : FuncData, (∀ (s : Shared) (u : Value), BindsTo s fd ⟨[u], []⟩ [("script", u)]) ∧ ∀ base : Heap, K.In base → base.Ns mainGlobals mg → FnOk P w K mg base (L2.CX P w) 14 fa fd ["script"] (spLaw K) := by
  have G : ∀ base, Glob fns excs gi gs gt P w K mg base (fun c => if c = 0 then v_FitError else if c = 1 then v_BadKind else if c = 2 then v_BadSeries else if c = 3 then v_BadCut else if c = 4 then v_BadNumber else if c = 5 then v_BadText else if c = 6 then v_NotFound else Value.none) := fun base => glob_of X Gn (List.forall_mem_cons.mpr ⟨b_len, (List.forall_mem_cons.mpr ⟨b_abs, (List.forall_mem_cons.mpr ⟨b_sum, (List.forall_mem_cons.mpr ⟨b_sorted, (List.forall_mem_cons.mpr ⟨b_min, (List.forall_mem_cons.mpr ⟨b_max, (List.forall_mem_cons.mpr ⟨b_list, (List.forall_mem_cons.mpr ⟨b_tuple, (List.forall_mem_cons.mpr ⟨b_all, (List.forall_mem_cons.mpr ⟨b_range, (List.forall_mem_cons.mpr ⟨b_enumerate, (List.forall_mem_cons.mpr ⟨b_isinstance, (List.forall_mem_cons.mpr ⟨b_int, (List.forall_mem_cons.mpr ⟨b_bool, (List.forall_mem_cons.mpr ⟨b_str, (List.forall_mem_cons.mpr ⟨b_set, (List.forall_mem_cons.mpr ⟨b_ValueError, (fun _ z => nomatch z)⟩)⟩)⟩)⟩)⟩)⟩)⟩)⟩)⟩)⟩)⟩)⟩)⟩)⟩)⟩)⟩)⟩) (List.forall_mem_cons.mpr ⟨⟨_, i_MOST_VALUES⟩, (List.forall_mem_cons.mpr ⟨⟨_, i_MOST_VALUE⟩, (List.forall_mem_cons.mpr ⟨⟨_, i_MOST_WEIGHT⟩, (fun _ z => nomatch z)⟩)⟩)⟩) (List.forall_mem_cons.mpr ⟨⟨_, s_DIGITS⟩, (fun _ z => nomatch z)⟩) (fun _ z => nomatch z) (List.forall_mem_cons.mpr ⟨e_FitError, (List.forall_mem_cons.mpr ⟨e_BadKind, (List.forall_mem_cons.mpr ⟨e_BadSeries, (List.forall_mem_cons.mpr ⟨e_BadCut, (List.forall_mem_cons.mpr ⟨e_BadNumber, (List.forall_mem_cons.mpr ⟨e_BadText, (List.forall_mem_cons.mpr ⟨e_NotFound, (fun _ z => nomatch z)⟩)⟩)⟩)⟩)⟩)⟩)⟩) (fun _ => seven (xrow (C := fun c => if c = 0 then v_FitError else if c = 1 then v_BadKind else if c = 2 then v_BadSeries else if c = 3 then v_BadCut else if c = 4 then v_BadNumber else if c = 5 then v_BadText else if c = 6 then v_NotFound else Value.none) (k := 0) x_FitError (exm0 e_FitError x_FitError o_FitError) u_FitError (seven t_FitError_FitError t_FitError_BadKind t_FitError_BadSeries t_FitError_BadCut t_FitError_BadNumber t_FitError_BadText t_FitError_NotFound)) (xrow (C := fun c => if c = 0 then v_FitError else if c = 1 then v_BadKind else if c = 2 then v_BadSeries else if c = 3 then v_BadCut else if c = 4 then v_BadNumber else if c = 5 then v_BadText else if c = 6 then v_NotFound else Value.none) (k := 1) x_BadKind (exm0 e_FitError x_FitError o_BadKind) u_BadKind (seven t_BadKind_FitError t_BadKind_BadKind t_BadKind_BadSeries t_BadKind_BadCut t_BadKind_BadNumber t_BadKind_BadText t_BadKind_NotFound)) (xrow (C := fun c => if c = 0 then v_FitError else if c = 1 then v_BadKind else if c = 2 then v_BadSeries else if c = 3 then v_BadCut else if c = 4 then v_BadNumber else if c = 5 then v_BadText else if c = 6 then v_NotFound else Value.none) (k := 2) x_BadSeries (exm0 e_FitError x_FitError o_BadSeries) u_BadSeries (seven t_BadSeries_FitError t_BadSeries_BadKind t_BadSeries_BadSeries t_BadSeries_BadCut t_BadSeries_BadNumber t_BadSeries_BadText t_BadSeries_NotFound)) (xrow (C := fun c => if c = 0 then v_FitError else if c = 1 then v_BadKind else if c = 2 then v_BadSeries else if c = 3 then v_BadCut else if c = 4 then v_BadNumber else if c = 5 then v_BadText else if c = 6 then v_NotFound else Value.none) (k := 3) x_BadCut (exm0 e_FitError x_FitError o_BadCut) u_BadCut (seven t_BadCut_FitError t_BadCut_BadKind t_BadCut_BadSeries t_BadCut_BadCut t_BadCut_BadNumber t_BadCut_BadText t_BadCut_NotFound)) (xrow (C := fun c => if c = 0 then v_FitError else if c = 1 then v_BadKind else if c = 2 then v_BadSeries else if c = 3 then v_BadCut else if c = 4 then v_BadNumber else if c = 5 then v_BadText else if c = 6 then v_NotFound else Value.none) (k := 4) x_BadNumber (exm0 e_FitError x_FitError o_BadNumber) u_BadNumber (seven t_BadNumber_FitError t_BadNumber_BadKind t_BadNumber_BadSeries t_BadNumber_BadCut t_BadNumber_BadNumber t_BadNumber_BadText t_BadNumber_NotFound)) (xrow (C := fun c => if c = 0 then v_FitError else if c = 1 then v_BadKind else if c = 2 then v_BadSeries else if c = 3 then v_BadCut else if c = 4 then v_BadNumber else if c = 5 then v_BadText else if c = 6 then v_NotFound else Value.none) (k := 5) x_BadText (exm0 e_FitError x_FitError o_BadText) u_BadText (seven t_BadText_FitError t_BadText_BadKind t_BadText_BadSeries t_BadText_BadCut t_BadText_BadNumber t_BadText_BadText t_BadText_NotFound)) (xrow (C := fun c => if c = 0 then v_FitError else if c = 1 then v_BadKind else if c = 2 then v_BadSeries else if c = 3 then v_BadCut else if c = 4 then v_BadNumber else if c = 5 then v_BadText else if c = 6 then v_NotFound else Value.none) (k := 6) x_NotFound (exm0 e_FitError x_FitError o_NotFound) u_NotFound (seven t_NotFound_FitError t_NotFound_BadKind t_NotFound_BadSeries t_NotFound_BadCut t_NotFound_BadNumber t_NotFound_BadText t_NotFound_NotFound)))
  exact law_all (T := T0) (n := 60) X Gn hfa G q_law q__law_start sc_law bi_law sc__law_start bi__law_start rfl rfl rfl rfl rfl (locB_of (by decide +kernel)) (by decide +kernel) (fun base => ps_start (PySem.W.mg_none_of X Gn b_list)) (fun base => (List.forall_mem_cons.mpr ⟨g_is_int X Gn q_is_int (G base), (List.forall_mem_cons.mpr ⟨g_is_entry X Gn q_is_entry (G base), (List.forall_mem_cons.mpr ⟨g_is_series X Gn q_is_series (G base), (List.forall_mem_cons.mpr ⟨g_check_series X Gn q_check_series (G base), (List.forall_mem_cons.mpr ⟨g_is_cut X Gn q_is_cut (G base), (List.forall_mem_cons.mpr ⟨g_common X Gn q_common (G base), (List.forall_mem_cons.mpr ⟨g_check_cut X Gn q_check_cut (G base), (List.forall_mem_cons.mpr ⟨g_parse_number X Gn q_parse_number (G base), (List.forall_mem_cons.mpr ⟨g_format_series X Gn q_format_series (G base), (List.forall_mem_cons.mpr ⟨g_parse_entry X Gn q_parse_entry (G base), (List.forall_mem_cons.mpr ⟨g_parse_series X Gn q_parse_series (G base), (List.forall_mem_cons.mpr ⟨g_format_cut X Gn q_format_cut (G base), (List.forall_mem_cons.mpr ⟨g_format_fraction X Gn q_format_fraction (G base), (List.forall_mem_cons.mpr ⟨g__law_draw X Gn q__law_draw (G base), (List.forall_mem_cons.mpr ⟨g__law_pick X Gn q__law_pick (G base), (List.forall_mem_cons.mpr ⟨g__law_error X Gn q__law_error (G base), (List.forall_mem_cons.mpr ⟨g__law_series X Gn q__law_series (G base), (List.forall_mem_cons.mpr ⟨g__law_low X Gn q__law_low (G base), (List.forall_mem_cons.mpr ⟨g__law_written X Gn q__law_written (G base), (List.forall_mem_cons.mpr ⟨g__law_parsed X Gn q__law_parsed (G base), (List.forall_mem_cons.mpr ⟨g__law_fraction X Gn q__law_fraction (G base), (List.forall_mem_cons.mpr ⟨g__law_rejected X Gn q__law_rejected (G base), (fun _ z => nomatch z)⟩)⟩)⟩)⟩)⟩)⟩)⟩)⟩)⟩)⟩)⟩)⟩)⟩)⟩)⟩)⟩)⟩)⟩)⟩)⟩)⟩)⟩)) (ft := ft) (fun base => good_none) hrun
end
end SF.k12
open PySem PySem.W PyProof.Rows
set_option maxHeartbeats 0 in
theorem PySem.Challenge.cw_stepfits_k12_whole_texts_holds : PySem.Challenge.rw_stepfits_k12_whole_texts.Holds := by
  w_on; o_law; k_head; (case hw => w_witness2)
  k_fill
  refine L2.walk_of (l := PySem.Challenge.rw_stepfits_k12_whole_texts) (n := 63) (k := 14) (x := "script") (CX := fun w => L2.CX (PySem.Challenge.rw_stepfits_k12_whole_texts).prog w) (sp := fun w => SF.spLaw _) rfl (by decide) rfl ⟨rfl, by decide, by decide⟩ (fun w h Y => PySem.W.kIn_of Y) ?F (fun _ _ a ns hl _ hS => ⟨a, ns, rfl, hS, hl, fun _ => rfl⟩) (fun _ _ _ _ _ z => SF.cx_no z)
  case F =>
    intro w mg fa h KX G hmg
    refine' SF.k12.all KX G hmg ?q_is_int ?q_is_entry ?q_is_series ?q_check_series ?q_is_cut ?q_common ?q_check_cut ?q_parse_number ?q_format_series ?q_parse_entry ?q_parse_series ?q_format_cut ?q_format_fraction ?q__law_draw ?q__law_pick ?q__law_error ?q__law_series ?q__law_low ?q__law_written ?q__law_parsed ?q__law_fraction ?q__law_rejected ?q__law_start ?q_law ?e_FitError ?e_BadKind ?e_BadSeries ?e_BadCut ?e_BadNumber ?e_BadText ?e_NotFound ?x_FitError ?x_BadKind ?x_BadSeries ?x_BadCut ?x_BadNumber ?x_BadText ?x_NotFound ?o_FitError ?o_BadKind ?o_BadSeries ?o_BadCut ?o_BadNumber ?o_BadText ?o_NotFound ?u_FitError ?u_BadKind ?u_BadSeries ?u_BadCut ?u_BadNumber ?u_BadText ?u_NotFound ?t_FitError_FitError ?t_FitError_BadKind ?t_FitError_BadSeries ?t_FitError_BadCut ?t_FitError_BadNumber ?t_FitError_BadText ?t_FitError_NotFound ?t_BadKind_FitError ?t_BadKind_BadKind ?t_BadKind_BadSeries ?t_BadKind_BadCut ?t_BadKind_BadNumber ?t_BadKind_BadText ?t_BadKind_NotFound ?t_BadSeries_FitError ?t_BadSeries_BadKind ?t_BadSeries_BadSeries ?t_BadSeries_BadCut ?t_BadSeries_BadNumber ?t_BadSeries_BadText ?t_BadSeries_NotFound ?t_BadCut_FitError ?t_BadCut_BadKind ?t_BadCut_BadSeries ?t_BadCut_BadCut ?t_BadCut_BadNumber ?t_BadCut_BadText ?t_BadCut_NotFound ?t_BadNumber_FitError ?t_BadNumber_BadKind ?t_BadNumber_BadSeries ?t_BadNumber_BadCut ?t_BadNumber_BadNumber ?t_BadNumber_BadText ?t_BadNumber_NotFound ?t_BadText_FitError ?t_BadText_BadKind ?t_BadText_BadSeries ?t_BadText_BadCut ?t_BadText_BadNumber ?t_BadText_BadText ?t_BadText_NotFound ?t_NotFound_FitError ?t_NotFound_BadKind ?t_NotFound_BadSeries ?t_NotFound_BadCut ?t_NotFound_BadNumber ?t_NotFound_BadText ?t_NotFound_NotFound ?b_len ?b_abs ?b_sum ?b_sorted ?b_min ?b_max ?b_list ?b_tuple ?b_all ?b_range ?b_enumerate ?b_isinstance ?b_int ?b_bool ?b_str ?b_set ?b_ValueError ?i_MOST_VALUES ?i_MOST_VALUE ?i_MOST_WEIGHT ?s_DIGITS ?zrun
    (case q_is_int => refine' SF.FF.mk ?a ?l ?c ?k; (case a => k_is); (case l => k_is); (case c => k_is); (case k => k_is))
    (case q_is_entry => refine' SF.FF.mk ?a ?l ?c ?k; (case a => k_is); (case l => k_is); (case c => k_is); (case k => k_is))
    (case q_is_series => refine' SF.FF.mk ?a ?l ?c ?k; (case a => k_is); (case l => k_is); (case c => k_is); (case k => k_is))
    (case q_check_series => refine' SF.FF.mk ?a ?l ?c ?k; (case a => k_is); (case l => k_is); (case c => k_is); (case k => k_is))
    (case q_is_cut => refine' SF.FF.mk ?a ?l ?c ?k; (case a => k_is); (case l => k_is); (case c => k_is); (case k => k_is))
    (case q_common => refine' SF.FF.mk ?a ?l ?c ?k; (case a => k_is); (case l => k_is); (case c => k_is); (case k => k_is))
    (case q_check_cut => refine' SF.FF.mk ?a ?l ?c ?k; (case a => k_is); (case l => k_is); (case c => k_is); (case k => k_is))
    (case q_parse_number => refine' SF.FF.mk ?a ?l ?c ?k; (case a => k_is); (case l => k_is); (case c => k_is); (case k => k_is))
    (case q_format_series => refine' SF.FF.mk ?a ?l ?c ?k; (case a => k_is); (case l => k_is); (case c => k_is); (case k => k_is))
    (case q_parse_entry => refine' SF.FF.mk ?a ?l ?c ?k; (case a => k_is); (case l => k_is); (case c => k_is); (case k => k_is))
    (case q_parse_series => refine' SF.FF.mk ?a ?l ?c ?k; (case a => k_is); (case l => k_is); (case c => k_is); (case k => k_is))
    (case q_format_cut => refine' SF.FF.mk ?a ?l ?c ?k; (case a => k_is); (case l => k_is); (case c => k_is); (case k => k_is))
    (case q_format_fraction => refine' SF.FF.mk ?a ?l ?c ?k; (case a => k_is); (case l => k_is); (case c => k_is); (case k => k_is))
    (case q__law_draw => refine' SF.FF.mk ?a ?l ?c ?k; (case a => k_is); (case l => k_is); (case c => k_is); (case k => k_is))
    (case q__law_pick => refine' SF.FF.mk ?a ?l ?c ?k; (case a => k_is); (case l => k_is); (case c => k_is); (case k => k_is))
    (case q__law_error => refine' SF.FF.mk ?a ?l ?c ?k; (case a => k_is); (case l => k_is); (case c => k_is); (case k => k_is))
    (case q__law_series => refine' SF.FF.mk ?a ?l ?c ?k; (case a => k_is); (case l => k_is); (case c => k_is); (case k => k_is))
    (case q__law_low => refine' SF.FF.mk ?a ?l ?c ?k; (case a => k_is); (case l => k_is); (case c => k_is); (case k => k_is))
    (case q__law_written => refine' SF.FF.mk ?a ?l ?c ?k; (case a => k_is); (case l => k_is); (case c => k_is); (case k => k_is))
    (case q__law_parsed => refine' SF.FF.mk ?a ?l ?c ?k; (case a => k_is); (case l => k_is); (case c => k_is); (case k => k_is))
    (case q__law_fraction => refine' SF.FF.mk ?a ?l ?c ?k; (case a => k_is); (case l => k_is); (case c => k_is); (case k => k_is))
    (case q__law_rejected => refine' SF.FF.mk ?a ?l ?c ?k; (case a => k_is); (case l => k_is); (case c => k_is); (case k => k_is))
    (case q__law_start => refine' SF.FF.mk ?a ?l ?c ?k; (case a => k_is); (case l => k_is); (case c => k_is); (case k => k_is))
    (case q_law => refine' SF.FF.mk ?a ?l ?c ?k; (case a => k_is); (case l => k_is); (case c => k_is); (case k => k_is))
    (case e_FitError => refine' SF.EF.mk ?a ?b ?c ?d ?e; (case a => k_is); (case b => k_is); (case c => first | k_exc | k_is); (case d => k_is); (case e => k_is))
    (case e_BadKind => refine' SF.EF.mk ?a ?b ?c ?d ?e; (case a => k_is); (case b => k_is); (case c => first | k_exc | k_is); (case d => k_is); (case e => k_is))
    (case e_BadSeries => refine' SF.EF.mk ?a ?b ?c ?d ?e; (case a => k_is); (case b => k_is); (case c => first | k_exc | k_is); (case d => k_is); (case e => k_is))
    (case e_BadCut => refine' SF.EF.mk ?a ?b ?c ?d ?e; (case a => k_is); (case b => k_is); (case c => first | k_exc | k_is); (case d => k_is); (case e => k_is))
    (case e_BadNumber => refine' SF.EF.mk ?a ?b ?c ?d ?e; (case a => k_is); (case b => k_is); (case c => first | k_exc | k_is); (case d => k_is); (case e => k_is))
    (case e_BadText => refine' SF.EF.mk ?a ?b ?c ?d ?e; (case a => k_is); (case b => k_is); (case c => first | k_exc | k_is); (case d => k_is); (case e => k_is))
    (case e_NotFound => refine' SF.EF.mk ?a ?b ?c ?d ?e; (case a => k_is); (case b => k_is); (case c => first | k_exc | k_is); (case d => k_is); (case e => k_is))
    (case x_FitError => refine' SF.XF.mk ?a ?b ?c ?d ?e ?f ?g ?h; (case a => k_is); (case b => k_is); (case c => k_is); (case d => k_is); (case e => k_is); (case f => k_is); (case g => k_is); (case h => k_is))
    (case o_FitError => k_is)
    (case u_FitError => kit_is)
    (case t_FitError_FitError => kit_is)
    (case t_FitError_BadKind => kit_is)
    (case t_FitError_BadSeries => kit_is)
    (case t_FitError_BadCut => kit_is)
    (case t_FitError_BadNumber => kit_is)
    (case t_FitError_BadText => kit_is)
    (case t_FitError_NotFound => kit_is)
    (case x_BadKind => refine' SF.XF.mk ?a ?b ?c ?d ?e ?f ?g ?h; (case a => k_is); (case b => k_is); (case c => k_is); (case d => k_is); (case e => k_is); (case f => k_is); (case g => k_is); (case h => k_is))
    (case o_BadKind => k_is)
    (case u_BadKind => kit_is)
    (case t_BadKind_FitError => kit_is)
    (case t_BadKind_BadKind => kit_is)
    (case t_BadKind_BadSeries => kit_is)
    (case t_BadKind_BadCut => kit_is)
    (case t_BadKind_BadNumber => kit_is)
    (case t_BadKind_BadText => kit_is)
    (case t_BadKind_NotFound => kit_is)
    (case x_BadSeries => refine' SF.XF.mk ?a ?b ?c ?d ?e ?f ?g ?h; (case a => k_is); (case b => k_is); (case c => k_is); (case d => k_is); (case e => k_is); (case f => k_is); (case g => k_is); (case h => k_is))
    (case o_BadSeries => k_is)
    (case u_BadSeries => kit_is)
    (case t_BadSeries_FitError => kit_is)
    (case t_BadSeries_BadKind => kit_is)
    (case t_BadSeries_BadSeries => kit_is)
    (case t_BadSeries_BadCut => kit_is)
    (case t_BadSeries_BadNumber => kit_is)
    (case t_BadSeries_BadText => kit_is)
    (case t_BadSeries_NotFound => kit_is)
    (case x_BadCut => refine' SF.XF.mk ?a ?b ?c ?d ?e ?f ?g ?h; (case a => k_is); (case b => k_is); (case c => k_is); (case d => k_is); (case e => k_is); (case f => k_is); (case g => k_is); (case h => k_is))
    (case o_BadCut => k_is)
    (case u_BadCut => kit_is)
    (case t_BadCut_FitError => kit_is)
    (case t_BadCut_BadKind => kit_is)
    (case t_BadCut_BadSeries => kit_is)
    (case t_BadCut_BadCut => kit_is)
    (case t_BadCut_BadNumber => kit_is)
    (case t_BadCut_BadText => kit_is)
    (case t_BadCut_NotFound => kit_is)
    (case x_BadNumber => refine' SF.XF.mk ?a ?b ?c ?d ?e ?f ?g ?h; (case a => k_is); (case b => k_is); (case c => k_is); (case d => k_is); (case e => k_is); (case f => k_is); (case g => k_is); (case h => k_is))
    (case o_BadNumber => k_is)
    (case u_BadNumber => kit_is)
    (case t_BadNumber_FitError => kit_is)
    (case t_BadNumber_BadKind => kit_is)
    (case t_BadNumber_BadSeries => kit_is)
    (case t_BadNumber_BadCut => kit_is)
    (case t_BadNumber_BadNumber => kit_is)
    (case t_BadNumber_BadText => kit_is)
    (case t_BadNumber_NotFound => kit_is)
    (case x_BadText => refine' SF.XF.mk ?a ?b ?c ?d ?e ?f ?g ?h; (case a => k_is); (case b => k_is); (case c => k_is); (case d => k_is); (case e => k_is); (case f => k_is); (case g => k_is); (case h => k_is))
    (case o_BadText => k_is)
    (case u_BadText => kit_is)
    (case t_BadText_FitError => kit_is)
    (case t_BadText_BadKind => kit_is)
    (case t_BadText_BadSeries => kit_is)
    (case t_BadText_BadCut => kit_is)
    (case t_BadText_BadNumber => kit_is)
    (case t_BadText_BadText => kit_is)
    (case t_BadText_NotFound => kit_is)
    (case x_NotFound => refine' SF.XF.mk ?a ?b ?c ?d ?e ?f ?g ?h; (case a => k_is); (case b => k_is); (case c => k_is); (case d => k_is); (case e => k_is); (case f => k_is); (case g => k_is); (case h => k_is))
    (case o_NotFound => k_is)
    (case u_NotFound => kit_is)
    (case t_NotFound_FitError => kit_is)
    (case t_NotFound_BadKind => kit_is)
    (case t_NotFound_BadSeries => kit_is)
    (case t_NotFound_BadCut => kit_is)
    (case t_NotFound_BadNumber => kit_is)
    (case t_NotFound_BadText => kit_is)
    (case t_NotFound_NotFound => kit_is)
    (case b_len => k_is)
    (case b_abs => k_is)
    (case b_sum => k_is)
    (case b_sorted => k_is)
    (case b_min => k_is)
    (case b_max => k_is)
    (case b_list => k_is)
    (case b_tuple => k_is)
    (case b_all => k_is)
    (case b_range => k_is)
    (case b_enumerate => k_is)
    (case b_isinstance => k_is)
    (case b_int => k_is)
    (case b_bool => k_is)
    (case b_str => k_is)
    (case b_set => k_is)
    (case b_ValueError => k_is)
    (case i_MOST_VALUES => k_is)
    (case i_MOST_VALUE => k_is)
    (case i_MOST_WEIGHT => k_is)
    (case s_DIGITS => k_is)
    (case zrun => exact SF.k12.law_runs)

