import PyProof.Rows.All
import PyProof.P3Statements
import Wide.All
import OpenK.AllK
import Wide.FinOn
import KE.KStateDown
import HandS.ForMost
import HandS.Exc
import HandS.ExcOwn
import HandS.ExcCtx
import HandS.TryOnly
import HandS.CallSlots
import HandS.Wide
import HandS.Deep
import HandS.TupAny
import HandS.TupMul
import HandS.TupLe
import HandS.Zip
import HandS.Text
import HandS.IsInst
import HandS.Style
import KE.KTupSum
import KE.GoesEnum
import KE.GoesZip
import KE.GoesMore
import HandS.SetFor
import HandS.Small
import PyProof.ExcBaseAll.ValueError
import HandS.HeadHook1
import HandS.HeadHook2
import HandS.Head0
import HandS.Head1
import HandS.Head2
import HandS.HeadEnd
import PySem.Challenge.RW_shutcells_k23_whole_moved
set_option Elab.async false
set_option linter.all false
set_option maxRecDepth 100000
set_option maxHeartbeats 0
set_option autoImplicit false
/-! M0: a small language: syntax, data, evaluator -/
namespace Mi
open PySem
abbrev Ky := Sum Int Str

inductive D where
  | non | bl (b : Bool) | int (i : Int) | str (x : Str)
  | tup (xs : List D) | lst (xs : List D)
  | dK (kvs : List (Ky × D)) | dT (kvs : List (List Ky × D))
  | ref (n : Nat) | scr (ns : List Int) | fn (f : Nat)

inductive MO where
  | lst (xs : List D)
  | dK (l : Bool) (kvs : List (Ky × D)) | dT (l : Bool) (kvs : List (List Ky × D))
  | ins (c : Nat) (fs : List (Nat × D))
abbrev MH := List MO
abbrev Ev := List (Option D)

inductive R (α : Type) where
  | ok (a : α) (h : MH) | exn (c : Nat) (p : Option D) (h : MH) | stuck
def R.bind {α β : Type} (r : R α) (f : α → MH → R β) : R β := match r with
  | .ok a h => f a h
  | .exn c p h => .exn c p h
  | .stuck => .stuck

inductive Bo where | add | sub | mul | fdiv | mod | pow | band | shr
  deriving DecidableEq
inductive Co where | eq | ne | lt | le | gt | ge | is | isn | inn | nin
  deriving DecidableEq
inductive Ty where | int | bool | tuple | str | list | cls (c : Nat)
  deriving DecidableEq
/-- what is called by value: built-ins -/
inductive Pr where
  | len | all | any | sum | list (m : Bool) | tuple | dict (m : Bool) | sorted (m : Bool) | min1 | max1 | min2 | max2 | abs | str | int
  deriving DecidableEq
/-- methods of built-in types -/
inductive Mt where
  | append | extend | join | split (m : Bool) | endswith | get | count | index | pop
  deriving DecidableEq
inductive Tg where
  | nm (i : Nat) | tp (is : List Nat) | tq (i : Nat) (is : List Nat)
  deriving DecidableEq

inductive E where
  | var (i : Nat) | non | bl (b : Bool) | int (i : Int) | str (x : Str) | gI (x : Str) (i : Int) | gS (x : Str) (s : Str) | gF (x : Str) (f : Nat)
  | nil | cons (a r : E)
  | tup (es : E) | lst (m : Bool) (es : E)
  | bin (m : Bool) (o : Bo) (a b : E) | neg (a : E)
  | cmp (o : Co) (a b : E) | chain (o p : Co) (a b c : E)
  | and (a b : E) | or (a b : E) | not (a : E) | ifx (c a b : E)
  | idx (a i : E) | sl (m : Bool) (a lo hi : E) | rev (m : Bool) (a : E)
  | call (f : Nat) (es : E) | prim (p : Pr) (es : E) | isI (a : E) (t : Ty)
  | meth (o : E) (m : Mt) (es : E) | omet (o : E) (f : Nat) (es : E) | fld (o : E) (f : Nat)
  | lc (m : Bool) (t : Tg) (it : E) (c e : E) (own : List (Str × Nat))
  | zipL (m : Bool) (a b : E) | dnew (t : Bool)
  | gen (a : E) | rng1 (a : E) | rng2 (a b : E) | enum (a : E) | zip (a b : E)   -- what is walked

inductive S where
  | nil | cons (a b : S)
  | asg (t : Tg) (e : E) | sub (o i e : E) | fld (o : E) (f : Nat) (e : E)
  | aug (i : Nat) (o : Bo) (e : E) | augS (o i : E) (p : Bo) (e : E)
  | ex (e : E) | ret (e : E) | retN | ifS (c : E) (a b : S) | whl (c : E) (b : S) | forS (t : Tg) (it : E) (b : S) | forD (t : Tg) (i : Nat) (b : S)
  | brk | cnt | pass | raise (c : Nat) (e : E) | tryS (k : Nat) (e : E)

/-! ### data -/
def kyD : Ky → D
  | .inl i => .int i
  | .inr x => .str x
def kOf : D → Option Ky
  | .int i => some (.inl i)
  | .str x => some (.inr x)
  | _ => none
def ksOf : List D → Option (List Ky)
  | [] => some []
  | d :: ds => match kOf d, ksOf ds with
    | some k, some ks => some (k :: ks)
    | _, _ => none
/-- lists of the heap written out, to depth n -/
def res (h : MH) : Nat → D → D
  | 0, d => d
  | n + 1, d => match d with
    | .ref k => (match h[k]? with
      | some (.lst xs) => .lst (xs.map (res h n))
      | _ => .ref k)
    | .tup xs => .tup (xs.map (res h n))
    | .lst xs => .lst (xs.map (res h n))
    | d => d
/-- plain data of depth n at most -/
def okD : Nat → D → Bool
  | 0, d => (match d with
    | .non => true
    | .bl _ => true
    | .int _ => true
    | .scr _ => true
    | .str x => PyData.strOk x
    | _ => false)
  | n + 1, d => (match d with
    | .non => true
    | .bl _ => true
    | .int _ => true
    | .scr _ => true
    | .str x => PyData.strOk x
    | .tup xs => xs.all (okD n)
    | .lst xs => xs.all (okD n)
    | _ => false)
def ktup : D → Option (List Ky)
  | .tup ks => ksOf ks
  | _ => none
def isNon : D → Bool
  | .non => true
  | _ => false
def eqI : List Int → List D → Bool
  | [], [] => true
  | i :: is, .int j :: ds => decide (i = j) && eqI is ds
  | i :: is, .bl b :: ds => decide (i = if b then 1 else 0) && eqI is ds
  | _, _ => false
mutual
def eqD : D → D → Bool
  | .non, .non => true
  | .bl a, .bl b => a == b
  | .bl a, .int j => decide ((if a then 1 else 0) = j)
  | .int i, .bl b => decide (i = if b then 1 else 0)
  | .int i, .int j => decide (i = j)
  | .str x, .str y => decide (x = y)
  | .tup xs, .tup ys => eqL xs ys
  | .lst xs, .lst ys => eqL xs ys
  | .scr ns, .lst ys => eqI ns ys
  | .lst ys, .scr ns => eqI ns ys
  | .scr ns, .scr ms => decide (ns = ms)
  | _, _ => false
def eqL : List D → List D → Bool
  | [], [] => true
  | x :: xs, y :: ys => eqD x y && eqL xs ys
  | _, _ => false
end
/-- the items of what is a list or a tuple -/
def items (h : MH) : D → Option (List D)
  | .tup xs => some xs
  | .lst xs => some xs
  | .scr ns => some (ns.map .int)
  | .ref n => match h[n]? with
    | some (.lst xs) => some xs
    | _ => none
  | _ => none
/-- of a list, which may be joined or made longer -/
def lits (h : MH) : D → Option (List D)
  | .lst xs => some xs
  | .ref n => match h[n]? with
    | some (.lst xs) => some xs
    | _ => none
  | _ => none
def intsD : List D → Option (List Int)
  | [] => some []
  | .int i :: r => match intsD r with
    | some is => some (i :: is)
    | none => none
  | _ => none
def blsD : List D → Option (List Bool)
  | [] => some []
  | .bl i :: r => match blsD r with
    | some is => some (i :: is)
    | none => none
  | _ => none
/-- the place that an index means -/
def ixN (n : Nat) (i : Int) : Option Nat :=
  if 0 ≤ i then if i.toNat < n then some i.toNat else none
  else if 0 ≤ i + n then some (i + n).toNat else none
def atI {α : Type} (xs : List α) (i : Int) : Option α := match ixN xs.length i with
  | some j => xs[j]?
  | none => none
/-- a list made: of the heap (m), or for good -/
def mk (m : Bool) (xs : List D) (h : MH) : R D := if m then .ok (.ref h.length) (h ++ [.lst xs]) else .ok (.lst xs) h
def big : Nat := 1000000
def small (i : Int) : Bool := decide (i.natAbs < 2 ^ 64)
def lookK {α κ : Type} [DecidableEq κ] : List (κ × α) → κ → Option α
  | [], _ => none
  | (k, v) :: r, q => if k = q then some v else lookK r q
def putK {α κ : Type} [DecidableEq κ] (kvs : List (κ × α)) (q : κ) (v : α) : List (κ × α) :=
  if kvs.any (fun kv => decide (kv.1 = q)) = true then kvs.map fun kv => if kv.1 = q then (kv.1, v) else kv else kvs ++ [(q, v)]
/-- what a dict holds at a key: none: no such look -/
def dget (h : MH) (d k : D) : Option (Option D) := match d with
  | .dK kvs => (kOf k).map fun q => lookK kvs q
  | .dT kvs => (ktup k).map fun q => lookK kvs q
  | .ref n => match h[n]? with
    | some (.dK _ kvs) => (kOf k).map fun q => lookK kvs q
    | some (.dT _ kvs) => (ktup k).map fun q => lookK kvs q
    | _ => none
  | _ => none
def dput (h : MH) (d k v : D) : Option MH := match d with
  | .ref n => match h[n]? with
    | some (.dK false kvs) => if kvs.length < big then (kOf k).map fun q => h.set n (.dK false (putK kvs q v)) else none
    | some (.dT false kvs) => if kvs.length < big then (ktup k).map fun q => h.set n (.dT false (putK kvs q v)) else none
    | _ => none
  | _ => none
def lexLt : List Int → List Int → Bool
  | [], [] => false
  | [], _ :: _ => true
  | _ :: _, [] => false
  | x :: xs, y :: ys => if x = y then lexLt xs ys else decide (x < y)

/-! ### operators -/
def int2 (f : Int → Int → R D) (a b : D) : R D := match a with
  | .int i => (match b with
    | .int j => f i j
    | _ => .stuck)
  | _ => .stuck
def addD (m : Bool) (a b : D) (h : MH) : R D := match a with
  | .int i => (match b with
    | .int j => .ok (.int (i + j)) h
    | _ => .stuck)
  | .str x => (match b with
    | .str y => if x.length + y.length ≤ big then .ok (.str (x ++ y)) h else .stuck
    | _ => .stuck)
  | .tup xs => (match b with
    | .tup ys => if xs.length + ys.length ≤ big then .ok (.tup (xs ++ ys)) h else .stuck
    | _ => .stuck)
  | a => (match lits h a with
    | some xs => (match lits h b with
      | some ys => if xs.length + ys.length ≤ big then mk m (xs ++ ys) h else .stuck
      | none => .stuck)
    | none => .stuck)
def mulD (m : Bool) (a b : D) (h : MH) : R D := match b with
  | .int j => (match a with
    | .int i => if small i || small j || (decide (i.natAbs < 2 ^ 4000) && decide (j.natAbs < 2 ^ 4000)) then .ok (.int (i * j)) h else .stuck
    | .tup xs => if !xs.isEmpty && decide (2 ≤ j) && decide (j ≤ 1000) && decide (xs.length ≤ 1000) then .ok (.tup (List.replicate j.toNat xs).flatten) h else .stuck
    | a => (match lits h a with
      | some xs => if decide (j < 2 ^ 60) && decide (-(2 ^ 60) < j) && decide (xs.length * j.toNat ≤ big) then mk m (List.replicate j.toNat xs).flatten h else .stuck
      | none => .stuck))
  | _ => .stuck
def bop (m : Bool) (o : Bo) (a b : D) (h : MH) : R D := match o with
  | .add => addD m a b h
  | .sub => int2 (fun i j => .ok (.int (i - j)) h) a b
  | .mul => mulD m a b h
  | .fdiv => int2 (fun i j => if decide (0 < j) && decide (j.natAbs < 2 ^ 8000) then .ok (.int (i / j)) h else if decide (j ≠ 0) && decide (j.natAbs < 1073741824) then .ok (.int (i.fdiv j)) h else .stuck) a b
  | .mod => int2 (fun i j => if 0 < j then .ok (.int (i % j)) h else if j ≠ 0 then .ok (.int (i.fmod j)) h else .stuck) a b
  | .pow => int2 (fun i j => if decide (0 ≤ j) && decide (j ≤ 1000000) && small i then .ok (.int (i ^ j.toNat)) h else .stuck) a b
  | .band => int2 (fun i j => .stuck) a b
  | .shr => int2 (fun i j => if 0 ≤ j then .ok (.int (i / 2 ^ j.toNat)) h else .stuck) a b

/-- the order of tuples of intsD -/
def cmpI (o : Co) (i j : Int) : Option Bool := match o with
  | .eq => some (decide (i = j))
  | .ne => some (!decide (i = j))
  | .lt => some (decide (i < j))
  | .le => some (decide (i ≤ j))
  | .gt => some (decide (j < i))
  | .ge => some (decide (j ≤ i))
  | _ => none
def inL (h : MH) (a : D) (xs : List D) : Option Bool := if okD 8 (res h 8 a) && (xs.map (res h 8)).all (okD 8) then some ((xs.map (res h 8)).any fun x => eqD x (res h 8 a)) else none
def inD (h : MH) (a b : D) : Option Bool := match b with
  | .tup xs => inL h a xs
  | .lst xs => inL h a xs
  | .ref n => (match h[n]? with
    | some (.lst xs) => inL h a xs
    | _ => (dget h b a).map Option.isSome)
  | .str y => (match a with
    | .str x => if x.length = 1 then some (y.cps.toList.any fun c => decide (some c = x.cps.toList.head?)) else none
    | _ => none)
  | b => (dget h b a).map Option.isSome
def eqq (h : MH) (a b : D) : Option Bool := if okD 8 (res h 8 a) && okD 8 (res h 8 b) then some (eqD (res h 8 a) (res h 8 b)) else none
def ordD (o : Co) (a b : D) : Option Bool := match a with
  | .int i => (match b with
    | .int j => cmpI o i j
    | _ => none)
  | .tup xs => (match b with
    | .tup ys => (match o with
      | .lt => (match intsD xs with
        | some is => (match intsD ys with
          | some js => some (lexLt is js)
          | none => none)
        | none => none)
      | _ => none)
    | _ => none)
  | _ => none
def isD (a b : D) : Option Bool := match b with
  | .non => some (isNon a)
  | .bl y => (match a with
    | .bl x => some (decide (x = y))
    | _ => none)
  | _ => none
def cop (o : Co) (a b : D) (h : MH) : Option Bool := match o with
  | .eq => eqq h a b
  | .ne => (eqq h a b).map not
  | .lt => ordD .lt a b
  | .le => ordD .le a b
  | .gt => ordD .gt a b
  | .ge => ordD .ge a b
  | .is => isD a b
  | .isn => (isD a b).map not
  | .inn => inD h a b
  | .nin => (inD h a b).map not
def idxI (xs : Option (List D)) (i : D) : Option D := match i with
  | .int k => xs.bind fun xs => atI xs k
  | _ => none
def idxS (x : Str) (i : D) : Option D := match i with
  | .int k => if x.length ≤ big then (atI x.cps.toList k).map fun c => .str ⟨#[c]⟩ else none
  | _ => none
def idxD (a i : D) (h : MH) : Option D := match a with
  | .str x => idxS x i
  | .dK _ => (dget h a i).bind id
  | .dT _ => (dget h a i).bind id
  | .ref n => (match h[n]? with
    | some (.lst xs) => idxI (some xs) i
    | _ => (dget h a i).bind id)
  | a => idxI (items h a) i
/-- a slice's ends -/
def cutI (n d : Nat) : Option Int → Nat
  | none => d
  | some v => min (if v < 0 then v + (n : Int) else v).toNat n
def cutL {α : Type} (xs : List α) (lo hi : Option Int) : List α := (xs.drop (cutI xs.length 0 lo)).take (cutI xs.length xs.length hi - cutI xs.length 0 lo)
def slD (m : Bool) (a : D) (lo hi : Option Int) (h : MH) : R D := match a with
  | .tup xs => .ok (.tup (cutL xs lo hi)) h
  | .str x => if x.length ≤ big then .ok (.str ⟨(cutL x.cps.toList lo hi).toArray⟩) h else .stuck
  | a => match lits h a with
    | some xs => mk m (cutL xs lo hi) h
    | none => .stuck
def revD (m : Bool) (a : D) (h : MH) : R D := match a with
  | .tup xs => .ok (.tup xs.reverse) h
  | a => match lits h a with
    | some xs => mk m xs.reverse h
    | none => .stuck
def cmpM (o : Co) (a b : D) (h : MH) : R D := match cop o a b h with
  | some k => .ok (.bl k) h
  | none => .stuck
def idxM (a i : D) (h : MH) : R D := match idxD a i h with
  | some d => .ok d h
  | none => .stuck
inductive Tn where | non | bool | int | str | tuple | list | dict
  deriving DecidableEq
def tnOf (h : MH) : D → Option Tn
  | .non => some .non
  | .bl _ => some .bool
  | .int _ => some .int
  | .str _ => some .str
  | .tup _ => some .tuple
  | .lst _ => some .list
  | .dK _ => some .dict
  | .dT _ => some .dict
  | .ref n => (match h[n]? with
    | some (.lst _) => some .list
    | some (.dK false _) => some .dict
    | some (.dT false _) => some .dict
    | _ => none)
  | _ => none
def tnIs : Tn → Ty → Option Bool
  | a, .int => some (decide (a = .int) || decide (a = .bool))
  | a, .bool => some (decide (a = .bool))
  | a, .str => some (decide (a = .str))
  | a, .tuple => some (decide (a = .tuple))
  | a, .list => some (decide (a = .list))
  | _, .cls _ => none
def isTy (h : MH) (a : D) (t : Ty) : Option Bool := match tnOf h a with
  | some n => tnIs n t
  | none => (match a with
    | .ref n => (match h[n]? with
      | some (.ins c' _) => (match t with
        | .cls c => some (decide (c = c'))
        | _ => none)
      | _ => none)
    | _ => none)
def isM (t : Ty) (a : D) (h : MH) : R D := match isTy h a t with
  | some k => .ok (.bl k) h
  | none => .stuck
def minI : Int → List Int → Int
  | i, [] => i
  | i, j :: r => minI (if j < i then j else i) r
def maxI : Int → List Int → Int
  | i, [] => i
  | i, j :: r => maxI (if j > i then j else i) r
/-- pairs of a list for a dict -/
def prsK : List D → Option (List (Ky × D))
  | [] => some []
  | .tup [k, v] :: r => match kOf k, prsK r with
    | some q, some ps => some ((q, v) :: ps)
    | _, _ => none
  | _ => none
def prsT : List D → Option (List (List Ky × D))
  | [] => some []
  | .tup [.tup k, v] :: r => match ksOf k, prsT r with
    | some q, some ps => some ((q, v) :: ps)
    | _, _ => none
  | _ => none
def merge {α κ : Type} [DecidableEq κ] (kvs : List (κ × α)) : List (κ × α) → List (κ × α)
  | [] => kvs
  | (k, v) :: r => merge (putK kvs k v) r
def lenD (a : D) (h : MH) : R D := match a with
  | .str x => if x.length ≤ big then .ok (.int x.length) h else .stuck
  | a => match items h a with
    | some xs => .ok (.int xs.length) h
    | none => .stuck
def blsOf (f : List Bool → Bool) (a : D) (h : MH) : R D := match (lits h a).bind blsD with
  | some bs => .ok (.bl (f bs)) h
  | none => .stuck
def sumD (a : D) (h : MH) : R D := match (items h a).bind intsD with
  | some is => .ok (.int is.sum) h
  | none => .stuck
def listD (m : Bool) (a : D) (h : MH) : R D := match items h a with
  | some xs => mk m xs h
  | none => .stuck
def tupleD (a : D) (h : MH) : R D := match items h a with
  | some xs => .ok (.tup xs) h
  | none => .stuck
def dictD (m : Bool) (a : D) (h : MH) : R D := match (lits h a).bind prsT with
  | some ps => if m then .ok (.ref h.length) (h ++ [.dT false (merge [] ps)]) else .ok (.dT (merge [] ps)) h
  | none => .stuck
def bestD (f : Int → List Int → Int) (a : D) (h : MH) : R D := match (lits h a).bind intsD with
  | some (i :: is) => .ok (.int (f i is)) h
  | _ => .stuck
def absD (a : D) (h : MH) : R D := match a with
  | .int i => .ok (.int (if i < 0 then -i else i)) h
  | _ => .stuck
def prim1 (p : Pr) (a : D) (h : MH) : R D := match p with
  | .len => lenD a h
  | .all => blsOf (fun bs => bs.all id) a h
  | .any => blsOf (fun bs => bs.any id) a h
  | .sum => sumD a h
  | .list m => listD m a h
  | .tuple => tupleD a h
  | .dict m => dictD m a h
  | .min1 => bestD minI a h
  | .max1 => bestD maxI a h
  | .abs => absD a h
  | _ => .stuck
def prim2 (p : Pr) (a b : D) (h : MH) : R D := match p with
  | .min2 => int2 (fun i j => .ok (.int (if j < i then j else i)) h) a b
  | .max2 => int2 (fun i j => .ok (.int (if j > i then j else i)) h) a b
  | _ => .stuck
def prim (p : Pr) (as : List D) (h : MH) : R D := match as with
  | [a] => prim1 p a h
  | [a, b] => prim2 p a b h
  | _ => .stuck
def appD (n : Nat) (x : D) (h : MH) : R D := match h[n]? with
  | some (.lst xs) => if xs.length < big then .ok .non (h.set n (.lst (xs ++ [x]))) else .stuck
  | _ => .stuck
def extD (n : Nat) (a : D) (h : MH) : R D := match h[n]? with
  | some (.lst xs) => (match lits h a with
    | some ys => if xs.length + ys.length ≤ big then .ok .non (h.set n (.lst (xs ++ ys))) else .stuck
    | none => .stuck)
  | _ => .stuck
def getD1 (d k : D) (h : MH) : R D := match dget h d k with
  | some o => .ok (o.getD .non) h
  | none => .stuck
def met1 (m : Mt) (o a : D) (h : MH) : R D := match m with
  | .append => (match o with
    | .ref n => appD n a h
    | _ => .stuck)
  | .extend => (match o with
    | .ref n => extD n a h
    | _ => .stuck)
  | .get => getD1 o a h
  | _ => .stuck
def negM (x : D) (h : MH) : R D := match x with
  | .int i => .ok (.int (-i)) h
  | _ => .stuck
def fldM (f : Nat) (x : D) (h : MH) : R D := match x with
  | .ref n => (match h[n]? with
    | some (.ins _ fs) => (match lookK fs f with
      | some d => .ok d h
      | none => .stuck)
    | _ => .stuck)
  | _ => .stuck
/-- what a method's object must be -/
def recvT : Mt → Tn
  | .append => .list
  | .extend => .list
  | .pop => .list
  | .count => .list
  | .index => .list
  | .join => .str
  | .split _ => .str
  | .endswith => .str
  | .get => .dict
def metD (m : Mt) (o : D) (as : List D) (h : MH) : R D := match as with
  | [a] => met1 m o a h
  | _ => .stuck
/-! ### the evaluator -/
abbrev FT := Nat → List D → MH → R D
inductive It where | its (xs : List D) | hp (n : Nat) (e : Bool)
/-- with its place, or bare -/
def wrapI (e : Bool) (i : Nat) (d : D) : D := if e = true then .tup [.int (i : Nat), d] else d
inductive Fl where
  | nx (e : Ev) (h : MH) | ret (d : D) (h : MH) | brk (e : Ev) (h : MH) | cnt (e : Ev) (h : MH) | exn (c : Nat) (p : Option D) (h : MH) | stuck

def vget (e : Ev) (i : Nat) : Option D := match e[i]? with
  | some (some d) => some d
  | _ => none
def setL : List Nat → List D → Ev → Option Ev
  | [], [], e => some e
  | i :: is, d :: ds, e => setL is ds (e.set i (some d))
  | _, _, _ => none
def setT (t : Tg) (d : D) (e : Ev) : Option Ev := match t with
  | .nm i => some (e.set i (some d))
  | .tp is => (match d with
    | .tup ds => setL is ds e
    | _ => none)
  | .tq i is => (match d with
    | .tup [a, .tup ds] => setL is ds (e.set i (some a))
    | _ => none)
def wipeE (e : Ev) : List Nat → Ev
  | [] => e
  | v :: vs => (wipeE e vs).set v none
/-- what a value is when it is walked -/
def itOf (h : MH) (d : D) : Option It := match d with
  | .ref n => match h[n]? with
    | some (.lst _) => some (.hp n false)
    | _ => none
  | .tup xs => some (.its xs)
  | .lst xs => some (.its xs)
  | _ => none
/-- pairs of what is not of the heap -/
def plainIts (d : D) : Option (List D) := match d with
  | .tup xs => some xs
  | .lst xs => some xs
  | _ => none
def enumL : Nat → List D → List D
  | _, [] => []
  | i, x :: xs => .tup [.int i, x] :: enumL (i + 1) xs
def zipD : List D → List D → List D
  | x :: xs, y :: ys => .tup [x, y] :: zipD xs ys
  | _, _ => []
def enumOf (h : MH) (d : D) : Option It := match d with
  | .ref n => match h[n]? with
    | some (.lst _) => some (.hp n true)
    | _ => none
  | .tup xs => some (.its (enumL 0 xs))
  | .lst xs => some (.its (enumL 0 xs))
  | _ => none
def partI : List D → Option (Option Int)
  | [] => some none
  | [.int i] => some (some i)
  | _ => none
/-- a comprehension's turns -/
def lcL (f : D → MH → R (Option D)) : List D → MH → R (List D)
  | [], h => .ok [] h
  | d :: ds, h => match f d h with
    | .ok none h1 => lcL f ds h1
    | .ok (some x) h1 => match lcL f ds h1 with
      | .ok xs h2 => .ok (x :: xs) h2
      | _ => .stuck
    | _ => .stuck
/-- over a list of the heap, as it stands at each turn -/
def lcH (f : D → MH → R (Option D)) (n : Nat) (e : Bool) : Nat → Nat → MH → R (List D)
  | 0, i, h => match h[n]? with
    | some (.lst xs) => if xs.length ≤ i then .ok [] h else .stuck
    | _ => .stuck
  | k + 1, i, h => match h[n]? with
    | some (.lst xs) => match xs[i]? with
      | none => .ok [] h
      | some d => match f (wrapI e i d) h with
        | .ok none h1 => lcH f n e k (i + 1) h1
        | .ok (some x) h1 => match lcH f n e k (i + 1) h1 with
          | .ok xs h2 => .ok (x :: xs) h2
          | _ => .stuck
        | _ => .stuck
    | _ => .stuck
def lenH (h : MH) (n : Nat) : Nat := match h[n]? with
  | some (.lst xs) => xs.length
  | _ => 0
/-- a comprehension's turn: a target, a test, an element -/
def lcB (t : Tg) (c el : Ev → MH → R D) (w0 : Ev) (d : D) (h : MH) : R (Option D) := match setT t d w0 with
  | some e1 => (c e1 h).bind fun k h => (match k with
    | .bl b => if b = true then (el e1 h).bind fun x h => .ok (some x) h else .ok none h
    | _ => .stuck)
  | none => .stuck
def lcR (m : Bool) (f : D → MH → R (Option D)) (w : It) (h : MH) : R D := match w with
  | .its xs => (match lcL f xs h with
    | .ok ys h => mk m ys h
    | _ => .stuck)
  | .hp n e => (match lcH f n e (lenH h n) 0 h with
    | .ok ys h => mk m ys h
    | _ => .stuck)
section
variable (ft : FT)
mutual
def evE : E → Ev → MH → R D
  | .var i, e, h => match vget e i with
    | some d => .ok d h
    | none => .stuck
  | .non, _, h => .ok .non h
  | .bl b, _, h => .ok (.bl b) h
  | .int i, _, h => .ok (.int i) h
  | .str x, _, h => .ok (.str x) h
  | .gI _ i, _, h => .ok (.int i) h
  | .gS _ x, _, h => .ok (.str x) h
  | .gF _ f, _, h => .ok (.fn f) h
  | .nil, _, _ => .stuck
  | .cons _ _, _, _ => .stuck
  | .tup es, e, h => (evA es e h).bind fun ds h => .ok (.tup ds) h
  | .lst m es, e, h => (evA es e h).bind fun ds h => mk m ds h
  | .bin m o a b, e, h => (evE a e h).bind fun x h => (evE b e h).bind fun y h => bop m o x y h
  | .neg a, e, h => (evE a e h).bind fun x h => negM x h
  | .cmp o a b, e, h => (evE a e h).bind fun x h => (evE b e h).bind fun y h => cmpM o x y h
  | .chain o p a b c, e, h => (evE a e h).bind fun x h => (evE b e h).bind fun y h => (cmpM o x y h).bind fun k h => match k with
    | .bl k => if k = true then (evE c e h).bind fun z h => cmpM p y z h else .ok (.bl false) h
    | _ => .stuck
  | .and a b, e, h => (evE a e h).bind fun x h => match x with
    | .bl k => if k = true then evE b e h else .ok (.bl false) h
    | _ => .stuck
  | .or a b, e, h => (evE a e h).bind fun x h => match x with
    | .bl k => if k = true then .ok (.bl true) h else evE b e h
    | _ => .stuck
  | .not a, e, h => (evE a e h).bind fun x h => match x with
    | .bl k => .ok (.bl (!k)) h
    | _ => .stuck
  | .ifx c a b, e, h => (evE c e h).bind fun x h => match x with
    | .bl k => if k = true then evE a e h else evE b e h
    | _ => .stuck
  | .idx a i, e, h => (evE a e h).bind fun x h => (evE i e h).bind fun y h => idxM x y h
  | .sl m a lo hi, e, h => (evE a e h).bind fun x h => (evA lo e h).bind fun l h => match partI l with
    | some lo => (evA hi e h).bind fun u h => (match partI u with
      | some hi => slD m x lo hi h
      | none => .stuck)
    | none => .stuck
  | .rev m a, e, h => (evE a e h).bind fun x h => revD m x h
  | .call f es, e, h => (evA es e h).bind fun ds h => ft f ds h
  | .prim p es, e, h => (evA es e h).bind fun ds h => prim p ds h
  | .isI a t, e, h => (evE a e h).bind fun x h => isM t x h
  | .meth o m es, e, h => (evE o e h).bind fun x h => if tnOf h x = some (recvT m) then (evA es e h).bind fun ds h => metD m x ds h else .stuck
  | .omet o f es, e, h => (evE o e h).bind fun x h => (evA es e h).bind fun ds h => ft f (x :: ds) h
  | .fld o f, e, h => (evE o e h).bind fun x h => fldM f x h
  | .lc m t it c el own, e, h => (evI it e h).bind fun w h => lcR m (lcB t (evE c) (evE el) (wipeE e (own.map (·.2)))) w h
  | .zipL m a b, e, h => (evE a e h).bind fun x h => (evE b e h).bind fun y h => match plainIts x, plainIts y with
    | some xs, some ys => mk m (zipD xs ys) h
    | _, _ => .stuck
  | .dnew t, _, h => .ok (.ref h.length) (h ++ [if t then .dT false [] else .dK false []])
  | .gen _, _, _ => .stuck
  | .rng1 _, _, _ => .stuck
  | .rng2 _ _, _, _ => .stuck
  | .enum _, _, _ => .stuck
  | .zip _ _, _, _ => .stuck
def evA : E → Ev → MH → R (List D)
  | .nil, _, h => .ok [] h
  | .cons a r, e, h => (evE a e h).bind fun x h => (evA r e h).bind fun xs h => .ok (x :: xs) h
  | _, _, _ => .stuck
def evI : E → Ev → MH → R It
  | .rng1 a, e, h => (evE a e h).bind fun x h => match x with
    | .int j => if decide (j ≤ (big : Int)) && decide (-(2 ^ 60) < j) then .ok (.its ((List.range j.toNat).map fun i => .int (i : Nat))) h else .stuck
    | _ => .stuck
  | .rng2 a b, e, h => (evE a e h).bind fun x h => (evE b e h).bind fun y h => match x, y with
    | .int i, .int j => if decide (j ≤ (big : Int)) && decide (-(2 ^ 60) < j) && decide (0 ≤ i) && decide (i ≤ (big : Int)) then .ok (.its ((List.range (j - i).toNat).map fun k => .int (i + (k : Nat)))) h else .stuck
    | _, _ => .stuck
  | .enum a, e, h => (evE a e h).bind fun x h => match enumOf h x with
    | some w => .ok w h
    | none => .stuck
  | .zip a b, e, h => (evE a e h).bind fun x h => (evE b e h).bind fun y h => match plainIts x, plainIts y with
    | some xs, some ys => .ok (.its (zipD xs ys)) h
    | _, _ => .stuck
  | .gen a, e, h => (evE a e h).bind fun d h => match itOf h d with
    | some w => .ok w h
    | none => .stuck
  | _, _, _ => .stuck
end
end

def whL (c : Ev → MH → R D) (b : Ev → MH → Fl) : Nat → Ev → MH → Fl
  | 0, _, _ => .stuck
  | n + 1, e, h => match c e h with
    | .ok (.bl k) h1 => if k = true then (match b e h1 with
      | .nx e2 h2 => whL c b n e2 h2
      | .cnt e2 h2 => whL c b n e2 h2
      | .brk e2 h2 => .nx e2 h2
      | r => r) else .nx e h1
    | .exn k p h1 => .exn k p h1
    | _ => .stuck
def forL (t : Tg) (b : Ev → MH → Fl) : List D → Ev → MH → Fl
  | [], e, h => .nx e h
  | d :: ds, e, h => match setT t d e with
    | none => .stuck
    | some e1 => match b e1 h with
      | .nx e2 h2 => forL t b ds e2 h2
      | .cnt e2 h2 => forL t b ds e2 h2
      | .brk e2 h2 => .nx e2 h2
      | r => r
def forH (t : Tg) (b : Ev → MH → Fl) (n : Nat) (w : Bool) : Nat → Nat → Ev → MH → Fl
  | 0, i, e, h => match h[n]? with
    | some (.lst xs) => if xs.length ≤ i then .nx e h else .stuck
    | _ => .stuck
  | k + 1, i, e, h => match h[n]? with
    | some (.lst xs) => match xs[i]? with
      | none => .nx e h
      | some d => match setT t (wrapI w i d) e with
        | none => .stuck
        | some e1 => match b e1 h with
          | .nx e2 h2 => forH t b n w k (i + 1) e2 h2
          | .cnt e2 h2 => forH t b n w k (i + 1) e2 h2
          | .brk e2 h2 => .nx e2 h2
          | r => r
    | _ => .stuck
/-- the keys, the dict locked meanwhile -/
def keysH (h : MH) (n : Nat) : Option (List D × MH) := match h[n]? with
  | some (.dT false kvs) => some (kvs.map fun p => .tup (p.1.map kyD), h.set n (.dT true kvs))
  | some (.dK false kvs) => some (kvs.map fun p => kyD p.1, h.set n (.dK true kvs))
  | _ => none
def unlock (h : MH) (n : Nat) : Option MH := match h[n]? with
  | some (.dT true kvs) => some (h.set n (.dT false kvs))
  | some (.dK true kvs) => some (h.set n (.dK false kvs))
  | _ => none
def subL (n : Nat) (xs : List D) (i v : D) (h : MH) : Option MH := match i with
  | .int k => (ixN xs.length k).map fun j => h.set n (.lst (xs.set j v))
  | _ => none
def subD (o i v : D) (h : MH) : Option MH := match o with
  | .ref n => match h[n]? with
    | some (.lst xs) => subL n xs i v h
    | _ => dput h o i v
  | _ => none
/-- from an expression's outcome to a statement's -/
def evS {α : Type} (r : R α) (k : α → MH → Fl) : Fl := match r with
  | .ok d h1 => k d h1
  | .exn c p h1 => .exn c p h1
  | .stuck => .stuck
def isRef : D → Bool
  | .ref _ => true
  | _ => false
def isInt : D → Option Int
  | .int i => some i
  | _ => none
def isStr : D → Option Str
  | .str i => some i
  | _ => none
/-- whole numbers, texts -/
def augO (o : Bo) (a b : D) (h : MH) : R D := match isInt a with
  | some i => (match isInt b with
    | some j => bop false o (.int i) (.int j) h
    | none => .stuck)
  | none => (match isStr a with
    | some x => (match isStr b with
      | some y => bop false o (.str x) (.str y) h
      | none => .stuck)
    | none => .stuck)
def augI (x k : D) (h : MH) : Option Int := if isRef x = true then (idxD x k h).bind isInt else none
def augW (b : Bo) (u : Int) (x k w : D) (e : Ev) (h : MH) : Fl := match isInt w with
  | some w => (match augO b (.int u) (.int w) h with
    | .ok v h4 => (match subD x k v h4 with
      | some h5 => .nx e h5
      | none => .stuck)
    | _ => .stuck)
  | none => .stuck
def fldW (f : Nat) (x v : D) (h : MH) : Option MH := match x with
  | .ref n => (match h[n]? with
    | some (.ins c fs) => if fs.length < 500 then some (h.set n (.ins c (putK fs f v))) else none
    | _ => none)
  | _ => none
def setM (t : Tg) (d : D) (e : Ev) (h : MH) : Fl := match setT t d e with
  | some e1 => .nx e1 h
  | none => .stuck
def subM (x k v : D) (e : Ev) (h : MH) : Fl := match subD x k v h with
  | some h4 => .nx e h4
  | none => .stuck
def augM (o : Bo) (i : Nat) (a b : D) (e : Ev) (h : MH) : Fl := match augO o a b h with
  | .ok v h2 => .nx (e.set i (some v)) h2
  | _ => .stuck
def ifK (d : D) (a b : MH → Fl) (h : MH) : Fl := match d with
  | .bl k => if k = true then a h else b h
  | _ => .stuck
def raiseM (c : Nat) (ds : List D) (h : MH) : Fl := match ds with
  | [] => .exn c none h
  | [d] => .exn c (some d) h
  | _ => .stuck
section
variable (ft : FT) (W : Nat)
def exS : S → Ev → MH → Fl
  | .nil, e, h => .nx e h
  | .cons a b, e, h => match exS a e h with
    | .nx e1 h1 => exS b e1 h1
    | r => r
  | .asg t x, e, h => evS (evE ft x e h) fun d h => setM t d e h
  | .sub o i x, e, h => evS (evE ft x e h) fun v h => evS (evE ft o e h) fun a h => evS (evE ft i e h) fun k h => subM a k v e h
  | .fld o f x, e, h => evS (evE ft x e h) fun v h => evS (evE ft o e h) fun a h => match fldW f a v h with
    | some h => .nx e h
    | none => .stuck
  | .aug i o x, e, h => match vget e i with
    | some a => evS (evE ft x e h) fun b h => augM o i a b e h
    | none => .stuck
  | .augS o i p x, e, h => evS (evE ft o e h) fun a h => evS (evE ft i e h) fun k h => match augI a k h with
    | some u => evS (evE ft x e h) fun w h => augW p u a k w e h
    | none => .stuck
  | .ex x, e, h => evS (evE ft x e h) fun _ h => .nx e h
  | .ret x, e, h => evS (evE ft x e h) fun d h => .ret d h
  | .retN, _, h => .ret .non h
  | .ifS c a b, e, h => evS (evE ft c e h) fun d h => ifK d (exS a e) (exS b e) h
  | .whl c b, e, h => whL (evE ft c) (exS b) W e h
  | .forS t it b, e, h => match evI ft it e h with
    | .ok (.its xs) h1 => forL t (exS b) xs e h1
    | .ok (.hp n w) h1 => forH t (exS b) n w (lenH h1 n) 0 e h1
    | .exn c p h1 => .exn c p h1
    | .stuck => .stuck
  | .forD t i b, e, h => match vget e i with
    | some (.ref n) => (match keysH h n with
      | some (xs, h2) => (match forL t (exS b) xs e h2 with
        | .nx e3 h3 => (match unlock h3 n with
          | some h4 => .nx e3 h4
          | none => .stuck)
        | _ => .stuck)
      | none => .stuck)
    | _ => .stuck
  | .brk, e, h => .brk e h
  | .cnt, e, h => .cnt e h
  | .pass, e, h => .nx e h
  | .raise c x, e, h => evS (evA ft x e h) fun ds h => raiseM c ds h
  | .tryS k x, e, h => match evE ft x e h with
    | .ok d h1 => .ret d h1
    | .exn c p h1 => (match k, p with
      | 0, _ => if c ≤ 14 then .ret (.tup [.str (Str.ofString "refused"), .int (c : Nat)]) h1 else .stuck
      | 1, _ => if c = 14 then .ret .non h1 else .exn c p h1
      | 2, some d => if c = 14 then .ret (.tup [.str (Str.ofString "told"), d]) h1 else .stuck
      | _, _ => .stuck)
    | .stuck => .stuck
end
mutual
/-- no ref from b on -/
def cl (b : Nat) : D → Bool
  | .ref n => decide (n < b)
  | .tup xs => clL b xs
  | .lst xs => clL b xs
  | .dK kvs => clK b kvs
  | .dT kvs => clT b kvs
  | _ => true
def clL (b : Nat) : List D → Bool
  | [] => true
  | x :: xs => cl b x && clL b xs
def clK (b : Nat) : List (Ky × D) → Bool
  | [] => true
  | (_, x) :: xs => cl b x && clK b xs
def clT (b : Nat) : List (List Ky × D) → Bool
  | [] => true
  | (_, x) :: xs => cl b x && clT b xs
end
def clO (b : Nat) : MO → Bool
  | .lst xs => clL b xs
  | .dK _ kvs => clK b kvs
  | .dT _ kvs => clT b kvs
  | .ins _ fs => fs.all fun p => cl b p.2
def clH (b : Nat) (h : MH) : Bool := h.all (clO b)
def mapO {α β : Type} (f : α → Option β) : List α → Option (List β)
  | [] => some []
  | x :: xs => match f x with
    | some y => (match mapO f xs with
      | some ys => some (y :: ys)
      | none => none)
    | none => none
/-- the lists and dicts of the heap from b on, for good -/
def fz (h : MH) (b : Nat) : Nat → D → Option D
  | 0, _ => none
  | n + 1, d => if cl b d then some d else match d with
    | .ref k => (match h[k]? with
      | some (.lst xs) => (mapO (fz h b n) xs).map .lst
      | some (.dK false kvs) => if clK b kvs then some (.dK kvs) else none
      | some (.dT false kvs) => if clT b kvs then some (.dT kvs) else none
      | _ => none)
    | .tup xs => (mapO (fz h b n) xs).map .tup
    | .lst xs => (mapO (fz h b n) xs).map .lst
    | _ => none
/-- what a def leaves: none: nothing new but what it hands back, for good; some k: k new things of the heap -/
def fin (keep : Option Nat) (b : Nat) (d : D) (h : MH) : R D := match keep with
  | none => if h.length ≤ b then .ok d h else match fz h b 5 d with
    | some d1 => if clH b (h.take b) then .ok d1 (h.take b) else .stuck
    | none => .stuck
  | some k => if h.length ≤ b + k then .ok d h else if cl (b + k) d && clH (b + k) (h.take (b + k)) then .ok d (h.take (b + k)) else .stuck
def finX (keep : Option Nat) (b c : Nat) (p : Option D) (h : MH) : R D := match p with
  | none => (match fin keep b .non h with
    | .ok _ h1 => .exn c none h1
    | _ => .stuck)
  | some d => (match fin keep b d h with
    | .ok d1 h1 => .exn c (some d1) h1
    | _ => .stuck)
/-- a def: its parameters, its names, its body, what it keeps -/
structure FI where
  np : Nat
  nn : Nat
  keep : Option Nat
  body : S
def WF : Nat := 100000
def callN (P : Nat → Option FI) : Nat → Nat → List D → MH → R D
  | 0, _, _, _ => .stuck
  | n + 1, f, as, h => match P f with
    | none => .stuck
    | some i => if as.length = i.np then (match exS (callN P n) WF i.body (as.map some ++ List.replicate (i.nn - as.length) none) h with
      | .nx _ h1 => fin i.keep h.length .non h1
      | .ret d h1 => fin i.keep h.length d h1
      | .exn c p h1 => finX i.keep h.length c p h1
      | _ => .stuck) else .stuck
end Mi
namespace Mi
open PySem PySem.Spec PyProof.Rows L2
abbrev St := L2.St
/-! ### what is fixed by the text: the written part, the classes, the defs, the fields' names -/
structure Tx where
  K : PySem.W.Frag
  ca : Nat → Addr
  xa : Nat → Addr
  fa : Nat → Addr
  fnm : Nat → Str
structure Gr where
  phi : List Addr
  fz : Addr → Prop
section
variable (T : Tx) (H : Hp) (g : Gr)
mutual
def RepV : D → V → Prop
  | .non, v => v = .non
  | .bl b, v => v = .bl b
  | .int i, v => v = .int i
  | .str x, v => v = .str x
  | .tup ds, v => ∃ a vs, v = .ref a ∧ H a = some (.tup vs) ∧ RepL ds vs
  | .lst ds, v => ∃ a vs, v = .ref a ∧ g.fz a ∧ H a = some (.lst vs) ∧ RepL ds vs
  | .dK kvs, v => ∃ a kk, v = .ref a ∧ g.fz a ∧ H a = some (.dK kk) ∧ RepK kvs kk
  | .dT kvs, v => ∃ a kk, v = .ref a ∧ g.fz a ∧ H a = some (.dT kk) ∧ RepT kvs kk
  | .ref n, v => ∃ a, v = .ref a ∧ g.phi[n]? = some a
  | .scr ns, v => ∃ a, v = .ref a ∧ ((∃ o, H a = some (.frz o (.lst (ns.map V.int))) ∧ a ∉ g.phi) ∨ (∀ H', SqL T.K H' a (ns.map V.int)))
  | .fn f, v => v = .ref (T.fa f)
def RepL : List D → List V → Prop
  | [], [] => True
  | d :: ds, v :: vs => RepV d v ∧ RepL ds vs
  | _, _ => False
def RepK : List (Ky × D) → List (L2.Key × V) → Prop
  | [], [] => True
  | (k, d) :: r, (q, v) :: s => k = q ∧ RepV d v ∧ RepK r s
  | _, _ => False
def RepT : List (List Ky × D) → List (List L2.Key × V) → Prop
  | [], [] => True
  | (k, d) :: r, (q, v) :: s => k = q ∧ RepV d v ∧ RepT r s
  | _, _ => False
end
def RepF : List (Nat × D) → List (Str × V) → Prop
  | [], [] => True
  | (k, d) :: r, (q, v) :: s => q = T.fnm k ∧ RepV T H g d v ∧ RepF r s
  | _, _ => False
def RepO : MO → Addr → Prop
  | .lst ds, a => ∃ vs, H a = some (.lst vs) ∧ RepL T H g ds vs
  | .dK l kvs, a => ∃ kk, RepK T H g kvs kk ∧ if l = true then ∃ o, H a = some (.frz o (.dK kk)) else H a = some (.dK kk)
  | .dT l kvs, a => ∃ kk, RepT T H g kvs kk ∧ if l = true then ∃ o, H a = some (.frz o (.dT kk)) else H a = some (.dT kk)
  | .ins c fs, a => ∃ dx vs, H a = some (.ins (T.ca c) dx vs) ∧ RepF T H g fs vs
structure Rel (h : MH) : Prop where
  len : g.phi.length = h.length
  nd : g.phi.Nodup
  dis : ∀ a ∈ g.phi, ¬ g.fz a
  trk : ∀ a, g.fz a → ∃ o, H a = some o
  obj : ∀ (n : Nat) (o : MO) (a : Addr), h[n]? = some o → g.phi[n]? = some a → RepO T H g o a
def RepS (e : Ev) (σ : St) : Prop := e.length = σ.length ∧ ∀ (i : Nat) (d : D), e[i]? = some (some d) → ∃ v, σ[i]? = some (some v) ∧ RepV T H g d v
end
structure Ext (g : Gr) (H : Hp) (g' : Gr) (H' : Hp) : Prop where
  fr : ∀ a o, H a = some o → a ∉ g.phi → H' a = some o
  fzs : ∀ a, g.fz a → g'.fz a
  phi : ∃ t, g'.phi = g.phi ++ t ∧ ∀ a ∈ t, H a = none
  fzn : ∀ a, g'.fz a → g.fz a ∨ H a = none
theorem Ext.refl (g : Gr) (H : Hp) : Ext g H g H := ⟨fun _ _ h _ => h, fun _ h => h, ⟨[], by simp, fun _ h => nomatch h⟩, fun _ h => .inl h⟩
section
variable {T : Tx} {H H1 H2 : Hp} {g g1 g2 : Gr} {h h1 : MH}
/-- what stands at phi's addresses -/
theorem Rel.there (r : Rel T H g h) {a : Addr} (ha : a ∈ g.phi) : ∃ o, H a = some o ∧ (∀ vs, o ≠ .tup vs) ∧ ∀ ob xs, o ≠ .frz ob (.lst xs) := by
  obtain ⟨n, hn, e⟩ := List.getElem_of_mem ha
  have hn' : n < h.length := by rw [← r.len]; exact hn
  have q := r.obj n h[n] a (by simp [hn']) (by rw [← e]; simp [hn])
  revert q
  cases h[n] with
  | lst ds => rintro ⟨vs, q, _⟩; exact ⟨_, q, fun _ z => (nomatch z), fun _ _ z => (nomatch z)⟩
  | dK l kvs =>
    rintro ⟨kk, _, q⟩
    cases l with
    | true => obtain ⟨o, q⟩ := q; exact ⟨_, q, fun _ z => (nomatch z), fun _ _ z => (by injection z with _ z; cases z)⟩
    | false => exact ⟨_, q, fun _ z => (nomatch z), fun _ _ z => (nomatch z)⟩
  | dT l kvs =>
    rintro ⟨kk, _, q⟩
    cases l with
    | true => obtain ⟨o, q⟩ := q; exact ⟨_, q, fun _ z => (nomatch z), fun _ _ z => (by injection z with _ z; cases z)⟩
    | false => exact ⟨_, q, fun _ z => (nomatch z), fun _ _ z => (nomatch z)⟩
  | ins c fs => rintro ⟨dx, vs, q, _⟩; exact ⟨_, q, fun _ z => (nomatch z), fun _ _ z => (nomatch z)⟩
theorem Ext.keep (x : Ext g H g1 H1) (r : Rel T H g h) {a : Addr} {o : HO} (e : H a = some o) (n : a ∉ g.phi) : H1 a = some o ∧ a ∉ g1.phi := by
  refine ⟨x.fr a o e n, fun z => ?_⟩
  obtain ⟨t, e1, e2⟩ := x.phi
  rw [e1] at z
  rcases List.mem_append.mp z with z | z
  · exact n z
  · rw [e2 a z] at e; cases e
/-- what the readings live from -/
structure Ext0 (g : Gr) (H : Hp) (g' : Gr) (H' : Hp) : Prop where
  fr : ∀ a o, H a = some o → a ∉ g.phi → (g.fz a ∨ (∃ vs, o = .tup vs) ∨ ∃ ob xs, o = .frz ob (.lst xs)) → H' a = some o
  np : ∀ a ob xs, H a = some (.frz ob (.lst xs)) → a ∉ g.phi → a ∉ g'.phi
  fzs : ∀ a, g.fz a → g'.fz a
  phi : ∃ t, g'.phi = g.phi ++ t
theorem Ext.to0 (x : Ext g H g1 H1) (r : Rel T H g h) : Ext0 g H g1 H1 := ⟨fun a o e n _ => x.fr a o e n, fun a ob xs e n => (x.keep r e n).2, x.fzs, let ⟨t, e, _⟩ := x.phi; ⟨t, e⟩⟩
mutual
theorem RepV.mono0 (x : Ext0 g H g1 H1) (r : Rel T H g h) : ∀ (d : D) (v : V), RepV T H g d v → RepV T H1 g1 d v
  | .non, v, q => q
  | .bl _, v, q => q
  | .int _, v, q => q
  | .str _, v, q => q
  | .tup ds, v, q => by
    obtain ⟨a, vs, e, e1, e2⟩ := q
    refine ⟨a, vs, e, x.fr a _ e1 (fun z => ?_) (.inr (.inl ⟨_, rfl⟩)), RepL.mono0 x r ds vs e2⟩
    obtain ⟨o, q1, q2, _⟩ := r.there z
    rw [e1] at q1; cases q1; exact q2 _ rfl
  | .lst ds, v, q => by
    obtain ⟨a, vs, e, f, e1, e2⟩ := q
    exact ⟨a, vs, e, x.fzs a f, x.fr a _ e1 (fun z => r.dis a z f) (.inl f), RepL.mono0 x r ds vs e2⟩
  | .dK kvs, v, q => by
    obtain ⟨a, kk, e, f, e1, e2⟩ := q
    exact ⟨a, kk, e, x.fzs a f, x.fr a _ e1 (fun z => r.dis a z f) (.inl f), RepK.mono0 x r kvs kk e2⟩
  | .dT kvs, v, q => by
    obtain ⟨a, kk, e, f, e1, e2⟩ := q
    exact ⟨a, kk, e, x.fzs a f, x.fr a _ e1 (fun z => r.dis a z f) (.inl f), RepT.mono0 x r kvs kk e2⟩
  | .ref n, v, q => by
    obtain ⟨a, e, e1⟩ := q
    obtain ⟨t, e2⟩ := x.phi
    refine ⟨a, e, ?_⟩
    rw [e2, List.getElem?_append_left (List.getElem?_eq_some_iff.mp e1).1]
    exact e1
  | .scr ns, v, q => by
    obtain ⟨a, e, q | q⟩ := q
    · obtain ⟨o, q, n⟩ := q
      exact ⟨a, e, .inl ⟨o, x.fr a _ q n (.inr (.inr ⟨_, _, rfl⟩)), x.np a _ _ q n⟩⟩
    · exact ⟨a, e, .inr q⟩
  | .fn _, v, q => q
theorem RepL.mono0 (x : Ext0 g H g1 H1) (r : Rel T H g h) : ∀ (ds : List D) (vs : List V), RepL T H g ds vs → RepL T H1 g1 ds vs
  | [], [], _ => True.intro
  | d :: ds, v :: vs, q => ⟨RepV.mono0 x r d v q.1, RepL.mono0 x r ds vs q.2⟩
  | [], _ :: _, q => q.elim
  | _ :: _, [], q => q.elim
theorem RepK.mono0 (x : Ext0 g H g1 H1) (r : Rel T H g h) : ∀ (ds : List (Ky × D)) (vs : List (L2.Key × V)), RepK T H g ds vs → RepK T H1 g1 ds vs
  | [], [], _ => True.intro
  | (k, d) :: ds, (q, v) :: vs, z => ⟨z.1, RepV.mono0 x r d v z.2.1, RepK.mono0 x r ds vs z.2.2⟩
  | [], _ :: _, q => q.elim
  | _ :: _, [], q => q.elim
theorem RepT.mono0 (x : Ext0 g H g1 H1) (r : Rel T H g h) : ∀ (ds : List (List Ky × D)) (vs : List (List L2.Key × V)), RepT T H g ds vs → RepT T H1 g1 ds vs
  | [], [], _ => True.intro
  | (k, d) :: ds, (q, v) :: vs, z => ⟨z.1, RepV.mono0 x r d v z.2.1, RepT.mono0 x r ds vs z.2.2⟩
  | [], _ :: _, q => q.elim
  | _ :: _, [], q => q.elim
end
theorem RepF.mono0 (x : Ext0 g H g1 H1) (r : Rel T H g h) : ∀ (ds : List (Nat × D)) (vs : List (Str × V)), RepF T H g ds vs → RepF T H1 g1 ds vs
  | [], [], _ => True.intro
  | (k, d) :: ds, (q, v) :: vs, z => ⟨z.1, RepV.mono0 x r d v z.2.1, RepF.mono0 x r ds vs z.2.2⟩
  | [], _ :: _, q => q.elim
  | _ :: _, [], q => q.elim
theorem RepV.mono (x : Ext g H g1 H1) (r : Rel T H g h) (d : D) (v : V) (q : RepV T H g d v) : RepV T H1 g1 d v := RepV.mono0 (x.to0 r) r d v q
theorem RepL.mono (x : Ext g H g1 H1) (r : Rel T H g h) (d : List D) (v : List V) (q : RepL T H g d v) : RepL T H1 g1 d v := RepL.mono0 (x.to0 r) r d v q
theorem RepK.mono (x : Ext g H g1 H1) (r : Rel T H g h) (d : List (Ky × D)) (v : List (L2.Key × V)) (q : RepK T H g d v) : RepK T H1 g1 d v := RepK.mono0 (x.to0 r) r d v q
theorem RepT.mono (x : Ext g H g1 H1) (r : Rel T H g h) (d : List (List Ky × D)) (v : List (List L2.Key × V)) (q : RepT T H g d v) : RepT T H1 g1 d v := RepT.mono0 (x.to0 r) r d v q
theorem RepF.mono (x : Ext g H g1 H1) (r : Rel T H g h) (d : List (Nat × D)) (v : List (Str × V)) (q : RepF T H g d v) : RepF T H1 g1 d v := RepF.mono0 (x.to0 r) r d v q
theorem RepS.mono {e : Ev} {σ : St} (x : Ext g H g1 H1) (r : Rel T H g h) (s : RepS T H g e σ) : RepS T H1 g1 e σ :=
  ⟨s.1, fun i d q => let ⟨v, a, b⟩ := s.2 i d q; ⟨v, a, RepV.mono x r d v b⟩⟩
/-- one extension behind another (the second may have lost what came behind g1's own) -/
theorem Ext.trans (x : Ext g H g1 H1) (r : Rel T H g h) (r1 : Rel T H1 g1 h1) (y : Ext g1 H1 g2 H2) : Ext g H g2 H2 := by
  obtain ⟨t, e1, e2⟩ := x.phi
  obtain ⟨u, f1, f2⟩ := y.phi
  have back : ∀ a, H1 a = none → H a = none := fun a z => by
    cases q : H a with
    | none => rfl
    | some o =>
      by_cases m : a ∈ g.phi
      · obtain ⟨o', q', _⟩ := r1.there (a := a) (by rw [e1]; exact List.mem_append_left _ m)
        rw [z] at q'; cases q'
      · rw [x.fr a o q m] at z; cases z
  refine ⟨fun a o q m => ?_, fun a z => y.fzs a (x.fzs a z), ⟨t ++ u, by rw [f1, e1, List.append_assoc], fun a z => ?_⟩, fun a z => ?_⟩
  · obtain ⟨k1, k2⟩ := x.keep r q m
    exact y.fr a o k1 k2
  · rcases List.mem_append.mp z with z | z
    · exact e2 a z
    · exact back a (f2 a z)
  · rcases y.fzn a z with z | z
    · exact x.fzn a z
    · exact .inr (back a z)
/-! ### outcomes -/
/-- how an exception lies -/
def RepX (T : Tx) (H : Hp) (g : Gr) : Option D → Option Addr → Prop
  | none, dx => dx = none
  | some d, dx => ∃ a v, dx = some a ∧ H a = some (.xd [(Str.ofString "told", v)]) ∧ RepV T H g d v
abbrev XW := Value → Option Addr → Hp → Prop
def Out (T : Tx) (g : Gr) (H : Hp) (r : R D) (Q : VK) (W : XW) : Prop := match r with
  | .ok d h1 => ∀ v H1 g1, Rel T H1 g1 h1 → Ext g H g1 H1 → RepV T H1 g1 d v → Q v H1
  | .exn c p h1 => ∀ dx H1 g1, Rel T H1 g1 h1 → Ext g H g1 H1 → RepX T H1 g1 p dx → W (.ref (T.xa c)) dx H1
  | .stuck => False
def OutA (T : Tx) (g : Gr) (H : Hp) (r : R (List D)) (Q : List V → Hp → Prop) (W : XW) : Prop := match r with
  | .ok ds h1 => ∀ vs H1 g1, Rel T H1 g1 h1 → Ext g H g1 H1 → RepL T H1 g1 ds vs → Q vs H1
  | .exn c p h1 => ∀ dx H1 g1, Rel T H1 g1 h1 → Ext g H g1 H1 → RepX T H1 g1 p dx → W (.ref (T.xa c)) dx H1
  | .stuck => False
theorem Out.ext {r : R D} {Q : VK} {W : XW} (x : Ext g H g1 H1) (rl : Rel T H g h) (rl1 : Rel T H1 g1 h1) (o : Out T g H r Q W) : Out T g1 H1 r Q W := by
  cases r with
  | ok d h2 => exact fun v H2 g2 a b c => o v H2 g2 a (x.trans rl rl1 b) c
  | exn c p h2 => exact fun dx H2 g2 a b e => o dx H2 g2 a (x.trans rl rl1 b) e
  | stuck => exact o
theorem OutA.ext {r : R (List D)} {Q : List V → Hp → Prop} {W : XW} (x : Ext g H g1 H1) (rl : Rel T H g h) (rl1 : Rel T H1 g1 h1) (o : OutA T g H r Q W) : OutA T g1 H1 r Q W := by
  cases r with
  | ok d h2 => exact fun v H2 g2 a b c => o v H2 g2 a (x.trans rl rl1 b) c
  | exn c p h2 => exact fun dx H2 g2 a b e => o dx H2 g2 a (x.trans rl rl1 b) e
  | stuck => exact o
/-- an expression's, an argument list's reading -/
def tE (T : Tx) (W : WX) (m : Ev → MH → R D) : TE := fun σ H Q => ∃ g h e, Rel T H g h ∧ RepS T H g e σ ∧ Out T g H (m e h) Q (fun c d H' => W c d σ H')
def tA (T : Tx) (W : WX) (m : Ev → MH → R (List D)) : TA := fun σ H Q => ∃ g h e, Rel T H g h ∧ RepS T H g e σ ∧ OutA T g H (m e h) Q (fun c d H' => W c d σ H')
theorem Out.here {d : D} {v : V} {Q : VK} {W : XW} (r : Rel T H g h) (o : Out T g H (.ok d h) Q W) (q : RepV T H g d v) : Q v H := o v H g r (.refl _ _) q
/-- an expression first, then what follows with its value -/
theorem tE.bind {W : WX} {m : Ev → MH → R D} {f : D → Ev → MH → R D} {σ : St} {e : Ev} {Q : VK} {Q' : VK} (r : Rel T H g h) (s : RepS T H g e σ) (o : Out T g H ((m e h).bind fun d h => f d e h) Q (fun c d H' => W c d σ H'))
    (k : ∀ d v h1 H1 g1, m e h = .ok d h1 → Rel T H1 g1 h1 → RepS T H1 g1 e σ → RepV T H1 g1 d v → Ext g H g1 H1 → Out T g1 H1 (f d e h1) Q (fun c d H' => W c d σ H') → Q' v H1) : tE T W m σ H Q' := by
  refine ⟨g, h, e, r, s, ?_⟩
  revert k o
  cases m e h with
  | ok d h1 => exact fun o k v H1 g1 a b c => k d v h1 H1 g1 rfl a (s.mono b r) c b (o.ext b r a)
  | exn c p h1 => exact fun o _ => o
  | stuck => exact fun o _ => o
theorem tA.bind {W : WX} {m : Ev → MH → R (List D)} {f : List D → Ev → MH → R D} {σ : St} {e : Ev} {Q : VK} {Q' : List V → Hp → Prop} (r : Rel T H g h) (s : RepS T H g e σ) (o : Out T g H ((m e h).bind fun d h => f d e h) Q (fun c d H' => W c d σ H'))
    (k : ∀ ds vs h1 H1 g1, m e h = .ok ds h1 → Rel T H1 g1 h1 → RepS T H1 g1 e σ → RepL T H1 g1 ds vs → Ext g H g1 H1 → Out T g1 H1 (f ds e h1) Q (fun c d H' => W c d σ H') → Q' vs H1) : tA T W m σ H Q' := by
  refine ⟨g, h, e, r, s, ?_⟩
  revert k o
  cases m e h with
  | ok d h1 => exact fun o k v H1 g1 a b c => k d v h1 H1 g1 rfl a (s.mono b r) c b (o.ext b r a)
  | exn c p h1 => exact fun o _ => o
  | stuck => exact fun o _ => o
end
end Mi
namespace Mi
open PySem PySem.Spec PyProof.Rows L2
theorem PE.imp {X : Cx} {e : Expr} {t t' : TE} (h : PE X e t) (k : ∀ σ H Q, t' σ H Q → t σ H Q) : PE X e t' := ⟨fun pins s σ H Q I q => h.run pins s σ H Q I (k σ H Q q)⟩
theorem PA.imp {X : Cx} {e : List Expr} {t t' : TA} (h : PA X e t) (k : ∀ σ H Q, t' σ H Q → t σ H Q) : PA X e t' := ⟨fun pos pins s σ H Q I q => h.run pos pins s σ H Q I (k σ H Q q)⟩
/-- sizes, of a heap that is held -/
structure SzH (H : Hp) : Prop where
  lst : ∀ a xs, H a = some (.lst xs) → xs.length ≤ sizeLine
  tup : ∀ a xs, H a = some (.tup xs) → xs.length ≤ sizeLine
theorem inv_sz {X : Cx} {pins : List (Addr × Obj)} {σ : St} {H : Hp} {s : Shared} (I : Inv X pins σ H s) : SzH H :=
  ⟨fun a xs e => (show ObjOk X.prog X.w H s.heap a (.lst xs) from I.hok a _ e).1, fun a xs e => (show ObjOk X.prog X.w H s.heap a (.tup xs) from I.hok a _ e).1⟩
/-- behind an expression the sizes are known -/
theorem PE.sz {X : Cx} {e : Expr} {t : TE} (h : PE X e t) : PE X e (fun σ H Q => t σ H fun v H' => SzH H' → Q v H') :=
  ⟨fun pins s σ H Q I q => thn (h.run pins s σ H _ I q) fun u s1 ⟨v, H1, I1, r, q1⟩ => ⟨v, H1, I1, r, q1 (inv_sz I1)⟩⟩
theorem PE.sz0 {X : Cx} {e : Expr} {t : TE} (h : PE X e t) : PE X e (fun σ H Q => SzH H → t σ H Q) :=
  ⟨fun pins s σ H Q I q => h.run pins s σ H _ I (q (inv_sz I))⟩
section
variable {T : Tx} {H H1 H2 : Hp} {g g1 g2 : Gr} {h h1 : MH}
/-! ### new things -/
theorem Ext.new {a : Addr} {o : HO} (hn : H a = none) (f : Bool) : Ext g H { phi := g.phi, fz := fun b => g.fz b ∨ (f = true ∧ b = a) } (upd H a o) :=
  ⟨fun b u e _ => by rw [upd_ne (ne_of_none e hn)]; exact e, fun _ z => .inl z, ⟨[], by simp, fun _ z => nomatch z⟩, fun b z => by
    rcases z with z | ⟨_, z⟩
    · exact .inl z
    · rw [z]; exact .inr hn⟩
theorem Rel.ne {a : Addr} (r : Rel T H g h) (hn : H a = none) : a ∉ g.phi := fun z => by
  obtain ⟨o, q, _⟩ := r.there z
  rw [hn] at q; cases q
theorem RepO.mono (x : Ext g H g1 H1) (r : Rel T H g h) {o : MO} {a : Addr} (k : ∀ u, H a = some u → H1 a = some u) (q : RepO T H g o a) : RepO T H1 g1 o a := by
  cases o with
  | lst ds => obtain ⟨vs, e, z⟩ := q; exact ⟨vs, k _ e, RepL.mono x r _ _ z⟩
  | dK l kvs =>
    obtain ⟨kk, z, e⟩ := q
    refine ⟨kk, RepK.mono x r _ _ z, ?_⟩
    cases l with
    | true => obtain ⟨o, e⟩ := e; exact ⟨o, k _ e⟩
    | false => exact k _ e
  | dT l kvs =>
    obtain ⟨kk, z, e⟩ := q
    refine ⟨kk, RepT.mono x r _ _ z, ?_⟩
    cases l with
    | true => obtain ⟨o, e⟩ := e; exact ⟨o, k _ e⟩
    | false => exact k _ e
  | ins c fs => obtain ⟨dx, vs, e, z⟩ := q; exact ⟨dx, vs, k _ e, RepF.mono x r _ _ z⟩
/-- a new thing that is not of the mini heap -/
theorem Rel.new {a : Addr} {o : HO} (r : Rel T H g h) (hn : H a = none) (f : Bool) : Rel T (upd H a o) { phi := g.phi, fz := fun b => g.fz b ∨ (f = true ∧ b = a) } h := by
  refine ⟨r.len, r.nd, fun b hb z => ?_, fun b z => ?_, fun n ob b e1 e2 => ?_⟩
  · rcases z with z | ⟨_, z⟩
    · exact r.dis b hb z
    · rw [z] at hb; exact r.ne hn hb
  · rcases z with z | ⟨_, z⟩
    · obtain ⟨u, e⟩ := r.trk b z
      exact ⟨u, by rw [upd_ne (ne_of_none e hn)]; exact e⟩
    · exact ⟨o, by rw [z]; exact upd_same⟩
  · have hb : b ∈ g.phi := List.mem_of_getElem? e2
    refine RepO.mono (Ext.new hn f) r (fun u e => ?_) (r.obj n ob b e1 e2)
    rw [upd_ne (ne_of_none e hn)]; exact e
/-- a new thing of the mini heap -/
theorem Ext.newM {a : Addr} {o : HO} (hn : H a = none) : Ext g H { phi := g.phi ++ [a], fz := g.fz } (upd H a o) :=
  ⟨fun b u e _ => by rw [upd_ne (ne_of_none e hn)]; exact e, fun _ z => z, ⟨[a], rfl, fun b z => by rw [List.mem_singleton.mp z]; exact hn⟩, fun b z => .inl z⟩
theorem Rel.newM {a : Addr} {o : HO} {ob : MO} (r : Rel T H g h) (hn : H a = none) (q : RepO T (upd H a o) { phi := g.phi ++ [a], fz := g.fz } ob a) : Rel T (upd H a o) { phi := g.phi ++ [a], fz := g.fz } (h ++ [ob]) := by
  have ha := r.ne hn
  have hf : ¬ g.fz a := fun z => by
    obtain ⟨u, e⟩ := r.trk a z
    rw [hn] at e; cases e
  refine ⟨by simp [r.len], ?_, fun b hb z => ?_, fun b z => ?_, fun n u b e1 e2 => ?_⟩
  · rw [List.nodup_append]
    refine ⟨r.nd, by simp, fun x hx y hy e => ?_⟩
    rw [List.mem_singleton.mp hy] at e
    rw [e] at hx
    exact ha hx
  · rcases List.mem_append.mp hb with hb | hb
    · exact r.dis b hb z
    · rw [List.mem_singleton.mp hb] at z; exact hf z
  · obtain ⟨u, e⟩ := r.trk b z
    exact ⟨u, by rw [upd_ne (ne_of_none e hn)]; exact e⟩
  · by_cases hl : n < h.length
    · rw [List.getElem?_append_left hl] at e1
      rw [List.getElem?_append_left (by rw [r.len]; exact hl)] at e2
      refine RepO.mono (Ext.newM hn) r (fun w e => ?_) (r.obj n u b e1 e2)
      rw [upd_ne (ne_of_none e hn)]; exact e
    · rw [List.getElem?_append_right (by omega)] at e1
      rw [List.getElem?_append_right (by rw [r.len]; omega), r.len] at e2
      by_cases hz : n - h.length = 0
      · rw [hz] at e1 e2
        simp at e1 e2
        subst e1 e2
        exact q
      · have : ([ob] : List MO)[n - h.length]? = none := by rw [List.getElem?_eq_none]; simp; omega
        rw [this] at e1; cases e1
/-- ids of frozen things stand for something: with this a new one is not among them -/
theorem RepL.length : ∀ {ds : List D} {vs : List V}, RepL T H g ds vs → ds.length = vs.length
  | [], [], _ => rfl
  | d :: ds, v :: vs, q => by simp [RepL.length q.2]
  | [], _ :: _, q => q.elim
  | _ :: _, [], q => q.elim
theorem RepL.get : ∀ {ds : List D} {vs : List V} {i : Nat} {d : D}, RepL T H g ds vs → ds[i]? = some d → ∃ v, vs[i]? = some v ∧ RepV T H g d v
  | d :: ds, v :: vs, 0, _, q, e => by simp at e; subst e; exact ⟨v, rfl, q.1⟩
  | d :: ds, v :: vs, i + 1, _, q, e => by
    obtain ⟨w, a, b⟩ := RepL.get (i := i) q.2 (by simpa using e)
    exact ⟨w, by simpa using a, b⟩
  | [], [], _, _, _, e => by simp at e
  | [], _ :: _, _, _, q, _ => q.elim
  | _ :: _, [], _, _, q, _ => q.elim
theorem RepL.append : ∀ {ds es : List D} {vs us : List V}, RepL T H g ds vs → RepL T H g es us → RepL T H g (ds ++ es) (vs ++ us)
  | [], _, [], _, _, q => q
  | d :: ds, _, v :: vs, _, p, q => ⟨p.1, RepL.append p.2 q⟩
  | [], _, _ :: _, _, p, _ => p.elim
  | _ :: _, _, [], _, p, _ => p.elim
theorem RepL.set : ∀ {ds : List D} {vs : List V} {i : Nat} {d : D} {v : V}, RepL T H g ds vs → RepV T H g d v → RepL T H g (ds.set i d) (vs.set i v)
  | [], [], _, _, _, q, _ => q
  | d :: ds, v :: vs, 0, _, _, q, p => ⟨p, q.2⟩
  | d :: ds, v :: vs, i + 1, _, _, q, p => ⟨q.1, RepL.set q.2 p⟩
  | [], _ :: _, _, _, _, q, _ => q.elim
  | _ :: _, [], _, _, _, q, _ => q.elim
theorem RepL.take : ∀ {ds : List D} {vs : List V} (i : Nat), RepL T H g ds vs → RepL T H g (ds.take i) (vs.take i)
  | [], [], _, q => by simp; exact q
  | d :: ds, v :: vs, 0, q => True.intro
  | d :: ds, v :: vs, i + 1, q => ⟨q.1, RepL.take i q.2⟩
  | [], _ :: _, _, q => q.elim
  | _ :: _, [], _, q => q.elim
theorem RepL.drop : ∀ {ds : List D} {vs : List V} (i : Nat), RepL T H g ds vs → RepL T H g (ds.drop i) (vs.drop i)
  | [], [], _, q => by simp; exact q
  | d :: ds, v :: vs, 0, q => q
  | d :: ds, v :: vs, i + 1, q => RepL.drop i q.2
  | [], _ :: _, _, q => q.elim
  | _ :: _, [], _, q => q.elim
theorem RepL.rep {ds : List D} {vs : List V} (q : RepL T H g ds vs) : ∀ k : Nat, RepL T H g (List.replicate k ds).flatten (List.replicate k vs).flatten
  | 0 => True.intro
  | k + 1 => by rw [List.replicate_succ, List.replicate_succ, List.flatten_cons, List.flatten_cons]; exact q.append (RepL.rep q k)
theorem RepL.ints : ∀ (ns : List Int), RepL T H g (ns.map D.int) (ns.map V.int)
  | [] => True.intro
  | n :: ns => ⟨rfl, RepL.ints ns⟩
theorem RepL.ofInts : ∀ {ds : List D} {vs : List V} {is : List Int}, RepL T H g ds vs → Mi.intsD ds = some is → vs = is.map V.int
  | [], [], is, _, e => by simp [Mi.intsD] at e; subst e; rfl
  | .int i :: ds, v :: vs, is, q, e => by
    simp only [Mi.intsD] at e
    cases z : Mi.intsD ds with
    | none => rw [z] at e; cases e
    | some js =>
      rw [z] at e; cases e
      have e1 : v = .int i := q.1
      rw [RepL.ofInts q.2 z, e1]; rfl
  | [], _ :: _, _, q, _ => q.elim
  | _ :: _, [], _, q, _ => q.elim
  | .non :: _, _ :: _, _, _, e => by simp [Mi.intsD] at e
  | .bl _ :: _, _ :: _, _, _, e => by simp [Mi.intsD] at e
  | .str _ :: _, _ :: _, _, _, e => by simp [Mi.intsD] at e
  | .tup _ :: _, _ :: _, _, _, e => by simp [Mi.intsD] at e
  | .lst _ :: _, _ :: _, _, _, e => by simp [Mi.intsD] at e
  | .dK _ :: _, _ :: _, _, _, e => by simp [Mi.intsD] at e
  | .dT _ :: _, _ :: _, _, _, e => by simp [Mi.intsD] at e
  | .ref _ :: _, _ :: _, _, _, e => by simp [Mi.intsD] at e
  | .scr _ :: _, _ :: _, _, _, e => by simp [Mi.intsD] at e
  | .fn _ :: _, _ :: _, _, _, e => by simp [Mi.intsD] at e
theorem RepL.ofBls : ∀ {ds : List D} {vs : List V} {is : List Bool}, RepL T H g ds vs → Mi.blsD ds = some is → vs = is.map V.bl
  | [], [], is, _, e => by simp [Mi.blsD] at e; subst e; rfl
  | .bl i :: ds, v :: vs, is, q, e => by
    simp only [Mi.blsD] at e
    cases z : Mi.blsD ds with
    | none => rw [z] at e; cases e
    | some js =>
      rw [z] at e; cases e
      have e1 : v = .bl i := q.1
      rw [RepL.ofBls q.2 z, e1]; rfl
  | [], _ :: _, _, q, _ => q.elim
  | _ :: _, [], _, q, _ => q.elim
  | .non :: _, _ :: _, _, _, e => by simp [Mi.blsD] at e
  | .int _ :: _, _ :: _, _, _, e => by simp [Mi.blsD] at e
  | .str _ :: _, _ :: _, _, _, e => by simp [Mi.blsD] at e
  | .tup _ :: _, _ :: _, _, _, e => by simp [Mi.blsD] at e
  | .lst _ :: _, _ :: _, _, _, e => by simp [Mi.blsD] at e
  | .dK _ :: _, _ :: _, _, _, e => by simp [Mi.blsD] at e
  | .dT _ :: _, _ :: _, _, _, e => by simp [Mi.blsD] at e
  | .ref _ :: _, _ :: _, _, _, e => by simp [Mi.blsD] at e
  | .scr _ :: _, _ :: _, _, _, e => by simp [Mi.blsD] at e
  | .fn _ :: _, _ :: _, _, _, e => by simp [Mi.blsD] at e
/-! ### a list, a tuple that is read -/
/-- what a value's items stand at -/
theorem items_at {a : D} {x : V} {xs : List D} (r : Rel T H g h) (q : RepV T H g a x) (e : items h a = some xs) : ∃ p vs, x = .ref p ∧ (SqL T.K H p vs ∨ SqT T.K H p vs) ∧ RepL T H g xs vs := by
  cases a with
  | tup ds => cases e; obtain ⟨p, vs, e, e1, e2⟩ := q; exact ⟨p, vs, e, .inr (SqT.of e1), e2⟩
  | lst ds => cases e; obtain ⟨p, vs, e, _, e1, e2⟩ := q; exact ⟨p, vs, e, .inl (SqL.of e1), e2⟩
  | scr ns =>
    cases e
    obtain ⟨p, e, q⟩ := q
    refine ⟨p, ns.map V.int, e, .inl ?_, RepL.ints ns⟩
    rcases q with ⟨o, q, _⟩ | q
    · exact .inl (.inr ⟨o, q⟩)
    · exact q H
  | ref n =>
    obtain ⟨p, e1, e2⟩ := q
    simp only [items] at e
    cases z : h[n]? with
    | none => rw [z] at e; cases e
    | some o =>
      rw [z] at e
      cases o with
      | lst ds => cases e; obtain ⟨vs, q1, q2⟩ := r.obj n _ p z e2; exact ⟨p, vs, e1, .inl (SqL.of q1), q2⟩
      | dK _ _ => cases e
      | dT _ _ => cases e
      | ins _ _ => cases e
  | non => cases e
  | bl _ => cases e
  | int _ => cases e
  | str _ => cases e
  | dK _ => cases e
  | dT _ => cases e
  | fn _ => cases e
theorem items_at2 {a : D} {x : V} {xs : List D} (r : Rel T H g h) (q : RepV T H g a x) (e : items h a = some xs) : ∃ p vs, x = .ref p ∧ (SqL T.K H p vs ∨ (SqT T.K H p vs ∧ a = .tup xs)) ∧ RepL T H g xs vs := by
  cases a with
  | tup ds => cases e; obtain ⟨p, vs, e, e1, e2⟩ := q; exact ⟨p, vs, e, .inr ⟨SqT.of e1, rfl⟩, e2⟩
  | lst ds => cases e; obtain ⟨p, vs, e, _, e1, e2⟩ := q; exact ⟨p, vs, e, .inl (SqL.of e1), e2⟩
  | scr ns =>
    cases e
    obtain ⟨p, e, q⟩ := q
    refine ⟨p, ns.map V.int, e, .inl ?_, RepL.ints ns⟩
    rcases q with ⟨o, q, _⟩ | q
    · exact .inl (.inr ⟨o, q⟩)
    · exact q H
  | ref n =>
    obtain ⟨p, e1, e2⟩ := q
    simp only [items] at e
    cases z : h[n]? with
    | none => rw [z] at e; cases e
    | some o =>
      rw [z] at e
      cases o with
      | lst ds => cases e; obtain ⟨vs, q1, q2⟩ := r.obj n _ p z e2; exact ⟨p, vs, e1, .inl (SqL.of q1), q2⟩
      | dK _ _ => cases e
      | dT _ _ => cases e
      | ins _ _ => cases e
  | non => cases e
  | bl _ => cases e
  | int _ => cases e
  | str _ => cases e
  | dK _ => cases e
  | dT _ => cases e
  | fn _ => cases e
theorem lits_at {a : D} {x : V} {xs : List D} (r : Rel T H g h) (q : RepV T H g a x) (e : lits h a = some xs) : ∃ p vs, x = .ref p ∧ H p = some (.lst vs) ∧ RepL T H g xs vs := by
  cases a with
  | lst ds => cases e; obtain ⟨p, vs, e, _, e1, e2⟩ := q; exact ⟨p, vs, e, e1, e2⟩
  | ref n =>
    obtain ⟨p, e1, e2⟩ := q
    simp only [lits] at e
    cases z : h[n]? with
    | none => rw [z] at e; cases e
    | some o =>
      rw [z] at e
      cases o with
      | lst ds => cases e; obtain ⟨vs, q1, q2⟩ := r.obj n _ p z e2; exact ⟨p, vs, e1, q1, q2⟩
      | dK _ _ => cases e
      | dT _ _ => cases e
      | ins _ _ => cases e
  | tup ds => cases e
  | scr ns => cases e
  | non => cases e
  | bl _ => cases e
  | int _ => cases e
  | str _ => cases e
  | dK _ => cases e
  | dT _ => cases e
  | fn _ => cases e
/-- a list made at p -/
theorem Out.mk {m : Bool} {xs : List D} {vs : List V} {Q : VK} {W : XW} {p : Addr} (r : Rel T H g h) (hn : H p = none) (q : RepL T H g xs vs) (o : Out T g H (mk m xs h) Q W) : Q (.ref p) (upd H p (.lst vs)) := by
  cases m with
  | false =>
    refine o (.ref p) _ { phi := g.phi, fz := fun b => g.fz b ∨ (true = true ∧ b = p) } (r.new hn true) (Ext.new hn true) ?_
    exact ⟨p, vs, rfl, .inr ⟨rfl, rfl⟩, upd_same, RepL.mono (Ext.new hn true) r _ _ q⟩
  | true =>
    refine o (.ref p) _ { phi := g.phi ++ [p], fz := g.fz } (r.newM hn ⟨vs, upd_same, RepL.mono (Ext.newM hn) r _ _ q⟩) (Ext.newM hn) ?_
    exact ⟨p, rfl, by rw [← r.len]; simp⟩
end
end Mi
namespace Mi
open PySem PySem.Spec PyProof.Rows L2
/-- a two-place operation by the small language's -/
def R2m (T : Tx) (W : XW) (m : D → D → MH → R D) : R2 := fun x y H Q => SzH H → ∃ g h a b, Rel T H g h ∧ RepV T H g a x ∧ RepV T H g b y ∧ Out T g H (m a b h) Q W
def OpM (T : Tx) (X : Cx) (f : Value → Value → Sem Value) (m : D → D → MH → R D) : Prop := ∀ W, OpR X f (R2m T W m)
section
variable {T : Tx} {X : Cx} {W : XW}
theorem OpM.of {f : Value → Value → Sem Value} {m : D → D → MH → R D}
    (k : ∀ (W : XW) (pins : List (Addr × Obj)) (s : Shared) (σ : St) (H : Hp) (x y : V) (v u : Value) (Q : VK) (g : Gr) (h : MH) (a b : D), Inv X pins σ H s → RelV x v → RelV y u → SzH H → Rel T H g h → RepV T H g a x → RepV T H g b y → Out T g H (m a b h) Q W →
      wpAny (model X.prog X.w) X.A (f v u) (EP X pins σ Q) X.xe s) : OpM T X f m := by
  intro W pins s σ H x y v u Q I rx ry q
  obtain ⟨g, h, a, b, r, ra, rb, o⟩ := q (inv_sz I)
  exact k W pins s σ H x y v u Q g h a b I rx ry (inv_sz I) r ra rb o
theorem big_size {n : Nat} (h : n ≤ big) : n ≤ sizeLine := by
  rw [sizeLine_eq]; unfold big at h; omega
theorem int2_m {f : Value → Value → Sem Value} {k : Int → Int → MH → R D}
    (hk : ∀ (W : XW) (pins : List (Addr × Obj)) (s : Shared) (σ : St) (H : Hp) (i j : Int) (v u : Value) (Q : VK) (g : Gr) (h : MH), Inv X pins σ H s → RelV (.int i) v → RelV (.int j) u → Rel T H g h → Out T g H (k i j h) Q W →
      wpAny (model X.prog X.w) X.A (f v u) (EP X pins σ Q) X.xe s) : OpM T X f (fun a b h => int2 (fun i j => k i j h) a b) := by
  refine OpM.of fun W pins s σ H x y v u Q g h a b I rx ry sz r ra rb o => ?_
  cases a with
  | int i =>
    cases b with
    | int j =>
      have e1 : x = .int i := ra
      have e2 : y = .int j := rb
      subst e1 e2
      exact hk W pins s σ H i j v u Q g h I rx ry r o
    | _ => exact False.elim o
  | _ => exact False.elim o
theorem sub_m : OpM T X (binaryOp .Sub) (fun a b h => bop false .sub a b h) := int2_m fun W pins s σ H i j v u Q g h I rx ry r o =>
  op_sub pins s σ H _ _ v u Q I rx ry ⟨i, j, rfl, rfl, o.here r rfl⟩
theorem isub_m : OpM T X (inplaceOp .Sub) (fun a b h => bop false .sub a b h) := int2_m fun W pins s σ H i j v u Q g h I rx ry r o =>
  iop_sub pins s σ H _ _ v u Q I rx ry ⟨i, j, rfl, rfl, o.here r rfl⟩
theorem fdiv_m : OpM T X (binaryOp .FloorDiv) (fun a b h => bop false .fdiv a b h) := int2_m fun W pins s σ H i j v u Q g h I rx ry r o => by
  by_cases c : (decide (0 < j) && decide (j.natAbs < 2 ^ 8000)) = true
  · rw [if_pos c] at o
    rw [Bool.and_eq_true] at c
    exact op_fdivW pins s σ H _ _ v u Q I rx ry ⟨i, j, rfl, rfl, wide_div (of_decide_eq_true c.1) (of_decide_eq_true c.2) (by omega) (by omega), o.here r rfl⟩
  · rw [if_neg c] at o
    by_cases c2 : (decide (j ≠ 0) && decide (j.natAbs < 1073741824)) = true
    · rw [if_pos c2] at o
      rw [Bool.and_eq_true] at c2
      exact op_fdivN pins s σ H _ _ v u Q I rx ry ⟨i, j, rfl, rfl, ⟨of_decide_eq_true c2.1, of_decide_eq_true c2.2⟩, o.here r rfl⟩
    · rw [if_neg c2] at o; exact False.elim o
theorem mod_m : OpM T X (binaryOp .Mod) (fun a b h => bop false .mod a b h) := int2_m fun W pins s σ H i j v u Q g h I rx ry r o => by
  by_cases c : 0 < j
  · rw [if_pos c] at o
    exact op_mod pins s σ H _ _ v u Q I rx ry ⟨i, j, rfl, rfl, c, o.here r rfl⟩
  · rw [if_neg c] at o
    by_cases c2 : j ≠ 0
    · rw [if_pos c2] at o
      exact op_modN pins s σ H _ _ v u Q I rx ry ⟨i, j, rfl, rfl, c2, o.here r rfl⟩
    · rw [if_neg c2] at o; exact False.elim o
theorem pow_m : OpM T X (binaryOp .Pow) (fun a b h => bop false .pow a b h) := int2_m fun W pins s σ H i j v u Q g h I rx ry r o => by
  by_cases c : (decide (0 ≤ j) && decide (j ≤ 1000000) && small i) = true
  · rw [if_pos c] at o
    simp only [Bool.and_eq_true] at c
    exact op_pow pins s σ H _ _ v u Q I rx ry ⟨i, j, rfl, rfl, ⟨of_decide_eq_true c.1.1, of_decide_eq_true c.1.2, of_decide_eq_true c.2⟩, o.here r rfl⟩
  · rw [if_neg c] at o; exact False.elim o
theorem shr_m : OpM T X (binaryOp .RShift) (fun a b h => bop false .shr a b h) := int2_m fun W pins s σ H i j v u Q g h I rx ry r o => by
  by_cases c : 0 ≤ j
  · rw [if_pos c] at o
    exact op_shr pins s σ H _ _ v u Q I rx ry ⟨i, j, rfl, rfl, c, o.here r rfl⟩
  · rw [if_neg c] at o; exact False.elim o
theorem lits_cases {P : D → Prop} {h : MH} {a : D} {xs : List D} (e : lits h a = some xs) (k1 : ∀ ds, P (.lst ds)) (k2 : ∀ n, P (.ref n)) : P a := by
  cases a with
  | lst ds => exact k1 ds
  | ref n => exact k2 n
  | tup ds => cases e
  | scr ns => cases e
  | non => cases e
  | bl _ => cases e
  | int _ => cases e
  | str _ => cases e
  | dK _ => cases e
  | dT _ => cases e
  | fn _ => cases e
theorem Out.tup {xs : List D} {vs : List V} {Q : VK} {H : Hp} {g : Gr} {h : MH} {p : Addr} (r : Rel T H g h) (hn : H p = none) (q : RepL T H g xs vs) (o : Out T g H (.ok (.tup xs) h) Q W) : Q (.ref p) (upd H p (.tup vs)) := by
  refine o (.ref p) _ { phi := g.phi, fz := fun b => g.fz b ∨ (true = true ∧ b = p) } (r.new hn true) (Ext.new hn true) ?_
  exact ⟨p, vs, rfl, upd_same, RepL.mono (Ext.new hn true) r _ _ q⟩
def addL (m : Bool) (a b : D) (h : MH) : R D := match lits h a with
  | some xs => (match lits h b with
    | some ys => if xs.length + ys.length ≤ big then mk m (xs ++ ys) h else .stuck
    | none => .stuck)
  | none => .stuck
theorem addL_m {m : Bool} : OpM T X (binaryOp .Add) (fun a b h => addL m a b h) := by
  refine OpM.of fun W pins s σ H x y v u Q g h a b I rx ry sz r ra rb o => ?_
  unfold addL at o
  cases e1 : lits h a with
  | none => rw [e1] at o; exact False.elim o
  | some xs =>
    rw [e1] at o
    cases e2 : lits h b with
    | none => rw [e2] at o; exact False.elim o
    | some ys =>
      rw [e2] at o
      by_cases c : xs.length + ys.length ≤ big
      · simp only [if_pos c] at o
        obtain ⟨p, vs, ep, hp, q1⟩ := lits_at r ra e1
        obtain ⟨p2, us, ep2, hp2, q2⟩ := lits_at r rb e2
        exact op_cat pins s σ H x y v u Q I rx ry ⟨p, p2, vs, us, ep, ep2, hp, hp2, big_size (by rw [← q1.length, ← q2.length]; exact c), fun pn hn => Out.mk r hn (q1.append q2) o⟩
      · simp only [if_neg c] at o; exact False.elim o
theorem add_m {m : Bool} (hK : X.K = T.K) : OpM T X (binaryOp .Add) (fun a b h => bop m .add a b h) := by
  refine OpM.of fun W pins s σ H x y v u Q g h a b I rx ry sz r ra rb o => ?_
  have o : Out T g H (addD m a b h) Q W := o
  have go : addD m a b h = addL m a b h → wpAny (model X.prog X.w) X.A (binaryOp .Add v u) (EP X pins σ Q) X.xe s := fun e =>
    addL_m (T := T) (m := m) W pins s σ H x y v u Q I rx ry fun _ => ⟨g, h, a, b, r, ra, rb, by show Out T g H (addL m a b h) Q W; rw [← e]; exact o⟩
  cases a with
  | int i =>
    cases b with
    | int j =>
      have e1 : x = .int i := ra
      have e2 : y = .int j := rb
      exact op_add pins s σ H _ _ v u Q I rx ry ⟨i, j, e1, e2, o.here r rfl⟩
    | _ => exact False.elim o
  | str i =>
    cases b with
    | str j =>
      have e1 : x = .str i := ra
      have e2 : y = .str j := rb
      simp only [addD] at o
      by_cases c : i.length + j.length ≤ big
      · rw [if_pos c] at o
        exact op_add_str pins s σ H _ _ v u Q I rx ry ⟨i, j, e1, e2, big_size c, o.here r rfl⟩
      · rw [if_neg c] at o; exact False.elim o
    | _ => exact False.elim o
  | tup xs =>
    cases b with
    | tup ys =>
      simp only [addD] at o
      obtain ⟨p, vs, ep, hp, q1⟩ := ra
      obtain ⟨p2, us, ep2, hp2, q2⟩ := rb
      by_cases c : xs.length + ys.length ≤ big
      · rw [if_pos c] at o
        have o : Out T g H (.ok (.tup (xs ++ ys)) h) Q W := o
        subst ep ep2
        refine op_catA pins s σ H _ _ v u Q I rx ry ⟨p, p2, vs, us, rfl, rfl, by rw [hK]; exact SqT.of hp, by rw [hK]; exact SqT.of hp2, big_size (by rw [← q1.length, ← q2.length]; exact c), fun e => ?_, fun _ e => ?_, fun _ _ pn hn => Out.tup r hn (q1.append q2) o⟩
        · refine o.here r ⟨p2, us, rfl, hp2, ?_⟩
          subst e
          have l := q1.length
          cases xs with
          | nil => exact q2
          | cons _ _ => cases l
        · refine o.here r ⟨p, vs, rfl, hp, ?_⟩
          subst e
          have l := q2.length
          cases ys with
          | nil => rw [List.append_nil]; exact q1
          | cons _ _ => cases l
      · rw [if_neg c] at o; exact False.elim o
    | _ => exact False.elim o
  | lst ds => exact go rfl
  | ref n => exact go rfl
  | scr ns => exact go rfl
  | non => exact go rfl
  | bl _ => exact go rfl
  | dK _ => exact go rfl
  | dT _ => exact go rfl
  | fn _ => exact go rfl
def mulL (m : Bool) (a b : D) (h : MH) : R D := match b with
  | .int j => (match lits h a with
    | some xs => if decide (j < 2 ^ 60) && decide (-(2 ^ 60) < j) && decide (xs.length * j.toNat ≤ big) then mk m (List.replicate j.toNat xs).flatten h else .stuck
    | none => .stuck)
  | _ => .stuck
theorem mulL_m {m : Bool} : OpM T X (binaryOp .Mult) (fun a b h => mulL m a b h) := by
  refine OpM.of fun W pins s σ H x y v u Q g h a b I rx ry sz r ra rb o => ?_
  cases b with
  | int j =>
    have o : Out T g H (match lits h a with
      | some xs => if decide (j < 2 ^ 60) && decide (-(2 ^ 60) < j) && decide (xs.length * j.toNat ≤ big) then mk m (List.replicate j.toNat xs).flatten h else .stuck
      | none => .stuck) Q W := o
    cases e1 : lits h a with
    | none => rw [e1] at o; exact False.elim o
    | some xs =>
      rw [e1] at o
      by_cases c : (decide (j < 2 ^ 60) && decide (-(2 ^ 60) < j) && decide (xs.length * j.toNat ≤ big)) = true
      · simp only [if_pos c] at o
        simp only [Bool.and_eq_true, decide_eq_true_eq] at c
        obtain ⟨p, vs, ep, hp, q1⟩ := lits_at r ra e1
        have e2 : y = .int j := rb
        exact op_rep pins s σ H x y v u Q I rx ry ⟨p, j, vs, ep, e2, hp, by omega, by omega, big_size (by rw [← q1.length]; exact c.2), fun pn hn => Out.mk r hn (q1.rep _) o⟩
      · simp only [if_neg c] at o; exact False.elim o
  | _ => exact False.elim o
theorem mul_m {m : Bool} (hK : X.K = T.K) : OpM T X (binaryOp .Mult) (fun a b h => bop m .mul a b h) := by
  refine OpM.of fun W pins s σ H x y v u Q g h a b I rx ry sz r ra rb o => ?_
  have o : Out T g H (mulD m a b h) Q W := o
  have go : mulD m a b h = mulL m a b h → wpAny (model X.prog X.w) X.A (binaryOp .Mult v u) (EP X pins σ Q) X.xe s := fun e =>
    mulL_m (T := T) (m := m) W pins s σ H x y v u Q I rx ry fun _ => ⟨g, h, a, b, r, ra, rb, by show Out T g H (mulL m a b h) Q W; rw [← e]; exact o⟩
  cases b with
  | int j =>
    have e2 : y = .int j := rb
    cases a with
    | int i =>
      have e1 : x = .int i := ra
      simp only [mulD] at o
      by_cases c : (small i || small j || (decide (i.natAbs < 2 ^ 4000) && decide (j.natAbs < 2 ^ 4000))) = true
      · rw [if_pos c] at o
        have q := o.here r rfl
        simp only [Bool.or_eq_true, Bool.and_eq_true, decide_eq_true_eq] at c
        rcases c with (c | c) | c
        · have c : decide (i.natAbs < 2 ^ 64) = true := c
          have c := of_decide_eq_true c
          exact op_mul pins s σ H _ _ v u Q I rx ry ⟨i, j, e1, e2, .inl ⟨by omega, by omega⟩, q⟩
        · have c : decide (j.natAbs < 2 ^ 64) = true := c
          have c := of_decide_eq_true c
          exact op_mul pins s σ H _ _ v u Q I rx ry ⟨i, j, e1, e2, .inr ⟨by omega, by omega⟩, q⟩
        · exact op_mulW pins s σ H _ _ v u Q I rx ry ⟨i, j, e1, e2, wide_mul c.1 c.2 (by omega) (by omega) (by omega), q⟩
      · rw [if_neg c] at o; exact False.elim o
    | tup xs =>
      simp only [mulD] at o
      by_cases c : (!xs.isEmpty && decide (2 ≤ j) && decide (j ≤ 1000) && decide (xs.length ≤ 1000)) = true
      · rw [if_pos c] at o
        simp only [Bool.and_eq_true, decide_eq_true_eq] at c
        obtain ⟨p, vs, ep, hp, q1⟩ := ra
        have l := q1.length
        refine op_repT pins s σ H x y v u Q I rx ry ⟨p, j, vs, ep, e2, by rw [hK]; exact SqT.of hp, fun z => ?_, c.1.1.2, c.1.2, by rw [← l]; exact c.2, fun pn hn => Out.tup r hn (q1.rep _) o⟩
        rw [z] at l
        have : xs = [] := List.length_eq_zero_iff.mp l
        rw [this] at c
        exact absurd c.1.1.1 (by decide)
      · rw [if_neg c] at o; exact False.elim o
    | lst ds => exact go rfl
    | ref n => exact go rfl
    | scr ns => exact go rfl
    | non => exact go rfl
    | bl _ => exact go rfl
    | str _ => exact go rfl
    | dK _ => exact go rfl
    | dT _ => exact go rfl
    | fn _ => exact go rfl
  | _ => exact False.elim o
def boOf : Bo → Operator
  | .add => .Add | .sub => .Sub | .mul => .Mult | .fdiv => .FloorDiv | .mod => .Mod | .pow => .Pow | .band => .BitAnd | .shr => .RShift
theorem bop_m {m : Bool} {o : Bo} (hK : X.K = T.K) : OpM T X (binaryOp (boOf o)) (fun a b h => bop m o a b h) := by
  cases o with
  | add => exact add_m hK
  | sub => exact sub_m
  | mul => exact mul_m hK
  | fdiv => exact fdiv_m
  | mod => exact mod_m
  | pow => exact pow_m
  | band => exact int2_m fun W pins s σ H i j v u Q g h I rx ry r o => False.elim o
  | shr => exact shr_m
/-! ### comparisons -/
theorem cmpM_some {o : Co} {a b : D} {h : MH} {g : Gr} {H : Hp} {Q : VK} (r : Rel T H g h) (z : Out T g H (cmpM o a b h) Q W) : ∃ k, cop o a b h = some k ∧ Q (.bl k) H := by
  unfold cmpM at z
  cases e : cop o a b h with
  | none => rw [e] at z; exact False.elim z
  | some k => rw [e] at z; exact ⟨k, rfl, z.here r rfl⟩
def coOf : Co → CmpOp
  | .eq => .Eq | .ne => .NotEq | .lt => .Lt | .le => .LtE | .gt => .Gt | .ge => .GtE | .is => .Is | .isn => .IsNot | .inn => .In | .nin => .NotIn
mutual
def toP : D → PyData
  | .non => .none
  | .bl b => .bool b
  | .int i => .int i
  | .str x => .str x
  | .tup xs => .tuple (toPL xs)
  | .lst xs => .list (toPL xs)
  | .scr ns => .list (ns.map .int)
  | _ => .none
def toPL : List D → List PyData
  | [] => []
  | x :: xs => toP x :: toPL xs
end
theorem dp_ints {K : PySem.W.Frag} {H : Hp} : ∀ ns : List Int, DpAll K H (ns.map V.int) (ns.map .int)
  | [] => .nil
  | n :: ns => .cons (.int n) (dp_ints ns)
section
variable {H : Hp} {g : Gr} {h : MH}
/-- a value whose lists are written out to depth n -/
theorem dp_of (r : Rel T H g h) : ∀ (n : Nat) (d : D) (v : V), RepV T H g d v → okD n (res h n d) = true → Dp T.K H v (toP (res h n d)) := by
  intro n
  induction n with
  | zero =>
    intro d v q k
    cases d with
    | non => have e : v = .non := q; subst e; exact .non
    | bl b => have e : v = .bl b := q; subst e; exact .bl b
    | int i => have e : v = .int i := q; subst e; exact .int i
    | str x => have e : v = .str x := q; subst e; exact .str x
    | scr ns =>
      obtain ⟨a, e, q⟩ := q
      subst e
      refine .lst (xs := ns.map V.int) ?_ (dp_ints ns)
      rcases q with ⟨o, q, _⟩ | q
      · exact .inl (.inr ⟨o, q⟩)
      · exact q H
    | _ => simp [res, okD] at k
  | succ n ih =>
    have all : ∀ (ds : List D) (vs : List V), RepL T H g ds vs → (ds.map (res h n)).all (okD n) = true → DpAll T.K H vs (toPL (ds.map (res h n))) := by
      intro ds
      induction ds with
      | nil =>
        intro vs q _
        cases vs with
        | nil => exact .nil
        | cons _ _ => exact q.elim
      | cons d ds ihd =>
        intro vs q k
        cases vs with
        | nil => exact q.elim
        | cons v vs =>
          simp only [List.map_cons, List.all_cons, Bool.and_eq_true] at k
          exact .cons (ih d v q.1 k.1) (ihd vs q.2 k.2)
    intro d v q k
    cases d with
    | non => have e : v = .non := q; subst e; exact .non
    | bl b => have e : v = .bl b := q; subst e; exact .bl b
    | int i => have e : v = .int i := q; subst e; exact .int i
    | str x => have e : v = .str x := q; subst e; exact .str x
    | scr ns =>
      obtain ⟨a, e, q⟩ := q
      subst e
      refine .lst (xs := ns.map V.int) ?_ (dp_ints ns)
      rcases q with ⟨o, q, _⟩ | q
      · exact .inl (.inr ⟨o, q⟩)
      · exact q H
    | tup ds =>
      obtain ⟨a, vs, e, e1, e2⟩ := q
      subst e
      exact .tup (SqT.of e1) (all ds vs e2 k)
    | lst ds =>
      obtain ⟨a, vs, e, _, e1, e2⟩ := q
      subst e
      exact .lst (SqL.of e1) (all ds vs e2 k)
    | ref m =>
      obtain ⟨a, e, e1⟩ := q
      subst e
      simp only [res] at k ⊢
      cases w : h[m]? with
      | none => rw [w] at k; simp [okD] at k
      | some o =>
        rw [w] at k
        cases o with
        | lst ds =>
          obtain ⟨vs, q1, q2⟩ := r.obj m _ a w e1
          exact .lst (SqL.of q1) (all ds vs q2 k)
        | dK _ _ => simp [okD] at k
        | dT _ _ => simp [okD] at k
        | ins _ _ => simp [okD] at k
    | _ => simp [res, okD] at k
end
end
end Mi
namespace Mi
open PySem PySem.Spec PyProof.Rows L2
/-! ### plain data -/
theorem lay_ints : ∀ ns : List Int, PyData.canLayAll0 (ns.map .int) = true
  | [] => rfl
  | n :: ns => by simp [PyData.canLayAll0, PyData.canLay0, lay_ints ns]
theorem depth_ints : ∀ ns : List Int, PyData.depthAll (ns.map .int) = 0
  | [] => rfl
  | n :: ns => by simp [PyData.depthAll, PyData.depth, depth_ints ns]
theorem lay_of : ∀ (n : Nat) (d : D), okD n d = true → (toP d).canLay0 = true ∧ (toP d).depth ≤ n + 1 := by
  intro n
  induction n with
  | zero =>
    intro d k
    cases d with
    | scr ns => exact ⟨by simp only [toP, PyData.canLay0]; exact lay_ints ns, by simp only [toP, PyData.depth, depth_ints]; omega⟩
    | str x => exact ⟨k, by simp [toP, PyData.depth]⟩
    | non => exact ⟨rfl, by simp [toP, PyData.depth]⟩
    | bl b => exact ⟨rfl, by simp [toP, PyData.depth]⟩
    | int i => exact ⟨rfl, by simp [toP, PyData.depth]⟩
    | _ => simp [okD] at k
  | succ n ih =>
    have all : ∀ ds : List D, ds.all (okD n) = true → PyData.canLayAll0 (toPL ds) = true ∧ PyData.depthAll (toPL ds) ≤ n + 1 := by
      intro ds
      induction ds with
      | nil => intro _; exact ⟨rfl, by simp [toPL, PyData.depthAll]⟩
      | cons d ds ihd =>
        intro k
        simp only [List.all_cons, Bool.and_eq_true] at k
        obtain ⟨a, b⟩ := ih d k.1
        obtain ⟨c, e⟩ := ihd k.2
        refine ⟨by simp only [toPL, PyData.canLayAll0, a, c, Bool.and_self], ?_⟩
        simp only [toPL, PyData.depthAll]
        omega
    intro d k
    cases d with
    | scr ns => exact ⟨by simp only [toP, PyData.canLay0]; exact lay_ints ns, by simp only [toP, PyData.depth, depth_ints]; omega⟩
    | str x => exact ⟨k, by simp [toP, PyData.depth]⟩
    | non => exact ⟨rfl, by simp [toP, PyData.depth]⟩
    | bl b => exact ⟨rfl, by simp [toP, PyData.depth]⟩
    | int i => exact ⟨rfl, by simp [toP, PyData.depth]⟩
    | tup xs =>
      obtain ⟨a, b⟩ := all xs k
      exact ⟨by simp only [toP, PyData.canLay0]; exact a, by simp only [toP, PyData.depth]; omega⟩
    | lst xs =>
      obtain ⟨a, b⟩ := all xs k
      exact ⟨by simp only [toP, PyData.canLay0]; exact a, by simp only [toP, PyData.depth]; omega⟩
    | _ => simp [okD] at k
theorem shaped_of {d : D} (k : okD 8 d = true) : SeqAt.shaped (toP d) = true := by
  obtain ⟨a, b⟩ := lay_of 8 d k
  show ((toP d).canLay0 && decide ((toP d).depth ≤ 64)) = true
  rw [a, Bool.true_and, decide_eq_true_eq]
  omega
theorem eqvAll_nil {x : PyData} {xs : List PyData} : PyData.eqvAll [] (x :: xs) = false := by simp [PyData.eqvAll]
theorem eqv_ints : ∀ ns ms : List Int, PyData.eqvAll (ns.map .int) (ms.map .int) = decide (ns = ms)
  | [], [] => rfl
  | [], _ :: _ => by simp [PyData.eqvAll]
  | _ :: _, [] => by simp [PyData.eqvAll]
  | n :: ns, m :: ms => by
    simp only [List.map_cons, PyData.eqvAll, PyData.eqv, eqv_ints ns ms]
    by_cases c : n = m <;> by_cases c2 : ns = ms <;> simp [c, c2]
theorem beq_dec (a b : Int) : (a == b) = decide (a = b) := by
  by_cases h : a = b <;> simp [h]
theorem beq_decS (a b : Str) : (a == b) = decide (a = b) := by
  by_cases h : a = b <;> simp [h]
theorem eqI_ok : ∀ (n : Nat) (ns : List Int) (ds : List D), ds.all (okD n) = true → eqI ns ds = PyData.eqvAll (ns.map .int) (toPL ds) ∧ eqI ns ds = PyData.eqvAll (toPL ds) (ns.map .int)
  | n, [], [], _ => ⟨rfl, rfl⟩
  | n, [], d :: ds, _ => by simp [eqI, toPL, PyData.eqvAll]
  | n, i :: is, [], _ => by simp [eqI, toPL, PyData.eqvAll]
  | n, i :: is, d :: ds, k => by
    simp only [List.all_cons, Bool.and_eq_true] at k
    obtain ⟨a, b⟩ := eqI_ok n is ds k.2
    cases d with
    | int j =>
      simp only [eqI, List.map_cons, toPL, toP, PyData.eqvAll, PyData.eqv, ← a, ← b, beq_dec]
      refine ⟨trivial, ?_⟩
      by_cases c : i = j
      · simp [c]
      · have c' : ¬ j = i := fun e => c e.symm
        simp [c, c']
    | bl j =>
      simp only [eqI, List.map_cons, toPL, toP, PyData.eqvAll, PyData.eqv, ← a, ← b, beq_dec]
      refine ⟨trivial, ?_⟩
      by_cases c : i = if j = true then 1 else 0
      · simp [← c]
      · have c' : ¬ (if j = true then (1 : Int) else 0) = i := fun e => c e.symm
        simp [c, c']
    | non => simp [eqI, toPL, toP, PyData.eqvAll, PyData.eqv]
    | str x => simp [eqI, toPL, toP, PyData.eqvAll, PyData.eqv]
    | tup x => simp [eqI, toPL, toP, PyData.eqvAll, PyData.eqv]
    | lst x => simp [eqI, toPL, toP, PyData.eqvAll, PyData.eqv]
    | scr x => simp [eqI, toPL, toP, PyData.eqvAll, PyData.eqv]
    | dK _ => cases n <;> simp [okD] at k
    | dT _ => cases n <;> simp [okD] at k
    | ref _ => cases n <;> simp [okD] at k
    | fn _ => cases n <;> simp [okD] at k
theorem eqL_of (n : Nat) (ih : ∀ (d e : D), okD n d = true → okD n e = true → eqD d e = PyData.eqv (toP d) (toP e)) : ∀ (ds es : List D), ds.all (okD n) = true → es.all (okD n) = true → eqL ds es = PyData.eqvAll (toPL ds) (toPL es)
  | [], [], _, _ => rfl
  | [], _ :: _, _, _ => by simp [eqL, toPL, PyData.eqvAll]
  | _ :: _, [], _, _ => by simp [eqL, toPL, PyData.eqvAll]
  | d :: ds, e :: es, k, l => by
    simp only [List.all_cons, Bool.and_eq_true] at k l
    simp only [eqL, toPL, PyData.eqvAll, ih d e k.1 l.1, eqL_of n ih ds es k.2 l.2]
theorem eqD_ok : ∀ (n : Nat) (d e : D), okD n d = true → okD n e = true → eqD d e = PyData.eqv (toP d) (toP e) := by
  intro n
  induction n with
  | zero =>
    intro d e k l
    cases d <;> first
      | (simp [okD] at k; done)
      | (cases e <;> first
        | (simp [okD] at l; done)
        | (simp [eqD, toP, PyData.eqv, beq_dec, beq_decS, eqv_ints]; done))
  | succ n ih =>
    intro d e k l
    cases d <;> first
      | (simp [okD] at k; done)
      | (cases e <;> first
        | (simp [okD] at l; done)
        | (simp [eqD, toP, PyData.eqv, beq_dec, beq_decS, eqv_ints]; done)
        | (simp only [eqD, toP, PyData.eqv]; exact eqL_of n ih _ _ k l)
        | (simp only [eqD, toP, PyData.eqv]; exact (eqI_ok n _ _ l).1)
        | (simp only [eqD, toP, PyData.eqv]; exact (eqI_ok n _ _ k).2))
theorem toPL_any {n : Nat} {d : D} (k : okD n d = true) : ∀ {ds : List D}, ds.all (okD n) = true → (ds.any fun x => eqD x d) = (toPL ds).any fun z => PyData.eqv z (toP d)
  | [], _ => rfl
  | x :: xs, l => by
    simp only [List.all_cons, Bool.and_eq_true] at l
    simp only [List.any_cons, toPL, eqD_ok n x d l.1 k, toPL_any k l.2]
end Mi
namespace Mi
open PySem PySem.Spec PyProof.Rows L2
section
variable {T : Tx} {X : Cx} {W : XW} {H : Hp} {g : Gr} {h : MH}
/-! ### dicts -/
theorem kV_of {d : D} {v : V} {k : Ky} (q : RepV T H g d v) (e : kOf d = some k) : v = kV k := by
  cases d with
  | int i => cases e; exact q
  | str x => cases e; exact q
  | _ => cases e
theorem kVs_of : ∀ {ds : List D} {vs : List V} {ks : List Ky}, RepL T H g ds vs → ksOf ds = some ks → vs = ks.map kV
  | [], [], ks, _, e => by simp [ksOf] at e; subst e; rfl
  | d :: ds, v :: vs, ks, q, e => by
    simp only [ksOf] at e
    cases e1 : kOf d with
    | none => rw [e1] at e; cases e
    | some k =>
      cases e2 : ksOf ds with
      | none => rw [e1, e2] at e; cases e
      | some r =>
        rw [e1, e2] at e; cases e
        rw [List.map_cons, kV_of q.1 e1, kVs_of q.2 e2]
  | [], _ :: _, _, q, _ => q.elim
  | _ :: _, [], _, q, _ => q.elim
def RepOp (T : Tx) (H : Hp) (g : Gr) : Option D → Option V → Prop
  | none, none => True
  | some d, some v => RepV T H g d v
  | _, _ => False
theorem RepK.look : ∀ {kvs : List (Ky × D)} {kk : List (L2.Key × V)} (k : Ky), RepK T H g kvs kk → RepOp T H g (lookK kvs k) (valV kk k)
  | [], [], _, _ => True.intro
  | (q, d) :: r, (q', v) :: s, k, z => by
    obtain ⟨e, a, b⟩ := z
    subst e
    by_cases c : q = k
    · rw [valV_pos (p := (q, v)) c]; simp only [lookK, if_pos c]; exact a
    · rw [valV_neg (p := (q, v)) c]; simp only [lookK, if_neg c]; exact RepK.look k b
  | [], _ :: _, _, q => q.elim
  | _ :: _, [], _, q => q.elim
theorem RepT.look : ∀ {kvs : List (List Ky × D)} {kk : List (List L2.Key × V)} (k : List Ky), RepT T H g kvs kk → RepOp T H g (lookK kvs k) (valV kk k)
  | [], [], _, _ => True.intro
  | (q, d) :: r, (q', v) :: s, k, z => by
    obtain ⟨e, a, b⟩ := z
    subst e
    by_cases c : q = k
    · rw [valV_pos (p := (q, v)) c]; simp only [lookK, if_pos c]; exact a
    · rw [valV_neg (p := (q, v)) c]; simp only [lookK, if_neg c]; exact RepT.look k b
  | [], _ :: _, _, q => q.elim
  | _ :: _, [], _, q => q.elim
theorem dget_at {d k : D} {x y : V} {o : Option D} (r : Rel T H g h) (qd : RepV T H g d x) (qk : RepV T H g k y) (e : dget h d k = some o) : ∃ a ov, x = .ref a ∧ DGet H a y ov ∧ RepOp T H g o ov := by
  have doK : ∀ {kvs : List (Ky × D)} {kk : List (L2.Key × V)} {a : Addr}, Rd H a (.dK kk) → RepK T H g kvs kk → (kOf k).map (fun q => lookK kvs q) = some o → ∃ ov, DGet H a y ov ∧ RepOp T H g o ov := fun {kvs kk a} e1 e2 e3 => by
    cases e4 : kOf k with
    | none => rw [e4] at e3; cases e3
    | some q => rw [e4] at e3; cases e3; exact ⟨_, .inl ⟨kk, q, e1, kV_of qk e4, rfl⟩, e2.look q⟩
  have doT : ∀ {kvs : List (List Ky × D)} {kk : List (List L2.Key × V)} {a : Addr}, Rd H a (.dT kk) → RepT T H g kvs kk → (ktup k).map (fun q => lookK kvs q) = some o → ∃ ov, DGet H a y ov ∧ RepOp T H g o ov := fun {kvs kk a} e1 e2 e3 => by
    cases k with
    | tup ks =>
      have e3 : (ksOf ks).map (fun q => lookK kvs q) = some o := e3
      cases e4 : ksOf ks with
      | none => rw [e4] at e3; cases e3
      | some q =>
        rw [e4] at e3; cases e3
        obtain ⟨b, vs, eb, hb, q2⟩ := qk
        exact ⟨_, .inr ⟨kk, q, b, e1, eb, by rw [hb, kVs_of q2 e4], rfl⟩, e2.look q⟩
    | _ => cases e3
  cases d with
  | dK kvs =>
    obtain ⟨a, kk, e1, _, e2, e3⟩ := qd
    obtain ⟨ov, p, q⟩ := doK (.inl e2) e3 e
    exact ⟨a, ov, e1, p, q⟩
  | dT kvs =>
    obtain ⟨a, kk, e1, _, e2, e3⟩ := qd
    obtain ⟨ov, p, q⟩ := doT (.inl e2) e3 e
    exact ⟨a, ov, e1, p, q⟩
  | ref n =>
    obtain ⟨a, e1, e2⟩ := qd
    simp only [dget] at e
    cases z : h[n]? with
    | none => rw [z] at e; cases e
    | some ob =>
      rw [z] at e
      have w := r.obj n ob a z e2
      cases ob with
      | lst ds => cases e
      | ins c fs => cases e
      | dK l kvs =>
        obtain ⟨kk, w1, w2⟩ := w
        have rd : Rd H a (.dK kk) := by
          cases l with
          | true => exact .inr w2
          | false => exact .inl w2
        obtain ⟨ov, p, q⟩ := doK rd w1 e
        exact ⟨a, ov, e1, p, q⟩
      | dT l kvs =>
        obtain ⟨kk, w1, w2⟩ := w
        have rd : Rd H a (.dT kk) := by
          cases l with
          | true => exact .inr w2
          | false => exact .inl w2
        obtain ⟨ov, p, q⟩ := doT rd w1 e
        exact ⟨a, ov, e1, p, q⟩
  | _ => cases e
theorem RepOp.isSome {o : Option D} {ov : Option V} (q : RepOp T H g o ov) : o.isSome = ov.isSome := by
  cases o with
  | none => cases ov with
    | none => rfl
    | some _ => exact q.elim
  | some _ => cases ov with
    | none => exact q.elim
    | some _ => rfl
/-! ### comparisons -/
theorem lexLt_eq : ∀ a b : List Int, Mi.lexLt a b = HT.lexLt a b
  | [], [] => rfl
  | [], _ :: _ => rfl
  | _ :: _, [] => rfl
  | x :: xs, y :: ys => by
    rw [HT.lexLt_cons]
    simp only [Mi.lexLt, lexLt_eq xs ys]
theorem eqq_m (hK : X.K = T.K) (hu : X.A.units + 64 < cLine) : OpM T X (compareOp .Eq) (fun a b h => cmpM .eq a b h) := by
  refine OpM.of fun W pins s σ H x y v u Q g h a b I rx ry sz r ra rb o => ?_
  obtain ⟨k, e, q⟩ := cmpM_some r o
  have e : eqq h a b = some k := e
  unfold eqq at e
  by_cases c : (okD 8 (res h 8 a) && okD 8 (res h 8 b)) = true
  · rw [if_pos c] at e; cases e
    rw [Bool.and_eq_true] at c
    refine op_eqD hu pins s σ H x y v u Q I rx ry ⟨_, _, by rw [hK]; exact dp_of r 8 a x ra c.1, by rw [hK]; exact dp_of r 8 b y rb c.2, shaped_of c.1, shaped_of c.2, ?_⟩
    rw [← eqD_ok 8 _ _ c.1 c.2]
    exact q
  · rw [if_neg c] at e; cases e
theorem neq_m (hK : X.K = T.K) (hu : X.A.units + 64 < cLine) : OpM T X (compareOp .NotEq) (fun a b h => cmpM .ne a b h) := by
  refine OpM.of fun W pins s σ H x y v u Q g h a b I rx ry sz r ra rb o => ?_
  obtain ⟨k, e, q⟩ := cmpM_some r o
  have e : (eqq h a b).map not = some k := e
  unfold eqq at e
  by_cases c : (okD 8 (res h 8 a) && okD 8 (res h 8 b)) = true
  · rw [if_pos c] at e; cases e
    rw [Bool.and_eq_true] at c
    refine op_neD hu pins s σ H x y v u Q I rx ry ⟨_, _, by rw [hK]; exact dp_of r 8 a x ra c.1, by rw [hK]; exact dp_of r 8 b y rb c.2, shaped_of c.1, shaped_of c.2, ?_⟩
    rw [← eqD_ok 8 _ _ c.1 c.2]
    exact q
  · rw [if_neg c] at e; cases e
theorem ord_int {o : Co} {a b : D} {x y : V} {k : Bool} {H : Hp} {g : Gr} (ra : RepV T H g a x) (rb : RepV T H g b y) (ho : o ≠ .lt) (e : ordD o a b = some k) : ∃ i j, x = .int i ∧ y = .int j ∧ cmpI o i j = some k := by
  cases a with
  | int i =>
    cases b with
    | int j => exact ⟨i, j, ra, rb, e⟩
    | _ => cases e
  | tup xs =>
    cases b with
    | tup ys => cases o <;> first | cases e | exact absurd rfl ho
    | _ => cases e
  | _ => cases e
theorem lt_m (hK : X.K = T.K) (hu : X.A.units < cLine) : OpM T X (compareOp .Lt) (fun a b h => cmpM .lt a b h) := by
  refine OpM.of fun W pins s σ H x y v u Q g h a b I rx ry sz r ra rb o => ?_
  obtain ⟨k, e, q⟩ := cmpM_some r o
  have e : ordD .lt a b = some k := e
  cases a with
  | int i =>
    cases b with
    | int j =>
      cases e
      exact op_lt pins s σ H _ _ v u Q I rx ry ⟨i, j, ra, rb, q⟩
    | _ => cases e
  | tup xs =>
    cases b with
    | tup ys =>
      simp only [ordD] at e
      cases e1 : intsD xs with
      | none => rw [e1] at e; cases e
      | some is =>
        cases e2 : intsD ys with
        | none => rw [e1, e2] at e; cases e
        | some js =>
          rw [e1, e2] at e; cases e
          obtain ⟨p, vs, ep, hp, q1⟩ := ra
          obtain ⟨p2, us, ep2, hp2, q2⟩ := rb
          refine op_ltT hu pins s σ H x y v u Q I rx ry ⟨p, p2, is, js, ep, ep2, by rw [hK]; exact SqT.of (by rw [hp, q1.ofInts e1]), by rw [hK]; exact SqT.of (by rw [hp2, q2.ofInts e2]), ?_⟩
          rw [← lexLt_eq]; exact q
    | _ => cases e
  | _ => cases e
theorem le_m : OpM T X (compareOp .LtE) (fun a b h => cmpM .le a b h) := by
  refine OpM.of fun W pins s σ H x y v u Q g h a b I rx ry sz r ra rb o => ?_
  obtain ⟨k, e, q⟩ := cmpM_some r o
  obtain ⟨i, j, e1, e2, e3⟩ := ord_int ra rb (by decide) (show ordD .le a b = some k from e)
  cases e3
  exact op_le pins s σ H _ _ v u Q I rx ry ⟨i, j, e1, e2, q⟩
theorem gt_m : OpM T X (compareOp .Gt) (fun a b h => cmpM .gt a b h) := by
  refine OpM.of fun W pins s σ H x y v u Q g h a b I rx ry sz r ra rb o => ?_
  obtain ⟨k, e, q⟩ := cmpM_some r o
  obtain ⟨i, j, e1, e2, e3⟩ := ord_int ra rb (by decide) (show ordD .gt a b = some k from e)
  cases e3
  exact op_gt pins s σ H _ _ v u Q I rx ry ⟨i, j, e1, e2, q⟩
theorem ge_m : OpM T X (compareOp .GtE) (fun a b h => cmpM .ge a b h) := by
  refine OpM.of fun W pins s σ H x y v u Q g h a b I rx ry sz r ra rb o => ?_
  obtain ⟨k, e, q⟩ := cmpM_some r o
  obtain ⟨i, j, e1, e2, e3⟩ := ord_int ra rb (by decide) (show ordD .ge a b = some k from e)
  cases e3
  exact op_ge pins s σ H _ _ v u Q I rx ry ⟨i, j, e1, e2, q⟩
theorem isD_non {a : D} {x : V} {H : Hp} {g : Gr} (ra : RepV T H g a x) : isNon a = decide (x = .non) := by
  cases a with
  | non => have e : x = .non := ra; subst e; rfl
  | bl b => have e : x = .bl b := ra; subst e; rfl
  | int b => have e : x = .int b := ra; subst e; rfl
  | str b => have e : x = .str b := ra; subst e; rfl
  | tup _ => obtain ⟨_, _, e, _⟩ := ra; subst e; rfl
  | lst _ => obtain ⟨_, _, e, _⟩ := ra; subst e; rfl
  | dK _ => obtain ⟨_, _, e, _⟩ := ra; subst e; rfl
  | dT _ => obtain ⟨_, _, e, _⟩ := ra; subst e; rfl
  | ref _ => obtain ⟨_, e, _⟩ := ra; subst e; rfl
  | scr _ => obtain ⟨_, e, _⟩ := ra; subst e; rfl
  | fn _ => have e : x = .ref _ := ra; subst e; rfl
theorem is_m : OpM T X (compareOp .Is) (fun a b h => cmpM .is a b h) := by
  refine OpM.of fun W pins s σ H x y v u Q g h a b I rx ry sz r ra rb o => ?_
  obtain ⟨k, e, q⟩ := cmpM_some r o
  have e : isD a b = some k := e
  cases b with
  | non =>
    simp only [isD] at e
    cases e
    rw [isD_non ra] at q
    exact op_isN pins s σ H x y v u Q I rx ry ⟨rb, q⟩
  | bl j =>
    cases a with
    | bl i => cases e; exact op_is_bl pins s σ H x y v u Q I rx ry ⟨i, j, ra, rb, q⟩
    | _ => cases e
  | _ => cases e
theorem isn_m : OpM T X (compareOp .IsNot) (fun a b h => cmpM .isn a b h) := by
  refine OpM.of fun W pins s σ H x y v u Q g h a b I rx ry sz r ra rb o => ?_
  obtain ⟨k, e, q⟩ := cmpM_some r o
  have e : (isD a b).map not = some k := e
  cases b with
  | non =>
    simp only [isD, Option.map_some, Option.some.injEq] at e
    subst e
    rw [isD_non ra] at q
    exact op_notN pins s σ H x y v u Q I rx ry ⟨rb, q⟩
  | bl j =>
    cases a with
    | bl i => cases e; exact op_isnot_bl pins s σ H x y v u Q I rx ry ⟨i, j, ra, rb, q⟩
    | _ => cases e
  | _ => cases e
theorem canLay_all {n : Nat} : ∀ {ds : List D}, ds.all (okD n) = true → PyData.canLayAll0 (toPL ds) = true
  | [], _ => rfl
  | d :: ds, k => by
    simp only [List.all_cons, Bool.and_eq_true] at k
    simp only [toPL, PyData.canLayAll0, (lay_of n d k.1).1, canLay_all k.2, Bool.and_self]
theorem dpAll_of (r : Rel T H g h) (n : Nat) : ∀ {ds : List D} {vs : List V}, RepL T H g ds vs → (ds.map (res h n)).all (okD n) = true → DpAll T.K H vs (toPL (ds.map (res h n)))
  | [], [], _, _ => .nil
  | d :: ds, v :: vs, q, k => by
    simp only [List.map_cons, List.all_cons, Bool.and_eq_true] at k
    exact .cons (dp_of r n d v q.1 k.1) (dpAll_of r n q.2 k.2)
  | [], _ :: _, q, _ => q.elim
  | _ :: _, [], q, _ => q.elim
theorem room_at {A : Around} {d : D} {xs : List PyData} (hu : A.units + 200 < cLine) (k : okD 8 d = true) : A.units + 1 + min (PyData.depthAll xs) (toP d).depth < cLine := by
  have := (lay_of 8 d k).2
  have h2 : min (PyData.depthAll xs) (toP d).depth ≤ (toP d).depth := Nat.min_le_right _ _
  omega
/-- in and not in, over a list or a tuple -/
theorem inL_at {pins : List (Addr × Obj)} {s : Shared} {σ : St} {x y : V} {v u : Value} {Q : VK} {a : D} {xs : List D} {k : Bool} {p : Addr} {vs : List V} (I : Inv X pins σ H s) (hK : X.K = T.K) (hu : X.A.units + 200 < cLine) (rx : RelV x v) (r : Rel T H g h) (ra : RepV T H g a x)
    (hs : SqL T.K H p vs ∨ SqT T.K H p vs) (q1 : RepL T H g xs vs) (e : inL h a xs = some k) :
    (Q (.bl k) H → wpAny (model X.prog X.w) X.A (compareOp .In v (.ref p)) (EP X pins σ Q) X.xe s) ∧ (Q (.bl (!k)) H → wpAny (model X.prog X.w) X.A (compareOp .NotIn v (.ref p)) (EP X pins σ Q) X.xe s) := by
  unfold inL at e
  by_cases c : (okD 8 (res h 8 a) && (xs.map (res h 8)).all (okD 8)) = true
  · rw [if_pos c, toPL_any (Bool.and_eq_true_iff.mp c).1 (Bool.and_eq_true_iff.mp c).2] at e
    cases e
    rw [Bool.and_eq_true] at c
    obtain ⟨as, r1⟩ := Dp.reads I _ x v (by rw [hK]; exact dp_of r 8 a x ra c.1) rx
    have da := dpAll_of r 8 q1 c.2
    have l1 := canLay_all c.2
    have l2 := (lay_of 8 _ c.1).1
    have rm := room_at (A := X.A) (d := res h 8 a) (xs := toPL (xs.map (res h 8))) hu c.1
    rcases hs with hs | hs
    · obtain ⟨bs, r2⟩ := Dp.reads I (.list (toPL (xs.map (res h 8)))) (.ref p) (.ref p) (by rw [hK]; exact .lst hs da) rfl
      exact ⟨fun q => SeqAt.in_list_reads r2 r1 l1 l2 rm ⟨.bl _, H, I, rfl, q⟩, fun q => SeqAt.notIn_list_reads r2 r1 l1 l2 rm ⟨.bl _, H, I, rfl, q⟩⟩
    · obtain ⟨bs, r2⟩ := Dp.reads I (.tuple (toPL (xs.map (res h 8)))) (.ref p) (.ref p) (by rw [hK]; exact .tup hs da) rfl
      exact ⟨fun q => SeqAt.in_tuple_reads r2 r1 l1 l2 rm ⟨.bl _, H, I, rfl, q⟩, fun q => SeqAt.notIn_tuple_reads r2 r1 l1 l2 rm ⟨.bl _, H, I, rfl, q⟩⟩
  · rw [if_neg c] at e; cases e
theorem sign_of {x : Str} (h : x.length = 1) : ∃ c, x = ⟨#[c]⟩ := by
  obtain ⟨a⟩ := x
  have h : a.size = 1 := h
  obtain ⟨l⟩ := a
  match l, h with
  | [c], _ => exact ⟨c, rfl⟩
theorem any_sign {c : Nat} : ∀ l : List Nat, (l.any fun d => decide (some d = some c)) = decide (c ∈ l)
  | [] => rfl
  | d :: l => by
    rw [List.any_cons, any_sign l]
    by_cases e : d = c
    · subst e; simp
    · have e' : ¬ c = d := fun z => e z.symm
      simp [e, e']
theorem inD_both {pins : List (Addr × Obj)} {s : Shared} {σ : St} {x y : V} {v u : Value} {Q : VK} {a b : D} {k : Bool} (I : Inv X pins σ H s) (hK : X.K = T.K) (hu : X.A.units + 200 < cLine) (rx : RelV x v) (ry : RelV y u) (r : Rel T H g h) (ra : RepV T H g a x) (rb : RepV T H g b y)
    (e : inD h a b = some k) :
    (Q (.bl k) H → wpAny (model X.prog X.w) X.A (compareOp .In v u) (EP X pins σ Q) X.xe s) ∧ (Q (.bl (!k)) H → wpAny (model X.prog X.w) X.A (compareOp .NotIn v u) (EP X pins σ Q) X.xe s) := by
  have dict : (dget h b a).map Option.isSome = some k → (Q (.bl k) H → wpAny (model X.prog X.w) X.A (compareOp .In v u) (EP X pins σ Q) X.xe s) ∧ (Q (.bl (!k)) H → wpAny (model X.prog X.w) X.A (compareOp .NotIn v u) (EP X pins σ Q) X.xe s) := fun e => by
    cases z : dget h b a with
    | none => rw [z] at e; cases e
    | some o =>
      rw [z] at e; cases e
      obtain ⟨p, ov, ep, dg, ro⟩ := dget_at r rb ra z
      subst ep
      cases (show u = Value.ref p from ry)
      refine ⟨fun q => d_in (by omega) I dg rx fun s1 I1 => ⟨.bl _, H, I1, rfl, ?_⟩, fun q => d_notIn (by omega) I dg rx fun s1 I1 => ⟨.bl _, H, I1, rfl, ?_⟩⟩
      · rw [← ro.isSome]; exact q
      · rw [← ro.isSome]; exact q
  cases b with
  | tup xs =>
    obtain ⟨p, vs, ep, hp, q1⟩ := rb
    subst ep
    cases (show u = Value.ref p from ry)
    exact inL_at (y := .non) (u := .none) I hK hu rx r ra (.inr (SqT.of hp)) q1 e
  | lst xs =>
    obtain ⟨p, vs, ep, _, hp, q1⟩ := rb
    subst ep
    cases (show u = Value.ref p from ry)
    exact inL_at (y := .non) (u := .none) I hK hu rx r ra (.inl (SqL.of hp)) q1 e
  | ref n =>
    simp only [inD] at e
    cases z : h[n]? with
    | none => rw [z] at e; exact dict e
    | some ob =>
      rw [z] at e
      cases ob with
      | lst ds =>
        obtain ⟨p, ep, hp⟩ := rb
        subst ep
        cases (show u = Value.ref p from ry)
        obtain ⟨vs, q1, q2⟩ := r.obj n _ p z hp
        exact inL_at (y := .non) (u := .none) I hK hu rx r ra (.inl (SqL.of q1)) q2 e
      | dK _ _ => exact dict e
      | dT _ _ => exact dict e
      | ins _ _ => exact dict e
  | str z =>
    cases a with
    | str w =>
      simp only [inD] at e
      by_cases c : w.length = 1
      · rw [if_pos c] at e
        obtain ⟨cc, rfl⟩ := sign_of c
        have e : some (z.cps.toList.any fun d => decide (some d = some cc)) = some k := e
        rw [any_sign] at e
        cases e
        exact ⟨fun q => op_in_sign pins s σ H x y v u Q I rx ry ⟨cc, z, ra, rb, q⟩, fun q => op_notIn_sign pins s σ H x y v u Q I rx ry ⟨cc, z, ra, rb, q⟩⟩
      · rw [if_neg c] at e; cases e
    | _ => cases e
  | dK _ => exact dict e
  | dT _ => exact dict e
  | non => exact dict e
  | bl _ => exact dict e
  | int _ => exact dict e
  | scr _ => exact dict e
  | fn _ => exact dict e
theorem in_m (hK : X.K = T.K) (hu : X.A.units + 200 < cLine) : OpM T X (compareOp .In) (fun a b h => cmpM .inn a b h) := by
  refine OpM.of fun W pins s σ H x y v u Q g h a b I rx ry sz r ra rb o => ?_
  obtain ⟨k, e, q⟩ := cmpM_some r o
  exact (inD_both I hK hu rx ry r ra rb (show inD h a b = some k from e)).1 q
theorem nin_m (hK : X.K = T.K) (hu : X.A.units + 200 < cLine) : OpM T X (compareOp .NotIn) (fun a b h => cmpM .nin a b h) := by
  refine OpM.of fun W pins s σ H x y v u Q g h a b I rx ry sz r ra rb o => ?_
  obtain ⟨k, e, q⟩ := cmpM_some r o
  have e : (inD h a b).map not = some k := e
  cases z : inD h a b with
  | none => rw [z] at e; cases e
  | some k0 =>
    rw [z] at e; cases e
    exact (inD_both I hK hu rx ry r ra rb z).2 q
theorem cop_m {o : Co} (hK : X.K = T.K) (hu : X.A.units + 200 < cLine) : OpM T X (compareOp (coOf o)) (fun a b h => cmpM o a b h) := by
  cases o with
  | eq => exact eqq_m hK (by omega)
  | ne => exact neq_m hK (by omega)
  | lt => exact lt_m hK (by omega)
  | le => exact le_m
  | gt => exact gt_m
  | ge => exact ge_m
  | is => exact is_m
  | isn => exact isn_m
  | inn => exact in_m hK hu
  | nin => exact nin_m hK hu
end
end Mi
namespace Mi
open PySem PySem.Spec PyProof.Rows L2
section
variable {T : Tx} {X : Cx} {W : XW} {H : Hp} {g : Gr} {h : MH}
/-! ### subscripts -/
theorem ixN_eq (n : Nat) (i : Int) : Mi.ixN n i = L2.ixN n i := by
  unfold Mi.ixN L2.ixN
  by_cases c : 0 ≤ i
  · rw [if_pos c, if_pos c]
    by_cases d : i < n
    · rw [if_pos d, if_pos (by omega)]
    · rw [if_neg d, if_neg (by omega)]
  · rw [if_neg c, if_neg c]
    by_cases d : -(n : Int) ≤ i
    · rw [if_pos d, if_pos (by omega)]
    · rw [if_neg d, if_neg (by omega)]
theorem atI_eq {α : Type} (xs : List α) (i : Int) : Mi.atI xs i = L2.atI xs i := by
  unfold Mi.atI L2.atI
  rw [ixN_eq]
  cases L2.ixN xs.length i <;> rfl
theorem atI_rep {xs : List D} {vs : List V} {i : Int} {d : D} (q : RepL T H g xs vs) (e : Mi.atI xs i = some d) : ∃ v, L2.atI vs i = some v ∧ RepV T H g d v := by
  unfold Mi.atI at e
  cases z : Mi.ixN xs.length i with
  | none => rw [z] at e; cases e
  | some j =>
    rw [z] at e
    obtain ⟨v, a, b⟩ := q.get e
    refine ⟨v, ?_, b⟩
    unfold L2.atI
    rw [← q.length, ← ixN_eq, z]
    exact a
theorem ix_dict (hu : X.A.units + 200 < cLine) : IxR X (fun x y H Q => ∃ a v, x = .ref a ∧ DGet H a y (some v) ∧ Q v H) := by
  intro value slice pins s σ H x y v u Q I rx ry q hs
  obtain ⟨a, z, ex, dg, q⟩ := q
  subst ex
  cases (show v = Value.ref a from rx)
  exact tail_any (dict_typeIs I dg) PySem.F.slot_dict_getitem.lookup (d_getItem (by omega) I dg ry fun w' s3 I3 rw' => ⟨z, H, I3, rw', q⟩) hs
theorem ix_m (hK : X.K = T.K) (hu : X.A.units + 200 < cLine) : IxR X (R2m T W fun a i h => idxM a i h) := by
  intro value slice pins s σ H x y v u Q I rx ry q hs
  obtain ⟨g, h, a, b, r, ra, rb, o⟩ := q (inv_sz I)
  have o : Out T g H (idxM a b h) Q W := o
  unfold idxM at o
  cases e : idxD a b h with
  | none => rw [e] at o; exact False.elim o
  | some d =>
    rw [e] at o
    have o2 : Out T g H (.ok d h) Q W := o
    have seq : ∀ {xs : List D} {k : Int} {p : Addr} {vs : List V}, x = .ref p → (SqL T.K H p vs ∨ SqT T.K H p vs) → RepL T H g xs vs → b = .int k → Mi.atI xs k = some d → wpAny (model X.prog X.w) X.A (subscriptTail value slice v u) (EP X pins σ Q) X.xe s := fun {xs k p vs} e1 e2 e3 e4 e5 => by
      obtain ⟨w, a1, a2⟩ := atI_rep e3 e5
      subst e4
      refine ix_seq value slice pins s σ H x y v u Q I rx ry ?_ hs
      rcases e2 with e2 | e2
      · exact .inl ⟨p, vs, k, w, e1, rb, by rw [hK]; exact e2, a1, o2.here r a2⟩
      · exact .inr (.inl ⟨p, vs, k, w, e1, rb, by rw [hK]; exact e2, a1, o2.here r a2⟩)
    have dict : (dget h a b).bind id = some d → wpAny (model X.prog X.w) X.A (subscriptTail value slice v u) (EP X pins σ Q) X.xe s := fun e => by
      cases z : dget h a b with
      | none => rw [z] at e; cases e
      | some od =>
        rw [z] at e
        have e : od = some d := e
        subst e
        obtain ⟨p, ov, ep, dg, ro⟩ := dget_at r ra rb z
        cases ov with
        | none => exact ro.elim
        | some w => exact ix_dict hu value slice pins s σ H x y v u Q I rx ry ⟨p, w, ep, dg, o2.here r ro⟩ hs
    have ofItems : idxI (items h a) b = some d → wpAny (model X.prog X.w) X.A (subscriptTail value slice v u) (EP X pins σ Q) X.xe s := fun e => by
      cases b with
      | int k =>
        have e : (items h a).bind (fun xs => Mi.atI xs k) = some d := e
        cases z : items h a with
        | none => rw [z] at e; cases e
        | some xs =>
          rw [z] at e
          obtain ⟨p, vs, ep, hp, q1⟩ := items_at r ra z
          exact seq ep hp q1 rfl e
      | _ => cases e
    cases a with
    | str z =>
      cases b with
      | int k =>
        have e : (if z.length ≤ big then (Mi.atI z.cps.toList k).map (fun c => D.str ⟨#[c]⟩) else none) = some d := e
        by_cases hz : z.length ≤ big
        · rw [if_pos hz] at e
          cases w : Mi.atI z.cps.toList k with
          | none => rw [w] at e; cases e
          | some c =>
            rw [w] at e; cases e
            exact ix_seq value slice pins s σ H x y v u Q I rx ry (.inr (.inr ⟨z, k, c, ra, rb, big_size hz, by rw [← atI_eq]; exact w, o2.here r rfl⟩)) hs
        · rw [if_neg hz] at e; cases e
      | _ => cases e
    | dK _ => exact dict e
    | dT _ => exact dict e
    | ref n =>
      simp only [idxD] at e
      cases z : h[n]? with
      | none => rw [z] at e; exact dict e
      | some ob =>
        rw [z] at e
        cases ob with
        | lst ds =>
          cases b with
          | int k =>
            obtain ⟨p, ep, hp⟩ := ra
            obtain ⟨vs, q1, q2⟩ := r.obj n _ p z hp
            exact seq ep (.inl (SqL.of q1)) q2 rfl e
          | _ => cases e
        | dK _ _ => exact dict e
        | dT _ _ => exact dict e
        | ins _ _ => exact dict e
    | tup _ => exact ofItems e
    | lst _ => exact ofItems e
    | scr _ => exact ofItems e
    | non => exact ofItems e
    | bl _ => exact ofItems e
    | int _ => exact ofItems e
    | fn _ => exact ofItems e
/-! ### slices -/
theorem cutI_eq (n d : Nat) (o : Option Int) : cutI n d o = HT.sIx n d o := by
  cases o with
  | none => rfl
  | some v =>
    show min (if v < 0 then v + (n : Int) else v).toNat n = if v < 0 then (v + (n : Int)).toNat else min v.toNat n
    by_cases c : v < 0
    · rw [if_pos c, if_pos c]; omega
    · rw [if_neg c, if_neg c]
theorem cutL_rep {xs : List D} {vs : List V} (lo hi : Option Int) (q : RepL T H g xs vs) : RepL T H g (cutL xs lo hi) (cutV vs lo hi) := by
  unfold cutL cutV
  rw [cutI_eq, cutI_eq, ← q.length]
  exact (q.drop _).take _
def SlM (T : Tx) (W : XW) (m : Bool) : V → Option Int → Option Int → Hp → VK → Prop := fun x lo hi H Q => SzH H → ∃ g h a, Rel T H g h ∧ RepV T H g a x ∧ Out T g H (slD m a lo hi h) Q W
theorem sl_m {m : Bool} (hK : X.K = T.K) : SlR X (SlM T W m) := by
  intro pins s σ H x v vl vu lo hi sl Q I rx hs pl pu q
  obtain ⟨g, h, a, r, ra, o⟩ := q (inv_sz I)
  have list : ∀ {xs : List D}, lits h a = some xs → Out T g H (mk m (cutL xs lo hi) h) Q W → ∃ T id, typeLookup (.type T) "__getitem__" = pure (some (.builtin id)) ∧ s.TypeIs v T ∧ wpAny (model X.prog X.w) X.A (getItem v (.ref sl)) (EP X pins σ Q) X.xe s := fun {xs} e o => by
    obtain ⟨p, vs, ep, hp, q1⟩ := lits_at r ra e
    exact sl_list pins s σ H x v vl vu lo hi sl Q I rx hs pl pu ⟨p, vs, ep, by rw [hK]; exact SqL.of hp, fun pn hn => Out.mk r hn (cutL_rep lo hi q1) o⟩
  have go : (match lits h a with
      | some xs => mk m (cutL xs lo hi) h
      | none => .stuck) = slD m a lo hi h → ∃ T id, typeLookup (.type T) "__getitem__" = pure (some (.builtin id)) ∧ s.TypeIs v T ∧ wpAny (model X.prog X.w) X.A (getItem v (.ref sl)) (EP X pins σ Q) X.xe s := fun e => by
    rw [← e] at o
    cases z : lits h a with
    | none => rw [z] at o; exact False.elim o
    | some xs => rw [z] at o; exact list z o
  cases a with
  | tup xs =>
    obtain ⟨p, vs, ep, hp, q1⟩ := ra
    have o : Out T g H (.ok (.tup (cutL xs lo hi)) h) Q W := o
    refine sl_tupA pins s σ H x v vl vu lo hi sl Q I rx hs pl pu ⟨p, vs, ep, by rw [hK]; exact SqT.of hp, fun e => ?_, fun _ pn hn => Out.tup r hn (cutL_rep lo hi q1) o⟩
    refine o.here r ⟨p, vs, rfl, hp, ?_⟩
    have z := cutL_rep lo hi q1
    have w : cutV vs lo hi = vs := by
      unfold cutV
      rw [e.1, e.2, List.drop_zero, Nat.sub_zero, List.take_length]
    rw [w] at z
    exact z
  | str z =>
    have o : Out T g H (if z.length ≤ big then .ok (.str ⟨(cutL z.cps.toList lo hi).toArray⟩) h else .stuck) Q W := o
    by_cases hz : z.length ≤ big
    · rw [if_pos hz] at o
      refine sl_str pins s σ H x v vl vu lo hi sl Q I rx hs pl pu ⟨z, ra, big_size hz, ?_⟩
      have e : (⟨(cutL z.cps.toList lo hi).toArray⟩ : Str) = cutS z lo hi := by
        have l : z.cps.toList.length = z.length := by rw [Array.length_toList]; rfl
        unfold cutL cutS
        rw [cutI_eq, cutI_eq, l]
      rw [← e]
      exact o.here r rfl
    · rw [if_neg hz] at o; exact False.elim o
  | lst ds => exact go rfl
  | ref n => exact go rfl
  | scr ns => exact go rfl
  | non => exact go rfl
  | bl _ => exact go rfl
  | int _ => exact go rfl
  | dK _ => exact go rfl
  | dT _ => exact go rfl
  | fn _ => exact go rfl
end
end Mi
namespace Mi
open PySem PySem.Spec PyProof.Rows L2
def CallM (T : Tx) (X : Cx) (f : Value) (m : List D → MH → R D) : Prop := ∀ W : XW, CallR X f (fun xs H Q => SzH H → ∃ g h ds, Rel T H g h ∧ RepL T H g ds xs ∧ Out T g H (m ds h) Q W)
section
variable {T : Tx} {X : Cx} {W : XW} {H : Hp} {g : Gr} {h : MH}
theorem CallM.of {f : Value} {m : List D → MH → R D}
    (k : ∀ (W : XW) (pins : List (Addr × Obj)) (s : Shared) (σ : St) (H : Hp) (xs : List V) (us : List Value) (Q : VK) (g : Gr) (h : MH) (ds : List D), Inv X pins σ H s → Vals xs us → SzH H → Rel T H g h → RepL T H g ds xs → Out T g H (m ds h) Q W →
      wpAny (model X.prog X.w) X.A (PySem.call f us) (EP X pins σ Q) X.xe s) : CallM T X f m := by
  intro W pins s σ H xs us Q I rs q
  obtain ⟨g, h, ds, r, rd, o⟩ := q (inv_sz I)
  exact k W pins s σ H xs us Q g h ds I rs (inv_sz I) r rd o
theorem rep1 {d : D} {xs : List V} (q : RepL T H g [d] xs) : ∃ x, xs = [x] ∧ RepV T H g d x := by
  cases xs with
  | nil => exact q.elim
  | cons x r =>
    cases r with
    | nil => exact ⟨x, rfl, q.1⟩
    | cons _ _ => exact q.2.elim
theorem rep2 {d e : D} {xs : List V} (q : RepL T H g [d, e] xs) : ∃ x y, xs = [x, y] ∧ RepV T H g d x ∧ RepV T H g e y := by
  cases xs with
  | nil => exact q.elim
  | cons x r =>
    obtain ⟨y, e1, q2⟩ := rep1 q.2
    subst e1
    exact ⟨x, y, rfl, q.1, q2⟩
/-- one argument -/
theorem CallM.one {f : Value} {m : List D → MH → R D} (h0 : ∀ (ds : List D) (h : MH), (∀ d, ds ≠ [d]) → m ds h = .stuck)
    (k : ∀ (W : XW) (pins : List (Addr × Obj)) (s : Shared) (σ : St) (H : Hp) (x : V) (us : List Value) (Q : VK) (g : Gr) (h : MH) (d : D), Inv X pins σ H s → Vals [x] us → SzH H → Rel T H g h → RepV T H g d x → Out T g H (m [d] h) Q W →
      wpAny (model X.prog X.w) X.A (PySem.call f us) (EP X pins σ Q) X.xe s) : CallM T X f m := by
  refine CallM.of fun W pins s σ H xs us Q g h ds I rs sz r rd o => ?_
  match ds, rd, o with
  | [d], rd, o =>
    obtain ⟨x, e, q⟩ := rep1 rd
    subst e
    exact k W pins s σ H x us Q g h d I rs sz r q o
  | [], rd, o => rw [h0 [] h (fun _ z => nomatch z)] at o; exact o.elim
  | a :: b :: r, rd, o => rw [h0 (a :: b :: r) h (fun _ z => nomatch z)] at o; exact o.elim
theorem CallM.two {f : Value} {m : List D → MH → R D} (h0 : ∀ (ds : List D) (h : MH), (∀ d e, ds ≠ [d, e]) → m ds h = .stuck)
    (k : ∀ (W : XW) (pins : List (Addr × Obj)) (s : Shared) (σ : St) (H : Hp) (x y : V) (us : List Value) (Q : VK) (g : Gr) (h : MH) (d e : D), Inv X pins σ H s → Vals [x, y] us → SzH H → Rel T H g h → RepV T H g d x → RepV T H g e y → Out T g H (m [d, e] h) Q W →
      wpAny (model X.prog X.w) X.A (PySem.call f us) (EP X pins σ Q) X.xe s) : CallM T X f m := by
  refine CallM.of fun W pins s σ H xs us Q g h ds I rs sz r rd o => ?_
  match ds, rd, o with
  | [d, e], rd, o =>
    obtain ⟨x, y, z, q1, q2⟩ := rep2 rd
    subst z
    exact k W pins s σ H x y us Q g h d e I rs sz r q1 q2 o
  | [], rd, o => rw [h0 [] h (fun _ _ z => nomatch z)] at o; exact o.elim
  | [a], rd, o => rw [h0 [a] h (fun _ _ z => nomatch z)] at o; exact o.elim
  | a :: b :: c :: r, rd, o => rw [h0 (a :: b :: c :: r) h (fun _ _ z => nomatch z)] at o; exact o.elim
theorem prim_one {p : Pr} {ds : List D} {h : MH} (e : (fun a b => prim2 p a b h) = fun _ _ => .stuck) (k : ∀ d, ds ≠ [d]) : prim p ds h = .stuck := by
  match ds, k with
  | [d], k => exact absurd rfl (k d)
  | [], _ => rfl
  | [a, b], _ => exact congrFun (congrFun e a) b
  | _ :: _ :: _ :: _, _ => rfl
theorem prim_two {p : Pr} {ds : List D} {h : MH} (e : (fun a => prim1 p a h) = fun _ => .stuck) (k : ∀ d e, ds ≠ [d, e]) : prim p ds h = .stuck := by
  match ds, k with
  | [d, e], k => exact absurd rfl (k d e)
  | [], _ => rfl
  | [a], _ => exact congrFun e a
  | _ :: _ :: _ :: _, _ => rfl
theorem len_m (hK : X.K = T.K) : CallM T X (.builtin "len") (prim .len) := by
  refine CallM.one (fun ds h k => ?_) fun W pins s σ H x us Q g h d I rs sz r q o => ?_
  · exact prim_one rfl k
  · have seq : (match items h d with
        | some xs => .ok (.int xs.length) h
        | none => .stuck) = lenD d h → wpAny (model X.prog X.w) X.A (PySem.call (.builtin "len") us) (EP X pins σ Q) X.xe s := fun e => by
      have o : Out T g H (lenD d h) Q W := o
      rw [← e] at o
      cases z : items h d with
      | none => rw [z] at o; exact o.elim
      | some xs =>
        rw [z] at o
        obtain ⟨p, vs, ep, hp, q1⟩ := items_at r q z
        have q2 := Out.here (v := .int xs.length) r o rfl
        rw [q1.length] at q2
        subst ep
        exact call_len_seq pins s σ H _ us Q I rs ⟨p, vs, rfl, by rw [hK]; exact hp, q2⟩
    cases d with
    | str z =>
      have o : Out T g H (if z.length ≤ big then .ok (.int z.length) h else .stuck) Q W := o
      by_cases c : z.length ≤ big
      · rw [if_pos c] at o
        exact call_len_str pins s σ H _ us Q I rs ⟨z, by rw [show x = V.str z from q], big_size c, o.here r rfl⟩
      · rw [if_neg c] at o; exact o.elim
    | _ => exact seq rfl
theorem all_m (hc : X.calm = true) : CallM T X (.builtin "all") (prim .all) := by
  refine CallM.one (fun ds h k => ?_) fun W pins s σ H x us Q g h d I rs sz r q o => ?_
  · exact prim_one rfl k
  · have o : Out T g H (match (lits h d).bind blsD with
      | some bs => .ok (.bl (bs.all id)) h
      | none => .stuck) Q W := o
    cases z : lits h d with
    | none => rw [z] at o; exact o.elim
    | some xs =>
      cases z2 : blsD xs with
      | none => rw [z] at o; simp only [Option.bind_some, z2] at o; exact o.elim
      | some bs =>
        rw [z] at o
        simp only [Option.bind_some, z2] at o
        obtain ⟨p, vs, ep, hp, q1⟩ := lits_at r q z
        rw [q1.ofBls z2] at hp
        subst ep
        exact cr_all hc pins s σ H _ us Q I rs ⟨p, bs, rfl, SqL.of hp, o.here r rfl⟩
theorem any_m (hc : X.calm = true) : CallM T X (.builtin "any") (prim .any) := by
  refine CallM.one (fun ds h k => ?_) fun W pins s σ H x us Q g h d I rs sz r q o => ?_
  · exact prim_one rfl k
  · have o : Out T g H (match (lits h d).bind blsD with
      | some bs => .ok (.bl (bs.any id)) h
      | none => .stuck) Q W := o
    cases z : lits h d with
    | none => rw [z] at o; exact o.elim
    | some xs =>
      cases z2 : blsD xs with
      | none => rw [z] at o; simp only [Option.bind_some, z2] at o; exact o.elim
      | some bs =>
        rw [z] at o
        simp only [Option.bind_some, z2] at o
        obtain ⟨p, vs, ep, hp, q1⟩ := lits_at r q z
        rw [q1.ofBls z2] at hp
        subst ep
        exact cr_any hc pins s σ H _ us Q I rs ⟨p, bs, rfl, SqL.of hp, o.here r rfl⟩
theorem sum_m (hK : X.K = T.K) (hc : X.calm = true) : CallM T X (.builtin "sum") (prim .sum) := by
  refine CallM.one (fun ds h k => ?_) fun W pins s σ H x us Q g h d I rs sz r q o => ?_
  · exact prim_one rfl k
  · have o : Out T g H (match (items h d).bind intsD with
      | some is => .ok (.int is.sum) h
      | none => .stuck) Q W := o
    cases z : items h d with
    | none => rw [z] at o; exact o.elim
    | some xs =>
      cases z2 : intsD xs with
      | none => rw [z] at o; simp only [Option.bind_some, z2] at o; exact o.elim
      | some ns =>
        rw [z] at o
        simp only [Option.bind_some, z2] at o
        obtain ⟨p, vs, ep, hp, q1⟩ := items_at r q z
        have e1 := q1.ofInts z2
        subst e1 ep
        rcases hp with hp | hp
        · exact cr_sum hc pins s σ H _ us Q I rs ⟨p, ns, rfl, by rw [hK]; exact hp, o.here r rfl⟩
        · obtain ⟨its, rv, pt, _⟩ := I.tuple (show SqT X.K H p (ns.map V.int) by rw [hK]; exact hp)
          have e := Vals.ref1 rs
          subst e
          obtain ⟨ys, hx⟩ := rv.ints.allInts.items
          have hn : numsOf its.toArray.toList = ns := by rw [show its.toArray.toList = its from rfl, rv.ints.numsOf]
          rw [hx] at pt hn
          rw [nums_intItems] at hn
          refine PySem.W.ktm_sumG (I.ok.hd hc) pt fun h' tk t' hk => ?_
          rw [preSum_eq, List.take_of_length_le (by simp), hn]
          exact ⟨.int _, H, I.kept hk, ⟨_, rfl⟩, o.here r rfl⟩
theorem list_m {m : Bool} (hK : X.K = T.K) : CallM T X (.type "list") (prim (.list m)) := by
  refine CallM.one (fun ds h k => ?_) fun W pins s σ H x us Q g h d I rs sz r q o => ?_
  · exact prim_one rfl k
  · have o : Out T g H (match items h d with
      | some xs => mk m xs h
      | none => .stuck) Q W := o
    cases z : items h d with
    | none => rw [z] at o; exact o.elim
    | some xs =>
      rw [z] at o
      obtain ⟨p, vs, ep, hp, q1⟩ := items_at r q z
      subst ep
      exact call_list_of pins s σ H _ us Q I rs ⟨p, vs, rfl, by rw [hK]; exact hp, fun l hl => Out.mk r hl q1 o⟩
theorem tuple_m (hK : X.K = T.K) : CallM T X (.type "tuple") (prim .tuple) := by
  refine CallM.one (fun ds h k => ?_) fun W pins s σ H x us Q g h d I rs sz r q o => ?_
  · exact prim_one rfl k
  · have o : Out T g H (match items h d with
      | some xs => .ok (.tup xs) h
      | none => .stuck) Q W := o
    cases z : items h d with
    | none => rw [z] at o; exact o.elim
    | some xs =>
      rw [z] at o
      have o : Out T g H (.ok (.tup xs) h) Q W := o
      obtain ⟨p, vs, ep, hp, q1⟩ := items_at2 r q z
      subst ep
      rcases hp with hp | ⟨hp, ed⟩
      · exact call_tuple_of pins s σ H _ us Q I rs ⟨p, vs, rfl, .inl ⟨by rw [hK]; exact hp, fun l hl => Out.tup r hl q1 o⟩⟩
      · refine call_tuple_of pins s σ H _ us Q I rs ⟨p, vs, rfl, .inr ⟨by rw [hK]; exact hp, ?_⟩⟩
        subst ed
        exact o.here r q
theorem abs_m : CallM T X (.builtin "abs") (prim .abs) := by
  refine CallM.one (fun ds h k => ?_) fun W pins s σ H x us Q g h d I rs sz r q o => ?_
  · exact prim_one rfl k
  · cases d with
    | int i =>
      have o : Out T g H (.ok (.int (if i < 0 then -i else i)) h) Q W := o
      have e : x = .int i := q
      subst e
      exact call_abs pins s σ H _ us Q I rs ⟨i, rfl, o.here r rfl⟩
    | _ => exact o.elim
theorem min2_m (hc : X.calm = true) : CallM T X (.builtin "min") (prim .min2) := by
  refine CallM.two (fun ds h k => ?_) fun W pins s σ H x y us Q g h d e I rs sz r q1 q2 o => ?_
  · exact prim_two rfl k
  · cases d with
    | int i =>
      cases e with
      | int j =>
        have o : Out T g H (.ok (.int (if j < i then j else i)) h) Q W := o
        have e1 : x = .int i := q1
        have e2 : y = .int j := q2
        subst e1 e2
        exact call_min2 hc pins s σ H _ us Q I rs ⟨i, j, rfl, o.here r rfl⟩
      | _ => exact o.elim
    | _ => exact o.elim
theorem max2_m (hc : X.calm = true) : CallM T X (.builtin "max") (prim .max2) := by
  refine CallM.two (fun ds h k => ?_) fun W pins s σ H x y us Q g h d e I rs sz r q1 q2 o => ?_
  · exact prim_two rfl k
  · cases d with
    | int i =>
      cases e with
      | int j =>
        have o : Out T g H (.ok (.int (if j > i then j else i)) h) Q W := o
        have e1 : x = .int i := q1
        have e2 : y = .int j := q2
        subst e1 e2
        exact call_max2 hc pins s σ H _ us Q I rs ⟨i, j, rfl, o.here r rfl⟩
      | _ => exact o.elim
    | _ => exact o.elim
theorem minI_mem : ∀ (ns : List Int) (i : Int), (minI i ns = i ∨ minI i ns ∈ ns) ∧ minI i ns ≤ i ∧ ∀ y ∈ ns, minI i ns ≤ y
  | [], i => ⟨.inl rfl, Int.le_refl _, fun _ z => nomatch z⟩
  | j :: ns, i => by
    simp only [minI]
    obtain ⟨a, b, c⟩ := minI_mem ns (if j < i then j else i)
    refine ⟨?_, ?_, fun y hy => ?_⟩
    · rcases a with a | a
      · rw [a]
        by_cases z : j < i
        · rw [if_pos z]; exact .inr List.mem_cons_self
        · rw [if_neg z]; exact .inl rfl
      · exact .inr (List.mem_cons_of_mem _ a)
    · refine Int.le_trans b ?_
      by_cases z : j < i
      · rw [if_pos z]; omega
      · rw [if_neg z]; omega
    · rcases List.mem_cons.mp hy with e | hy
      · subst e
        refine Int.le_trans b ?_
        by_cases z : y < i
        · rw [if_pos z]; omega
        · rw [if_neg z]; omega
      · exact c y hy
theorem maxI_mem : ∀ (ns : List Int) (i : Int), (maxI i ns = i ∨ maxI i ns ∈ ns) ∧ i ≤ maxI i ns ∧ ∀ y ∈ ns, y ≤ maxI i ns
  | [], i => ⟨.inl rfl, Int.le_refl _, fun _ z => nomatch z⟩
  | j :: ns, i => by
    simp only [maxI]
    obtain ⟨a, b, c⟩ := maxI_mem ns (if j > i then j else i)
    refine ⟨?_, ?_, fun y hy => ?_⟩
    · rcases a with a | a
      · rw [a]
        by_cases z : j > i
        · rw [if_pos z]; exact .inr List.mem_cons_self
        · rw [if_neg z]; exact .inl rfl
      · exact .inr (List.mem_cons_of_mem _ a)
    · refine Int.le_trans ?_ b
      by_cases z : j > i
      · rw [if_pos z]; omega
      · rw [if_neg z]; omega
    · rcases List.mem_cons.mp hy with e | hy
      · subst e
        refine Int.le_trans ?_ b
        by_cases z : y > i
        · rw [if_pos z]; omega
        · rw [if_neg z]; omega
      · exact c y hy
theorem min1_m (hc : X.calm = true) : CallM T X (.builtin "min") (prim .min1) := by
  refine CallM.one (fun ds h k => ?_) fun W pins s σ H x us Q g h d I rs sz r q o => ?_
  · exact prim_one rfl k
  · have o : Out T g H (match (lits h d).bind intsD with
      | some (i :: is) => .ok (.int (minI i is)) h
      | _ => .stuck) Q W := o
    cases z : lits h d with
    | none => rw [z] at o; exact o.elim
    | some xs =>
      cases z2 : intsD xs with
      | none => rw [z] at o; simp only [Option.bind_some, z2] at o; exact o.elim
      | some ns =>
        rw [z] at o
        simp only [Option.bind_some, z2] at o
        cases ns with
        | nil => exact o.elim
        | cons i is =>
          obtain ⟨p, vs, ep, hp, q1⟩ := lits_at r q z
          rw [q1.ofInts z2] at hp
          subst ep
          refine cr_min hc pins s σ H _ us Q I rs ⟨p, i :: is, rfl, SqL.of hp, Nat.succ_pos _, fun k hk hle => ?_⟩
          obtain ⟨a, b, c⟩ := minI_mem is i
          have e1 : minI i is ≤ k := by
            rcases List.mem_cons.mp hk with e | hk
            · rw [e]; exact b
            · exact c k hk
          have e2 : k ≤ minI i is := by
            rcases a with a | a
            · rw [a]; exact hle i List.mem_cons_self
            · exact hle _ (List.mem_cons_of_mem _ a)
          have e : k = minI i is := Int.le_antisymm e2 e1
          rw [e]
          exact Out.here r o rfl
theorem max1_m (hc : X.calm = true) : CallM T X (.builtin "max") (prim .max1) := by
  refine CallM.one (fun ds h k => ?_) fun W pins s σ H x us Q g h d I rs sz r q o => ?_
  · exact prim_one rfl k
  · have o : Out T g H (match (lits h d).bind intsD with
      | some (i :: is) => .ok (.int (maxI i is)) h
      | _ => .stuck) Q W := o
    cases z : lits h d with
    | none => rw [z] at o; exact o.elim
    | some xs =>
      cases z2 : intsD xs with
      | none => rw [z] at o; simp only [Option.bind_some, z2] at o; exact o.elim
      | some ns =>
        rw [z] at o
        simp only [Option.bind_some, z2] at o
        cases ns with
        | nil => exact o.elim
        | cons i is =>
          obtain ⟨p, vs, ep, hp, q1⟩ := lits_at r q z
          rw [q1.ofInts z2] at hp
          subst ep
          refine cr_max hc pins s σ H _ us Q I rs ⟨p, i :: is, rfl, SqL.of hp, Nat.succ_pos _, fun k hk hle => ?_⟩
          obtain ⟨a, b, c⟩ := maxI_mem is i
          have e1 : k ≤ maxI i is := by
            rcases List.mem_cons.mp hk with e | hk
            · rw [e]; exact b
            · exact c k hk
          have e2 : maxI i is ≤ k := by
            rcases a with a | a
            · rw [a]; exact hle i List.mem_cons_self
            · exact hle _ (List.mem_cons_of_mem _ a)
          have e : k = maxI i is := Int.le_antisymm e1 e2
          rw [e]
          exact Out.here r o rfl
end
end Mi
namespace Mi
open PySem PySem.Spec PyProof.Rows L2
section
variable {T : Tx} {X : Cx} {W : WX}
abbrev SE (T : Tx) (X : Cx) (W : WX) (e : Expr) (m : Ev → MH → R D) : Prop := PE X e (tE T W m)
abbrev SA (T : Tx) (X : Cx) (W : WX) (es : List Expr) (m : Ev → MH → R (List D)) : Prop := PA X es (tA T W m)
theorem SE.const {e : Expr} {v : V} {d : D} (p : PE X e (tC v)) (q : ∀ (H : Hp) (g : Gr), RepV T H g d v) : SE T X W e (fun _ h => .ok d h) :=
  PE.imp p fun σ H Q ⟨g, h, ev, r, s, o⟩ => o.here r (q H g)
theorem vget_some {e : Ev} {i : Nat} {d : D} (h : vget e i = some d) : e[i]? = some (some d) := by
  unfold vget at h
  cases z : e[i]? with
  | none => rw [z] at h; cases h
  | some o =>
    rw [z] at h
    cases o with
    | none => cases h
    | some x => cases h; rfl
theorem se_var {i : Nat} {x : Str} {pos : Pos} (hN : X.N[i]? = some x) (hv : Vis X.env.scope x) (hd : (x == ("__debug__" : Str)) = false) (hcd : (x == ("__classdict__" : Str)) = false) : SE T X W (.Name x pos) (fun e h => match vget e i with
    | some d => .ok d h
    | none => .stuck) := by
  refine PE.imp (pe_var hN hv hd hcd) fun σ H Q ⟨g, h, ev, r, s, o⟩ => ?_
  have o : Out T g H (match vget ev i with
    | some d => .ok d h
    | none => .stuck) Q (fun c d H' => W c d σ H') := o
  cases z : vget ev i with
  | none => rw [z] at o; exact o.elim
  | some d =>
    rw [z] at o
    obtain ⟨v, a, b⟩ := s.2 i d (vget_some z)
    exact ⟨v, a, Out.here r o b⟩
/-- two expressions and a two-place operation -/
theorem tOp_of {ma mb : Ev → MH → R D} {m : D → D → MH → R D} {σ : St} {H : Hp} {Q : VK}
    (q : tE T W (fun e h => (ma e h).bind fun x h => (mb e h).bind fun y h => m x y h) σ H Q) : tOp (R2m T (fun c d H' => W c d σ H') m) (tE T W ma) (tE T W mb) σ H Q := by
  obtain ⟨g, h, ev, r, s, o⟩ := q
  refine tE.bind (f := fun x e h => (mb e h).bind fun y h => m x y h) r s o fun a x h1 H1 g1 _ r1 s1 qa x1 o1 => ?_
  refine tE.bind (f := fun y e h => m a y h) r1 s1 o1 fun b y h2 H2 g2 _ r2 s2 qb x2 o2 => ?_
  exact fun _ => ⟨g2, h2, a, b, r2, qa.mono x2 r1, qb, o2⟩
/-- an operation that raises nothing does not look at the wish -/
theorem R2m.wish {m : D → D → MH → R D} {x y : V} {H : Hp} {Q : VK} {W1 W2 : XW} (hm : ∀ a b h c p h1, m a b h ≠ .exn c p h1) (q : R2m T W1 m x y H Q) : R2m T W2 m x y H Q := fun z => by
  obtain ⟨g, h, a, b, r, ra, rb, o⟩ := q z
  refine ⟨g, h, a, b, r, ra, rb, ?_⟩
  have n := hm a b h
  revert o n
  cases m a b h with
  | ok d h1 => exact fun o _ => o
  | exn c p h1 => exact fun _ n => absurd rfl (n c p h1)
  | stuck => exact fun o _ => o
theorem PE.op {e : Expr} {ta tb : TE} {r : XW → R2} (p : ∀ w, PE X e (tOp (r w) ta tb)) {ma : TE} (k : ∀ σ H Q, ma σ H Q → ∃ w, tOp (r w) ta tb σ H Q) : PE X e ma :=
  ⟨fun pins s σ H Q I q => by obtain ⟨w, z⟩ := k σ H Q q; exact (p w).run pins s σ H Q I z⟩
theorem se_bin {a b : Expr} {pos : Pos} {ma mb : Ev → MH → R D} {m : Bool} {o : Bo} (hK : X.K = T.K) (ha : SE T X W a ma) (hb : SE T X W b mb) : SE T X W (.BinOp a (boOf o) b pos) (fun e h => (ma e h).bind fun x h => (mb e h).bind fun y h => bop m o x y h) :=
  PE.op (r := fun w => R2m T w (bop m o)) (fun w => pe_op (bop_m hK w) ha hb) fun σ H Q q => ⟨_, tOp_of q⟩
theorem se_cmp {a b : Expr} {pos : Pos} {ma mb : Ev → MH → R D} {o : Co} (hK : X.K = T.K) (hu : X.A.units + 200 < cLine) (hm : behindInMarks (coOf o) b = false) (ha : SE T X W a ma) (hb : SE T X W b mb) :
    SE T X W (.Compare a [coOf o] [b] pos) (fun e h => (ma e h).bind fun x h => (mb e h).bind fun y h => cmpM o x y h) :=
  PE.op (r := fun w => R2m T w (cmpM o)) (fun w => pe_cmpR (cop_m hK hu w) ha hb hm) fun σ H Q q => ⟨_, tOp_of q⟩
theorem se_idx {a b : Expr} {pos : Pos} {ma mb : Ev → MH → R D} (hK : X.K = T.K) (hu : X.A.units + 200 < cLine) (hs : PlainIx b) (ha : SE T X W a ma) (hb : SE T X W b mb) :
    SE T X W (.Subscript a b pos) (fun e h => (ma e h).bind fun x h => (mb e h).bind fun y h => idxM x y h) :=
  PE.op (r := fun w => R2m T w idxM) (fun w => pe_ix (ix_m hK hu) ha hb hs) fun σ H Q q => ⟨_, tOp_of q⟩
theorem se_neg {a : Expr} {pos : Pos} {ma : Ev → MH → R D} (ha : SE T X W a ma) : SE T X W (.UnaryOp .USub a pos) (fun e h => (ma e h).bind fun x h => negM x h) := by
  refine PE.imp (pe_un un_neg ha) fun σ H Q ⟨g, h, ev, r, s, o⟩ => ?_
  refine tE.bind (f := fun x e h => negM x h) r s o fun d v h1 H1 g1 _ r1 s1 qa x1 o1 => ?_
  cases d with
  | int i => exact ⟨i, qa, Out.here r1 o1 rfl⟩
  | _ => exact o1.elim
theorem SA.nil : SA T X W [] (fun _ h => .ok [] h) := PA.imp pa_nil fun σ H Q ⟨g, h, ev, r, s, o⟩ => o [] H g r (.refl _ _) True.intro
/-- no star -/
def noStar : Expr → Bool
  | .Starred _ _ => false
  | _ => true
theorem star_cons {e : Expr} {es : List Expr} {env : Env} (h : noStar e = true) : starEach (e :: es) env = (false, eval e env) :: starEach es env := by
  cases e <;> first | rfl | cases h
theorem star_none : ∀ {es : List Expr} {env : Env} {pos : Pos}, es.all noStar = true → (backTo pos (starEach es env)).any (·.1) = false
  | [], _, _, _ => rfl
  | e :: es, env, pos, h => by
    simp only [List.all_cons, Bool.and_eq_true] at h
    rw [star_cons h.1]
    show (false || (backTo pos (starEach es env)).any (·.1)) = false
    rw [star_none h.2] <;> rfl
theorem SA.cons {e : Expr} {es : List Expr} {ma : Ev → MH → R D} {mr : Ev → MH → R (List D)} (hn : noStar e = true) (ha : SE T X W e ma) (hr : SA T X W es mr) : SA T X W (e :: es) (fun e h => (ma e h).bind fun x h => (mr e h).bind fun xs h => .ok (x :: xs) h) := by
  refine PA.imp (pa_cons ha hr (star_cons hn)) fun σ H Q ⟨g, h, ev, r, s, o⟩ => ?_
  refine ⟨g, h, ev, r, s, ?_⟩
  have o : OutA T g H ((ma ev h).bind fun x h => (mr ev h).bind fun xs h => .ok (x :: xs) h) Q (fun c d H' => W c d σ H') := o
  revert o
  cases hma : ma ev h with
  | stuck => exact fun o => o
  | exn c p h1 => exact fun o => o
  | ok d h1 =>
    intro o v H1 g1 r1 x1 q1
    have o : OutA T g H ((mr ev h1).bind fun xs h => .ok (d :: xs) h) Q (fun c d H' => W c d σ H') := o
    refine ⟨g1, h1, ev, r1, s.mono x1 r, ?_⟩
    have o := o.ext x1 r r1
    revert o
    cases hmr : mr ev h1 with
    | stuck => exact fun o => o
    | exn c p h2 => exact fun o => o
    | ok ds h2 => exact fun o vs H2 g2 r2 x2 q2 => o (v :: vs) H2 g2 r2 x2 ⟨q1.mono x2 r1, q2⟩
/-- a list of values, then what follows -/
theorem SA.then {es : List Expr} {ma : Ev → MH → R (List D)} {σ : St} {H : Hp} {Q : VK} {f : List D → MH → R D} {Q' : List V → Hp → Prop}
    (q : tE T W (fun e h => (ma e h).bind fun ds h => f ds h) σ H Q)
    (k : ∀ ds vs h1 H1 g1, Rel T H1 g1 h1 → RepL T H1 g1 ds vs → Out T g1 H1 (f ds h1) Q (fun c d H' => W c d σ H') → Q' vs H1) : tA T W ma σ H Q' := by
  obtain ⟨g, h, ev, r, s, o⟩ := q
  exact tA.bind (f := fun ds e h => f ds h) r s o fun ds vs h1 H1 g1 _ r1 _ q1 _ o1 => k ds vs h1 H1 g1 r1 q1 o1
theorem se_tup {es : List Expr} {x1 : Nat} {pos : Pos} {ma : Ev → MH → R (List D)} (hz : es.length ≤ 1000) (ha : SA T X W es ma) (hl : ∀ e h ds h1, ma e h = .ok ds h1 → ds.length = es.length) : SE T X W (.Tuple es x1 pos) (fun e h => (ma e h).bind fun ds h => .ok (.tup ds) h) := by
  refine PE.imp (pe_tup ha) fun σ H Q ⟨g, h, ev, r, s, o⟩ => ?_
  refine tA.bind (f := fun ds e h => .ok (.tup ds) h) r s o fun ds vs h1 H1 g1 e r1 _ q1 _ o1 => ?_
  exact ⟨by rw [← q1.length, hl _ _ _ _ e]; rw [sizeLine_eq]; omega, fun p hp => Out.tup r1 hp q1 o1⟩
theorem se_lst {es : List Expr} {m : Bool} {pos : Pos} {ma : Ev → MH → R (List D)} (hz : es.length ≤ 1000) (ha : SA T X W es ma) (hl : ∀ e h ds h1, ma e h = .ok ds h1 → ds.length = es.length) : SE T X W (.List es pos) (fun e h => (ma e h).bind fun ds h => mk m ds h) := by
  refine PE.imp (pe_lst ha) fun σ H Q ⟨g, h, ev, r, s, o⟩ => ?_
  refine tA.bind (f := fun ds e h => mk m ds h) r s o fun ds vs h1 H1 g1 e r1 _ q1 _ o1 => ?_
  exact ⟨by rw [← q1.length, hl _ _ _ _ e]; rw [sizeLine_eq]; omega, fun p hp => Out.mk r1 hp q1 o1⟩
/-- a built-in called by name -/
theorem PE.call {e : Expr} {t : TA} {r : XW → List V → Hp → VK → Prop} (p : ∀ w, PE X e (tCB (r w) t)) {ma : TE} (k : ∀ σ H Q, ma σ H Q → ∃ w, tCB (r w) t σ H Q) : PE X e ma :=
  ⟨fun pins s σ H Q I q => by obtain ⟨w, z⟩ := k σ H Q q; exact (p w).run pins s σ H Q I z⟩
theorem se_callB {id : String} {x : Str} {p pos : Pos} {e : Expr} {es : List Expr} {ma : Ev → MH → R (List D)} {f : List D → MH → R D} (hc : CallM T X (.builtin id) f) (hg : Gl X x) (hm : X.mg x = none) (hv : bootBuiltins x = some (.builtin id)) (hn : x ≠ "__name__") (hdb : (x == ("__debug__" : Str)) = false)
    (hst : (e :: es).all noStar = true) (ha : SA T X W (e :: es) ma) : SE T X W (.Call (.Name x p) (e :: es) [] pos) (fun e h => (ma e h).bind fun ds h => f ds h) := by
  have hst' := hst
  simp only [List.all_cons, Bool.and_eq_true] at hst'
  refine PE.call (r := fun w => fun xs H Q => SzH H → ∃ g h ds, Rel T H g h ∧ RepL T H g ds xs ∧ Out T g H (f ds h) Q w) (fun w => pe_callB (hc w) hg hm hv ha hn hdb (star_cons hst'.1) (star_none hst'.2)) fun σ H Q q => ⟨fun c d H' => W c d σ H', ?_⟩
  exact SA.then (es := e :: es) q fun ds vs h1 H1 g1 r1 q1 o1 _ => ⟨g1, h1, ds, r1, q1, o1⟩
theorem se_callTy {id : String} {x : Str} {p pos : Pos} {e : Expr} {es : List Expr} {ma : Ev → MH → R (List D)} {f : List D → MH → R D} (hc : CallM T X (.type id) f) (hg : Gl X x) (hm : X.mg x = none) (hv : bootBuiltins x = some (.type id)) (hn : x ≠ "__name__") (hdb : (x == ("__debug__" : Str)) = false)
    (hst : (e :: es).all noStar = true) (ha : SA T X W (e :: es) ma) : SE T X W (.Call (.Name x p) (e :: es) [] pos) (fun e h => (ma e h).bind fun ds h => f ds h) := by
  have hst' := hst
  simp only [List.all_cons, Bool.and_eq_true] at hst'
  refine PE.call (r := fun w => fun xs H Q => SzH H → ∃ g h ds, Rel T H g h ∧ RepL T H g ds xs ∧ Out T g H (f ds h) Q w) (fun w => pe_callTy (hc w) hg hm hv ha hn hdb (star_cons hst'.1) (star_none hst'.2)) fun σ H Q q => ⟨fun c d H' => W c d σ H', ?_⟩
  exact SA.then (es := e :: es) q fun ds vs h1 H1 g1 r1 q1 o1 _ => ⟨g1, h1, ds, r1, q1, o1⟩
/-! ### tests -/
theorem PT.imp {e : Expr} {t t' : TT} (h : PT X e t) (k : ∀ σ H Q, t' σ H Q → t σ H Q) : PT X e t' := ⟨fun pins s σ H Q I q => h.run pins s σ H Q I (k σ H Q q)⟩
theorem PW.imp {e : Expr} {t t' : TT} (h : PW X e t) (k : ∀ σ H Q, t' σ H Q → t σ H Q) : PW X e t' := ⟨fun w pins s σ H Q I q => h.run w pins s σ H Q I (k σ H Q q)⟩
def OutT (T : Tx) (g : Gr) (H : Hp) (r : R D) (Q : Bool → Hp → Prop) (W : XW) : Prop := match r with
  | .ok (.bl k) h1 => ∀ H1 g1, Rel T H1 g1 h1 → Ext g H g1 H1 → Q k H1
  | .exn c p h1 => ∀ dx H1 g1, Rel T H1 g1 h1 → Ext g H g1 H1 → RepX T H1 g1 p dx → W (.ref (T.xa c)) dx H1
  | _ => False
def tT (T : Tx) (W : WX) (m : Ev → MH → R D) : TT := fun σ H Q => ∃ g h e, Rel T H g h ∧ RepS T H g e σ ∧ OutT T g H (m e h) Q (fun c d H' => W c d σ H')
abbrev ST (T : Tx) (X : Cx) (W : WX) (e : Expr) (m : Ev → MH → R D) : Prop := PT X e (tT T W m)
theorem OutT.ext {g g1 : Gr} {H H1 : Hp} {h h1 : MH} {r : R D} {Q : Bool → Hp → Prop} {W : XW} (x : Ext g H g1 H1) (rl : Rel T H g h) (rl1 : Rel T H1 g1 h1) (o : OutT T g H r Q W) : OutT T g1 H1 r Q W := by
  cases r with
  | ok d h2 =>
    cases d with
    | bl k => exact fun H2 g2 a b => o H2 g2 a (x.trans rl rl1 b)
    | _ => exact o.elim
  | exn c p h2 => exact fun dx H2 g2 a b e => o dx H2 g2 a (x.trans rl rl1 b) e
  | stuck => exact o
/-- a test's reading from an expression's -/
theorem tT.val {m : Ev → MH → R D} {σ : St} {H : Hp} {Q : Bool → Hp → Prop} (q : tT T W m σ H Q) : tE T W m σ H (fun v H1 => ∃ k, v = .bl k ∧ Q k H1) := by
  obtain ⟨g, h, ev, r, s, o⟩ := q
  refine ⟨g, h, ev, r, s, ?_⟩
  revert o
  cases m ev h with
  | ok d h1 =>
    cases d with
    | bl k => exact fun o v H1 g1 a b c => ⟨k, c, o H1 g1 a b⟩
    | _ => exact fun o => o.elim
  | exn c p h1 => exact fun o => o
  | stuck => exact fun o => o
/-- what is tested by its value -/
def valTest : Expr → Bool
  | .UnaryOp .Not _ _ => false
  | .BoolOp _ _ _ => false
  | .IfExp _ _ _ _ => false
  | .Compare _ _ _ _ => false
  | _ => true
theorem st_val {e : Expr} {m : Ev → MH → R D} (hv : valTest e = true) (h : SE T X W e m) : ST T X W e m := by
  refine PT.imp (pt_val h (fun whole => ?_)) fun σ H Q q => tT.val q
  cases e with
  | UnaryOp op a p => cases op <;> first | rfl | cases hv
  | BoolOp _ _ _ => cases hv
  | IfExp _ _ _ _ => cases hv
  | Compare _ _ _ _ => cases hv
  | _ => rfl
theorem st_cmp {a b : Expr} {pos : Pos} {ma mb : Ev → MH → R D} {o : Co} (hK : X.K = T.K) (hu : X.A.units + 200 < cLine) (hm : behindInMarks (coOf o) b = false) (ha : SE T X W a ma) (hb : SE T X W b mb) :
    ST T X W (.Compare a [coOf o] [b] pos) (fun e h => (ma e h).bind fun x h => (mb e h).bind fun y h => cmpM o x y h) := by
  refine ⟨fun pins s σ H Q I q => ?_⟩
  exact (pt_cmpR (cop_m hK hu fun c d H' => W c d σ H') ha hb hm).run pins s σ H Q I (tOp_of (tT.val q))
/-- a test first -/
theorem tT.bind {m : Ev → MH → R D} {f : Bool → Ev → MH → R D} {σ : St} {e : Ev} {g : Gr} {H : Hp} {h : MH} {Q : Bool → Hp → Prop} {Q' : Bool → Hp → Prop} (r : Rel T H g h) (s : RepS T H g e σ) (o : OutT T g H ((m e h).bind fun d h => match d with
      | .bl k => f k e h
      | _ => .stuck) Q (fun c d H' => W c d σ H'))
    (k : ∀ b h1 H1 g1, Rel T H1 g1 h1 → RepS T H1 g1 e σ → Ext g H g1 H1 → OutT T g1 H1 (f b e h1) Q (fun c d H' => W c d σ H') → Q' b H1) : tT T W m σ H Q' := by
  refine ⟨g, h, e, r, s, ?_⟩
  revert k o
  cases m e h with
  | ok d h1 =>
    cases d with
    | bl b => exact fun o k H1 g1 a c => k b h1 H1 g1 a (s.mono c r) c (o.ext c r a)
    | _ => exact fun o _ => o.elim
  | exn c p h1 => exact fun o _ => o
  | stuck => exact fun o _ => o
theorem tT.bindE {m : Ev → MH → R D} {f : Bool → Ev → MH → R D} {σ : St} {e : Ev} {g : Gr} {H : Hp} {h : MH} {Q : VK} {Q' : Bool → Hp → Prop} (r : Rel T H g h) (s : RepS T H g e σ) (o : Out T g H ((m e h).bind fun d h => match d with
      | .bl k => f k e h
      | _ => .stuck) Q (fun c d H' => W c d σ H'))
    (k : ∀ b h1 H1 g1, Rel T H1 g1 h1 → RepS T H1 g1 e σ → Ext g H g1 H1 → Out T g1 H1 (f b e h1) Q (fun c d H' => W c d σ H') → Q' b H1) : tT T W m σ H Q' := by
  refine ⟨g, h, e, r, s, ?_⟩
  revert k o
  cases m e h with
  | ok d h1 =>
    cases d with
    | bl b => exact fun o k H1 g1 a c => k b h1 H1 g1 a (s.mono c r) c (o.ext c r a)
    | _ => exact fun o _ => o.elim
  | exn c p h1 => exact fun o _ => o
  | stuck => exact fun o _ => o
theorem OutT.here {g : Gr} {H : Hp} {h : MH} {k : Bool} {Q : Bool → Hp → Prop} {W : XW} (r : Rel T H g h) (o : OutT T g H (.ok (.bl k) h) Q W) : Q k H := o H g r (.refl _ _)
def notM (ma : Ev → MH → R D) : Ev → MH → R D := fun e h => (ma e h).bind fun d h => match d with
  | .bl k => .ok (.bl (!k)) h
  | _ => .stuck
theorem st_not {a : Expr} {pos : Pos} {ma : Ev → MH → R D} (ha : ST T X W a ma) : ST T X W (.UnaryOp .Not a pos) (notM ma) := by
  refine PT.imp (pt_not ha) fun σ H Q ⟨g, h, ev, r, s, o⟩ => ?_
  exact tT.bind (f := fun k e h => .ok (.bl (!k)) h) r s o fun b h1 H1 g1 r1 s1 x1 o1 => OutT.here r1 o1
theorem se_not {a : Expr} {pos : Pos} {ma : Ev → MH → R D} (ha : SE T X W a ma) : SE T X W (.UnaryOp .Not a pos) (notM ma) := by
  refine PE.imp (pe_not ha) fun σ H Q ⟨g, h, ev, r, s, o⟩ => ?_
  refine tE.bind (f := fun x e h => match x with
    | .bl k => .ok (.bl (!k)) h
    | _ => .stuck) r s o fun d v h1 H1 g1 _ r1 s1 qa x1 o1 => ?_
  cases d with
  | bl k => exact ⟨k, qa, Out.here r1 o1 rfl⟩
  | _ => exact o1.elim
def andM (ma mb : Ev → MH → R D) : Ev → MH → R D := fun e h => (ma e h).bind fun d h => match d with
  | .bl k => if k = true then mb e h else .ok (.bl false) h
  | _ => .stuck
def orM (ma mb : Ev → MH → R D) : Ev → MH → R D := fun e h => (ma e h).bind fun d h => match d with
  | .bl k => if k = true then .ok (.bl true) h else mb e h
  | _ => .stuck
theorem sw_one {op : BoolOp} {a : Expr} {pos : Pos} {ma : Ev → MH → R D} (ha : ST T X W a ma) : PW X (.BoolOp op [a] pos) (tT T W ma) := by
  cases op with
  | And => exact pw_and1 ha
  | Or => exact pw_or1 ha
theorem sw_and {a b : Expr} {rest : List Expr} {pos : Pos} {ma mb : Ev → MH → R D} (ha : ST T X W a ma) (hb : PW X (.BoolOp .And (b :: rest) pos) (tT T W mb)) : PW X (.BoolOp .And (a :: b :: rest) pos) (tT T W (andM ma mb)) := by
  refine PW.imp (pw_and ha hb) fun σ H Q ⟨g, h, ev, r, s, o⟩ => ?_
  refine tT.bind (f := fun k e h => if k = true then mb e h else .ok (.bl false) h) r s o fun b h1 H1 g1 r1 s1 x1 o1 => ?_
  cases b with
  | true => exact ⟨g1, h1, ev, r1, s1, o1⟩
  | false => exact OutT.here r1 o1
theorem sw_or {a b : Expr} {rest : List Expr} {pos : Pos} {ma mb : Ev → MH → R D} (ha : ST T X W a ma) (hb : PW X (.BoolOp .Or (b :: rest) pos) (tT T W mb)) : PW X (.BoolOp .Or (a :: b :: rest) pos) (tT T W (orM ma mb)) := by
  refine PW.imp (pw_or ha hb) fun σ H Q ⟨g, h, ev, r, s, o⟩ => ?_
  refine tT.bind (f := fun k e h => if k = true then .ok (.bl true) h else mb e h) r s o fun b h1 H1 g1 r1 s1 x1 o1 => ?_
  cases b with
  | true => exact OutT.here r1 o1
  | false => exact ⟨g1, h1, ev, r1, s1, o1⟩
theorem se_and {a b : Expr} {rest : List Expr} {pos : Pos} {ma mb : Ev → MH → R D} (ha : SE T X W a ma) (hb : SE T X W (.BoolOp .And (b :: rest) pos) mb) : SE T X W (.BoolOp .And (a :: b :: rest) pos) (andM ma mb) := by
  refine PE.imp (pe_and ha hb) fun σ H Q ⟨g, h, ev, r, s, o⟩ => ?_
  refine tE.bind (f := fun x e h => match x with
    | .bl k => if k = true then mb e h else .ok (.bl false) h
    | _ => .stuck) r s o fun d v h1 H1 g1 _ r1 s1 qa x1 o1 => ?_
  cases d with
  | bl k =>
    refine ⟨k, qa, ?_⟩
    cases k with
    | true => exact ⟨g1, h1, ev, r1, s1, o1⟩
    | false => exact Out.here r1 o1 rfl
  | _ => exact o1.elim
theorem se_or {a b : Expr} {rest : List Expr} {pos : Pos} {ma mb : Ev → MH → R D} (ha : SE T X W a ma) (hb : SE T X W (.BoolOp .Or (b :: rest) pos) mb) : SE T X W (.BoolOp .Or (a :: b :: rest) pos) (orM ma mb) := by
  refine PE.imp (pe_or ha hb) fun σ H Q ⟨g, h, ev, r, s, o⟩ => ?_
  refine tE.bind (f := fun x e h => match x with
    | .bl k => if k = true then .ok (.bl true) h else mb e h
    | _ => .stuck) r s o fun d v h1 H1 g1 _ r1 s1 qa x1 o1 => ?_
  cases d with
  | bl k =>
    refine ⟨k, qa, ?_⟩
    cases k with
    | true => exact Out.here r1 o1 rfl
    | false => exact ⟨g1, h1, ev, r1, s1, o1⟩
  | _ => exact o1.elim
def ifM (mc ma mb : Ev → MH → R D) : Ev → MH → R D := fun e h => (mc e h).bind fun d h => match d with
  | .bl k => if k = true then ma e h else mb e h
  | _ => .stuck
theorem se_if {c a b : Expr} {pos : Pos} {mc ma mb : Ev → MH → R D} (hc : ST T X W c mc) (ha : SE T X W a ma) (hb : SE T X W b mb) : SE T X W (.IfExp c a b pos) (ifM mc ma mb) := by
  refine PE.imp (pe_ifExp hc ha hb) fun σ H Q ⟨g, h, ev, r, s, o⟩ => ?_
  refine tT.bindE (f := fun k e h => if k = true then ma e h else mb e h) r s o fun b h1 H1 g1 r1 s1 x1 o1 => ?_
  cases b with
  | true => exact ⟨g1, h1, ev, r1, s1, o1⟩
  | false => exact ⟨g1, h1, ev, r1, s1, o1⟩
end
end Mi
namespace Mi
open PySem PySem.Spec PyProof.Rows L2
/-! ### what is walked -/
structure WalkI (T : Tx) (J : L2.It) (xs : List D) (C : Gr → Hp → Prop) : Prop where
  mono : ∀ g H g' H' h, C g H → Rel T H g h → Ext0 g H g' H' → C g' H'
  go : ∀ i g H h, C g H → Rel T H g h → i < xs.length → J.go i H
  stop : ∀ g H h, C g H → Rel T H g h → J.stop xs.length H
  yld : ∀ i g H h x H', C g H → Rel T H g h → J.yld i H x H' → i < xs.length → ∃ d g', xs[i]? = some d ∧ Rel T H' g' h ∧ Ext g H g' H' ∧ RepV T H' g' d x
  len : ∀ g H, C g H → SzH H → xs.length ≤ sizeLine
def itH (K : PySem.W.Frag) (e : Bool) (a : Addr) : L2.It := if e = true then Ite K a else Itl K a
def OutI (T : Tx) (g : Gr) (H : Hp) (r : R It) (Rz : L2.It → Hp → Prop) (W : XW) : Prop := match r with
  | .ok (.its xs) h1 => ∀ H1 g1, Rel T H1 g1 h1 → Ext g H g1 H1 → ∀ J C, WalkI T J xs C → C g1 H1 → Rz J H1
  | .ok (.hp n e) h1 => ∀ H1 g1, Rel T H1 g1 h1 → Ext g H g1 H1 → ∀ a, g1.phi[n]? = some a → Rz (itH T.K e a) H1
  | .exn c p h1 => ∀ dx H1 g1, Rel T H1 g1 h1 → Ext g H g1 H1 → RepX T H1 g1 p dx → W (.ref (T.xa c)) dx H1
  | .stuck => False
def tI (T : Tx) (W : WX) (m : Ev → MH → R It) : TI := fun σ H Rz => ∃ g h e, Rel T H g h ∧ RepS T H g e σ ∧ OutI T g H (m e h) Rz (fun c d H' => W c d σ H')
theorem PI.imp {X : Cx} {tg e : Expr} {t t' : TI} (h : PI X tg e t) (k : ∀ σ H Q, t' σ H Q → t σ H Q) : PI X tg e t' := ⟨fun pins s σ H Q I q => h.run pins s σ H Q I (k σ H Q q)⟩
section
variable {T : Tx} {X : Cx} {W : WX} {H H1 : Hp} {g g1 : Gr} {h h1 : MH}
theorem OutI.ext {r : R It} {Q : L2.It → Hp → Prop} {W : XW} (x : Ext g H g1 H1) (rl : Rel T H g h) (rl1 : Rel T H1 g1 h1) (o : OutI T g H r Q W) : OutI T g1 H1 r Q W := by
  cases r with
  | ok w h2 =>
    cases w with
    | its xs => exact fun H2 g2 a b => o H2 g2 a (x.trans rl rl1 b)
    | hp n e => exact fun H2 g2 a b => o H2 g2 a (x.trans rl rl1 b)
  | exn c p h2 => exact fun dx H2 g2 a b e => o dx H2 g2 a (x.trans rl rl1 b) e
  | stuck => exact o
/-- an expression first, then what is walked -/
theorem tE.bindI {m : Ev → MH → R D} {f : D → Ev → MH → R It} {σ : St} {e : Ev} {Q : L2.It → Hp → Prop} {Q' : VK} (r : Rel T H g h) (s : RepS T H g e σ) (o : OutI T g H ((m e h).bind fun d h => f d e h) Q (fun c d H' => W c d σ H'))
    (k : ∀ d v h1 H1 g1, Rel T H1 g1 h1 → RepS T H1 g1 e σ → RepV T H1 g1 d v → Ext g H g1 H1 → OutI T g1 H1 (f d e h1) Q (fun c d H' => W c d σ H') → Q' v H1) : tE T W m σ H Q' := by
  refine ⟨g, h, e, r, s, ?_⟩
  revert k o
  cases m e h with
  | ok d h1 => exact fun o k v H1 g1 a b c => k d v h1 H1 g1 a (s.mono b r) c b (o.ext b r a)
  | exn c p h1 => exact fun o _ => o
  | stuck => exact fun o _ => o
theorem lst_inj {a : Addr} {vs : List V} (e : H a = some (.lst vs)) {ys : List V} {K : PySem.W.Frag} (hk : K.lookup a = none) (q : SqL K H a ys) : ys = vs := by
  rcases q with (q | ⟨o, q⟩) | q
  · rw [e] at q; cases q; rfl
  · rw [e] at q; cases q
  · obtain ⟨o, its, n, q, _⟩ := q; rw [hk] at q; cases q
end
end Mi
namespace Mi
open PySem PySem.Spec PyProof.Rows L2
/-! ### enumerate and zip of lists and tuples in any mix -/
def SqB (k : Bool) (K : PySem.W.Frag) (H : Hp) (a : Addr) (xs : List V) : Prop := if k = true then SqT K H a xs else SqL K H a xs
def IterB (k : Bool) (h : Heap) (it a : Addr) (i : Nat) : Prop := if k = true then h.IsTupleIter it a i else h.IsListIter it a i
def HeapB (k : Bool) (h : Heap) (a : Addr) (its : Array Value) : Prop := if k = true then h.IsTuple a its else h.IsList a its
def objB (k : Bool) (a : Addr) : Obj := if k = true then { cls := .type "tuple_iterator", data := .fields #[.ref a, .int 0 0] } else { cls := .type "list_iterator", data := .fields #[.ref a, .int 0 0] }
section
variable {P : Program} {w : World} {K : PySem.W.Frag} {X : Cx} {pins : List (Addr × Obj)} {σ : St} {H : Hp} {s : Shared}
theorem drawsB {A : Around} (k : Bool) (hh : A.handled = none) (it a : Addr) (hne : a ≠ it) (its : Array Value) : Draws P w A it [it, a] its.size (fun i v => its[i]? = some v) (fun i h => IterB k h it a i ∧ HeapB k h a its) := by
  cases k with
  | true => exact Draws.tuple hh it a hne its
  | false => exact Draws.list hh it a hne its
theorem beginsB (k : Bool) (a : Addr) (its : Array Value) : Begins (.ref a) (objB k a) (fun h => HeapB k h a its) := by
  cases k with
  | true => exact begins_tuple a its
  | false => exact begins_list a its
theorem iterB_start (k : Bool) {h : Heap} {it a : Addr} (e : h.get? it = some (objB k a)) : IterB k h it a 0 := by
  cases k with
  | true => exact ⟨_, e, rfl, rfl⟩
  | false => exact ⟨_, e, rfl, rfl⟩
theorem IterB.obj {k : Bool} {h : Heap} {it a : Addr} {i : Nat} (x : IterB k h it a i) : ∃ o, h.get? it = some o ∧ ∀ v, o.data ≠ .cell v := by
  cases k with
  | true => obtain ⟨o, e, _, d⟩ := (show h.IsTupleIter it a i from x); exact ⟨o, e, fun v q => by rw [d] at q; cases q⟩
  | false => obtain ⟨o, e, _, d⟩ := (show h.IsListIter it a i from x); exact ⟨o, e, fun v q => by rw [d] at q; cases q⟩
theorem IterB.keep {k : Bool} {h h' : Heap} {it a : Addr} {i : Nat} (x : IterB k h it a i) (q : ∀ o, h.get? it = some o → h'.get? it = some o) : IterB k h' it a i := by
  cases k with
  | true => obtain ⟨o, e, c, d⟩ := (show h.IsTupleIter it a i from x); exact ⟨o, q o e, c, d⟩
  | false => obtain ⟨o, e, c, d⟩ := (show h.IsListIter it a i from x); exact ⟨o, q o e, c, d⟩
theorem SqB.at {k : Bool} (I : Inv X pins σ H s) {a : Addr} {xs : List V} (q : SqB k X.K H a xs) : ∃ its : List Value, Vals xs its ∧ HeapB k s.heap a its.toArray ∧ a < s.heap.objs.size := by
  cases k with
  | true => obtain ⟨its, r, p, _⟩ := I.tuple q; obtain ⟨o, ho, _⟩ := id p; exact ⟨its, r, p, Heap.lt_size ho⟩
  | false => obtain ⟨its, r, p, _⟩ := I.list q; exact ⟨its, r, p.isList, p.lt⟩
/-- the i-th item of a list or tuple, in a new pair with i -/
def ItEB (k : Bool) (K : PySem.W.Frag) (a : Addr) (xs : List V) : L2.It :=
  ⟨fun i H => SqB k K H a xs ∧ i < xs.length, fun i H v H' => ∃ t x, v = .ref t ∧ H t = none ∧ H' = upd H t (.tup [.int (i : Nat), x]) ∧ xs[i]? = some x, fun i H => SqB k K H a xs ∧ i = xs.length⟩
def ItZB (k j : Bool) (K : PySem.W.Frag) (a b : Addr) (xs ys : List V) : L2.It :=
  ⟨fun i H => SqB k K H a xs ∧ SqB j K H b ys ∧ i < xs.length ∧ i < ys.length, fun i H v H' => ∃ t x y, v = .ref t ∧ H t = none ∧ H' = upd H t (.tup [x, y]) ∧ xs[i]? = some x ∧ ys[i]? = some y,
    fun i H => SqB k K H a xs ∧ SqB j K H b ys ∧ i = min xs.length ys.length⟩
theorem turn_enumB {elts : List Expr} {kk : Nat} {tpos : Pos} {k : Bool} {a e it : Addr} {xs : List V} (hei : e ≠ it) (hea : a ≠ e) (hia : a ≠ it) :
    Turn P w K (.Tuple elts kk tpos) (ItEB k K a xs) [e, it] e (fun i h => (∃ old, IsEnum h e it ((i : Nat) : Int) old) ∧ IterB k h it a i) where
  mem := by simp
  obj := fun i h st b hb => by
    obtain ⟨⟨old, he⟩, hi⟩ := st
    rcases List.mem_cons.mp hb with z | z
    · rw [z]; exact ⟨_, he, fun v q => nomatch q⟩
    · rw [List.mem_singleton.mp z]; exact hi.obj
  keep := fun i h h' ⟨⟨old, he⟩, hi⟩ q => ⟨⟨old, q e (by simp) _ he⟩, hi.keep fun o => q it (by simp) o⟩
  item := by
    intro X hP hw hK hc i pins s σ H E I hf st hg
    subst hP hw hK
    obtain ⟨⟨old, he⟩, hit⟩ := st
    obtain ⟨hq, hl⟩ := hg
    obtain ⟨its, rv, p, ha⟩ := SqB.at I hq
    obtain ⟨u, hu, ru⟩ := rv.get (List.getElem?_eq_getElem hl)
    have W := WalksT.enumFrom (prog := X.prog) (w := X.w) (A := X.A) 0 (drawsB (A := X.A.in1) k (I.ok.hd hc) it a hia its.toArray) e hei
      (fun z => by
        rcases List.mem_cons.mp z with z | z
        · exact hei z
        · exact hea (List.mem_singleton.mp z).symm) (List.mem_cons_self ..)
    have hn : i < its.toArray.size := by rw [List.size_toArray, ← rv.length]; exact hl
    have e0 : (0 : Int) + (i : Int) = (i : Int) := Int.zero_add _
    refine W.item i s _ _ hn ⟨⟨old, by rw [e0]; exact he⟩, hit, p⟩ fun t vals h' tk hP ht hT hM hk => ?_
    obtain ⟨tt, y, hy, ev⟩ := hP
    rw [e0] at ev
    have ey : y = u := by
      have hu' : its.toArray[i]? = some u := by simpa using hu
      rw [hu'] at hy
      exact (Option.some.inj hy).symm
    subst ey
    subst ev
    refine ⟨_, rfl, W.go elts kk tpos i t { s with heap := h', toks := tk } _ _ hM fun h2 st2 hk2 => ?_⟩
    have tw := W.apart i t h' hM
    have kk2 : ∀ b o, b ∉ [e, it] → s.heap.get? b = some o → h2.get? b = some o := fun b o nb q => hk2 b o nb (hk b o nb q)
    obtain ⟨ot, hot, hct, nt, hdt⟩ := hT
    have new : ObjOk X.prog X.w (upd H t (.tup [.int (i : Nat), xs[i]])) h2 t (.tup [.int (i : Nat), xs[i]]) :=
      ⟨by show 2 ≤ sizeLine; rw [sizeLine_eq]; omega, [.int i tt, y], .cons ⟨_, rfl⟩ (.cons ru .nil), ⟨ot, hk2 t ot tw hot, hct, nt, hdt⟩⟩
    have I1 : Inv X pins σ (upd H t (.tup [.int (i : Nat), xs[i]])) { s with heap := h2, toks := tk } := Inv.turnedNew I (ch := [e, it]) kk2 hf ht new
    obtain ⟨⟨old2, he2⟩, hit2, _⟩ := st2
    refine ⟨.ref t, _, I1, rfl, ⟨t, _, rfl, I.hok.fresh ht, rfl, List.getElem?_eq_getElem hl⟩, ⟨⟨old2, ?_⟩, hit2⟩, fun b hb => ?_⟩
    · have e1 : (0 : Int) + ((i + 1 : Nat) : Int) = ((i + 1 : Nat) : Int) := Int.zero_add _
      rw [e1] at he2
      exact he2
    · have nt : b ≠ t := fun z => by rw [z] at hb; exact tw hb
      rw [upd_ne nt]
      exact (hf b hb).1
  done := by
    intro X hP hw hK hc i pins s σ H E I hf st hg
    subst hP hw hK
    obtain ⟨⟨old, he⟩, hit⟩ := st
    obtain ⟨hq, hl⟩ := hg
    obtain ⟨its, rv, p, ha⟩ := SqB.at I hq
    have D := drawsB (P := X.prog) (w := X.w) (A := X.A.in1) k (I.ok.hd hc) it a hia its.toArray
    have hn : i = its.toArray.size := by rw [List.size_toArray, ← rv.length]; exact hl
    have f := hf it (by simp)
    refine wpAny_pyNext_enum_endD D he (hn ▸ ⟨hit, p⟩) fun h' eb => ⟨rfl, ?_⟩
    exact I.turned (t' := s.toks) (fun b o nb q => eb b o nb q) f.1 f.2.1 f.2.2.2.1 f.2.2.2.2.1 f.2.2.2.2.2
  self := fun A i s Q E st h => by
    obtain ⟨⟨old, he⟩, _⟩ := st
    exact wpAny_pyIter_enum he h
theorem turn_zipB {elts : List Expr} {kk : Nat} {tpos : Pos} {k j : Bool} {a b z TI TO i1 i2 : Addr} {xs ys : List V} (S : ZipSep2 z TI TO i1 i2 [i1, a] [i2, b]) (h1a : a ≠ i1) (h2b : b ≠ i2) :
    Turn P w K (.Tuple elts kk tpos) (ItZB k j K a b xs ys) [z, TI, TO, i1, i2] z (fun i h => IsZip h z TI TO .none ∧ IsTupOf2 h TI (.ref i1) (.ref i2) ∧ (∃ a1 a2, IsTupOf2 h TO a1 a2) ∧ IterB k h i1 a i ∧ IterB j h i2 b i) where
  mem := by simp
  obj := fun i h st c hc => by
    obtain ⟨hz, hTI, ⟨x, y, hTO⟩, h1, h2⟩ := st
    have e' : c = z ∨ c = TI ∨ c = TO ∨ c = i1 ∨ c = i2 := by simpa using hc
    rcases e' with q | q | q | q | q
    · rw [q]; exact ⟨_, hz, fun v q => nomatch q⟩
    · rw [q]; exact ⟨_, hTI, fun v q => nomatch q⟩
    · rw [q]; exact ⟨_, hTO, fun v q => nomatch q⟩
    · rw [q]; exact h1.obj
    · rw [q]; exact h2.obj
  keep := fun i h h' st q => by
    obtain ⟨hz, hTI, ⟨x, y, hTO⟩, h1, h2⟩ := st
    exact ⟨q z (by simp) _ hz, q TI (by simp) _ hTI, ⟨x, y, q TO (by simp) _ hTO⟩, h1.keep fun o => q i1 (by simp) o, h2.keep fun o => q i2 (by simp) o⟩
  item := by
    intro X hP hw hK hc i pins s σ H E I hf st hg
    subst hP hw hK
    obtain ⟨hz, hTI, hTO, h1, h2⟩ := st
    obtain ⟨hqx, hqy, hlx, hly⟩ := hg
    obtain ⟨its, rv, p, ha⟩ := SqB.at I hqx
    obtain ⟨its2, rv2, p2, hb⟩ := SqB.at I hqy
    obtain ⟨u, hu, ru⟩ := rv.get (List.getElem?_eq_getElem hlx)
    obtain ⟨u2, hu2, ru2⟩ := rv2.get (List.getElem?_eq_getElem hly)
    have W := WalksT.zipD2 (prog := X.prog) (w := X.w) (A := X.A) S (drawsB (A := X.A.in1) k (I.ok.hd hc) i1 a h1a its.toArray) (drawsB (A := X.A.in1) j (I.ok.hd hc) i2 b h2b its2.toArray)
    have hn1 : i < its.toArray.size := by rw [List.size_toArray, ← rv.length]; exact hlx
    have hn2 : i < its2.toArray.size := by rw [List.size_toArray, ← rv2.length]; exact hly
    refine W.item i s _ _ (by omega) ⟨hz, hTI, hTO, ⟨h1, p⟩, ⟨h2, p2⟩⟩ fun t vals h' tk hP ht hT hM hk => ?_
    obtain ⟨y1, y2, hy1, hy2, ev⟩ := hP
    have ey1 : y1 = u := by
      have hu' : its.toArray[i]? = some u := by simpa using hu
      rw [hu'] at hy1
      exact (Option.some.inj hy1).symm
    have ey2 : y2 = u2 := by
      have hu' : its2.toArray[i]? = some u2 := by simpa using hu2
      rw [hu'] at hy2
      exact (Option.some.inj hy2).symm
    subst ey1 ey2 ev
    refine ⟨_, rfl, W.go elts kk tpos i t { s with heap := h', toks := tk } _ _ hM fun h3 st3 hk3 => ?_⟩
    have tw := W.apart i t h' hM
    have kk2 : ∀ c o, c ∉ [z, TO, i1, i2] → s.heap.get? c = some o → h3.get? c = some o := fun c o nb q => hk3 c o nb (hk c o nb q)
    obtain ⟨ot, hot, hct, nt, hdt⟩ := hT
    have sub4 : ∀ c ∈ [z, TO, i1, i2], c ∈ [z, TI, TO, i1, i2] := fun c hc => by
      have e' : c = z ∨ c = TO ∨ c = i1 ∨ c = i2 := by simpa using hc
      rcases e' with q | q | q | q <;> simp [q]
    have new : ObjOk X.prog X.w (upd H t (.tup [xs[i], ys[i]])) h3 t (.tup [xs[i], ys[i]]) :=
      ⟨by show 2 ≤ sizeLine; rw [sizeLine_eq]; omega, [y1, y2], .cons ru (.cons ru2 .nil), ⟨ot, hk3 t ot tw hot, hct, nt, hdt⟩⟩
    have I1 : Inv X pins σ (upd H t (.tup [xs[i], ys[i]])) { s with heap := h3, toks := tk } := Inv.turnedNew I (ch := [z, TO, i1, i2]) kk2 (fun c hc => hf c (sub4 c hc)) ht new
    obtain ⟨hz3, hTI3, hTO3, ⟨h13, _⟩, ⟨h23, _⟩⟩ := st3
    refine ⟨.ref t, _, I1, rfl, ⟨t, _, _, rfl, I.hok.fresh ht, rfl, List.getElem?_eq_getElem hlx, List.getElem?_eq_getElem hly⟩, ⟨hz3, hTI3, hTO3, h13, h23⟩, fun c hc => ?_⟩
    have nt : c ≠ t := fun q => by
      have e' : c = z ∨ c = TI ∨ c = TO ∨ c = i1 ∨ c = i2 := by simpa using hc
      rcases e' with r | r | r | r | r
      · exact tw (by rw [← q, r]; simp)
      · have l := Heap.lt_size hTI
        rw [← r, q] at l
        exact absurd ht (Nat.not_le.mpr l)
      · exact tw (by rw [← q, r]; simp)
      · exact tw (by rw [← q, r]; simp)
      · exact tw (by rw [← q, r]; simp)
    rw [upd_ne nt]
    exact (hf c hc).1
  done := by
    intro X hP hw hK hc i pins s σ H E I hf st hg
    subst hP hw hK
    obtain ⟨hz, hTI, ⟨a1, a2, hTO⟩, h1, h2⟩ := st
    obtain ⟨hqx, hqy, hl⟩ := hg
    obtain ⟨its, rv, p, ha⟩ := SqB.at I hqx
    obtain ⟨its2, rv2, p2, hb⟩ := SqB.at I hqy
    have D1 := drawsB (P := X.prog) (w := X.w) (A := X.A.in1) k (I.ok.hd hc) i1 a h1a its.toArray
    have D2 := drawsB (P := X.prog) (w := X.w) (A := X.A.in1) j (I.ok.hd hc) i2 b h2b its2.toArray
    have hn1 : its.toArray.size = xs.length := by rw [List.size_toArray, ← rv.length]
    have hn2 : its2.toArray.size = ys.length := by rw [List.size_toArray, ← rv2.length]
    have sub4 : ∀ c ∈ [z, TO, i1, i2], c ∈ [z, TI, TO, i1, i2] := fun c hc => by
      have e' : c = z ∨ c = TO ∨ c = i1 ∨ c = i2 := by simpa using hc
      rcases e' with q | q | q | q <;> simp [q]
    refine wpAny_pyNext_zipD2_end S D1 D2 hz hTI hTO ⟨h1, p⟩ ⟨h2, p2⟩ (by omega) (by omega) (by omega) fun h' tk hk => ⟨rfl, ?_⟩
    exact I.turnedL (t' := tk) (ch := [z, TO, i1, i2]) (fun c o nb q => hk c o (fun r => nb (by simp [r])) (fun r => nb (by simp [r])) (fun r => nb (by simp [r])) (fun r => nb (by simp [r])) q) (fun c hc => hf c (sub4 c hc))
  self := fun A i s Q E st h => wpAny_pyIter_zip st.1 h
end
set_option maxHeartbeats 1000000 in
theorem meets_enumerate_new1B {v : Value} {o : Obj} {H : Heap → Prop} (B : Begins v o H) :
    Meets (Builtin.«enumerate.__new__» ⟨[.type "enumerate", v], []⟩) (fun _ R s => H s.heap ∧
      R (.ok (.ret (.ref (s.heap.push o).objs.size))) { s with heap := (s.heap.push o).push { cls := .type "enumerate", data := .fields #[.none, .bool false, .ref s.heap.objs.size, rawInt 0, .none, .none] } }) :=
  .of_wp fun prog w A R s h => by
    obtain ⟨hp, g, d, tk, os⟩ := s; obtain ⟨h1, h⟩ := h
    have hsub := sub_enumerate
    have q1 : ∀ {A' : Around} {E : Value → Shared → Prop} {Q : Value → Shared → Prop}, Q (.ref hp.objs.size) ⟨hp.push o, g, d, tk, os⟩ → wpAny (model prog w) A' (pyIter v) Q E ⟨hp, g, d, tk, os⟩ :=
      fun q => B.iter prog w _ _ ⟨hp, g, d, tk, os⟩ _ h1 q
    wp_walk using q1
    refine wpAny_stack_any fun st => wpAny_pure ?_
    split
    · rename_i c _ _ _ _ _
      cases (c == Value.type "enumerate")
      · wp_walk using q1
        exact ⟨_, rfl, h⟩
      · wp_walk using q1
        exact ⟨_, rfl, h⟩
    · wp_walk using q1
      exact ⟨_, rfl, h⟩
theorem enum_begins1 {prog : Program} {w : World} {A : Around} {E : Value → Shared → Prop} {s : Shared} {v : Value} {o : Obj} {H : Heap → Prop} {Q : Value → Shared → Prop} (B : Begins v o H) (h1 : H s.heap)
    (h : ∀ h', IsEnum h' (s.heap.objs.size + 1) s.heap.objs.size 0 .none → h'.get? s.heap.objs.size = some o → h'.objs.size = s.heap.objs.size + 2 →
      (∀ b o, s.heap.get? b = some o → h'.get? b = some o) → Q (.ref (s.heap.objs.size + 1)) { s with heap := h' }) :
    wpAny (model prog w) A (call (.type "enumerate") [v]) Q E s := by
  refine callType_new F.called_enumerate (by decide) (F.typeCall_enumerate_1 _) (F.newCall_enumerate_1 _) (fun obj => F.args_object_init_2 obj _) F.entry_enumerate_new
    (meets_enumerate_new1B B) ⟨h1, ?_⟩
  have hz : (s.heap.push o).objs.size = s.heap.objs.size + 1 := Heap.size_push ..
  show _ ∧ _
  rw [hz]
  have he : IsEnum ((s.heap.push o).push { cls := .type "enumerate", data := .fields #[.none, .bool false, .ref s.heap.objs.size, rawInt 0, .none, .none] }) (s.heap.objs.size + 1) s.heap.objs.size 0 .none := by
    have := Heap.get?_push_size (s.heap.push o) (o := { cls := .type "enumerate", data := .fields #[.none, .bool false, .ref s.heap.objs.size, rawInt 0, .none, .none] }) rfl
    rw [hz] at this; exact this
  refine ⟨⟨_, he, rfl⟩, h _ he (Heap.get?_push_of_some _ (Heap.get?_push_size _ B.free)) (by rw [Heap.size_push, hz]) fun b o x => Heap.get?_push_of_some _ (Heap.get?_push_of_some _ x)⟩
theorem objB_free (k : Bool) (a : Addr) : (objB k a).isFreed = false := by cases k <;> rfl
/-- enumerate(x) as what is walked -/
def iEnumB (K : PySem.W.Frag) (ta : TA) : TI := fun σ H R => ta σ H fun vs H1 => ∃ k a xs, vs = [.ref a] ∧ SqB k K H1 a xs ∧ R (ItEB k K a xs) H1
theorem pi_enumB {X : Cx} {e : Expr} {ta : TA} {p pos tpos : Pos} {elts : List Expr} {kk : Nat} (hg : Gl X "enumerate") (hm : X.mg "enumerate" = none) (ha : PA X [e] ta) (hs : starEach [e] X.env = [(false, eval e X.env)]) :
    PI X (.Tuple elts kk tpos) (.Call (.Name "enumerate" p) [e] [] pos) (iEnumB X.K ta) := by
  refine ⟨fun pins s σ H R I h => ?_⟩
  refine Call_ (ld_blt I hg hm boot_enumerate (PyProof.Rows.callWith_type1 (thn (ha.run pos pins s σ H _ I h) fun us s1 ⟨vs, H1, I1, r1, q1⟩ => ?_) hs rfl))
  obtain ⟨k, a, xs, ex, hq, q⟩ := q1
  subst ex
  cases r1 with
  | cons r rr =>
    cases rr
    cases r
    obtain ⟨its, rv, p', hz⟩ := SqB.at I1 hq
    refine enum_begins1 (beginsB k a its.toArray) p' fun h' he hit hsz hk => wpAny_pyIter_enum he ?_
    have I2 : Inv X pins σ H1 { s1 with heap := h' } := I1.kept (t' := s1.toks) hk
    refine ⟨s1.heap.objs.size + 1, [s1.heap.objs.size + 1, s1.heap.objs.size], _, _, H1, rfl, I2, turn_enumB (k := k) (a := a) (xs := xs) (e := s1.heap.objs.size + 1) (it := s1.heap.objs.size) (Nat.succ_ne_self _) (Nat.ne_of_lt (Nat.lt_succ_of_lt hz)) (Nat.ne_of_lt hz), ⟨⟨.none, he⟩, iterB_start k hit⟩, fun b hb => ?_, q⟩
    have e' : b = s1.heap.objs.size + 1 ∨ b = s1.heap.objs.size := by simpa using hb
    have hle : s1.heap.objs.size ≤ b := by
      rcases e' with z | z
      · rw [z]; exact Nat.le_add_right _ _
      · rw [z]; exact Nat.le_refl _
    exact I1.fpOk hle (I1.hok.fresh hle)
/-- zip(x, y) as what is walked -/
def iZipB (K : PySem.W.Frag) (ta : TA) : TI := fun σ H R => ta σ H fun vs H1 => ∃ k j a b xs ys, vs = [.ref a, .ref b] ∧ SqB k K H1 a xs ∧ SqB j K H1 b ys ∧ R (ItZB k j K a b xs ys) H1
theorem pi_zipB {X : Cx} {e e2 : Expr} {ta : TA} {p pos tpos : Pos} {elts : List Expr} {kk : Nat} (hg : Gl X "zip") (hm : X.mg "zip" = none) (ha : PA X [e, e2] ta)
    (hs : starEach [e, e2] X.env = (false, eval e X.env) :: starEach [e2] X.env) (hpl : (backTo pos (starEach [e2] X.env)).any (·.1) = false) :
    PI X (.Tuple elts kk tpos) (.Call (.Name "zip" p) [e, e2] [] pos) (iZipB X.K ta) := by
  refine ⟨fun pins s σ H R I h => ?_⟩
  refine Call_ (ld_blt I hg hm PyProof.Rows.boot_zip (PyProof.Rows.callWith_type1 (thn (ha.run pos pins s σ H _ I h) fun us s1 ⟨vs, H1, I1, r1, q1⟩ => ?_) hs hpl))
  obtain ⟨k, j, a, b, xs, ys, ex, hqx, hqy, q⟩ := q1
  subst ex
  cases r1 with
  | cons r rr =>
    cases rr with
    | cons r' rr =>
      cases rr
      cases r
      cases r'
      have fresh5 : ∀ c, c ∈ [s1.heap.objs.size + 4, s1.heap.objs.size + 2, s1.heap.objs.size + 3, s1.heap.objs.size, s1.heap.objs.size + 1] → FpOk X pins H1 c := fun c hcm => by
        have e' : c = s1.heap.objs.size + 4 ∨ c = s1.heap.objs.size + 2 ∨ c = s1.heap.objs.size + 3 ∨ c = s1.heap.objs.size ∨ c = s1.heap.objs.size + 1 := by simpa using hcm
        have hle : s1.heap.objs.size ≤ c := by
          rcases e' with z | z | z | z | z
          · rw [z]; exact Nat.le_add_right _ _
          · rw [z]; exact Nat.le_add_right _ _
          · rw [z]; exact Nat.le_add_right _ _
          · rw [z]; exact Nat.le_refl _
          · rw [z]; exact Nat.le_add_right _ _
        exact I1.fpOk hle (I1.hok.fresh hle)
      obtain ⟨its, rv, p1, la⟩ := SqB.at I1 hqx
      obtain ⟨its2, rv2, p2, lb⟩ := SqB.at I1 hqy
      refine zip_begins2 (beginsB k a its.toArray) (beginsB j b its2.toArray) p1 p2 fun h' hz hTI hTO h1 h2 hsz hk => wpAny_pyIter_zip hz ?_
      have I2 : Inv X pins σ H1 { s1 with heap := h' } := I1.kept (t' := s1.toks) hk
      have S : ZipSep2 (s1.heap.objs.size + 4) (s1.heap.objs.size + 2) (s1.heap.objs.size + 3) s1.heap.objs.size (s1.heap.objs.size + 1) [s1.heap.objs.size, a] [s1.heap.objs.size + 1, b] :=
        zip_sep2 (N := s1.heap.objs.size) (fp1 := [a]) (fp2 := [b]) (fun c hc => by rw [List.mem_singleton.mp hc]; exact la) (fun c hc => by rw [List.mem_singleton.mp hc]; exact lb)
      exact ⟨s1.heap.objs.size + 4, [s1.heap.objs.size + 4, s1.heap.objs.size + 2, s1.heap.objs.size + 3, s1.heap.objs.size, s1.heap.objs.size + 1], _, _, H1, rfl, I2, turn_zipB S (Nat.ne_of_lt la) (Nat.ne_of_lt (Nat.lt_succ_of_lt lb)), ⟨hz, hTI, ⟨_, _, hTO⟩, iterB_start k h1, iterB_start j h2⟩, fresh5, q⟩
end Mi
namespace Mi
open PySem PySem.Spec PyProof.Rows L2
/-- a sequence that stands for good -/
def StB (T : Tx) (k : Bool) (a : Addr) (xs : List D) (vs : List V) (g : Gr) (H : Hp) : Prop :=
  RepL T H g xs vs ∧ if k = true then H a = some (.tup vs) else g.fz a ∧ H a = some (.lst vs)
section
variable {T : Tx} {X : Cx} {W : WX} {H H1 : Hp} {g g1 : Gr} {h h1 : MH} {k j : Bool} {a b : Addr} {xs ys : List D} {vs us : List V}
theorem StB.of {d : D} {x : V} (q : RepV T H g d x) (e : plainIts d = some xs) : ∃ k a vs, x = .ref a ∧ StB T k a xs vs g H := by
  cases d with
  | tup ds => cases e; obtain ⟨a, vs, e, e1, e2⟩ := q; exact ⟨true, a, vs, e, e2, e1⟩
  | lst ds => cases e; obtain ⟨a, vs, e, f, e1, e2⟩ := q; exact ⟨false, a, vs, e, e2, f, e1⟩
  | _ => cases e
theorem StB.sq (q : StB T k a xs vs g H) : SqB k T.K H a vs := by
  cases k with
  | true => exact SqT.of q.2
  | false => exact SqL.of q.2.2
theorem StB.mono {g' : Gr} {H' : Hp} (q : StB T k a xs vs g H) (r : Rel T H g h) (x : Ext0 g H g' H') : StB T k a xs vs g' H' := by
  refine ⟨RepL.mono0 x r _ _ q.1, ?_⟩
  cases k with
  | true =>
    refine x.fr a _ q.2 (fun z => ?_) (.inr (.inl ⟨_, rfl⟩))
    obtain ⟨o, q1, q2, _⟩ := r.there z
    have e : H a = some (.tup vs) := q.2
    rw [e] at q1; cases q1; exact q2 _ rfl
  | false => exact ⟨x.fzs a q.2.1, x.fr a _ q.2.2 (fun z => r.dis a z q.2.1) (.inl q.2.1)⟩
theorem StB.len (q : StB T k a xs vs g H) (z : SzH H) : vs.length ≤ sizeLine := by
  cases k with
  | true => exact z.tup a vs q.2
  | false => exact z.lst a vs q.2.2
theorem RepL.at (q : RepL T H g xs vs) {i : Nat} (hi : i < xs.length) : ∃ d v, xs[i]? = some d ∧ vs[i]? = some v ∧ RepV T H g d v := by
  obtain ⟨v, a, b⟩ := q.get (List.getElem?_eq_getElem hi)
  exact ⟨_, v, List.getElem?_eq_getElem hi, a, b⟩
/-- the walks -/
theorem WalkI.seq : WalkI T (if k = true then Itt T.K a else Itl T.K a) xs (StB T k a xs vs) where
  mono := fun _ _ _ _ _ q r x => q.mono r x
  go := fun i g H h q r hi => by
    obtain ⟨d, v, _, e, _⟩ := q.1.at hi
    cases k with
    | true => exact ⟨vs, v, q.sq, e⟩
    | false => exact ⟨vs, v, q.sq, e⟩
  stop := fun g H h q r => by
    cases k with
    | true => exact ⟨vs, q.sq, by rw [q.1.length]; exact Nat.le_refl _⟩
    | false => exact ⟨vs, q.sq, by rw [q.1.length]; exact Nat.le_refl _⟩
  yld := fun i g H h x H' q r y hi => by
    obtain ⟨d, v, e1, e, rv⟩ := q.1.at hi
    have y' : H' = H ∧ vs[i]? = some x := by
      cases k with
      | true => exact ⟨y.1, y.2 vs q.sq⟩
      | false => exact ⟨y.1, y.2 vs q.sq⟩
    obtain ⟨rfl, y2⟩ := y'
    rw [e] at y2; cases y2
    exact ⟨d, g, e1, r, .refl _ _, rv⟩
  len := fun g H q z => by rw [q.1.length]; exact q.len z
theorem WalkI.rng (lo : Int) (n : Nat) (hn : n ≤ big) : WalkI T (Itr lo n) ((List.range n).map fun i => .int (lo + (i : Nat))) (fun _ _ => True) where
  mono := fun _ _ _ _ _ q r x => True.intro
  go := fun i g H h q r hi => by
    show i < n
    simpa using hi
  stop := fun g H h q r => by show n ≤ _; simp
  yld := fun i g H h x H' q r y hi => by
    obtain ⟨rfl, rfl⟩ := y
    have hi : i < n := by simpa using hi
    exact ⟨.int (lo + (i : Nat)), g, by simp [hi], r, .refl _ _, rfl⟩
  len := fun g H q z => by
    rw [sizeLine_eq]
    simp
    unfold big at hn
    omega
theorem enumL_get : ∀ (xs : List D) (n i : Nat) (d : D), xs[i]? = some d → (enumL n xs)[i]? = some (.tup [.int ((n + i : Nat) : Int), d])
  | x :: xs, n, 0, d, e => by simp at e; subst e; rfl
  | x :: xs, n, i + 1, d, e => by
    have := enumL_get xs (n + 1) i d (by simpa using e)
    show (enumL (n + 1) xs)[i]? = _
    rw [this, show n + 1 + i = n + (i + 1) by omega]
theorem enumL_len : ∀ (xs : List D) (n : Nat), (enumL n xs).length = xs.length
  | [], _ => rfl
  | x :: xs, n => by show (enumL (n + 1) xs).length + 1 = _; rw [enumL_len xs (n + 1)]; rfl
theorem zipD_get : ∀ (xs ys : List D) (i : Nat) (d e : D), xs[i]? = some d → ys[i]? = some e → (zipD xs ys)[i]? = some (.tup [d, e])
  | x :: xs, y :: ys, 0, d, e, q, p => by simp at q p; subst q p; rfl
  | x :: xs, y :: ys, i + 1, d, e, q, p => by
    show (zipD xs ys)[i]? = _
    exact zipD_get xs ys i d e (by simpa using q) (by simpa using p)
  | [], _, _, _, _, q, _ => by simp at q
  | _ :: _, [], _, _, _, _, p => by simp at p
theorem zipD_len : ∀ (xs ys : List D), (zipD xs ys).length = min xs.length ys.length
  | [], _ => by simp [zipD]
  | _ :: _, [] => by simp [zipD]
  | x :: xs, y :: ys => by
    show (zipD xs ys).length + 1 = _
    rw [zipD_len xs ys]
    simp only [List.length_cons]
    omega
theorem Rel.newT {a : Addr} {ws : List V} (r : Rel T H g h) (hn : H a = none) : Rel T (upd H a (.tup ws)) { phi := g.phi, fz := fun b => g.fz b ∨ (false = true ∧ b = a) } h := r.new hn false
theorem WalkI.enm : WalkI T (ItEB k T.K a vs) (enumL 0 xs) (StB T k a xs vs) where
  mono := fun _ _ _ _ _ q r x => q.mono r x
  go := fun i g H h q r hi => ⟨q.sq, by rw [← q.1.length]; rwa [enumL_len] at hi⟩
  stop := fun g H h q r => ⟨q.sq, by rw [enumL_len, q.1.length]⟩
  yld := fun i g H h x H' q r y hi => by
    obtain ⟨t, v, rfl, hn, rfl, e⟩ := y
    rw [enumL_len] at hi
    obtain ⟨d, v', e1, e2, rv⟩ := q.1.at hi
    rw [e] at e2; cases e2
    refine ⟨.tup [.int (i : Nat), d], { phi := g.phi, fz := fun b => g.fz b ∨ (false = true ∧ b = t) }, by rw [enumL_get xs 0 i d e1, Nat.zero_add], r.newT hn, Ext.new hn false, t, _, rfl, upd_same, rfl, rv.mono (Ext.new hn false) r, True.intro⟩
  len := fun g H q z => by rw [enumL_len, q.1.length]; exact q.len z
theorem WalkI.zp : WalkI T (ItZB k j T.K a b vs us) (zipD xs ys) (fun g H => StB T k a xs vs g H ∧ StB T j b ys us g H) where
  mono := fun _ _ _ _ _ q r x => ⟨q.1.mono r x, q.2.mono r x⟩
  go := fun i g H h q r hi => by
    rw [zipD_len] at hi
    exact ⟨q.1.sq, q.2.sq, by rw [← q.1.1.length]; omega, by rw [← q.2.1.length]; omega⟩
  stop := fun g H h q r => ⟨q.1.sq, q.2.sq, by rw [zipD_len, q.1.1.length, q.2.1.length]⟩
  yld := fun i g H h x H' q r y hi => by
    obtain ⟨t, v, u, rfl, hn, rfl, e, f⟩ := y
    rw [zipD_len] at hi
    obtain ⟨d, v', e1, e2, rv⟩ := q.1.1.at (i := i) (by omega)
    obtain ⟨c, u', f1, f2, ru⟩ := q.2.1.at (i := i) (by omega)
    rw [e] at e2; cases e2
    rw [f] at f2; cases f2
    exact ⟨.tup [d, c], { phi := g.phi, fz := fun b => g.fz b ∨ (false = true ∧ b = t) }, zipD_get xs ys i d c e1 f1, r.newT hn, Ext.new hn false, t, _, rfl, upd_same, rv.mono (Ext.new hn false) r, ru.mono (Ext.new hn false) r, True.intro⟩
  len := fun g H q z => by
    have := q.1.len z
    rw [zipD_len, q.1.1.length]
    omega
/-! ### what is walked, by the text -/
abbrev SI (T : Tx) (X : Cx) (W : WX) (tg e : Expr) (m : Ev → MH → R It) : Prop := PI X tg e (tI T W m)
def iSeq (K : PySem.W.Frag) (tl : TE) : TI := fun σ H R => tl σ H fun x H1 => ∃ (k : Bool) (a : Addr) (vs : List V), x = .ref a ∧ SqB k K H1 a vs ∧ R (if k = true then Itt K a else Itl K a) H1
theorem pi_seq {tg l : Expr} {tl : TE} (hl : PE X l tl) : PI X tg l (iSeq X.K tl) := by
  refine ⟨fun pins s σ H R I h => ?_⟩
  refine thn (hl.run pins s σ H _ I h) fun v s1 ⟨x, H1, I1, r1, q1⟩ => ?_
  obtain ⟨k, a, vs, e, hq, q⟩ := q1
  subst e
  cases r1
  cases k with
  | true =>
    obtain ⟨its, rv, p, hz⟩ := I1.tuple (show SqT X.K H1 a vs from hq)
    refine wpAny_pyIter_tuple (show s1.heap.IsTuple a its.toArray from p) ?_
    refine ⟨s1.heap.objs.size, [s1.heap.objs.size], _, _, H1, rfl, I1.kept (t' := s1.toks) fun b o e => Heap.get?_push_of_some _ e, turn_tuple a _, ⟨_, Heap.get?_push_size _ rfl, rfl, rfl⟩, fun b hb => ?_, q⟩
    have e : b = s1.heap.objs.size := by simpa using hb
    subst e
    exact I1.fpOk (Nat.le_refl _) (I1.hok.fresh (Nat.le_refl _))
  | false =>
    obtain ⟨its, rv, p, hz⟩ := I1.list (show SqL X.K H1 a vs from hq)
    refine wpAny_pyIter_list p.isList ?_
    refine ⟨s1.heap.objs.size, [s1.heap.objs.size], _, _, H1, rfl, I1.kept (t' := s1.toks) fun b o e => Heap.get?_push_of_some _ e, turn_list a _, ⟨_, Heap.get?_push_size _ rfl, rfl, rfl⟩, fun b hb => ?_, q⟩
    have e : b = s1.heap.objs.size := by simpa using hb
    subst e
    exact I1.fpOk (Nat.le_refl _) (I1.hok.fresh (Nat.le_refl _))
theorem OutI.here {w : It} {Q : L2.It → Hp → Prop} {W : XW} {xs : List D} {J : L2.It} {C : Gr → Hp → Prop} (r : Rel T H g h) (o : OutI T g H (.ok (.its xs) h) Q W) (w : WalkI T J xs C) (c : C g H) : Q J H := o H g r (.refl _ _) J C w c
theorem si_gen {tg e : Expr} {ma : Ev → MH → R D} (hK : X.K = T.K) (ha : SE T X W e ma) : SI T X W tg e (fun e h => (ma e h).bind fun d h => match itOf h d with
    | some w => .ok w h
    | none => .stuck) := by
  refine PI.imp (pi_seq ha) fun σ H Q ⟨g, h, ev, r, s, o⟩ => ?_
  refine tE.bindI (f := fun d e h => match itOf h d with
    | some w => .ok w h
    | none => .stuck) r s o fun d v h1 H1 g1 r1 s1 qa x1 o1 => ?_
  rw [hK]
  cases d with
  | tup ds =>
    obtain ⟨a, vs, e, e1, e2⟩ := qa
    have st : StB T true a ds vs g1 H1 := ⟨e2, e1⟩
    exact ⟨true, a, vs, e, st.sq, OutI.here (w := .its ds) r1 o1 WalkI.seq st⟩
  | lst ds =>
    obtain ⟨a, vs, e, f, e1, e2⟩ := qa
    have st : StB T false a ds vs g1 H1 := ⟨e2, f, e1⟩
    exact ⟨false, a, vs, e, st.sq, OutI.here (w := .its ds) r1 o1 WalkI.seq st⟩
  | ref n =>
    obtain ⟨a, e, e1⟩ := qa
    have o1 : OutI T g1 H1 (match (match h1[n]? with
      | some (.lst _) => some (It.hp n false)
      | _ => none) with
      | some w => .ok w h1
      | none => .stuck) Q (fun c d H' => W c d σ H') := o1
    cases z : h1[n]? with
    | none => rw [z] at o1; exact o1.elim
    | some ob =>
      rw [z] at o1
      cases ob with
      | lst ds =>
        obtain ⟨vs, q1, q2⟩ := r1.obj n _ a z e1
        exact ⟨false, a, vs, e, SqL.of q1, o1 H1 g1 r1 (.refl _ _) a e1⟩
      | _ => exact o1.elim
  | _ => exact o1.elim
/-- arguments first, then what is walked -/
theorem tA.bindI {m : Ev → MH → R (List D)} {f : List D → Ev → MH → R It} {σ : St} {e : Ev} {Q : L2.It → Hp → Prop} {Q' : List V → Hp → Prop} (r : Rel T H g h) (s : RepS T H g e σ) (o : OutI T g H ((m e h).bind fun d h => f d e h) Q (fun c d H' => W c d σ H'))
    (k : ∀ d v h1 H1 g1, Rel T H1 g1 h1 → RepL T H1 g1 d v → OutI T g1 H1 (f d e h1) Q (fun c d H' => W c d σ H') → Q' v H1) : tA T W m σ H Q' := by
  refine ⟨g, h, e, r, s, ?_⟩
  revert k o
  cases m e h with
  | ok d h1 => exact fun o k v H1 g1 a b c => k d v h1 H1 g1 a c (o.ext b r a)
  | exn c p h1 => exact fun o _ => o
  | stuck => exact fun o _ => o
theorem sa_one {a : Expr} {ma : Ev → MH → R D} (hn : noStar a = true) (ha : SE T X W a ma) : SA T X W [a] (fun e h => (ma e h).bind fun x h => .ok [x] h) := SA.cons hn ha SA.nil
theorem sa_two {a b : Expr} {ma mb : Ev → MH → R D} (hn : noStar a = true) (hm : noStar b = true) (ha : SE T X W a ma) (hb : SE T X W b mb) : SA T X W [a, b] (fun e h => (ma e h).bind fun x h => (mb e h).bind fun y h => .ok [x, y] h) := by
  refine PA.imp (SA.cons hn ha (SA.cons hm hb SA.nil)) fun σ H Q ⟨g, h, ev, r, s, o⟩ => ⟨g, h, ev, r, s, ?_⟩
  have o : OutA T g H ((ma ev h).bind fun x h => (mb ev h).bind fun y h => .ok [x, y] h) Q (fun c d H' => W c d σ H') := o
  show OutA T g H ((ma ev h).bind fun x h => ((mb ev h).bind fun y h => .ok [y] h).bind fun xs h => .ok (x :: xs) h) Q (fun c d H' => W c d σ H')
  revert o
  cases ma ev h with
  | stuck => exact fun o => o
  | exn c p h1 => exact fun o => o
  | ok x h1 =>
    show OutA T g H ((mb ev h1).bind fun y h => .ok [x, y] h) Q _ → OutA T g H (((mb ev h1).bind fun y h => .ok [y] h).bind fun xs h => .ok (x :: xs) h) Q _
    cases mb ev h1 with
    | stuck => exact fun o => o
    | exn c p h1 => exact fun o => o
    | ok y h2 => exact fun o => o
theorem bind_bind {α β γ : Type} (r : R α) (f : α → MH → R β) (k : β → MH → R γ) : (r.bind f).bind k = r.bind fun a h => (f a h).bind k := by cases r <;> rfl
theorem si_rng1 {tg a : Expr} {p pos : Pos} {ma : Ev → MH → R D} (hg : Gl X "range") (hm : X.mg "range" = none) (hn : noStar a = true) (ha : SE T X W a ma) : SI T X W tg (.Call (.Name "range" p) [a] [] pos) (fun e h => (ma e h).bind fun x h => match x with
    | .int j => if decide (j ≤ (big : Int)) && decide (-(2 ^ 60) < j) then .ok (.its ((List.range j.toNat).map fun i => .int (i : Nat))) h else .stuck
    | _ => .stuck) := by
  refine PI.imp (pi_range1 hg hm (sa_one hn ha) (star_cons hn)) fun σ H Q ⟨g, h, ev, r, s, o⟩ => ?_
  refine tA.bindI (f := fun xs e h => match xs with
    | [x] => (match x with
      | .int j => if decide (j ≤ (big : Int)) && decide (-(2 ^ 60) < j) then .ok (.its ((List.range j.toNat).map fun i => .int (i : Nat))) h else .stuck
      | _ => .stuck)
    | _ => .stuck) r s (by rw [bind_bind]; exact o) fun ds vs h1 H1 g1 r1 q1 o1 => ?_
  match ds, vs, q1, o1 with
  | [d], [v], q1, o1 =>
    cases d with
    | int j => ?_
    | _ => exact o1.elim
    have o1 : OutI T g1 H1 (if (decide (j ≤ (big : Int)) && decide (-(2 ^ 60) < j)) = true then .ok (.its ((List.range j.toNat).map fun i => .int (i : Nat))) h1 else .stuck) Q (fun c d H' => W c d σ H') := o1
    by_cases c : (decide (j ≤ (big : Int)) && decide (-(2 ^ 60) < j)) = true
    · rw [if_pos c] at o1
      rw [Bool.and_eq_true] at c
      have c1 := of_decide_eq_true c.1
      have c2 := of_decide_eq_true c.2
      have ev : v = .int j := q1.1
      subst ev
      unfold big at c1
      refine ⟨j, rfl, by omega, by omega, ?_⟩
      have w := WalkI.rng (T := T) 0 j.toNat (by unfold big; omega)
      simp only [Int.zero_add] at w
      exact OutI.here (w := .its []) r1 o1 w True.intro
    · rw [if_neg c] at o1; exact o1.elim
theorem si_rng2 {tg a b : Expr} {p pos : Pos} {ma mb : Ev → MH → R D} (hg : Gl X "range") (hm : X.mg "range" = none) (hn : noStar a = true) (hn2 : noStar b = true) (ha : SE T X W a ma) (hb : SE T X W b mb) : SI T X W tg (.Call (.Name "range" p) [a, b] [] pos) (fun e h => (ma e h).bind fun x h => (mb e h).bind fun y h => match x, y with
    | .int i, .int j => if decide (j ≤ (big : Int)) && decide (-(2 ^ 60) < j) && decide (0 ≤ i) && decide (i ≤ (big : Int)) then .ok (.its ((List.range (j - i).toNat).map fun k => .int (i + (k : Nat)))) h else .stuck
    | _, _ => .stuck) := by
  refine PI.imp (pi_range2 hg hm (sa_two hn hn2 ha hb) (by rw [star_cons hn, star_cons hn2]; rfl) (by rw [star_cons hn2]; rfl)) fun σ H Q ⟨g, h, ev, r, s, o⟩ => ?_
  refine tA.bindI (f := fun xs e h => match xs with
    | [x, y] => (match x, y with
      | .int i, .int j => if decide (j ≤ (big : Int)) && decide (-(2 ^ 60) < j) && decide (0 ≤ i) && decide (i ≤ (big : Int)) then .ok (.its ((List.range (j - i).toNat).map fun k => .int (i + (k : Nat)))) h else .stuck
      | _, _ => .stuck)
    | _ => .stuck) r s (by simp only [bind_bind]; exact o) fun ds vs h1 H1 g1 r1 q1 o1 => ?_
  match ds, vs, q1, o1 with
  | [c, d], [v, u], q1, o1 =>
    cases c with
    | int i => ?_
    | _ => exact o1.elim
    cases d with
    | int j => ?_
    | _ => exact o1.elim
    have o1 : OutI T g1 H1 (if (decide (j ≤ (big : Int)) && decide (-(2 ^ 60) < j) && decide (0 ≤ i) && decide (i ≤ (big : Int))) = true then .ok (.its ((List.range (j - i).toNat).map fun k => .int (i + (k : Nat)))) h1 else .stuck) Q (fun c d H' => W c d σ H') := o1
    by_cases c : (decide (j ≤ (big : Int)) && decide (-(2 ^ 60) < j) && decide (0 ≤ i) && decide (i ≤ (big : Int))) = true
    · rw [if_pos c] at o1
      simp only [Bool.and_eq_true, decide_eq_true_eq] at c
      obtain ⟨⟨⟨c1, c2⟩, c3⟩, c4⟩ := c
      obtain ⟨ev, eu, _⟩ := q1
      have ev : v = .int i := ev
      have eu : u = .int j := eu
      subst ev eu
      unfold big at c1 c4
      refine ⟨i, j, rfl, ⟨by omega, by omega, by omega, by omega⟩, ?_⟩
      exact OutI.here (w := .its []) r1 o1 (WalkI.rng (T := T) i (j - i).toNat (by unfold big; omega)) True.intro
    · rw [if_neg c] at o1; exact o1.elim
/-- a list of the heap under way -/
theorem hp_go {n i : Nat} {e : Bool} {ds : List D} (r : Rel T H g h) (z : h[n]? = some (.lst ds)) (ha : g.phi[n]? = some a) (hi : i < ds.length) : (itH T.K e a).go i H := by
  obtain ⟨vs, q1, q2⟩ := r.obj n _ a z ha
  obtain ⟨v, ev, _⟩ := q2.get (List.getElem?_eq_getElem hi)
  cases e with
  | true => exact ⟨vs, v, SqL.of q1, ev⟩
  | false => exact ⟨vs, v, SqL.of q1, ev⟩
theorem hp_stop {n i : Nat} {e : Bool} {ds : List D} (r : Rel T H g h) (z : h[n]? = some (.lst ds)) (ha : g.phi[n]? = some a) (hi : ds.length ≤ i) : (itH T.K e a).stop i H := by
  obtain ⟨vs, q1, q2⟩ := r.obj n _ a z ha
  cases e with
  | true => exact ⟨vs, SqL.of q1, by rw [← q2.length]; exact hi⟩
  | false => exact ⟨vs, SqL.of q1, by rw [← q2.length]; exact hi⟩
theorem hp_yld {n i : Nat} {e : Bool} {ds : List D} {d : D} {x : V} {H' : Hp} (r : Rel T H g h) (z : h[n]? = some (.lst ds)) (ha : g.phi[n]? = some a) (hd : ds[i]? = some d) (y : (itH T.K e a).yld i H x H') :
    ∃ g', Rel T H' g' h ∧ Ext g H g' H' ∧ RepV T H' g' (wrapI e i d) x := by
  obtain ⟨vs, q1, q2⟩ := r.obj n _ a z ha
  obtain ⟨v, ev, rv⟩ := q2.get hd
  cases e with
  | false =>
    obtain ⟨rfl, y⟩ := y
    have ex := y vs (SqL.of q1)
    rw [ev] at ex; cases ex
    exact ⟨g, r, .refl _ _, rv⟩
  | true =>
    obtain ⟨t, v', rfl, hn, rfl, y⟩ := y
    have ex := y vs (SqL.of q1)
    rw [ev] at ex; cases ex
    exact ⟨_, r.newT hn, Ext.new hn false, t, _, rfl, upd_same, rfl, rv.mono (Ext.new hn false) r, True.intro⟩
/-- enumerate of what stands fast, or of a list of the heap -/
def iEnumC (K : PySem.W.Frag) (ta : TA) : TI := fun σ H R => ta σ H fun vs H1 => (∃ k a xs, vs = [.ref a] ∧ SqB k K H1 a xs ∧ R (ItEB k K a xs) H1) ∨ ∃ a xs, vs = [.ref a] ∧ SqL K H1 a xs ∧ R (Ite K a) H1
theorem pi_enumC {X : Cx} {e : Expr} {ta : TA} {p pos tpos : Pos} {elts : List Expr} {kk : Nat} (hg : Gl X "enumerate") (hm : X.mg "enumerate" = none) (ha : PA X [e] ta) (hs : starEach [e] X.env = [(false, eval e X.env)]) :
    PI X (.Tuple elts kk tpos) (.Call (.Name "enumerate" p) [e] [] pos) (iEnumC X.K ta) := by
  refine ⟨fun pins s σ H R I h => ?_⟩
  refine Call_ (ld_blt I hg hm boot_enumerate (PyProof.Rows.callWith_type1 (thn (ha.run pos pins s σ H _ I h) fun us s1 ⟨vs, H1, I1, r1, q1⟩ => ?_) hs rfl))
  have fin : ∀ b, b ∈ [s1.heap.objs.size + 1, s1.heap.objs.size] → FpOk X pins H1 b := fun b hb => by
    have e' : b = s1.heap.objs.size + 1 ∨ b = s1.heap.objs.size := by simpa using hb
    have hle : s1.heap.objs.size ≤ b := by
      rcases e' with z | z
      · rw [z]; exact Nat.le_add_right _ _
      · rw [z]; exact Nat.le_refl _
    exact I1.fpOk hle (I1.hok.fresh hle)
  rcases q1 with ⟨k, a, xs, ex, hq, q⟩ | ⟨a, xs, ex, hq, q⟩
  · subst ex
    cases r1 with
    | cons r rr =>
      cases rr
      cases r
      obtain ⟨its, rv, p', hz⟩ := SqB.at I1 hq
      refine enum_begins1 (beginsB k a its.toArray) p' fun h' he hit hsz hk => wpAny_pyIter_enum he ?_
      have I2 : Inv X pins σ H1 { s1 with heap := h' } := I1.kept (t' := s1.toks) hk
      exact ⟨s1.heap.objs.size + 1, [s1.heap.objs.size + 1, s1.heap.objs.size], _, _, H1, rfl, I2, turn_enumB (k := k) (a := a) (xs := xs) (e := s1.heap.objs.size + 1) (it := s1.heap.objs.size) (Nat.succ_ne_self _) (Nat.ne_of_lt (Nat.lt_succ_of_lt hz)) (Nat.ne_of_lt hz), ⟨⟨.none, he⟩, iterB_start k hit⟩, fin, q⟩
  · subst ex
    cases r1 with
    | cons r rr =>
      cases rr
      cases r
      obtain ⟨its, rv, p', hz⟩ := I1.list hq
      refine call_enumerate_list p'.isList fun h' he hit hsz hk => wpAny_pyIter_enum he ?_
      have I2 : Inv X pins σ H1 { s1 with heap := h' } := I1.kept (t' := s1.toks) hk
      exact ⟨s1.heap.objs.size + 1, [s1.heap.objs.size + 1, s1.heap.objs.size], _, _, H1, rfl, I2, turn_enum a (s1.heap.objs.size + 1) s1.heap.objs.size, ⟨⟨.none, he⟩, hit, Nat.succ_ne_self _⟩, fin, q⟩
theorem si_enum {elts : List Expr} {kk : Nat} {tpos : Pos} {a : Expr} {p pos : Pos} {ma : Ev → MH → R D} (hK : X.K = T.K) (hg : Gl X "enumerate") (hm : X.mg "enumerate" = none) (hn : noStar a = true) (ha : SE T X W a ma) : SI T X W (.Tuple elts kk tpos) (.Call (.Name "enumerate" p) [a] [] pos) (fun e h => (ma e h).bind fun x h => match enumOf h x with
    | some w => .ok w h
    | none => .stuck) := by
  refine PI.imp (pi_enumC hg hm (sa_one hn ha) (star_cons hn)) fun σ H Q ⟨g, h, ev, r, s, o⟩ => ?_
  refine tA.bindI (f := fun xs e h => match xs with
    | [x] => (match enumOf h x with
      | some w => .ok w h
      | none => .stuck)
    | _ => .stuck) r s (by rw [bind_bind]; exact o) fun ds vs h1 H1 g1 r1 q1 o1 => ?_
  match ds, vs, q1, o1 with
  | [d], [v], q1, o1 =>
    have o1 : OutI T g1 H1 (match enumOf h1 d with
      | some w => .ok w h1
      | none => .stuck) Q (fun c d H' => W c d σ H') := o1
    rw [hK]
    have qa := q1.1
    cases d with
    | tup ds =>
      obtain ⟨a, vs, e, e1, e2⟩ := qa
      subst e
      have st : StB T true a ds vs g1 H1 := ⟨e2, e1⟩
      exact .inl ⟨true, a, vs, rfl, st.sq, OutI.here (w := .its []) r1 o1 WalkI.enm st⟩
    | lst ds =>
      obtain ⟨a, vs, e, f, e1, e2⟩ := qa
      subst e
      have st : StB T false a ds vs g1 H1 := ⟨e2, f, e1⟩
      exact .inl ⟨false, a, vs, rfl, st.sq, OutI.here (w := .its []) r1 o1 WalkI.enm st⟩
    | ref n =>
      obtain ⟨a, e, e1⟩ := qa
      subst e
      have o1 : OutI T g1 H1 (match (match h1[n]? with
        | some (.lst _) => some (It.hp n true)
        | _ => none) with
        | some w => .ok w h1
        | none => .stuck) Q (fun c d H' => W c d σ H') := o1
      cases z : h1[n]? with
      | none => rw [z] at o1; exact o1.elim
      | some ob =>
        rw [z] at o1
        cases ob with
        | lst ds =>
          obtain ⟨vs, q1, q2⟩ := r1.obj n _ a z e1
          exact .inr ⟨a, vs, rfl, SqL.of q1, o1 H1 g1 r1 (.refl _ _) a e1⟩
        | _ => exact o1.elim
    | _ => exact o1.elim
theorem si_zip {elts : List Expr} {kk : Nat} {tpos : Pos} {a b : Expr} {p pos : Pos} {ma mb : Ev → MH → R D} (hK : X.K = T.K) (hg : Gl X "zip") (hm : X.mg "zip" = none) (hn : noStar a = true) (hn2 : noStar b = true) (ha : SE T X W a ma) (hb : SE T X W b mb) :
    SI T X W (.Tuple elts kk tpos) (.Call (.Name "zip" p) [a, b] [] pos) (fun e h => (ma e h).bind fun x h => (mb e h).bind fun y h => match plainIts x, plainIts y with
    | some xs, some ys => .ok (.its (zipD xs ys)) h
    | _, _ => .stuck) := by
  refine PI.imp (pi_zipB hg hm (sa_two hn hn2 ha hb) (star_cons hn) (by rw [star_cons hn2]; rfl)) fun σ H Q ⟨g, h, ev, r, s, o⟩ => ?_
  refine tA.bindI (f := fun xs e h => match xs with
    | [x, y] => (match plainIts x, plainIts y with
      | some xs, some ys => .ok (.its (zipD xs ys)) h
      | _, _ => .stuck)
    | _ => .stuck) r s (by simp only [bind_bind]; exact o) fun ds vs h1 H1 g1 r1 q1 o1 => ?_
  match ds, vs, q1, o1 with
  | [d, c], [v, u], q1, o1 =>
    have o1 : OutI T g1 H1 (match plainIts d, plainIts c with
      | some xs, some ys => .ok (.its (zipD xs ys)) h1
      | _, _ => .stuck) Q (fun c d H' => W c d σ H') := o1
    cases z : plainIts d with
    | none => rw [z] at o1; exact o1.elim
    | some xs =>
      cases y : plainIts c with
      | none => rw [z, y] at o1; exact o1.elim
      | some ys =>
        rw [z, y] at o1
        obtain ⟨k, a, vs, e, st⟩ := StB.of q1.1 z
        obtain ⟨j, b, us, f, su⟩ := StB.of q1.2.1 y
        subst e f
        rw [hK]
        exact ⟨k, j, a, b, vs, us, rfl, st.sq, su.sq, OutI.here (w := .its []) r1 o1 WalkI.zp ⟨st, su⟩⟩
end
end Mi
namespace Mi
open PySem PySem.Spec PyProof.Rows L2
theorem PI.sz {X : Cx} {tg e : Expr} {t : TI} (h : PI X tg e t) : PI X tg e (fun σ H R => t σ H fun J H' => SzH H' → R J H') :=
  ⟨fun pins s σ H R I q => thn (h.run pins s σ H _ I q) fun v s1 q1 => thn q1 fun u s2 ⟨it, fp, tn, J, H', a, I2, b, c, d, r⟩ => ⟨it, fp, tn, J, H', a, I2, b, c, d, r (inv_sz I2)⟩⟩
section
variable {T : Tx} {X : Cx} {W : WX} {H H1 H2 : Hp} {g g1 g2 : Gr} {h h1 : MH}
/-! ### targets -/
theorem RepS.set {e : Ev} {σ : St} {i : Nat} {d : D} {v : V} (s : RepS T H g e σ) (q : RepV T H g d v) : RepS T H g (e.set i (some d)) (σ.set i (some v)) := by
  refine ⟨by simp [s.1], fun j d' z => ?_⟩
  by_cases hij : i = j
  · subst hij
    by_cases hl : i < e.length
    · rw [List.getElem?_set_self hl] at z
      cases z
      exact ⟨v, by rw [List.getElem?_set_self (by rw [← s.1]; exact hl)], q⟩
    · rw [List.getElem?_eq_none (by simpa using hl)] at z; cases z
  · rw [List.getElem?_set_ne hij] at z ⊢
    exact s.2 j d' z
theorem RepS.unset {e : Ev} {σ : St} (i : Nat) (s : RepS T H g e σ) : RepS T H g (e.set i none) (σ.set i none) := by
  refine ⟨by simp [s.1], fun j d' z => ?_⟩
  by_cases hij : i = j
  · subst hij
    by_cases hl : i < e.length
    · rw [List.getElem?_set_self hl] at z
      cases z
    · rw [List.getElem?_eq_none (by simpa using hl)] at z; cases z
  · rw [List.getElem?_set_ne hij] at z ⊢
    exact s.2 j d' z
theorem RepS.wipe {e : Ev} {σ : St} (s : RepS T H g e σ) : ∀ vs : List Nat, RepS T H g (wipeE e vs) (L2.wipe σ vs)
  | [] => s
  | v :: vs => (RepS.wipe s vs).unset v
theorem wipe_get (σ : St) : ∀ (vs : List Nat) (k : Nat), (L2.wipe σ vs)[k]? = if k ∈ vs then (σ[k]?).map (fun _ => none) else σ[k]?
  | [], k => by simp [L2.wipe]
  | v :: vs, k => by
    show ((L2.wipe σ vs).set v none)[k]? = _
    rw [List.getElem?_set]
    by_cases hv : v = k
    · subst hv
      simp only [if_true, L2.wipe_length, List.mem_cons, true_or]
      by_cases hl : v < σ.length
      · simp [hl]
      · simp [hl]
    · rw [if_neg hv, wipe_get σ vs k]
      simp only [List.mem_cons]
      by_cases hk : k ∈ vs
      · simp [hk]
      · simp [hk, Ne.symm hv]
theorem wipe_set {σ : St} {vs : List Nat} {i : Nat} {o : Option V} (hi : i ∈ vs) : L2.wipe (σ.set i o) vs = L2.wipe σ vs := by
  apply List.ext_getElem?
  intro k
  rw [wipe_get, wipe_get]
  by_cases hk : k ∈ vs
  · rw [if_pos hk, if_pos hk, List.getElem?_set]
    by_cases hik : i = k
    · subst hik
      by_cases hl : i < σ.length <;> simp [hl]
    · rw [if_neg hik]
  · rw [if_neg hk, if_neg hk, List.getElem?_set_ne (fun e : i = k => hk (by rw [← e]; exact hi))]
theorem wipe_wipe (σ : St) (vs : List Nat) : L2.wipe (L2.wipe σ vs) vs = L2.wipe σ vs := by
  apply List.ext_getElem?
  intro k
  rw [wipe_get, wipe_get]
  by_cases hk : k ∈ vs
  · rw [if_pos hk, if_pos hk]; cases σ[k]? <;> rfl
  · rw [if_neg hk, if_neg hk]
/-- a target's reading agrees with setT -/
def tgIn (t : Tg) (vs : List Nat) : Prop := match t with
  | .nm i => i ∈ vs
  | .tp is => ∀ i ∈ is, i ∈ vs
  | .tq j is => j ∈ vs ∧ ∀ i ∈ is, i ∈ vs
structure TgOk (T : Tx) (t : Tg) (G : TG) : Prop where
  run : ∀ (σ : St) (H : Hp) (g : Gr) (e e1 : Ev) (d : D) (v : V) (h : MH) (Q : St → Hp → Prop), Rel T H g h → RepS T H g e σ → RepV T H g d v → setT t d e = some e1 →
    (∀ σ1, RepS T H g e1 σ1 → (∀ vs, tgIn t vs → L2.wipe σ1 vs = L2.wipe σ vs) → Q σ1 H) → G v σ H Q
def gNames : List Nat → TGs
  | [] => gNil
  | i :: is => gCons (gName i) (gNames is)
theorem TgOk.nm (i : Nat) : TgOk T (.nm i) (gName i) where
  run := fun σ H g e e1 d v h Q r s q z k => by
    cases z
    exact k _ (s.set q) fun vs hv => wipe_set hv
theorem gNames_run : ∀ (is : List Nat) (σ : St) (H : Hp) (g : Gr) (e e1 : Ev) (ds : List D) (vs : List V) (h : MH) (Q : St → Hp → Prop), Rel T H g h → RepS T H g e σ → RepL T H g ds vs → setL is ds e = some e1 →
    (∀ σ1, RepS T H g e1 σ1 → (∀ us, (∀ i ∈ is, i ∈ us) → L2.wipe σ1 us = L2.wipe σ us) → Q σ1 H) → gNames is vs σ H Q
  | [], σ, H, g, e, e1, [], [], h, Q, r, s, q, z, k => ⟨rfl, by cases z; exact k σ s fun _ _ => rfl⟩
  | i :: is, σ, H, g, e, e1, d :: ds, v :: vs, h, Q, r, s, q, z, k => ⟨v, vs, rfl, gNames_run is _ H g _ e1 ds vs h Q r (s.set q.1) q.2 z fun σ1 s1 w => k σ1 s1 fun us hu => by
      rw [w us fun j hj => hu j (List.mem_cons_of_mem _ hj)]
      exact wipe_set (hu i (List.mem_cons_self ..))⟩
  | [], _, _, _, _, _, _ :: _, _, _, _, _, _, _, z, _ => by cases z
  | _ :: _, _, _, _, _, _, [], _, _, _, _, _, _, z, _ => by cases z
  | [], _, _, _, _, _, [], _ :: _, _, _, _, _, q, _, _ => q.elim
  | _ :: _, _, _, _, _, _, _ :: _, [], _, _, _, _, q, _, _ => q.elim
theorem setL_len : ∀ {is : List Nat} {ds : List D} {e e1 : Ev}, setL is ds e = some e1 → ds.length = is.length
  | [], [], _, _, _ => rfl
  | i :: is, d :: ds, e, e1, z => by simp [setL_len (is := is) (ds := ds) z]
  | [], _ :: _, _, _, z => by cases z
  | _ :: _, [], _, _, z => by cases z
theorem TgOk.tp (is : List Nat) : TgOk T (.tp is) (gTup T.K is.length (gNames is)) where
  run := fun σ H g e e1 d v h Q r s q z k => by
    cases d with
    | tup ds =>
      obtain ⟨a, vs, ev, e2, q2⟩ := q
      have z : setL is ds e = some e1 := z
      exact ⟨a, vs, ev, SqT.of e2, by rw [← q2.length, setL_len z], gNames_run is σ H g e e1 ds vs h Q r s q2 z k⟩
    | _ => cases z
theorem TgOk.tq (i : Nat) (is : List Nat) : TgOk T (.tq i is) (gTup T.K 2 (gCons (gName i) (gCons (gTup T.K is.length (gNames is)) gNil))) where
  run := fun σ H g e e1 d v h Q r s q z k => by
    cases d with
    | tup ds =>
      match ds, q, z with
      | [a, .tup es], q, z =>
        obtain ⟨p, vs, ev, e2, q2⟩ := q
        match vs, q2 with
        | [u, w], q2 =>
          obtain ⟨qu, qw, _⟩ := q2
          obtain ⟨b, us, ew, e3, q3⟩ := qw
          have z : setL is es (e.set i (some a)) = some e1 := z
          refine ⟨p, [u, w], ev, SqT.of e2, rfl, u, [w], rfl, w, [], rfl, b, us, ew, SqT.of e3, by rw [← q3.length, setL_len z], ?_⟩
          exact gNames_run is _ H g _ e1 es us h _ r (s.set qu) q3 z fun σ1 s1 wq => ⟨rfl, k σ1 s1 fun vs hv => by
            rw [wq vs hv.2]
            exact wipe_set hv.1⟩
    | _ => cases z
/-! ### a list under way -/
theorem Ext.off {D0 : Addr} {o : HO} (x : Ext g H g1 H1) (e : H D0 = some o) (n : D0 ∉ g.phi) (f : ¬ g.fz D0) : H1 D0 = some o ∧ D0 ∉ g1.phi ∧ ¬ g1.fz D0 := by
  refine ⟨x.fr _ _ e n, fun z => ?_, fun z => ?_⟩
  · obtain ⟨t, e1, e2⟩ := x.phi
    rw [e1] at z
    rcases List.mem_append.mp z with z | z
    · exact n z
    · rw [e2 _ z] at e; cases e
  · rcases x.fzn _ z with z | z
    · exact f z
    · rw [z] at e; cases e
/-- the list under way changes -/
theorem Ext0.upd {D0 : Addr} {as bs : List V} (e : H D0 = some (.lst as)) (f : ¬ g.fz D0) : Ext0 g H g (upd H D0 (.lst bs)) := by
  refine ⟨fun a o e1 n c => ?_, fun a ob xs e1 n => n, fun _ z => z, [], by simp⟩
  by_cases ha : a = D0
  · subst ha
    rw [e] at e1; cases e1
    rcases c with c | ⟨vs, c⟩ | ⟨ob, xs, c⟩
    · exact absurd c f
    · cases c
    · cases c
  · rw [upd_ne ha]; exact e1
theorem RepO.mono0 (x : Ext0 g H g1 H1) (r : Rel T H g h) {o : MO} {a : Addr} (k : ∀ u, H a = some u → H1 a = some u) (q : RepO T H g o a) : RepO T H1 g1 o a := by
  cases o with
  | lst ds => obtain ⟨vs, e, z⟩ := q; exact ⟨vs, k _ e, RepL.mono0 x r _ _ z⟩
  | dK l kvs =>
    obtain ⟨kk, z, e⟩ := q
    refine ⟨kk, RepK.mono0 x r _ _ z, ?_⟩
    cases l with
    | true => obtain ⟨o, e⟩ := e; exact ⟨o, k _ e⟩
    | false => exact k _ e
  | dT l kvs =>
    obtain ⟨kk, z, e⟩ := q
    refine ⟨kk, RepT.mono0 x r _ _ z, ?_⟩
    cases l with
    | true => obtain ⟨o, e⟩ := e; exact ⟨o, k _ e⟩
    | false => exact k _ e
  | ins c fs => obtain ⟨dx, vs, e, z⟩ := q; exact ⟨dx, vs, k _ e, RepF.mono0 x r _ _ z⟩
theorem Rel.updOff {D0 : Addr} {as bs : List V} (r : Rel T H g h) (e : H D0 = some (.lst as)) (n : D0 ∉ g.phi) (f : ¬ g.fz D0) : Rel T (upd H D0 (.lst bs)) g h := by
  refine ⟨r.len, r.nd, r.dis, fun a z => ?_, fun i o a e1 e2 => ?_⟩
  · obtain ⟨o, q⟩ := r.trk a z
    exact ⟨o, by rw [upd_ne fun c : a = D0 => f (by rw [← c]; exact z)]; exact q⟩
  · refine RepO.mono0 (Ext0.upd e f) r (fun u q => ?_) (r.obj i o a e1 e2)
    rw [upd_ne fun c : a = D0 => n (by rw [← c]; exact List.mem_of_getElem? e2)]
    exact q
theorem Ext.updOff {D0 : Addr} {bs : List V} (x : Ext g H g1 H1) (hn : H D0 = none) : Ext g H g1 (upd H1 D0 (.lst bs)) :=
  ⟨fun a o e n => by rw [upd_ne (ne_of_none e hn)]; exact x.fr a o e n, x.fzs, x.phi, x.fzn⟩
/-- at the end it is taken in -/
theorem Rel.fzOff {D0 : Addr} {as : List V} (r : Rel T H g h) (e : H D0 = some (.lst as)) (n : D0 ∉ g.phi) : Rel T H { phi := g.phi, fz := fun b => g.fz b ∨ b = D0 } h ∧ Ext0 g H { phi := g.phi, fz := fun b => g.fz b ∨ b = D0 } H := by
  have x : Ext0 g H { phi := g.phi, fz := fun b => g.fz b ∨ b = D0 } H := ⟨fun _ _ e _ _ => e, fun _ _ _ _ n => n, fun _ z => .inl z, [], by simp⟩
  refine ⟨⟨r.len, r.nd, fun a ha z => ?_, fun a z => ?_, fun i o a e1 e2 => RepO.mono0 x r (fun _ q => q) (r.obj i o a e1 e2)⟩, x⟩
  · rcases z with z | z
    · exact r.dis a ha z
    · exact n (z ▸ ha)
  · rcases z with z | z
    · exact r.trk a z
    · exact ⟨_, z ▸ e⟩
theorem Rel.phiOff {D0 : Addr} {as : List V} {ds : List D} (r : Rel T H g h) (e : H D0 = some (.lst as)) (n : D0 ∉ g.phi) (f : ¬ g.fz D0) (q : RepL T H g ds as) : Rel T H { phi := g.phi ++ [D0], fz := g.fz } (h ++ [.lst ds]) := by
  have x : Ext0 g H { phi := g.phi ++ [D0], fz := g.fz } H := ⟨fun _ _ e _ _ => e, fun a ob xs e1 n1 z => (List.mem_append.mp z).elim n1 (fun z => by
    rw [List.mem_singleton.mp z, e] at e1
    cases e1), fun _ z => z, [D0], rfl⟩
  refine ⟨by simp [r.len], ?_, fun a ha z => ?_, r.trk, fun i o a e1 e2 => ?_⟩
  · rw [List.nodup_append]
    refine ⟨r.nd, by simp, fun p hp y hy c => ?_⟩
    rw [List.mem_singleton.mp hy] at c
    exact n (c ▸ hp)
  · rcases List.mem_append.mp ha with ha | ha
    · exact r.dis a ha z
    · rw [List.mem_singleton.mp ha] at z; exact f z
  · by_cases hl : i < h.length
    · rw [List.getElem?_append_left hl] at e1
      rw [List.getElem?_append_left (by rw [r.len]; exact hl)] at e2
      exact RepO.mono0 x r (fun _ q => q) (r.obj i o a e1 e2)
    · rw [List.getElem?_append_right (by omega)] at e1
      rw [List.getElem?_append_right (by rw [r.len]; omega), r.len] at e2
      by_cases hz : i - h.length = 0
      · rw [hz] at e1 e2
        simp at e1 e2
        subst e1 e2
        exact ⟨as, e, RepL.mono0 x r _ _ q⟩
      · have : ([MO.lst ds] : List MO)[i - h.length]? = none := by rw [List.getElem?_eq_none]; simp; omega
        rw [this] at e1; cases e1
/-- the state of a loop that makes a list: from (g1, H1) at its start -/
structure Lp (T : Tx) (g1 : Gr) (H1 : Hp) (D0 : Addr) (g : Gr) (H : Hp) (h : MH) (acc : List V) (done : List D) : Prop where
  rel : Rel T H g h
  ext : Ext g1 H1 g H
  at' : H D0 = some (.lst acc)
  np : D0 ∉ g.phi
  nf : ¬ g.fz D0
  rep : RepL T H g done acc
theorem Lp.start {D0 : Addr} (r : Rel T H1 g1 h1) (hn : H1 D0 = none) : Lp T g1 H1 D0 g1 (upd H1 D0 (.lst [])) h1 [] [] := by
  have x := Ext.new (g := g1) (o := .lst []) hn false
  have rr := r.new (o := .lst []) hn false
  have hnp := r.ne hn
  have hnf : ¬ g1.fz D0 := fun z => by
    obtain ⟨o, e⟩ := r.trk _ z
    rw [hn] at e; cases e
  have hg : ({ phi := g1.phi, fz := fun b => g1.fz b ∨ (false = true ∧ b = D0) } : Gr) = g1 := by
    have : (fun b => g1.fz b ∨ (false = true ∧ b = D0)) = g1.fz := by funext b; simp
    rw [this]
  rw [hg] at x rr
  exact ⟨rr, x, upd_same, hnp, hnf, True.intro⟩
theorem Lp.done {D0 : Addr} {hz : MH} {acc : List V} {ds : List D} {m : Bool} {Q : VK} {W : XW} (r1 : Rel T H1 g1 h1) (p : Lp T g1 H1 D0 g H h acc ds) (hn : H1 D0 = none) (o : Out T g1 H1 (Mi.mk m ds h) Q W) : Q (.ref D0) H := by
  cases m with
  | false =>
    obtain ⟨rr, x⟩ := p.rel.fzOff p.at' p.np
    refine o (.ref D0) H _ rr ⟨p.ext.fr, fun a z => .inl (p.ext.fzs a z), p.ext.phi, fun a z => ?_⟩ ⟨D0, acc, rfl, .inr rfl, p.at', RepL.mono0 x p.rel _ _ p.rep⟩
    rcases z with z | z
    · exact p.ext.fzn a z
    · exact .inr (z ▸ hn)
  | true =>
    obtain ⟨t, e1, e2⟩ := p.ext.phi
    refine o (.ref D0) H _ (p.rel.phiOff p.at' p.np p.nf p.rep) ⟨p.ext.fr, p.ext.fzs, ⟨t ++ [D0], by show g.phi ++ [D0] = _; rw [e1, List.append_assoc], fun a ha => ?_⟩, p.ext.fzn⟩ ⟨D0, rfl, by rw [← p.rel.len]; simp⟩
    rcases List.mem_append.mp ha with ha | ha
    · exact e2 a ha
    · rw [List.mem_singleton.mp ha]; exact hn
def WF0 : WX := fun _ _ _ _ => False
/-- one turn -/
theorem Lp.turn {D0 : Addr} {H' : Hp} {hx : MH} {acc : List V} {done : List D} {t : Tg} {G : TG} {mc mel : Ev → MH → R D} {e : Ev} {σ : St} {vs : List Nat} {d : D} {x : V} {o : Option D} {Nx : Hp → Prop}
    (hG : TgOk T t G) (hv : tgIn t vs) (r1 : Rel T H1 g1 h1) (s1 : RepS T H1 g1 e σ) (hn : H1 D0 = none) (p : Lp T g1 H1 D0 g H h acc done) (r2 : Rel T H' g2 h) (x2 : Ext g H g2 H') (q2 : RepV T H' g2 d x)
    (hf : lcB t mc mel (wipeE e vs) d h = .ok o hx) (hs : acc.length < sizeLine)
    (k : ∀ H5 g5 acc5, Lp T g1 H1 D0 g5 H5 hx acc5 (done ++ o.toList) → Ext0 g2 H' g5 H5 → acc5.length = acc.length + o.toList.length → Nx H5) :
    G x (L2.wipe σ vs) H' fun σ2 H2 => L2.wipe σ2 vs = L2.wipe σ vs ∧ tT T WF0 mc σ2 H2 fun b H3 => if b = true then tE T WF0 mel σ2 H3 fun y H4 => ∃ acc, H4 D0 = some (.lst acc) ∧ acc.length < sizeLine ∧ Nx (upd H4 D0 (.lst (acc ++ [y]))) else Nx H3 := by
  have x12 : Ext g1 H1 g2 H' := p.ext.trans r1 p.rel x2
  have sw : RepS T H' g2 (wipeE e vs) (L2.wipe σ vs) := (s1.mono x12 r1).wipe vs
  unfold lcB at hf
  cases z : setT t d (wipeE e vs) with
  | none => rw [z] at hf; cases hf
  | some e1 =>
    rw [z] at hf
    refine hG.run _ H' g2 _ e1 d x h _ r2 sw q2 z fun σ1 s2 w => ⟨by rw [w vs hv, wipe_wipe], g2, h, e1, r2, s2, ?_⟩
    have hf : ((mc e1 h).bind fun k h => (match k with
      | .bl b => if b = true then (mel e1 h).bind fun x h => .ok (some x) h else .ok none h
      | _ => .stuck)) = .ok o hx := hf
    obtain ⟨a2, np2, nf2⟩ := x2.off p.at' p.np p.nf
    cases mcz : mc e1 h with
    | stuck => rw [mcz] at hf; cases hf
    | exn c p h1 => rw [mcz] at hf; cases hf
    | ok kd hc =>
      rw [mcz] at hf
      cases kd with
      | bl b =>
        have hf : (if b = true then (mel e1 hc).bind fun x h => .ok (some x) h else .ok none hc) = R.ok o hx := hf
        intro H3 g3 r3 x3
        obtain ⟨a3, np3, nf3⟩ := x3.off a2 np2 nf2
        have x13 := x12.trans r1 r2 x3
        cases b with
        | false =>
          rw [if_neg (by decide)] at hf ⊢
          cases hf
          refine k H3 g3 acc ⟨r3, x13, a3, np3, nf3, ?_⟩ (x3.to0 r2) (by simp)
          rw [show (none : Option D).toList = [] from rfl, List.append_nil]
          exact RepL.mono x3 r2 _ _ (RepL.mono x2 p.rel _ _ p.rep)
        | true =>
          rw [if_pos rfl] at hf ⊢
          refine ⟨g3, hc, e1, r3, s2.mono x3 r2, ?_⟩
          cases melz : mel e1 hc with
          | stuck => rw [melz] at hf; cases hf
          | exn c p h1 => rw [melz] at hf; cases hf
          | ok y hy =>
            rw [melz] at hf
            cases hf
            intro v H4 g4 r4 x4 q4
            obtain ⟨a4, np4, nf4⟩ := x4.off a3 np3 nf3
            have x14 := x13.trans r1 r3 x4
            refine ⟨acc, a4, hs, ?_⟩
            have u4 := Ext0.upd (bs := acc ++ [v]) a4 nf4
            refine k _ g4 (acc ++ [v]) ⟨r4.updOff a4 np4 nf4, x14.updOff hn, upd_same, np4, nf4, ?_⟩ ?_ (by simp)
            · refine RepL.mono0 u4 r4 _ _ (RepL.append ?_ ⟨q4, True.intro⟩)
              exact RepL.mono x4 r3 _ _ (RepL.mono x3 r2 _ _ (RepL.mono x2 p.rel _ _ p.rep))
            · have x24 := (x3.trans r2 r3 x4).to0 r2
              refine ⟨fun a o e1 n c => ?_, x24.np, x24.fzs, x24.phi⟩
              have ha : a ≠ D0 := fun q => by
                subst q
                rw [a2] at e1; cases e1
                rcases c with c | ⟨vs, c⟩ | ⟨ob, xs, c⟩
                · exact nf2 c
                · cases c
                · cases c
              rw [upd_ne ha]
              exact x24.fr a o e1 n c
      | _ => cases hf
/-- a comprehension -/
theorem tLc_of {t : Tg} {G : TG} {mi : Ev → MH → R It} {mc mel : Ev → MH → R D} {m : Bool} {vs : List Nat} {σ : St} {H : Hp} {Q : VK} (hG : TgOk T t G) (hv : tgIn t vs)
    (q : tE T W (fun e h => (mi e h).bind fun w h => lcR m (lcB t mc mel (wipeE e vs)) w h) σ H Q) : tLc (fun σ H R => tI T W mi σ H fun J H' => SzH H' → R J H') G (tT T WF0 mc) (tE T WF0 mel) vs σ H Q := by
  obtain ⟨g, h, e, r, s, o⟩ := q
  refine ⟨g, h, e, r, s, ?_⟩
  have o : Out T g H ((mi e h).bind fun w h => lcR m (lcB t mc mel (wipeE e vs)) w h) Q (fun c d H' => W c d σ H') := o
  revert o
  cases mi e h with
  | stuck => exact fun o => o
  | exn c p h1 => exact fun o => o
  | ok w h1 =>
    cases w with
    | its xs =>
      intro o H1 g1 r1 x1 J C wk hC sz D0 hD
      have s1 := s.mono x1 r
      have o : Out T g H (match lcL (lcB t mc mel (wipeE e vs)) xs h1 with
        | .ok ys h => mk m ys h
        | _ => .stuck) Q (fun c d H' => W c d σ H') := o
      generalize hys : lcL (lcB t mc mel (wipeE e vs)) xs h1 = rr at o
      cases rr with
      | stuck => exact o.elim
      | exn c p h2 => exact o.elim
      | ok ys hz =>
        have o := o.ext x1 r r1
        refine ⟨fun i n H => ∃ g' h' acc done zs, Lp T g1 H1 D0 g' H h' acc done ∧ C g' H ∧ i ≤ xs.length ∧ acc.length ≤ i ∧ n = xs.length - i ∧ lcL (lcB t mc mel (wipeE e vs)) (xs.drop i) h' = .ok zs hz ∧ ys = done ++ zs,
          ⟨xs.length, g1, h1, [], [], ys, Lp.start r1 hD, ?_, Nat.zero_le _, Nat.le_refl _, rfl, by simpa using hys, rfl⟩, ?_⟩
        · refine wk.mono _ _ _ _ h1 hC r1 ⟨fun a u e n c => ?_, fun _ _ _ _ n => n, fun _ z => z, [], by simp⟩
          rw [upd_ne (ne_of_none e hD)]; exact e
        · rintro i n H5 ⟨g', h', acc, done, zs, p, c5, hi, hl, hm, hz5, hy5⟩
          by_cases hlt : i < xs.length
          · refine .inr ⟨wk.go i g' H5 h' c5 p.rel hlt, fun H6 => ∃ g' h' acc done zs, Lp T g1 H1 D0 g' H6 h' acc done ∧ C g' H6 ∧ i + 1 ≤ xs.length ∧ acc.length ≤ i + 1 ∧ lcL (lcB t mc mel (wipeE e vs)) (xs.drop (i + 1)) h' = .ok zs hz ∧ ys = done ++ zs,
              fun H6 ⟨g', h', acc, done, zs, a1, a2, a3, a4, a5, a6⟩ => ⟨xs.length - (i + 1), by omega, g', h', acc, done, zs, a1, a2, a3, a4, rfl, a5, a6⟩, fun x H' y => ?_⟩
            obtain ⟨d, g2, ed, r2, x2, q2⟩ := wk.yld i g' H5 h' x H' c5 p.rel y hlt
            have hdr : xs.drop i = d :: xs.drop (i + 1) := by
              have := List.getElem?_eq_some_iff.mp ed
              obtain ⟨hl', e'⟩ := this
              rw [← e']
              exact List.drop_eq_getElem_cons hl'
            rw [hdr] at hz5
            have hz5 : (match lcB t mc mel (wipeE e vs) d h' with
              | .ok none h1 => lcL (lcB t mc mel (wipeE e vs)) (xs.drop (i + 1)) h1
              | .ok (some x) h1 => (match lcL (lcB t mc mel (wipeE e vs)) (xs.drop (i + 1)) h1 with
                | .ok xs h2 => .ok (x :: xs) h2
                | _ => .stuck)
              | _ => .stuck) = .ok zs hz := hz5
            have hsz := wk.len g1 H1 hC sz
            cases ht : lcB t mc mel (wipeE e vs) d h' with
            | stuck => rw [ht] at hz5; cases hz5
            | exn c q h2 => rw [ht] at hz5; cases hz5
            | ok o5 hx =>
              refine Lp.turn hG hv r1 s1 hD p r2 x2 q2 ht (by omega) fun H6 g6 acc6 p6 x6 l6 => ?_
              rw [ht] at hz5
              have c6 := wk.mono _ _ _ _ h' (wk.mono _ _ _ _ h' c5 p.rel (x2.to0 p.rel)) r2 x6
              cases o5 with
              | none => exact ⟨g6, hx, acc6, _, zs, p6, c6, hlt, by rw [l6]; simp; omega, hz5, by rw [hy5]; simp⟩
              | some y6 =>
                have hz5 : (match lcL (lcB t mc mel (wipeE e vs)) (xs.drop (i + 1)) hx with
                  | .ok xs h2 => .ok (y6 :: xs) h2
                  | _ => .stuck) = R.ok zs hz := hz5
                cases hr : lcL (lcB t mc mel (wipeE e vs)) (xs.drop (i + 1)) hx with
                | stuck => rw [hr] at hz5; cases hz5
                | exn c q h2 => rw [hr] at hz5; cases hz5
                | ok zs2 h2 =>
                  rw [hr] at hz5
                  cases hz5
                  exact ⟨g6, hx, acc6, _, zs2, p6, c6, hlt, by rw [l6]; simp; omega, hr, by rw [hy5]; simp⟩
          · have e : i = xs.length := by omega
            subst e
            rw [List.drop_length] at hz5
            cases hz5
            rw [List.append_nil] at hy5
            subst hy5
            exact .inl ⟨wk.stop g' H5 _ c5 p.rel, p.done (hz := hz) r1 hD o⟩
    | hp n en =>
      intro o H1 g1 r1 x1 a ha sz D0 hD
      have s1 := s.mono x1 r
      have o : Out T g H (match lcH (lcB t mc mel (wipeE e vs)) n en (lenH h1 n) 0 h1 with
        | .ok ys h => mk m ys h
        | _ => .stuck) Q (fun c d H' => W c d σ H') := o
      generalize hys : lcH (lcB t mc mel (wipeE e vs)) n en (lenH h1 n) 0 h1 = rr at o
      cases rr with
      | stuck => exact o.elim
      | exn c p h2 => exact o.elim
      | ok ys hz =>
        have o := o.ext x1 r r1
        have hsz : lenH h1 n ≤ sizeLine := by
          unfold lenH
          cases z : h1[n]? with
          | none => exact Nat.zero_le _
          | some ob =>
            cases ob with
            | lst ds =>
              obtain ⟨vs, q1, q2⟩ := r1.obj n _ a z ha
              show ds.length ≤ _
              rw [q2.length]
              exact sz.lst a vs q1
            | _ => exact Nat.zero_le _
        refine ⟨fun i k H => ∃ g' h' acc done zs, Lp T g1 H1 D0 g' H h' acc done ∧ i + k = lenH h1 n ∧ acc.length ≤ i ∧ lcH (lcB t mc mel (wipeE e vs)) n en k i h' = .ok zs hz ∧ ys = done ++ zs,
          ⟨lenH h1 n, g1, h1, [], [], ys, Lp.start r1 hD, Nat.zero_add _, Nat.le_refl _, hys, rfl⟩, ?_⟩
        rintro i k H5 ⟨g', h', acc, done, zs, p, hik, hl, hz5, hy5⟩
        have ha' : g'.phi[n]? = some a := by
          obtain ⟨t, e1, _⟩ := p.ext.phi
          rw [e1, List.getElem?_append_left (List.getElem?_eq_some_iff.mp ha).1]
          exact ha
        cases k with
        | zero =>
          have hz5 : (match h'[n]? with
            | some (.lst xs) => if xs.length ≤ i then .ok [] h' else .stuck
            | _ => .stuck) = R.ok zs hz := hz5
          cases z : h'[n]? with
          | none => rw [z] at hz5; cases hz5
          | some ob =>
            rw [z] at hz5
            cases ob with
            | lst ds =>
              have hz5 : (if ds.length ≤ i then R.ok [] h' else .stuck) = R.ok zs hz := hz5
              by_cases hc : ds.length ≤ i
              · rw [if_pos hc] at hz5
                cases hz5
                rw [List.append_nil] at hy5
                subst hy5
                obtain ⟨vs5, q1, q2⟩ := p.rel.obj n _ a z ha'
                exact .inl ⟨hp_stop p.rel z ha' hc, p.done (hz := hz) r1 hD o⟩
              · rw [if_neg hc] at hz5; cases hz5
            | _ => cases hz5
        | succ k =>
          have hz5 : (match h'[n]? with
            | some (.lst xs) => (match xs[i]? with
              | none => .ok [] h'
              | some d => (match lcB t mc mel (wipeE e vs) (wrapI en i d) h' with
                | .ok none h1 => lcH (lcB t mc mel (wipeE e vs)) n en k (i + 1) h1
                | .ok (some x) h1 => (match lcH (lcB t mc mel (wipeE e vs)) n en k (i + 1) h1 with
                  | .ok xs h2 => .ok (x :: xs) h2
                  | _ => .stuck)
                | _ => .stuck))
            | _ => .stuck) = R.ok zs hz := hz5
          cases z : h'[n]? with
          | none => rw [z] at hz5; cases hz5
          | some ob =>
            rw [z] at hz5
            cases ob with
            | lst ds =>
              obtain ⟨vs5, q1, q2⟩ := p.rel.obj n _ a z ha'
              cases hd : ds[i]? with
              | none =>
                have hz5 : (match ds[i]? with
                  | none => R.ok [] h'
                  | some d => (match lcB t mc mel (wipeE e vs) (wrapI en i d) h' with
                    | .ok none h1 => lcH (lcB t mc mel (wipeE e vs)) n en k (i + 1) h1
                    | .ok (some x) h1 => (match lcH (lcB t mc mel (wipeE e vs)) n en k (i + 1) h1 with
                      | .ok xs h2 => .ok (x :: xs) h2
                      | _ => .stuck)
                    | _ => .stuck)) = R.ok zs hz := hz5
                rw [hd] at hz5
                cases hz5
                rw [List.append_nil] at hy5
                subst hy5
                exact .inl ⟨hp_stop p.rel z ha' (List.getElem?_eq_none_iff.mp hd), p.done (hz := hz) r1 hD o⟩
              | some d =>
                have hz5 : (match ds[i]? with
                  | none => R.ok [] h'
                  | some d => (match lcB t mc mel (wipeE e vs) (wrapI en i d) h' with
                    | .ok none h1 => lcH (lcB t mc mel (wipeE e vs)) n en k (i + 1) h1
                    | .ok (some x) h1 => (match lcH (lcB t mc mel (wipeE e vs)) n en k (i + 1) h1 with
                      | .ok xs h2 => .ok (x :: xs) h2
                      | _ => .stuck)
                    | _ => .stuck)) = R.ok zs hz := hz5
                rw [hd] at hz5
                have hz5 : (match lcB t mc mel (wipeE e vs) (wrapI en i d) h' with
                    | .ok none h1 => lcH (lcB t mc mel (wipeE e vs)) n en k (i + 1) h1
                    | .ok (some x) h1 => (match lcH (lcB t mc mel (wipeE e vs)) n en k (i + 1) h1 with
                      | .ok xs h2 => .ok (x :: xs) h2
                      | _ => .stuck)
                    | _ => .stuck) = R.ok zs hz := hz5
                obtain ⟨v5, ev5, rv5⟩ := q2.get hd
                refine .inr ⟨hp_go p.rel z ha' (List.getElem?_eq_some_iff.mp hd).1, fun H6 => ∃ g' h' acc done zs, Lp T g1 H1 D0 g' H6 h' acc done ∧ i + 1 + k = lenH h1 n ∧ acc.length ≤ i + 1 ∧ lcH (lcB t mc mel (wipeE e vs)) n en k (i + 1) h' = .ok zs hz ∧ ys = done ++ zs,
                  fun H6 q => ⟨k, Nat.lt_succ_self _, q⟩, fun x H' y => ?_⟩
                obtain ⟨g2, r2, x2, qd2⟩ := hp_yld p.rel z ha' hd y
                cases ht : lcB t mc mel (wipeE e vs) (wrapI en i d) h' with
                | stuck => rw [ht] at hz5; cases hz5
                | exn c q h2 => rw [ht] at hz5; cases hz5
                | ok o5 hx =>
                  refine Lp.turn hG hv r1 s1 hD p r2 x2 qd2 ht (by omega) fun H6 g6 acc6 p6 x6 l6 => ?_
                  rw [ht] at hz5
                  cases o5 with
                  | none => exact ⟨g6, hx, acc6, _, zs, p6, by omega, by rw [l6]; simp; omega, hz5, by rw [hy5]; simp⟩
                  | some y6 =>
                    have hz5 : (match lcH (lcB t mc mel (wipeE e vs)) n en k (i + 1) hx with
                      | .ok xs h2 => .ok (y6 :: xs) h2
                      | _ => .stuck) = R.ok zs hz := hz5
                    cases hr : lcH (lcB t mc mel (wipeE e vs)) n en k (i + 1) hx with
                    | stuck => rw [hr] at hz5; cases hz5
                    | exn c q h2 => rw [hr] at hz5; cases hz5
                    | ok zs2 h2 =>
                      rw [hr] at hz5
                      cases hz5
                      exact ⟨g6, hx, acc6, _, zs2, p6, by omega, by rw [l6]; simp; omega, hr, by rw [hy5]; simp⟩
            | _ => cases hz5
end
end Mi
namespace Mi
open PySem PySem.Spec PyProof.Rows L2
section
variable {T : Tx} {X : Cx} {W : WX}
/-! ### a op b op c -/
theorem tChain_of {ma mb mc : Ev → MH → R D} {m1 m2 : D → D → MH → R D} {σ : St} {H : Hp} {Q : VK} (hm1 : ∀ a b h c p h1, m1 a b h ≠ .exn c p h1)
    (q : tE T W (fun e h => (ma e h).bind fun x h => (mb e h).bind fun y h => (m1 x y h).bind fun k h => match k with
      | .bl k => if k = true then (mc e h).bind fun z h => m2 y z h else .ok (.bl false) h
      | _ => .stuck) σ H Q) : tChain (R2m T (fun c d H' => W c d σ H') m1) (R2m T (fun c d H' => W c d σ H') m2) (tE T W ma) (tE T W mb) (tE T W mc) σ H Q := by
  obtain ⟨g, h, ev, r, s, o⟩ := q
  refine tE.bind (f := fun x e h => (mb e h).bind fun y h => (m1 x y h).bind fun k h => match k with
      | .bl k => if k = true then (mc e h).bind fun z h => m2 y z h else .ok (.bl false) h
      | _ => .stuck) r s o fun a x h1 H1 g1 _ r1 s1 qa x1 o1 => ?_
  refine tE.bind (f := fun y e h => (m1 a y h).bind fun k h => match k with
      | .bl k => if k = true then (mc e h).bind fun z h => m2 y z h else .ok (.bl false) h
      | _ => .stuck) r1 s1 o1 fun b y h2 H2 g2 _ r2 s2 qb x2 o2 => ?_
  intro _
  refine ⟨g2, h2, a, b, r2, qa.mono x2 r1, qb, ?_⟩
  have n := hm1 a b h2
  revert o2 n
  cases m1 a b h2 with
  | stuck => exact fun o _ => o
  | exn c p h3 => exact fun _ n => absurd rfl (n c p h3)
  | ok k h3 =>
    intro o2 _ z H3 g3 r3 x3 q3
    cases k with
    | bl k =>
      refine ⟨k, q3, ?_⟩
      have o3 : Out T g3 H3 (if k = true then (mc ev h3).bind fun z h => m2 b z h else .ok (.bl false) h3) Q (fun c d H' => W c d σ H') := Out.ext x3 r2 r3 o2
      cases k with
      | false => exact Out.here r3 o3 rfl
      | true =>
        rw [if_pos rfl] at o3 ⊢
        refine tE.bind (f := fun z e h => m2 b z h) r3 (s2.mono x3 r2) o3 fun c w h4 H4 g4 _ r4 s4 qc x4 o4 => ?_
        exact fun _ => ⟨g4, h4, b, c, r4, (qb.mono x3 r2).mono x4 r3, qc, o4⟩
    | _ => exact o2.elim
theorem cmpM_ne {o : Co} {a b : D} {h : MH} {c : Nat} {p : Option D} {h1 : MH} : cmpM o a b h ≠ .exn c p h1 := by
  unfold cmpM
  cases cop o a b h <;> exact fun z => nomatch z
def chM (ma mb mc : Ev → MH → R D) (o p : Co) : Ev → MH → R D := fun e h => (ma e h).bind fun x h => (mb e h).bind fun y h => (cmpM o x y h).bind fun k h => match k with
  | .bl k => if k = true then (mc e h).bind fun z h => cmpM p y z h else .ok (.bl false) h
  | _ => .stuck
theorem se_chain {a b c : Expr} {pos : Pos} {ma mb mc : Ev → MH → R D} {o p : Co} (hK : X.K = T.K) (hu : X.A.units + 200 < cLine) (hm : lastMarks [coOf o, coOf p] [b, c] = false) (ha : SE T X W a ma) (hb : SE T X W b mb) (hc : SE T X W c mc) :
    SE T X W (.Compare a [coOf o, coOf p] [b, c] pos) (chM ma mb mc o p) :=
  ⟨fun pins s σ H Q I q => (pe_chain (cop_m hK hu fun c d H' => W c d σ H') (cop_m hK hu fun c d H' => W c d σ H') ha hb hc hm).run pins s σ H Q I (tChain_of (fun _ _ _ _ _ _ => cmpM_ne) q)⟩
theorem st_chain {a b c : Expr} {pos : Pos} {ma mb mc : Ev → MH → R D} {o p : Co} (hK : X.K = T.K) (hu : X.A.units + 200 < cLine) (hm : lastMarks [coOf o, coOf p] [b, c] = false) (ha : SE T X W a ma) (hb : SE T X W b mb) (hc : SE T X W c mc) :
    ST T X W (.Compare a [coOf o, coOf p] [b, c] pos) (chM ma mb mc o p) :=
  ⟨fun pins s σ H Q I q => (pt_chain (cop_m hK hu fun c d H' => W c d σ H') (cop_m hK hu fun c d H' => W c d σ H') ha hb hc hm).run pins s σ H Q I (tChain_of (fun _ _ _ _ _ _ => cmpM_ne) (tT.val q))⟩
/-! ### isinstance(a, T), T a built-in type -/
def tnN : Tn → String
  | .non => "NoneType"
  | .bool => "bool"
  | .int => "int"
  | .str => "str"
  | .tuple => "tuple"
  | .list => "list"
  | .dict => "dict"
def tyN : Ty → String
  | .int => "int"
  | .bool => "bool"
  | .tuple => "tuple"
  | .str => "str"
  | .list => "list"
  | .cls _ => "?"
theorem tnOf_ty {H : Hp} {g : Gr} {h : MH} {d : D} {x : V} {t : Tn} (r : Rel T H g h) (q : RepV T H g d x) (e : tnOf h d = some t) : TyX T.K H x (.type (tnN t)) := by
  cases d with
  | non => cases e; cases (show x = .non from q); exact .base .non
  | bl b => cases e; cases (show x = .bl b from q); exact .base (.bl b)
  | int i => cases e; cases (show x = .int i from q); exact .base (.int i)
  | str y => cases e; cases (show x = .str y from q); exact .base (.str y)
  | tup ds => cases e; obtain ⟨a, vs, rfl, e1, _⟩ := q; exact .base (.tup e1)
  | lst ds => cases e; obtain ⟨a, vs, rfl, _, e1, _⟩ := q; exact .base (.lst e1)
  | dK kvs => cases e; obtain ⟨a, vs, rfl, _, e1, _⟩ := q; exact .base (.dK e1)
  | dT kvs => cases e; obtain ⟨a, vs, rfl, _, e1, _⟩ := q; exact .base (.dT e1)
  | ref n =>
    obtain ⟨a, rfl, e1⟩ := q
    simp only [tnOf] at e
    cases z : h[n]? with
    | none => rw [z] at e; cases e
    | some o =>
      rw [z] at e
      cases o with
      | lst ds => cases e; obtain ⟨vs, q1, _⟩ := r.obj n _ a z e1; exact .base (.lst q1)
      | dK l kvs =>
        cases l with
        | false => cases e; obtain ⟨kk, _, q1⟩ := r.obj n _ a z e1; exact .base (.dK q1)
        | true => cases e
      | dT l kvs =>
        cases l with
        | false => cases e; obtain ⟨kk, _, q1⟩ := r.obj n _ a z e1; exact .base (.dT q1)
        | true => cases e
      | ins _ _ => cases e
  | scr ns => cases e
  | fn f => cases e
theorem kit_tn (t : Tn) (y : Ty) (k : Bool) (e : tnIs t y = some k) : kitB (tnN t) (tyN y) = some k := by
  cases y with
  | cls c => cases t <;> cases e
  | _ => cases t <;> (cases k <;> first | (revert e; decide +kernel))
theorem isM_some {t : Ty} {a : D} {h : MH} {d : D} {h1 : MH} (e : isM t a h = .ok d h1) : ∃ k, isTy h a t = some k ∧ d = .bl k ∧ h1 = h := by
  unfold isM at e
  cases z : isTy h a t with
  | none => rw [z] at e; cases e
  | some k => rw [z] at e; cases e; exact ⟨k, rfl, rfl, rfl⟩
theorem boot_ty (t : Ty) (h : ∀ c, t ≠ .cls c) : bootBuiltins (Str.ofString (tyN t)) = some (.type (tyN t)) := by
  cases t with
  | cls c => exact absurd rfl (h c)
  | _ => decide +kernel
theorem isTy_bi {h : MH} {d : D} {t : Ty} {k : Bool} (ht : ∀ c, t ≠ .cls c) (z : isTy h d t = some k) : ∃ tn, tnOf h d = some tn ∧ tnIs tn t = some k := by
  unfold isTy at z
  cases y : tnOf h d with
  | some tn => rw [y] at z; exact ⟨tn, rfl, z⟩
  | none =>
    rw [y] at z
    cases d with
    | ref n =>
      simp only at z
      cases u : h[n]? with
      | none => rw [u] at z; cases z
      | some ob =>
        rw [u] at z
        cases ob with
        | ins c' fs =>
          cases t with
          | cls c => exact absurd rfl (ht c)
          | _ => cases z
        | _ => cases z
    | _ => cases z
theorem se_isI {a : Expr} {p p2 pos : Pos} {ma : Ev → MH → R D} {t : Ty} (hK : X.K = T.K) (ht : ∀ c, t ≠ .cls c) (hg : Gl X "isinstance") (hm : X.mg "isinstance" = none) (hg2 : Gl X (Str.ofString (tyN t))) (hm2 : X.mg (Str.ofString (tyN t)) = none) (hn : noStar a = true) (ha : SE T X W a ma) :
    SE T X W (.Call (.Name "isinstance" p) [a, .Name (Str.ofString (tyN t)) p2] [] pos) (fun e h => (ma e h).bind fun x h => isM t x h) := by
  have hty : PE X (.Name (Str.ofString (tyN t)) p2) (tC (.ty (tyN t))) := pe_bltn hg2 hm2 (boot_ty t ht) rfl (by cases t <;> first | decide | exact absurd rfl (ht _)) (by cases t <;> first | decide | exact absurd rfl (ht _))
  refine PE.imp (pe_callB call_isi hg hm boot_isinstance (pa_cons ha (pa_cons hty pa_nil rfl) (star_cons hn)) (he := star_cons hn) (hpl := rfl)) fun σ H Q ⟨g, h, ev, r, s, o⟩ => ?_
  refine tE.bind (f := fun x e h => isM t x h) r s o fun d v h1 H1 g1 _ r1 s1 qa x1 o1 => ?_
  unfold isM at o1
  cases z : isTy h1 d t with
  | none => rw [z] at o1; exact o1.elim
  | some k =>
    rw [z] at o1
    obtain ⟨tn, y, z⟩ := isTy_bi ht z
    exact ⟨v, .ty (tyN t), .type (tnN tn), .type (tyN t), k, rfl, .ty _, by rw [hK]; exact tnOf_ty r1 qa y, kit_ty (kit_tn tn t k z), Out.here r1 o1 rfl⟩
/-! ### methods of built-in types -/
def MetM (T : Tx) (X : Cx) (id : String) (m : D → List D → MH → R D) : Prop := ∀ W : XW, MtR X id (fun x xs H Q => SzH H → ∃ g h d ds, Rel T H g h ∧ RepV T H g d x ∧ RepL T H g ds xs ∧ Out T g H (m d ds h) Q W)
theorem MetM.of {id : String} {m : D → List D → MH → R D}
    (k : ∀ (W : XW) (pins : List (Addr × Obj)) (s : Shared) (σ : St) (H : Hp) (x : V) (xs : List V) (v : Value) (us : List Value) (Q : VK) (g : Gr) (h : MH) (d : D) (ds : List D), Inv X pins σ H s → RelV x v → Vals xs us → SzH H → Rel T H g h → RepV T H g d x → RepL T H g ds xs → Out T g H (m d ds h) Q W →
      wpAny (model X.prog X.w) X.A (PySem.call (.builtin id) (v :: us)) (EP X pins σ Q) X.xe s) : MetM T X id m := by
  intro W pins s σ H x xs v us Q I rx rs q
  obtain ⟨g, h, d, ds, r, rd, rds, o⟩ := q (inv_sz I)
  exact k W pins s σ H x xs v us Q g h d ds I rx rs (inv_sz I) r rd rds o
theorem tyV_of {H : Hp} {g : Gr} {h : MH} {d : D} {x : V} {t : Tn} (r : Rel T H g h) (q : RepV T H g d x) (e : tnOf h d = some t) (ht : t = .list ∨ t = .str ∨ t = .dict) : tyV T.K (tnN t) x H := by
  cases d with
  | str y => cases e; cases (show x = .str y from q); rfl
  | lst ds => cases e; obtain ⟨a, vs, rfl, _, e1, _⟩ := q; exact .inl ⟨rfl, vs, SqL.of e1⟩
  | dK kvs => cases e; obtain ⟨a, vs, rfl, _, e1, _⟩ := q; exact .inr (.inr (.inl ⟨rfl, .inl ⟨_, e1⟩⟩))
  | dT kvs => cases e; obtain ⟨a, vs, rfl, _, e1, _⟩ := q; exact .inr (.inr (.inl ⟨rfl, .inr ⟨_, e1⟩⟩))
  | ref n =>
    obtain ⟨a, rfl, e1⟩ := q
    simp only [tnOf] at e
    cases z : h[n]? with
    | none => rw [z] at e; cases e
    | some o =>
      rw [z] at e
      cases o with
      | lst ds => cases e; obtain ⟨vs, q1, _⟩ := r.obj n _ a z e1; exact .inl ⟨rfl, vs, SqL.of q1⟩
      | dK l kvs =>
        cases l with
        | false => cases e; obtain ⟨kk, _, q1⟩ := r.obj n _ a z e1; exact .inr (.inr (.inl ⟨rfl, .inl ⟨_, q1⟩⟩))
        | true => cases e
      | dT l kvs =>
        cases l with
        | false => cases e; obtain ⟨kk, _, q1⟩ := r.obj n _ a z e1; exact .inr (.inr (.inl ⟨rfl, .inr ⟨_, q1⟩⟩))
        | true => cases e
      | ins _ _ => cases e
  | non => cases e; rcases ht with ht | ht | ht <;> cases ht
  | bl b => cases e; rcases ht with ht | ht | ht <;> cases ht
  | int i => cases e; rcases ht with ht | ht | ht <;> cases ht
  | tup ds => cases e; rcases ht with ht | ht | ht <;> cases ht
  | scr ns => cases e
  | fn f => cases e
theorem se_met {o e : Expr} {es : List Expr} {name : Str} {id : String} {apos cpos : Pos} {mo : Ev → MH → R D} {ma : Ev → MH → R (List D)} {t : Tn} {m : D → List D → MH → R D} (hK : X.K = T.K) (ht : t = .list ∨ t = .str ∨ t = .dict) (pa : PlainAttrs (tnN t)) (slot : Slot (tnN t) name id)
    (hty : typeOf (.builtin id) = pure (.type "method_descriptor")) (hm : MetM T X id m) (ho : SE T X W o mo) (hst : (e :: es).all noStar = true) (ha : SA T X W (e :: es) ma) (hbase : attributeBase o name X.env (eval o X.env) = eval o X.env)
    (hfew : (e :: es).length < 25) (hline : (apos.endLine == cpos.line) = true) :
    SE T X W (.Call (.Attribute o name apos) (e :: es) [] cpos) (fun ev h => (mo ev h).bind fun x h => if tnOf h x = some t then (ma ev h).bind fun ds h => m x ds h else .stuck) := by
  have hst' := hst
  simp only [List.all_cons, Bool.and_eq_true] at hst'
  have hs := star_cons (es := es) (env := X.env) hst'.1
  have hp : (backTo cpos (starEach es X.env)).any (·.1) = false := star_none hst'.2
  have hp2 : (backTo cpos (starEach (e :: es) X.env)).any (·.1) = false := star_none hst
  have hall : (backTo cpos (starEach (e :: es) X.env)).all (fun x => !x.1) = true := by
    rw [List.all_eq_true]
    intro x hx
    rw [List.any_eq_false] at hp2
    have := hp2 x hx
    simpa using this
  have hf : ((backTo cpos (starEach (e :: es) X.env)).all (fun x => !x.1) && (backToKw cpos (keywordEach [] X.env)).all (fun x => x.1.isSome)
      && decide ((e :: es).length + ([] : List Keyword).length + (if ([] : List Keyword).isEmpty then 0 else 1) < 30)) = true := by
    rw [hall]
    show (true && true && _) = true
    simp only [Bool.and_true, Bool.true_and, decide_eq_true_eq]
    show (e :: es).length + 0 + 0 < 30
    omega
  refine ⟨fun pins s σ H Q I q => ?_⟩
  refine (pe_bm pa slot hty (hm fun c d H' => W c d σ H') ho ha hbase hf hline hs hp).run pins s σ H Q I ?_
  obtain ⟨g, h, ev, r, s, o⟩ := q
  refine tE.bind (f := fun x ev h => if tnOf h x = some t then (ma ev h).bind fun ds h => m x ds h else .stuck) r s o fun d v h1 H1 g1 _ r1 s1 qd x1 o1 => ?_
  by_cases c : tnOf h1 d = some t
  · rw [if_pos c] at o1
    refine ⟨by rw [hK]; exact tyV_of r1 qd c ht, ?_⟩
    refine tA.bind (f := fun ds ev h => m d ds h) r1 s1 o1 fun ds xs h2 H2 g2 _ r2 _ q2 x2 o2 => ?_
    exact fun _ => ⟨g2, h2, d, ds, r2, qd.mono x2 r1, q2, o2⟩
  · rw [if_neg c] at o1; exact o1.elim
end
end Mi
namespace Mi
open PySem PySem.Spec PyProof.Rows L2
section
variable {T : Tx} {X : Cx} {W : WX} {H H1 : Hp} {g g1 : Gr} {h h1 : MH}
/-! ### an object of the mini heap changes -/
theorem Ext.write {n : Nat} {a : Addr} {o : HO} (e : g.phi[n]? = some a) : Ext g H g (upd H a o) :=
  ⟨fun b u e1 nb => by rw [upd_ne (fun z : b = a => nb (by rw [z]; exact List.mem_of_getElem? e))]; exact e1, fun _ z => z, ⟨[], by simp, fun _ z => nomatch z⟩, fun _ z => .inl z⟩
theorem Rel.write {n : Nat} {a : Addr} {o : HO} {ob : MO} (r : Rel T H g h) (e : g.phi[n]? = some a) (q : RepO T (upd H a o) g ob a) : Rel T (upd H a o) g (h.set n ob) := by
  refine ⟨by rw [List.length_set]; exact r.len, r.nd, r.dis, fun b z => ?_, fun i u b e1 e2 => ?_⟩
  · by_cases hb : b = a
    · exact ⟨o, by rw [hb]; exact upd_same⟩
    · obtain ⟨u, q⟩ := r.trk b z
      exact ⟨u, by rw [upd_ne hb]; exact q⟩
  · by_cases hi : n = i
    · subst hi
      rw [e] at e2; cases e2
      have hl : n < h.length := by rw [← r.len]; exact (List.getElem?_eq_some_iff.mp e).1
      rw [List.getElem?_set_self hl] at e1
      cases e1
      exact q
    · rw [List.getElem?_set_ne hi] at e1
      have hb : b ≠ a := fun z => by
        subst z
        obtain ⟨l1, e1'⟩ := List.getElem?_eq_some_iff.mp e
        obtain ⟨l2, e2'⟩ := List.getElem?_eq_some_iff.mp e2
        exact hi ((List.getElem_inj r.nd).mp (e1'.trans e2'.symm))
      exact RepO.mono (Ext.write e) r (fun u q => by rw [upd_ne hb]; exact q) (r.obj i u b e1 e2)
theorem Rel.lst_at {n : Nat} {ds : List D} (r : Rel T H g h) (e : h[n]? = some (.lst ds)) {a : Addr} (ea : g.phi[n]? = some a) : ∃ vs, H a = some (.lst vs) ∧ RepL T H g ds vs := r.obj n _ a e ea
theorem big_lt {n : Nat} (h : n < big) : n < sizeLine := by
  rw [sizeLine_eq]; unfold big at h; omega
theorem app_m : MetM T X "list.append" (metD .append) := by
  refine MetM.of fun W pins s σ H x xs v us Q g h d ds I rx rs sz r rd rds o => ?_
  match ds, xs, rds, o with
  | [a], [y], rds, o =>
    cases d with
    | ref n =>
      obtain ⟨p, rfl, ep⟩ := rd
      have o : Out T g H (match h[n]? with
        | some (.lst xs) => if xs.length < big then .ok .non (h.set n (.lst (xs ++ [a]))) else .stuck
        | _ => .stuck) Q W := o
      cases z : h[n]? with
      | none => rw [z] at o; exact o.elim
      | some ob =>
        rw [z] at o
        cases ob with
        | lst es =>
          have o : Out T g H (if es.length < big then .ok .non (h.set n (.lst (es ++ [a]))) else .stuck) Q W := o
          by_cases c : es.length < big
          · rw [if_pos c] at o
            obtain ⟨vs, e1, q1⟩ := r.lst_at z ep
            refine mt_append pins s σ H _ _ v us Q I rx rs ⟨p, vs, y, rfl, rfl, e1, by rw [← q1.length]; exact big_lt c, ?_⟩
            refine o .non _ g (r.write ep ⟨_, upd_same, ?_⟩) (Ext.write ep) rfl
            exact RepL.append (RepL.mono (Ext.write ep) r _ _ q1) ⟨rds.1.mono (Ext.write ep) r, True.intro⟩
          · rw [if_neg c] at o; exact o.elim
        | _ => exact o.elim
    | _ => exact o.elim
theorem ext_m : MetM T X "list.extend" (metD .extend) := by
  refine MetM.of fun W pins s σ H x xs v us Q g h d ds I rx rs sz r rd rds o => ?_
  match ds, xs, rds, o with
  | [a], [y], rds, o =>
    cases d with
    | ref n =>
      obtain ⟨p, rfl, ep⟩ := rd
      have o : Out T g H (match h[n]? with
        | some (.lst xs) => (match lits h a with
          | some ys => if xs.length + ys.length ≤ big then .ok .non (h.set n (.lst (xs ++ ys))) else .stuck
          | none => .stuck)
        | _ => .stuck) Q W := o
      cases z : h[n]? with
      | none => rw [z] at o; exact o.elim
      | some ob =>
        rw [z] at o
        cases ob with
        | lst es =>
          have o : Out T g H (match lits h a with
            | some ys => if es.length + ys.length ≤ big then .ok .non (h.set n (.lst (es ++ ys))) else .stuck
            | none => .stuck) Q W := o
          cases y2 : lits h a with
          | none => rw [y2] at o; exact o.elim
          | some ys =>
            rw [y2] at o
            have o : Out T g H (if es.length + ys.length ≤ big then .ok .non (h.set n (.lst (es ++ ys))) else .stuck) Q W := o
            by_cases c : es.length + ys.length ≤ big
            · rw [if_pos c] at o
              obtain ⟨vs, e1, q1⟩ := r.lst_at z ep
              obtain ⟨b, us2, rfl, e2, q2⟩ := lits_at r rds.1 y2
              refine mt_extend pins s σ H _ _ v us Q I rx rs ⟨p, b, vs, us2, rfl, rfl, e1, e2, by rw [← q1.length, ← q2.length]; exact big_size c, ?_⟩
              refine o .non _ g (r.write ep ⟨_, upd_same, ?_⟩) (Ext.write ep) rfl
              exact RepL.append (RepL.mono (Ext.write ep) r _ _ q1) (RepL.mono (Ext.write ep) r _ _ q2)
            · rw [if_neg c] at o; exact o.elim
        | _ => exact o.elim
    | _ => exact o.elim
end
end Mi
namespace Mi
open PySem PySem.Spec PyProof.Rows L2
/-! ### statements -/
def OutS (T : Tx) (g : Gr) (H : Hp) (r : Fl) (D0 : Ends) (W : WX) : Prop := match r with
  | .nx e1 h1 => ∀ σ1 H1 g1, Rel T H1 g1 h1 → Ext g H g1 H1 → RepS T H1 g1 e1 σ1 → D0.nx σ1 H1
  | .brk e1 h1 => ∀ σ1 H1 g1, Rel T H1 g1 h1 → Ext g H g1 H1 → RepS T H1 g1 e1 σ1 → D0.bk σ1 H1
  | .cnt e1 h1 => ∀ σ1 H1 g1, Rel T H1 g1 h1 → Ext g H g1 H1 → RepS T H1 g1 e1 σ1 → D0.ct σ1 H1
  | .ret d h1 => ∀ v H1 g1, Rel T H1 g1 h1 → Ext g H g1 H1 → RepV T H1 g1 d v → D0.rt v H1
  | .exn c p h1 => ∀ σ1 dx H1 g1, Rel T H1 g1 h1 → Ext g H g1 H1 → RepX T H1 g1 p dx → W (.ref (T.xa c)) dx σ1 H1
  | .stuck => False
def tS (T : Tx) (W : WX) (m : Ev → MH → Fl) : TS := fun D0 σ H => ∃ g h e, Rel T H g h ∧ RepS T H g e σ ∧ OutS T g H (m e h) D0 W
abbrev S1 (T : Tx) (X : Cx) (W : WX) (st : Stmt) (m : Ev → MH → Fl) : Prop := PS X st (tS T W m)
abbrev SS (T : Tx) (X : Cx) (W : WX) (st : List Stmt) (m : Ev → MH → Fl) : Prop := PSs X st (tS T W m)
theorem PS.imp {X : Cx} {e : Stmt} {t t' : TS} (h : PS X e t) (k : ∀ D0 σ H, t' D0 σ H → t D0 σ H) : PS X e t' := ⟨fun pins s σ H D0 I q => h.run pins s σ H D0 I (k D0 σ H q)⟩
theorem PSs.imp {X : Cx} {e : List Stmt} {t t' : TS} (h : PSs X e t) (k : ∀ D0 σ H, t' D0 σ H → t D0 σ H) : PSs X e t' := ⟨fun pins s σ H D0 I q => h.run pins s σ H D0 I (k D0 σ H q)⟩
section
variable {T : Tx} {X : Cx} {W : WX} {H H1 H2 : Hp} {g g1 g2 : Gr} {h h1 : MH}
theorem OutS.ext {r : Fl} {D0 : Ends} (x : Ext g H g1 H1) (rl : Rel T H g h) (rl1 : Rel T H1 g1 h1) (o : OutS T g H r D0 W) : OutS T g1 H1 r D0 W := by
  cases r with
  | nx e1 h2 => exact fun σ1 H2 g2 a b c => o σ1 H2 g2 a (x.trans rl rl1 b) c
  | brk e1 h2 => exact fun σ1 H2 g2 a b c => o σ1 H2 g2 a (x.trans rl rl1 b) c
  | cnt e1 h2 => exact fun σ1 H2 g2 a b c => o σ1 H2 g2 a (x.trans rl rl1 b) c
  | ret d h2 => exact fun v H2 g2 a b c => o v H2 g2 a (x.trans rl rl1 b) c
  | exn c p h2 => exact fun σ1 dx H2 g2 a b e => o σ1 dx H2 g2 a (x.trans rl rl1 b) e
  | stuck => exact o
theorem OutS.nx {e1 : Ev} {σ : St} {D0 : Ends} (r : Rel T H g h) (s : RepS T H g e1 σ) (o : OutS T g H (.nx e1 h) D0 W) : D0.nx σ H := o σ H g r (.refl _ _) s
theorem tE.bindS {m : Ev → MH → R D} {f : D → Ev → MH → Fl} {σ : St} {e : Ev} {D0 : Ends} {Q' : VK} (r : Rel T H g h) (s : RepS T H g e σ) (o : OutS T g H (evS (m e h) fun d h => f d e h) D0 W)
    (k : ∀ d v h1 H1 g1, m e h = .ok d h1 → Rel T H1 g1 h1 → RepS T H1 g1 e σ → RepV T H1 g1 d v → Ext g H g1 H1 → OutS T g1 H1 (f d e h1) D0 W → Q' v H1) : tE T W m σ H Q' := by
  refine ⟨g, h, e, r, s, ?_⟩
  revert k o
  cases m e h with
  | ok d h1 => exact fun o k v H1 g1 a b c => k d v h1 H1 g1 rfl a (s.mono b r) c b (o.ext b r a)
  | exn c p h1 => exact fun o _ dx H1 g1 a b e => o σ dx H1 g1 a b e
  | stuck => exact fun o _ => o
theorem tA.bindS {m : Ev → MH → R (List D)} {f : List D → Ev → MH → Fl} {σ : St} {e : Ev} {D0 : Ends} {Q' : List V → Hp → Prop} (r : Rel T H g h) (s : RepS T H g e σ) (o : OutS T g H (evS (m e h) fun d h => f d e h) D0 W)
    (k : ∀ d v h1 H1 g1, m e h = .ok d h1 → Rel T H1 g1 h1 → RepS T H1 g1 e σ → RepL T H1 g1 d v → Ext g H g1 H1 → OutS T g1 H1 (f d e h1) D0 W → Q' v H1) : tA T W m σ H Q' := by
  refine ⟨g, h, e, r, s, ?_⟩
  revert k o
  cases m e h with
  | ok d h1 => exact fun o k v H1 g1 a b c => k d v h1 H1 g1 rfl a (s.mono b r) c b (o.ext b r a)
  | exn c p h1 => exact fun o _ dx H1 g1 a b e => o σ dx H1 g1 a b e
  | stuck => exact fun o _ => o
theorem ss_nil : SS T X W [] (fun e h => .nx e h) := PSs.imp pss_nil fun D0 σ H ⟨g, h, e, r, s, o⟩ => OutS.nx r s o
def seqM (ma mb : Ev → MH → Fl) : Ev → MH → Fl := fun e h => match ma e h with
  | .nx e1 h1 => mb e1 h1
  | r => r
theorem ss_cons {st : Stmt} {rest : List Stmt} {ma mb : Ev → MH → Fl} (ha : S1 T X W st ma) (hb : SS T X W rest mb) : SS T X W (st :: rest) (seqM ma mb) := by
  refine PSs.imp (pss_cons ha hb) fun D0 σ H ⟨g, h, e, r, s, o⟩ => ⟨g, h, e, r, s, ?_⟩
  have o : OutS T g H (match ma e h with
    | .nx e1 h1 => mb e1 h1
    | r => r) D0 W := o
  revert o
  cases ma e h with
  | nx e1 h1 => exact fun o σ1 H1 g1 a b c => ⟨g1, h1, e1, a, c, OutS.ext b r a o⟩
  | brk e1 h1 => exact fun o => o
  | cnt e1 h1 => exact fun o => o
  | ret d h1 => exact fun o => o
  | exn c p h1 => exact fun o => o
  | stuck => exact fun o => o
theorem ss_one {st : Stmt} {ma : Ev → MH → Fl} (ha : S1 T X W st ma) : SS T X W [st] ma := pss_one ha
theorem s1_pass {pos : Pos} : S1 T X W (.Pass pos) (fun e h => .nx e h) := PS.imp ps_pass fun D0 σ H ⟨g, h, e, r, s, o⟩ => OutS.nx r s o
theorem s1_brk {pos : Pos} : S1 T X W (.Break pos) (fun e h => .brk e h) := PS.imp ps_break fun D0 σ H ⟨g, h, e, r, s, o⟩ => o σ H g r (.refl _ _) s
theorem s1_cnt {pos : Pos} : S1 T X W (.Continue pos) (fun e h => .cnt e h) := PS.imp ps_continue fun D0 σ H ⟨g, h, e, r, s, o⟩ => o σ H g r (.refl _ _) s
theorem s1_expr {x : Expr} {pos : Pos} {ma : Ev → MH → R D} (ha : SE T X W x ma) (hs : swapsWith x none pos.line X.env = pure false) : S1 T X W (.Expr x pos) (fun e h => evS (ma e h) fun _ h => .nx e h) :=
  PS.imp (ps_expr ha hs) fun D0 σ H ⟨g, h, e, r, s, o⟩ => tE.bindS (f := fun _ e h => .nx e h) r s o fun d v h1 H1 g1 _ r1 s1 q1 x1 o1 => OutS.nx r1 s1 o1
theorem s1_ret {x : Expr} {pos : Pos} {ma : Ev → MH → R D} (ha : SE T X W x ma) : S1 T X W (.Return (some x) pos) (fun e h => evS (ma e h) fun d h => .ret d h) :=
  PS.imp (ps_ret ha) fun D0 σ H ⟨g, h, e, r, s, o⟩ => tE.bindS (f := fun d e h => .ret d h) r s o fun d v h1 H1 g1 _ r1 s1 q1 x1 o1 => o1 v H1 g1 r1 (.refl _ _) q1
theorem s1_retN {pos : Pos} : S1 T X W (.Return none pos) (fun e h => .ret .non h) := PS.imp ps_retN fun D0 σ H ⟨g, h, e, r, s, o⟩ => o .non H g r (.refl _ _) rfl
/-- what is stored -/
theorem tAsg_of {t : Tg} {G : TG} {ma : Ev → MH → R D} {D0 : Ends} {σ : St} {H : Hp} (hG : TgOk T t G) (q : tS T W (fun e h => evS (ma e h) fun d h => setM t d e h) D0 σ H) : tAsg (tE T W ma) G D0 σ H := by
  obtain ⟨g, h, e, r, s, o⟩ := q
  refine tE.bindS (f := fun d e h => setM t d e h) r s o fun d v h1 H1 g1 _ r1 s1 q1 x1 o1 => ?_
  unfold setM at o1
  cases z : setT t d e with
  | none => rw [z] at o1; exact o1.elim
  | some e1 =>
    rw [z] at o1
    exact hG.run σ H1 g1 e e1 d v h1 _ r1 s1 q1 z fun σ1 s2 _ => OutS.nx r1 s2 o1
theorem s1_set {i : Nat} {x : Str} {a : Expr} {pos pos' : Pos} {ma : Ev → MH → R D} (hN : X.N.Nodup) (hi : X.N[i]? = some x) (hx : Loc X.env.scope x) (hf : X.fn x = true ∨ X.env.scope.names.lookup x = some .local) (ha : SE T X W a ma) (hs : swapsWith a (some (.Name x pos')) pos.line X.env = pure false) :
    S1 T X W (.Assign [.Name x pos'] a pos) (fun e h => evS (ma e h) fun d h => setM (.nm i) d e h) := PS.imp (ps_set hN hi hx ha hs hf) fun D0 σ H q => tAsg_of (TgOk.nm i) q
theorem s1_asg {t : Tg} {G : TG} {tg a : Expr} {pos : Pos} {ma : Ev → MH → R D} (hG : TgOk T t G) (hg : PG X tg G) (ha : SE T X W a ma) (hs : swapsWithSole [tg] a pos.line X.env = pure false) (hw : swappedStores [tg] a X.env = pure none)
    (h1 : (assignEach [tg] X.env).map (·.2) = [assign tg X.env]) : S1 T X W (.Assign [tg] a pos) (fun e h => evS (ma e h) fun d h => setM t d e h) := PS.imp (ps_asg ha hg hs hw h1) fun D0 σ H q => tAsg_of hG q
theorem s1_par {i j : Nat} {x y : Str} {a b : Expr} {ma : Ev → MH → R (List D)} {px py pt pos : Pos} {kt k2 : Nat} {pt2 : Pos} (hc : X.calm = true) (hN : X.N.Nodup) (hi : X.N[i]? = some x) (hj : X.N[j]? = some y) (hij : i ≠ j)
    (hx : X.env.scope.names.lookup x = some .local) (hy : X.env.scope.names.lookup y = some .local) (ha : SA T X W [a, b] ma)
    (hw : swappedStores [.Tuple [.Name x px, .Name y py] kt pt] (.Tuple [a, b] k2 pt2) X.env = pure (some [x, y]))
    (hs : swapsWithSole [.Tuple [.Name x px, .Name y py] kt pt] (.Tuple [a, b] k2 pt2) pos.line X.env = pure false) :
    S1 T X W (.Assign [.Tuple [.Name x px, .Name y py] kt pt] (.Tuple [a, b] k2 pt2) pos) (fun e h => evS ((ma e h).bind fun ds h => .ok (.tup ds) h) fun d h => setM (.tp [i, j]) d e h) := by
  refine PS.imp (ps_par hc hN hi hj hij hx hy ha hw hs) fun D0 σ H ⟨g, h, e, r, s, o⟩ => ?_
  refine tA.bindS (D0 := D0) (f := fun ds e h => setM (.tp [i, j]) (.tup ds) e h) r s ?_ fun ds vs h1 H1 g1 _ r1 s1 q1 x1 o1 => ?_
  · revert o
    show OutS T g H (evS ((ma e h).bind fun ds h => .ok (.tup ds) h) fun d h => setM (.tp [i, j]) d e h) D0 W → _
    cases ma e h with
    | ok ds h1 => exact fun o => o
    | exn c p h1 => exact fun o => o
    | stuck => exact fun o => o
  · match ds, vs, q1, o1 with
    | [d, c], [v, w], q1, o1 => exact ⟨v, w, rfl, OutS.nx (e1 := (e.set i (some d)).set j (some c)) r1 ((s1.set q1.1).set q1.2.1) o1⟩
theorem s1_aug {i : Nat} {x : Str} {a : Expr} {pos pos' : Pos} {ma : Ev → MH → R D} {o : Bo} {op : Operator} (hN : X.N.Nodup) (hi : X.N[i]? = some x) (hx : Loc X.env.scope x) (hf : X.fn x = true ∨ X.env.scope.names.lookup x = some .local) (ha : SE T X W a ma)
    (hp : ∀ w, PIp X op (R2m T w (augO o))) (hb : ∀ a b h c p h1, augO o a b h ≠ .exn c p h1) : S1 T X W (.AugAssign (.Name x pos') op a pos) (fun e h => match vget e i with
    | some a => evS (ma e h) fun b h => augM o i a b e h
    | none => .stuck) := by
  refine ⟨fun pins s σ H D0 I ⟨g, h, e, r, s, o⟩ => (ps_aug hN hi hx ha (hp fun c d H' => W c d σ H') hf).run _ _ σ H D0 I ?_⟩
  cases z : vget e i with
  | none =>
    have o : OutS T g H (match vget e i with
      | some a => evS (ma e h) fun b h => augM _ i a b e h
      | none => .stuck) D0 W := o
    rw [z] at o
    exact o.elim
  | some d0 =>
    have o : OutS T g H (match vget e i with
      | some a => evS (ma e h) fun b h => augM _ i a b e h
      | none => .stuck) D0 W := o
    rw [z] at o
    obtain ⟨v, ev, qv⟩ := s.2 i d0 (vget_some z)
    refine ⟨v, ev, ?_⟩
    refine tE.bindS (f := fun b e h => augM _ i d0 b e h) r s o fun b u h1 H1 g1 _ r1 s1 q1 x1 o1 => ?_
    refine fun _ => ⟨g1, h1, d0, b, r1, qv.mono x1 r, q1, ?_⟩
    have n := hb d0 b h1
    unfold augM at o1
    revert o1 n
    cases augO _ d0 b h1 with
    | ok w h2 => exact fun o1 _ v2 H2 g2 r2 x2 q2 => o1 _ H2 g2 r2 x2 ((s1.mono x2 r1).set q2)
    | exn c p h2 => exact fun o1 _ => o1.elim
    | stuck => exact fun o1 _ => o1.elim
def ifS (mc : Ev → MH → R D) (ma mb : Ev → MH → Fl) : Ev → MH → Fl := fun e h => evS (mc e h) fun d h => ifK d (ma e) (mb e) h
theorem tT.bindS {m : Ev → MH → R D} {f : Bool → Ev → MH → Fl} {σ : St} {e : Ev} {D0 : Ends} {Q' : Bool → Hp → Prop} (r : Rel T H g h) (s : RepS T H g e σ) (o : OutS T g H (evS (m e h) fun d h => ifK d (f true e) (f false e) h) D0 W)
    (k : ∀ b h1 H1 g1, m e h = .ok (.bl b) h1 → Rel T H1 g1 h1 → RepS T H1 g1 e σ → Ext g H g1 H1 → OutS T g1 H1 (f b e h1) D0 W → Q' b H1) : tT T W m σ H Q' := by
  refine ⟨g, h, e, r, s, ?_⟩
  revert k o
  cases m e h with
  | ok d h1 =>
    cases d with
    | bl b => exact fun o k H1 g1 a c => k b h1 H1 g1 rfl a (s.mono c r) c (by cases b <;> exact OutS.ext c r a o)
    | _ => exact fun o _ => o.elim
  | exn c p h1 => exact fun o _ dx H1 g1 a b e => o σ dx H1 g1 a b e
  | stuck => exact fun o _ => o
theorem s1_if {c : Expr} {a b : List Stmt} {pos : Pos} {mc : Ev → MH → R D} {ma mb : Ev → MH → Fl} (hc : ST T X W c mc) (ha : SS T X W a ma) (hb : SS T X W b mb) : S1 T X W (.If c a b pos) (ifS mc ma mb) := by
  refine PS.imp (ps_if hc ha hb) fun D0 σ H ⟨g, h, e, r, s, o⟩ => ?_
  refine tT.bindS (f := fun k e h1 => if k = true then ma e h1 else mb e h1) r s o fun b h1 H1 g1 _ r1 s1 x1 o1 => ?_
  cases b with
  | true => exact ⟨g1, h1, e, r1, s1, o1⟩
  | false => exact ⟨g1, h1, e, r1, s1, o1⟩
theorem s1_whl {c : Expr} {b : List Stmt} {pos : Pos} {n : Nat} {mc : Ev → MH → R D} {mb : Ev → MH → Fl} (hp : PassesOwn (model X.prog X.w) X.A X.env X.xe) (hc : ST T X W c mc) (hb : SS T X W b mb) : S1 T X W (.While c b [] pos) (fun e h => whL mc mb n e h) := by
  refine PS.imp (ps_while hp hc hb) fun D0 σ H q => ?_
  refine ⟨fun m σ H => tS T W (fun e h => whL mc mb m e h) D0 σ H, ⟨n, q⟩, ?_⟩
  rintro m σ H ⟨g, h, e, r, s, o⟩
  cases m with
  | zero => exact o.elim
  | succ m =>
    have o : OutS T g H (match mc e h with
      | .ok (.bl k) h1 => if k = true then (match mb e h1 with
        | .nx e2 h2 => whL mc mb m e2 h2
        | .cnt e2 h2 => whL mc mb m e2 h2
        | .brk e2 h2 => .nx e2 h2
        | r => r) else .nx e h1
      | .exn k p h1 => .exn k p h1
      | _ => .stuck) D0 W := o
    refine tT.bindS (D0 := D0) (f := fun k e h1 => if k = true then (match mb e h1 with
        | .nx e2 h2 => whL mc mb m e2 h2
        | .cnt e2 h2 => whL mc mb m e2 h2
        | .brk e2 h2 => .nx e2 h2
        | r => r) else .nx e h1) r s ?_ fun b h1 H1 g1 _ r1 s1 x1 o1 => ?_
    · revert o
      cases mc e h with
      | ok d h1 => cases d <;> exact fun o => o
      | exn c p h1 => exact fun o => o
      | stuck => exact fun o => o
    · cases b with
      | false => exact OutS.nx r1 s1 o1
      | true =>
        rw [if_pos rfl] at o1 ⊢
        refine ⟨fun σ H => tS T W (fun e h => whL mc mb m e h) D0 σ H, fun σ' H' q => ⟨m, Nat.lt_succ_self _, q⟩, g1, h1, e, r1, s1, ?_⟩
        revert o1
        cases mb e h1 with
        | nx e2 h2 => exact fun o1 σ2 H2 g2 r2 x2 s2 => ⟨g2, h2, e2, r2, s2, OutS.ext x2 r1 r2 o1⟩
        | cnt e2 h2 => exact fun o1 σ2 H2 g2 r2 x2 s2 => ⟨g2, h2, e2, r2, s2, OutS.ext x2 r1 r2 o1⟩
        | brk e2 h2 => exact fun o1 => o1
        | ret d h2 => exact fun o1 => o1
        | exn c p h2 => exact fun o1 => o1
        | stuck => exact fun o1 => o1
def forM (t : Tg) (mi : Ev → MH → R It) (mb : Ev → MH → Fl) : Ev → MH → Fl := fun e h => match mi e h with
  | .ok (.its xs) h1 => forL t mb xs e h1
  | .ok (.hp n w) h1 => forH t mb n w (lenH h1 n) 0 e h1
  | .exn c p h1 => .exn c p h1
  | .stuck => .stuck
theorem s1_for {tg it : Expr} {b : List Stmt} {pos : Pos} {t : Tg} {G : TG} {mi : Ev → MH → R It} {mb : Ev → MH → Fl} (hp : PassesOwn (model X.prog X.w) X.A X.env X.xe) (hc : X.calm = true) (hG : TgOk T t G) (hg : PG X tg G) (hi : SI T X W tg it mi) (hb : SS T X W b mb)
    (hs : ∀ x, foldedSetIterable it X.env x = pure x) : S1 T X W (.For tg it b [] pos) (forM t mi mb) := by
  refine PS.imp (ps_for hp hc hi hg hb hs) fun D0 σ H ⟨g, h, e, r, s, o⟩ => ⟨g, h, e, r, s, ?_⟩
  have o : OutS T g H (match mi e h with
    | .ok (.its xs) h1 => forL t mb xs e h1
    | .ok (.hp n w) h1 => forH t mb n w (lenH h1 n) 0 e h1
    | .exn c p h1 => .exn c p h1
    | .stuck => .stuck) D0 W := o
  revert o
  cases mi e h with
  | stuck => exact fun o => o
  | exn c p h1 => exact fun o dx H1 g1 a b c => o σ dx H1 g1 a b c
  | ok w h1 =>
    cases w with
    | its xs =>
      intro o H1 g1 r1 x1 J C wk hC
      have o : OutS T g1 H1 (forL t mb xs e h1) D0 W := OutS.ext x1 r r1 o
      refine ⟨fun i m σ H => ∃ g' h' e', Rel T H g' h' ∧ RepS T H g' e' σ ∧ C g' H ∧ i ≤ xs.length ∧ m = xs.length - i ∧ OutS T g' H (forL t mb (xs.drop i) e' h') D0 W,
        ⟨xs.length, g1, h1, e, r1, s.mono x1 r, hC, Nat.zero_le _, rfl, by simpa using o⟩, ?_⟩
      rintro i m σ5 H5 ⟨g', h', e', r5, s5, c5, hi, hm, o5⟩
      by_cases hlt : i < xs.length
      · refine .inr ⟨wk.go i g' H5 h' c5 r5 hlt, fun σ6 H6 => ∃ g' h' e', Rel T H6 g' h' ∧ RepS T H6 g' e' σ6 ∧ C g' H6 ∧ i + 1 ≤ xs.length ∧ OutS T g' H6 (forL t mb (xs.drop (i + 1)) e' h') D0 W,
          fun σ6 H6 ⟨g', h', e', a1, a2, a3, a4, a5⟩ => ⟨xs.length - (i + 1), by omega, g', h', e', a1, a2, a3, a4, rfl, a5⟩, fun x H' y => ?_⟩
        obtain ⟨d, g2, ed, r2, x2, q2⟩ := wk.yld i g' H5 h' x H' c5 r5 y hlt
        have hdr : xs.drop i = d :: xs.drop (i + 1) := by
          obtain ⟨hl', e'⟩ := List.getElem?_eq_some_iff.mp ed
          rw [← e']
          exact List.drop_eq_getElem_cons hl'
        rw [hdr] at o5
        have o5 : OutS T g' H5 (match setT t d e' with
          | none => .stuck
          | some e1 => (match mb e1 h' with
            | .nx e2 h2 => forL t mb (xs.drop (i + 1)) e2 h2
            | .cnt e2 h2 => forL t mb (xs.drop (i + 1)) e2 h2
            | .brk e2 h2 => .nx e2 h2
            | r => r)) D0 W := o5
        cases z : setT t d e' with
        | none => rw [z] at o5; exact o5.elim
        | some e1 =>
          rw [z] at o5
          refine hG.run σ5 H' g2 e' e1 d x h' _ r2 (s5.mono x2 r5) q2 z fun σ6 s6 _ => ⟨g2, h', e1, r2, s6, ?_⟩
          have c2 := wk.mono _ _ _ _ h' c5 r5 (x2.to0 r5)
          have o6 : OutS T g2 H' (match mb e1 h' with
            | .nx e2 h2 => forL t mb (xs.drop (i + 1)) e2 h2
            | .cnt e2 h2 => forL t mb (xs.drop (i + 1)) e2 h2
            | .brk e2 h2 => .nx e2 h2
            | r => r) D0 W := OutS.ext x2 r5 r2 o5
          revert o6
          cases mb e1 h' with
          | nx e2 h2 => exact fun o6 σ7 H7 g7 r7 x7 s7 => ⟨g7, h2, e2, r7, s7, wk.mono _ _ _ _ h' c2 r2 (x7.to0 r2), hlt, OutS.ext x7 r2 r7 o6⟩
          | cnt e2 h2 => exact fun o6 σ7 H7 g7 r7 x7 s7 => ⟨g7, h2, e2, r7, s7, wk.mono _ _ _ _ h' c2 r2 (x7.to0 r2), hlt, OutS.ext x7 r2 r7 o6⟩
          | brk e2 h2 => exact fun o6 => o6
          | ret d h2 => exact fun o6 => o6
          | exn c p h2 => exact fun o6 => o6
          | stuck => exact fun o6 => o6
      · have e : i = xs.length := by omega
        subst e
        rw [List.drop_length] at o5
        exact .inl ⟨wk.stop g' H5 h' c5 r5, OutS.nx r5 s5 o5⟩
    | hp n en =>
      intro o H1 g1 r1 x1 a ha
      have o : OutS T g1 H1 (forH t mb n en (lenH h1 n) 0 e h1) D0 W := OutS.ext x1 r r1 o
      refine ⟨fun i k σ H => ∃ g' h' e', Rel T H g' h' ∧ RepS T H g' e' σ ∧ g'.phi[n]? = some a ∧ OutS T g' H (forH t mb n en k i e' h') D0 W,
        ⟨lenH h1 n, g1, h1, e, r1, s.mono x1 r, ha, o⟩, ?_⟩
      rintro i k σ5 H5 ⟨g', h', e', r5, s5, a5, o5⟩
      cases k with
      | zero =>
        have o5 : OutS T g' H5 (match h'[n]? with
          | some (.lst xs) => if xs.length ≤ i then .nx e' h' else .stuck
          | _ => .stuck) D0 W := o5
        cases z : h'[n]? with
        | none => rw [z] at o5; exact o5.elim
        | some ob =>
          rw [z] at o5
          cases ob with
          | lst ds =>
            have o5 : OutS T g' H5 (if ds.length ≤ i then .nx e' h' else .stuck) D0 W := o5
            by_cases hc : ds.length ≤ i
            · rw [if_pos hc] at o5
              obtain ⟨vs5, q1, q2⟩ := r5.lst_at z a5
              exact .inl ⟨hp_stop r5 z a5 hc, OutS.nx r5 s5 o5⟩
            · rw [if_neg hc] at o5; exact o5.elim
          | _ => exact o5.elim
      | succ k =>
        have o5 : OutS T g' H5 (match h'[n]? with
          | some (.lst xs) => (match xs[i]? with
            | none => .nx e' h'
            | some d => (match setT t (wrapI en i d) e' with
              | none => .stuck
              | some e1 => (match mb e1 h' with
                | .nx e2 h2 => forH t mb n en k (i + 1) e2 h2
                | .cnt e2 h2 => forH t mb n en k (i + 1) e2 h2
                | .brk e2 h2 => .nx e2 h2
                | r => r)))
          | _ => .stuck) D0 W := o5
        cases z : h'[n]? with
        | none => rw [z] at o5; exact o5.elim
        | some ob =>
          rw [z] at o5
          cases ob with
          | lst ds =>
            obtain ⟨vs5, q1, q2⟩ := r5.lst_at z a5
            have o5 : OutS T g' H5 (match ds[i]? with
              | none => .nx e' h'
              | some d => (match setT t (wrapI en i d) e' with
                | none => .stuck
                | some e1 => (match mb e1 h' with
                  | .nx e2 h2 => forH t mb n en k (i + 1) e2 h2
                  | .cnt e2 h2 => forH t mb n en k (i + 1) e2 h2
                  | .brk e2 h2 => .nx e2 h2
                  | r => r))) D0 W := o5
            cases hd : ds[i]? with
            | none =>
              rw [hd] at o5
              exact .inl ⟨hp_stop r5 z a5 (List.getElem?_eq_none_iff.mp hd), OutS.nx r5 s5 o5⟩
            | some d =>
              rw [hd] at o5
              obtain ⟨v5, ev5, rv5⟩ := q2.get hd
              have o5 : OutS T g' H5 (match setT t (wrapI en i d) e' with
                | none => .stuck
                | some e1 => (match mb e1 h' with
                  | .nx e2 h2 => forH t mb n en k (i + 1) e2 h2
                  | .cnt e2 h2 => forH t mb n en k (i + 1) e2 h2
                  | .brk e2 h2 => .nx e2 h2
                  | r => r)) D0 W := o5
              cases zt : setT t (wrapI en i d) e' with
              | none => rw [zt] at o5; exact o5.elim
              | some e1 =>
                rw [zt] at o5
                refine .inr ⟨hp_go r5 z a5 (List.getElem?_eq_some_iff.mp hd).1, fun σ H => ∃ g' h' e', Rel T H g' h' ∧ RepS T H g' e' σ ∧ g'.phi[n]? = some a ∧ OutS T g' H (forH t mb n en k (i + 1) e' h') D0 W, fun σ' H' q => ⟨k, Nat.lt_succ_self _, q⟩, fun x H' y => ?_⟩
                obtain ⟨g2, r2, x2, qd2⟩ := hp_yld r5 z a5 hd y
                refine hG.run σ5 H' g2 e' e1 _ x h' _ r2 (s5.mono x2 r5) qd2 zt fun σ6 s6 _ => ⟨g2, h', e1, r2, s6, ?_⟩
                have a2 : g2.phi[n]? = some a := by
                  obtain ⟨t, e1, _⟩ := x2.phi
                  rw [e1, List.getElem?_append_left (List.getElem?_eq_some_iff.mp a5).1]
                  exact a5
                have keep : ∀ {g7 H7}, Ext g2 H' g7 H7 → g7.phi[n]? = some a := fun {g7 H7} x7 => by
                  obtain ⟨t, e1, _⟩ := x7.phi
                  rw [e1, List.getElem?_append_left (List.getElem?_eq_some_iff.mp a2).1]
                  exact a2
                have o6 : OutS T g2 H' (match mb e1 h' with
                  | .nx e2 h2 => forH t mb n en k (i + 1) e2 h2
                  | .cnt e2 h2 => forH t mb n en k (i + 1) e2 h2
                  | .brk e2 h2 => .nx e2 h2
                  | r => r) D0 W := OutS.ext x2 r5 r2 o5
                revert o6
                cases mb e1 h' with
                | nx e2 h2 => exact fun o6 σ7 H7 g7 r7 x7 s7 => ⟨g7, h2, e2, r7, s7, keep x7, OutS.ext x7 r2 r7 o6⟩
                | cnt e2 h2 => exact fun o6 σ7 H7 g7 r7 x7 s7 => ⟨g7, h2, e2, r7, s7, keep x7, OutS.ext x7 r2 r7 o6⟩
                | brk e2 h2 => exact fun o6 => o6
                | ret d h2 => exact fun o6 => o6
                | exn c p h2 => exact fun o6 => o6
                | stuck => exact fun o6 => o6
          | _ => exact o5.elim
end
end Mi
namespace Mi
open PySem PySem.Spec PyProof.Rows L2
section
variable {T : Tx} {X : Cx} {W : WX} {H H1 H2 : Hp} {g g1 g2 : Gr} {h h1 : MH}
/-! ### o[i] = v -/
theorem RepK.any {kvs : List (Ky × D)} {kk : List (L2.Key × V)} (q : Ky) : ∀ {kvs : List (Ky × D)} {kk : List (L2.Key × V)}, RepK T H g kvs kk → (kvs.any fun kv => decide (kv.1 = q)) = kk.any fun kv => decide (kv.1 = q)
  | [], [], _ => rfl
  | (k, d) :: r, (p, v) :: s, z => by
    have e : k = p := z.1
    subst e
    simp only [List.any_cons]
    rw [RepK.any (kvs := []) (kk := []) q z.2.2]
  | [], _ :: _, z => z.elim
  | _ :: _, [], z => z.elim
theorem RepK.mapSet {q : Ky} {e : D} {u : V} (qv : RepV T H g e u) : ∀ {kvs : List (Ky × D)} {kk : List (L2.Key × V)}, RepK T H g kvs kk → RepK T H g (kvs.map fun kv => if kv.1 = q then (kv.1, e) else kv) (kk.map fun kv => if kv.1 = q then (kv.1, u) else kv)
  | [], [], _ => True.intro
  | (k, d) :: r, (p, v) :: s, z => by
    have e1 : k = p := z.1
    subst e1
    by_cases c : k = q
    · simp only [List.map_cons, c, if_true]
      exact ⟨rfl, qv, RepK.mapSet qv z.2.2⟩
    · simp only [List.map_cons, c, if_false]
      exact ⟨rfl, z.2.1, RepK.mapSet qv z.2.2⟩
  | [], _ :: _, z => z.elim
  | _ :: _, [], z => z.elim
theorem RepK.app {q : Ky} {e : D} {u : V} (qv : RepV T H g e u) : ∀ {kvs : List (Ky × D)} {kk : List (L2.Key × V)}, RepK T H g kvs kk → RepK T H g (kvs ++ [(q, e)]) (kk ++ [(q, u)])
  | [], [], _ => ⟨rfl, qv, True.intro⟩
  | (k, d) :: r, (p, v) :: s, z => ⟨z.1, z.2.1, RepK.app qv z.2.2⟩
  | [], _ :: _, z => z.elim
  | _ :: _, [], z => z.elim
theorem RepK.put {kvs : List (Ky × D)} {kk : List (L2.Key × V)} {q : Ky} {e : D} {u : V} (z : RepK T H g kvs kk) (qv : RepV T H g e u) : RepK T H g (Mi.putK kvs q e) (L2.putK kk q u) := by
  unfold Mi.putK L2.putK
  rw [RepK.any (kvs := kvs) (kk := kk) q z]
  by_cases c : (kk.any fun kv => decide (kv.1 = q)) = true
  · rw [if_pos c, if_pos c]; exact z.mapSet qv
  · rw [if_neg c, if_neg c]; exact z.app qv
theorem RepT.any (q : List Ky) : ∀ {kvs : List (List Ky × D)} {kk : List (List L2.Key × V)}, RepT T H g kvs kk → (kvs.any fun kv => decide (kv.1 = q)) = kk.any fun kv => decide (kv.1 = q)
  | [], [], _ => rfl
  | (k, d) :: r, (p, v) :: s, z => by
    have e : k = p := z.1
    subst e
    simp only [List.any_cons]
    rw [RepT.any q z.2.2]
  | [], _ :: _, z => z.elim
  | _ :: _, [], z => z.elim
theorem RepT.mapSet {q : List Ky} {e : D} {u : V} (qv : RepV T H g e u) : ∀ {kvs : List (List Ky × D)} {kk : List (List L2.Key × V)}, RepT T H g kvs kk → RepT T H g (kvs.map fun kv => if kv.1 = q then (kv.1, e) else kv) (kk.map fun kv => if kv.1 = q then (kv.1, u) else kv)
  | [], [], _ => True.intro
  | (k, d) :: r, (p, v) :: s, z => by
    have e1 : k = p := z.1
    subst e1
    by_cases c : k = q
    · simp only [List.map_cons, c, if_true]
      exact ⟨rfl, qv, RepT.mapSet qv z.2.2⟩
    · simp only [List.map_cons, c, if_false]
      exact ⟨rfl, z.2.1, RepT.mapSet qv z.2.2⟩
  | [], _ :: _, z => z.elim
  | _ :: _, [], z => z.elim
theorem RepT.app {q : List Ky} {e : D} {u : V} (qv : RepV T H g e u) : ∀ {kvs : List (List Ky × D)} {kk : List (List L2.Key × V)}, RepT T H g kvs kk → RepT T H g (kvs ++ [(q, e)]) (kk ++ [(q, u)])
  | [], [], _ => ⟨rfl, qv, True.intro⟩
  | (k, d) :: r, (p, v) :: s, z => ⟨z.1, z.2.1, RepT.app qv z.2.2⟩
  | [], _ :: _, z => z.elim
  | _ :: _, [], z => z.elim
theorem RepT.put {kvs : List (List Ky × D)} {kk : List (List L2.Key × V)} {q : List Ky} {e : D} {u : V} (z : RepT T H g kvs kk) (qv : RepV T H g e u) : RepT T H g (Mi.putK kvs q e) (L2.putK kk q u) := by
  unfold Mi.putK L2.putK
  rw [RepT.any q z]
  by_cases c : (kk.any fun kv => decide (kv.1 = q)) = true
  · rw [if_pos c, if_pos c]; exact z.mapSet qv
  · rw [if_neg c, if_neg c]; exact z.app qv
theorem RepK.length : ∀ {kvs : List (Ky × D)} {kk : List (L2.Key × V)}, RepK T H g kvs kk → kvs.length = kk.length
  | [], [], _ => rfl
  | (k, d) :: r, (p, v) :: s, z => by simp [RepK.length z.2.2]
  | [], _ :: _, z => z.elim
  | _ :: _, [], z => z.elim
theorem RepT.length : ∀ {kvs : List (List Ky × D)} {kk : List (List L2.Key × V)}, RepT T H g kvs kk → kvs.length = kk.length
  | [], [], _ => rfl
  | (k, d) :: r, (p, v) :: s, z => by simp [RepT.length z.2.2]
  | [], _ :: _, z => z.elim
  | _ :: _, [], z => z.elim
def OutH (T : Tx) (g : Gr) (H : Hp) (r : Option MH) (Q : Hp → Prop) : Prop := match r with
  | some h1 => ∀ H1 g1, Rel T H1 g1 h1 → Ext g H g1 H1 → Q H1
  | none => False
def rS (T : Tx) : TSet := fun o i v H Q => ∃ g h a k d, Rel T H g h ∧ RepV T H g a o ∧ RepV T H g k i ∧ RepV T H g d v ∧ OutH T g H (subD a k d h) Q
theorem set_m (hu : X.A.units + 200 < cLine) : PSet X (rS T) := by
  intro pins s σ H o i v ov iv u Q I ro ri rv ⟨g, h, a, k, d, r, qa, qk, qd, o1⟩
  cases a with
  | ref n =>
    obtain ⟨p, rfl, ep⟩ := qa
    have o1 : OutH T g H (match h[n]? with
      | some (.lst xs) => subL n xs k d h
      | _ => dput h (.ref n) k d) Q := o1
    cases z : h[n]? with
    | none =>
      rw [z] at o1
      have o1 : OutH T g H (match h[n]? with
        | some (.dK false kvs) => if kvs.length < big then (kOf k).map fun q => h.set n (.dK false (Mi.putK kvs q d)) else none
        | some (.dT false kvs) => if kvs.length < big then (ktup k).map fun q => h.set n (.dT false (Mi.putK kvs q d)) else none
        | _ => none) Q := o1
      rw [z] at o1; exact o1.elim
    | some ob =>
      rw [z] at o1
      cases ob with
      | lst es =>
        obtain ⟨vs, e1, q1⟩ := r.lst_at z ep
        cases k with
        | int k =>
          have o1 : OutH T g H ((Mi.ixN es.length k).map fun j => h.set n (.lst (es.set j d))) Q := o1
          cases y : Mi.ixN es.length k with
          | none => rw [y] at o1; exact o1.elim
          | some j =>
            rw [y] at o1
            refine set_list pins s σ H _ i v ov iv u Q I ro ri rv ⟨p, vs, k, j, rfl, qk, e1, by rw [← q1.length, ← ixN_eq]; exact y, ?_⟩
            exact o1 _ g (r.write ep ⟨_, upd_same, RepL.set (RepL.mono (Ext.write ep) r _ _ q1) (qd.mono (Ext.write ep) r)⟩) (Ext.write ep)
        | _ => exact o1.elim
      | ins c fs =>
        have o1 : OutH T g H (match h[n]? with
          | some (.dK false kvs) => if kvs.length < big then (kOf k).map fun q => h.set n (.dK false (Mi.putK kvs q d)) else none
          | some (.dT false kvs) => if kvs.length < big then (ktup k).map fun q => h.set n (.dT false (Mi.putK kvs q d)) else none
          | _ => none) Q := o1
        rw [z] at o1; exact o1.elim
      | dK l kvs =>
        have o1 : OutH T g H (match h[n]? with
          | some (.dK false kvs) => if kvs.length < big then (kOf k).map fun q => h.set n (.dK false (Mi.putK kvs q d)) else none
          | some (.dT false kvs) => if kvs.length < big then (ktup k).map fun q => h.set n (.dT false (Mi.putK kvs q d)) else none
          | _ => none) Q := o1
        rw [z] at o1
        cases l with
        | true => exact o1.elim
        | false =>
          have o1 : OutH T g H (if kvs.length < big then (kOf k).map fun q => h.set n (.dK false (Mi.putK kvs q d)) else none) Q := o1
          by_cases c : kvs.length < big
          · rw [if_pos c] at o1
            cases y : kOf k with
            | none => rw [y] at o1; exact o1.elim
            | some q =>
              rw [y] at o1
              obtain ⟨kk, q1, e1⟩ := r.obj n _ p z ep
              have e1 : H p = some (.dK kk) := e1
              refine set_dict (by omega) pins s σ H _ i v ov iv u Q I ro ri rv ⟨p, _, rfl, .inl ⟨kk, q, e1, kV_of qk y, by rw [← q1.length]; exact big_lt c, rfl⟩, ?_⟩
              exact o1 _ g (r.write ep ⟨_, RepK.put (RepK.mono (Ext.write ep) r _ _ q1) (qd.mono (Ext.write ep) r), upd_same⟩) (Ext.write ep)
          · rw [if_neg c] at o1; exact o1.elim
      | dT l kvs =>
        have o1 : OutH T g H (match h[n]? with
          | some (.dK false kvs) => if kvs.length < big then (kOf k).map fun q => h.set n (.dK false (Mi.putK kvs q d)) else none
          | some (.dT false kvs) => if kvs.length < big then (ktup k).map fun q => h.set n (.dT false (Mi.putK kvs q d)) else none
          | _ => none) Q := o1
        rw [z] at o1
        cases l with
        | true => exact o1.elim
        | false =>
          have o1 : OutH T g H (if kvs.length < big then (ktup k).map fun q => h.set n (.dT false (Mi.putK kvs q d)) else none) Q := o1
          by_cases c : kvs.length < big
          · rw [if_pos c] at o1
            cases k with
            | tup ks =>
              have o1 : OutH T g H ((ksOf ks).map fun q => h.set n (.dT false (Mi.putK kvs q d))) Q := o1
              cases y : ksOf ks with
              | none => rw [y] at o1; exact o1.elim
              | some q =>
                rw [y] at o1
                obtain ⟨kk, q1, e1⟩ := r.obj n _ p z ep
                have e1 : H p = some (.dT kk) := e1
                obtain ⟨b, vs, rfl, eb, q2⟩ := qk
                refine set_dict (by omega) pins s σ H _ _ v ov iv u Q I ro ri rv ⟨p, _, rfl, .inr ⟨kk, q, b, e1, rfl, by rw [eb, kVs_of q2 y], by rw [← q1.length]; exact big_lt c, rfl⟩, ?_⟩
                exact o1 _ g (r.write ep ⟨_, RepT.put (RepT.mono (Ext.write ep) r _ _ q1) (qd.mono (Ext.write ep) r), upd_same⟩) (Ext.write ep)
            | _ => exact o1.elim
          · rw [if_neg c] at o1; exact o1.elim
  | _ => exact o1.elim
theorem s1_sub {o i a : Expr} {p pos : Pos} {mo mi ma : Ev → MH → R D} (hu : X.A.units + 200 < cLine) (ho : SE T X W o mo) (hi : SE T X W i mi) (ha : SE T X W a ma)
    (hasg : ∀ v, assign (.Subscript o i p) X.env v = (do
      let ov ← holding [v] (eval o X.env)
      let iv ← holding [v, ov] (eval i X.env)
      standAt p
      holding [v, ov, iv] (setItem ov iv v)
      release [v, ov, iv] []))
    (hs : swapsWithSole [.Subscript o i p] a pos.line X.env = pure false) (hw : swappedStores [.Subscript o i p] a X.env = pure none)
    (h1 : (assignEach [.Subscript o i p] X.env).map (·.2) = [assign (.Subscript o i p) X.env]) :
    S1 T X W (.Assign [.Subscript o i p] a pos) (fun e h => evS (ma e h) fun v h1 => evS (mo e h1) fun x h2 => evS (mi e h2) fun k h3 => subM x k v e h3) := by
  refine PS.imp (ps_asg ha (pg_sub ho hi (set_m (T := T) hu) hasg) hs hw h1) fun D0 σ H ⟨g, h, e, r, s, o⟩ => ?_
  refine tE.bindS (f := fun v e h1 => evS (mo e h1) fun x h2 => evS (mi e h2) fun k h3 => subM x k v e h3) r s o fun d v h1 H1 g1 _ r1 s1 q1 x1 o1 => ?_
  refine tE.bindS (D0 := D0) (f := fun x e h2 => evS (mi e h2) fun k h3 => subM x k d e h3) r1 s1 o1 fun b u h2 H2 g2 _ r2 s2 q2 x2 o2 => ?_
  refine tE.bindS (D0 := D0) (f := fun k e h3 => subM b k d e h3) r2 s2 o2 fun c w h3 H3 g3 _ r3 s3 q3 x3 o3 => ?_
  refine ⟨g3, h3, b, c, d, r3, q2.mono x3 r2, q3, (q1.mono x2 r1).mono x3 r2, ?_⟩
  unfold subM at o3
  revert o3
  cases subD b c d h3 with
  | none => exact fun o3 => o3
  | some h4 => exact fun o3 H4 g4 r4 x4 => o3 σ H4 g4 r4 x4 (s3.mono x4 r3)
/-! ### o[i] op= v -/
def rG (T : Tx) (W : XW) : V → V → Hp → VK → Prop := fun x y H Q => ∃ g h a i, Rel T H g h ∧ RepV T H g a x ∧ RepV T H g i y ∧ (∃ n, a = .ref n) ∧ Out T g H (idxM a i h) Q W
theorem get_m {W : XW} (hu : X.A.units + 200 < cLine) : PGet X (rG T W) := by
  intro pins s σ H o i ov iv Q I ro ri ⟨g, h, a, k, r, qa, qk, ⟨n, en⟩, o1⟩
  subst en
  obtain ⟨p, rfl, ep⟩ := qa
  cases (show ov = Value.ref p from ro)
  have dict : ∀ d, (dget h (.ref n) k).bind id = some d → Out T g H (.ok d h) Q W → wpAny (model X.prog X.w) X.A (getItem (.ref p) iv) (EP X pins σ Q) X.xe s := fun d e o => by
    cases y : dget h (.ref n) k with
    | none => rw [y] at e; cases e
    | some w =>
      rw [y] at e
      have e : w = some d := e
      subst e
      obtain ⟨b, ov', eb, dg, rop⟩ := dget_at (d := .ref n) (x := .ref p) r ⟨p, rfl, ep⟩ qk y
      cases eb
      cases ov' with
      | none => exact rop.elim
      | some v => exact d_getItem (by omega) I dg ri fun w' s' I' rw' => ⟨v, H, I', rw', o.here r rop⟩
  have o1 : Out T g H (match (match h[n]? with
    | some (.lst xs) => idxI (some xs) k
    | _ => (dget h (.ref n) k).bind id) with
    | some d => .ok d h
    | none => .stuck) Q W := o1
  cases z : h[n]? with
  | none =>
    rw [z] at o1
    have o1 : Out T g H (match (dget h (.ref n) k).bind id with
      | some d => .ok d h
      | none => .stuck) Q W := o1
    cases y : (dget h (.ref n) k).bind id with
    | none => rw [y] at o1; exact o1.elim
    | some d => rw [y] at o1; exact dict d y o1
  | some ob =>
    rw [z] at o1
    have dflt : ∀ (e : idxD (.ref n) k h = (dget h (.ref n) k).bind id) (o1 : Out T g H (match (dget h (.ref n) k).bind id with
      | some d => .ok d h
      | none => .stuck) Q W), wpAny (model X.prog X.w) X.A (getItem (.ref p) iv) (EP X pins σ Q) X.xe s := fun e o1 => by
      cases y : (dget h (.ref n) k).bind id with
      | none => rw [y] at o1; exact o1.elim
      | some d => rw [y] at o1; exact dict d y o1
    cases ob with
    | dK l kvs => exact dflt (by simp [idxD, z]) o1
    | dT l kvs => exact dflt (by simp [idxD, z]) o1
    | ins c fs => exact dflt (by simp [idxD, z]) o1
    | lst es =>
      have o1 : Out T g H (match idxI (some es) k with
        | some d => .ok d h
        | none => .stuck) Q W := o1
      cases k with
      | int k =>
        have o1 : Out T g H (match Mi.atI es k with
          | some d => .ok d h
          | none => .stuck) Q W := o1
        obtain ⟨vs, e1, q1⟩ := r.lst_at z ep
        cases y : Mi.atI es k with
        | none => rw [y] at o1; exact o1.elim
        | some d =>
          rw [y] at o1
          obtain ⟨v, ev, rv⟩ := atI_rep q1 y
          obtain ⟨t, rfl⟩ := (show ∃ t, iv = Value.int k t from by rw [show i = V.int k from qk] at ri; exact ri)
          obtain ⟨its, rv2, pl, hz⟩ := I.list (SqL.of e1)
          obtain ⟨j, h1, h2, h3, h4, h5⟩ := atI_get ev
          obtain ⟨w, ew, rw'⟩ := rv2.get h2
          have hl := rv2.length
          have hn := line63
          have fin : EP X pins σ Q w s := ⟨v, H, I, rw', o1.here r rv⟩
          by_cases h0 : 0 ≤ k
          · have hj : k.toNat = j := by
              rw [seqIndex_of h0 h5] at h1
              exact Option.some.inj h1
            exact wpAny_getItem_list pl.isList h0 (by omega) (by rw [hj]; simpa using ew) fin
          · have hj : (k + (its.toArray.size : Int)).toNat = j := by
              rw [seqIndex_neg (by omega) h4] at h1
              rw [List.size_toArray, ← hl]
              exact Option.some.inj h1
            exact wpAny_getItem_list_neg pl.isList (by omega) (by rw [List.size_toArray] <;> omega) (by omega) (by rw [hj]; simpa using ew) fin
      | _ => exact o1.elim
theorem s1_augS {o i a : Expr} {p pos : Pos} {mo mi ma : Ev → MH → R D} {b : Bo} {op : Operator} (hu : X.A.units + 200 < cLine) (ho : SE T X W o mo) (hi : SE T X W i mi) (ha : SE T X W a ma)
    (hp : ∀ w, PIp X op (R2m T w (augO b))) (hb : ∀ x y h c p h1, augO b x y h ≠ .exn c p h1)
    (hst : ∀ ov iv new, augStore i ov iv new = (do holding [new, ov, iv] (setItem ov iv new); release [new, ov, iv] []; pure .next)) :
    S1 T X W (.AugAssign (.Subscript o i p) op a pos) (fun e h => evS (mo e h) fun x h => evS (mi e h) fun k h => match augI x k h with
      | some u => evS (ma e h) fun w h => augW b u x k w e h
      | none => .stuck) := by
  refine ⟨fun pins s σ H D0 I ⟨g, h, e, r, s0, o⟩ => (ps_augS ho hi (get_m (T := T) (W := fun c d H' => W c d σ H') hu) ha (hp fun c d H' => W c d σ H') (set_m (T := T) hu) hst).run _ _ σ H D0 I ?_⟩
  refine tE.bindS (D0 := D0) (f := fun x e h => evS (mi e h) fun k h => match augI x k h with
      | some u => evS (ma e h) fun w h => augW b u x k w e h
      | none => .stuck) r s0 o fun x xv h1 H1 g1 _ r1 s1 q1 x1 o1 => ?_
  refine tE.bindS (D0 := D0) (f := fun k e h => match augI x k h with
      | some u => evS (ma e h) fun w h => augW b u x k w e h
      | none => .stuck) r1 s1 o1 fun k kv h2 H2 g2 _ r2 s2 q2 x2 o2 => ?_
  have qx2 := q1.mono x2 r1
  cases y : augI x k h2 with
  | none => rw [y] at o2; exact o2.elim
  | some u =>
    rw [y] at o2
    have o2 : OutS T g2 H2 (evS (ma e h2) fun w h => augW b u x k w e h) D0 W := o2
    have yy : (∃ n, x = .ref n) ∧ idxD x k h2 = some (.int u) := by
      unfold augI at y
      by_cases c : isRef x = true
      · rw [if_pos c] at y
        refine ⟨?_, ?_⟩
        · cases x with
          | ref n => exact ⟨n, rfl⟩
          | _ => cases c
        · cases z : idxD x k h2 with
          | none => rw [z] at y; cases y
          | some d =>
            rw [z] at y
            cases d with
            | int i => cases y; rfl
            | _ => cases y
      · rw [if_neg c] at y; cases y
    refine ⟨g2, h2, x, k, r2, qx2, q2, yy.1, ?_⟩
    show Out T g2 H2 (match idxD x k h2 with
      | some d => .ok d h2
      | none => .stuck) _ _
    rw [yy.2]
    intro uv H3 g3 r3 x3 q3
    refine tE.bindS (D0 := D0) (f := fun w e h => augW b u x k w e h) r3 (s2.mono x3 r2) (OutS.ext x3 r2 r3 o2) fun w wv h4 H4 g4 _ r4 s4 q4 x4 o4 => ?_
    cases w with
    | int w =>
      have o4 : OutS T g4 H4 (match augO b (.int u) (.int w) h4 with
        | .ok v h4 => (match subD x k v h4 with
          | some h5 => .nx e h5
          | none => .stuck)
        | _ => .stuck) D0 W := o4
      intro _
      refine ⟨g4, h4, .int u, .int w, r4, q3.mono x4 r3, q4, ?_⟩
      have nn := hb (.int u) (.int w) h4
      revert o4 nn
      cases augO b (.int u) (.int w) h4 with
      | stuck => exact fun o _ => o.elim
      | exn c p h1 => exact fun o _ => o.elim
      | ok v h5 =>
        intro o5 _ nv H5 g5 r5 x5 q5
        have o6 : OutS T g5 H5 (match subD x k v h5 with
          | some h5 => .nx e h5
          | none => .stuck) D0 W := OutS.ext x5 r4 r5 o5
        refine ⟨g5, h5, x, k, v, r5, ((qx2.mono x3 r2).mono x4 r3).mono x5 r4, ((q2.mono x3 r2).mono x4 r3).mono x5 r4, q5, ?_⟩
        revert o6
        cases subD x k v h5 with
        | none => exact fun o => o
        | some h6 => exact fun o H6 g6 r6 x6 => o σ H6 g6 r6 x6 ((s4.mono x5 r4).mono x6 r5)
    | _ => exact o4.elim
end
end Mi
namespace Mi
open PySem PySem.Spec PyProof.Rows L2
/-! ### calls -/
def spF (T : Tx) (ft : FT) (f np : Nat) : Sp := fun vs H Q E => vs.length = np ∧ ∃ g h ds, Rel T H g h ∧ RepL T H g ds vs ∧ Out T g H (ft f ds h) Q E
/-- what a call leans on -/
structure CalF (T : Tx) (X : Cx) (k : Nat) (ft : FT) (f np : Nat) (nd : List Int) : Prop where
  kp : PySem.W.keepIn X.K (.ref (T.fa f)) = true
  len : ∀ ds h, ds.length ≠ np → ft f ds h = .stuck
  ex : ∃ fd ps, ps.length = np ∧ FnOk X.prog X.w X.K X.mg X.base (L2N.CX X.prog X.w) k (T.fa f) fd ps (spF T ft f np) ∧ Binds X.K fd ps [] ∧ (nd ≠ [] → ∃ ds, Vals (nd.map V.int) ds ∧ Binds X.K fd ps ds)
section
variable {T : Tx} {X : Cx} {W : WX} {H H1 H2 : Hp} {g g1 g2 : Gr} {h h1 : MH}
theorem RepL.intsD : ∀ (ns : List Int), RepL T H g (ns.map D.int) (ns.map V.int) := RepL.ints
theorem se_call {x : Str} {p pos : Pos} {e : Expr} {es : List Expr} {k f np : Nat} {nd dl : List Int} {ft : FT} {ma : Ev → MH → R (List D)} (c : CalF T X k ft f np nd) (hr : Room k X.A) (tk : L2N.Takes X W) (hg : Gl X x) (hm : X.mg x = some (.ref (T.fa f))) (hdb : (x == ("__debug__" : Str)) = false)
    (hdl : dl = [] ∨ dl = nd) (hst : (e :: es).all noStar = true) (ha : SA T X W (e :: es) ma) : SE T X W (.Call (.Name x p) (e :: es) [] pos) (fun ev h => (ma ev h).bind fun ds h => ft f (ds ++ dl.map .int) h) := by
  have hst' := hst
  simp only [List.all_cons, Bool.and_eq_true] at hst'
  obtain ⟨fd, ps, hlen, F, b0, bd⟩ := c.ex
  have main : ∀ (ds : List Value), Vals (dl.map V.int) ds → Binds X.K fd ps ds → SE T X W (.Call (.Name x p) (e :: es) [] pos) (fun ev h => (ma ev h).bind fun ds h => ft f (ds ++ dl.map .int) h) := fun ds hd hb => by
    refine PE.imp (pe_callSD F hr hg hm c.kp hb hd (fun σ => L2N.passAt tk σ) ha hdb (star_cons hst'.1) (star_none hst'.2)) fun σ H Q ⟨g, h, ev, r, s, o⟩ => ?_
    refine tA.bind (f := fun ds ev h => ft f (ds ++ dl.map .int) h) r s o fun ds vs h1 H1 g1 _ r1 s1 q1 x1 o1 => ?_
    have q2 : RepL T H1 g1 (ds ++ dl.map .int) (vs ++ dl.map V.int) := q1.append (RepL.ints dl)
    refine ⟨?_, g1, h1, _, r1, q2, o1⟩
    rw [← q2.length]
    by_cases z : (ds ++ dl.map D.int).length = np
    · exact z
    · rw [c.len _ h1 z] at o1; exact o1.elim
  rcases hdl with z | z
  · subst z; exact main [] .nil b0
  · by_cases y : dl = []
    · subst y; exact main [] .nil b0
    · subst z
      obtain ⟨ds, hd, hb⟩ := bd y
      exact main ds hd hb
/-! ### raise X() -/
structure ExcOk (X : Cx) (C : Addr) : Prop where
  q : PySem.W.excIn X.K C He.veBase "ValueError.__new__" = true
  kp : PySem.W.keepIn X.K (.ref C) = true
  r : Raises X (.ref C)
theorem pmk0 {C : Addr} {x : Str} {p pos : Pos} (c : ExcOk X C) (gC : X.mg x = some (.ref C)) (hg : Gl X x) (hdb : (x == ("__debug__" : Str)) = false) : L2N.PMk X (.Call (.Name x p) [] [] pos) (fun _ H Q => Q (.ref C) none H) := by
  intro pins s σ H Q I h
  refine wpAny_Call_Name_kw (ld_glob I hg gC ?_ hdb)
  refine PySem.W.callWith_K0 I.kIn c.kp ?_
  obtain ⟨bm, N, nm, qn, bs, hdct, sn, sub, ab, col, dd, k0, k1, k2, k3, k5, mN, hC, hN, hni, Tl⟩ := exc_obj I.kIn c.q
  refine wpAny_call_exc_subT PySem.F.excBase_ValueError Tl hC hN hni (fun h' e hm => ?_) (by show 0 ≤ sizeLine; exact Nat.zero_le _)
  exact L2N.mk_of I hm c.r h (I.hok.gone hm.new)
theorem s1_raise0 {C : Nat} {x : Str} {p pos pos' : Pos} (hc : X.calm = true) (tk : L2N.Takes X W) (c : ExcOk X (T.xa C)) (gC : X.mg x = some (.ref (T.xa C))) (hg : Gl X x) (hdb : (x == ("__debug__" : Str)) = false) :
    S1 T X W (.Raise (some (.Call (.Name x p) [] [] pos')) none pos) (fun e h => .exn C none h) :=
  PS.imp (L2N.ps_raise hc tk (pmk0 c gC hg hdb)) fun D0 σ H ⟨g, h, e, r, s, o⟩ => o σ none H g r (.refl _ _) rfl
end
end Mi
namespace Mi
open PySem PySem.Spec PyProof.Rows L2
section
variable {T : Tx} {X : Cx} {W : WX}
/-! ### slices -/
structure PartOk (T : Tx) (X : Cx) (W : WX) (l : Option Expr) (m : Ev → MH → R (List D)) : Prop where
  ex : ∃ t : TO, PO X l t ∧ ∀ (σ : St) (H : Hp) (Q : VK) (g : Gr) (h : MH) (e : Ev) (f : Option Int → MH → R D) (Q' : Option Int → Hp → Prop), Rel T H g h → RepS T H g e σ → Out T g H ((m e h).bind fun l h => match partI l with
      | some lo => f lo h
      | none => .stuck) Q (fun c d H' => W c d σ H') → (∀ lo h1 H1 g1, Rel T H1 g1 h1 → Ext g H g1 H1 → Out T g1 H1 (f lo h1) Q (fun c d H' => W c d σ H') → Q' lo H1) → t σ H Q'
theorem PartOk.no : PartOk T X W none (fun _ h => .ok [] h) :=
  ⟨tNoPart, po_none, fun σ H Q g h e f Q' r s o k => k none h H g r (.refl _ _) o⟩
theorem PartOk.yes {x : Expr} {ma : Ev → MH → R D} (ha : SE T X W x ma) : PartOk T X W (some x) (fun e h => (ma e h).bind fun x h => .ok [x] h) := by
  refine ⟨tPart (tE T W ma), po_some ha, fun σ H Q g h e f Q' r s o k => ?_⟩
  refine tE.bind (f := fun x e h => match partI [x] with
      | some lo => f lo h
      | none => .stuck) r s (by rw [bind_bind] at o; exact o) fun d v h1 H1 g1 _ r1 s1 q1 x1 o1 => ?_
  cases d with
  | int i => exact ⟨i, q1, k (some i) h1 H1 g1 r1 x1 o1⟩
  | _ => exact o1.elim
theorem se_sl {x : Expr} {lo hi : Option Expr} {p2 pos : Pos} {m : Bool} {ma : Ev → MH → R D} {ml mh : Ev → MH → R (List D)} (hK : X.K = T.K) (ha : SE T X W x ma) (hl : PartOk T X W lo ml) (hh : PartOk T X W hi mh) :
    SE T X W (.Subscript x (.Slice lo hi none p2) pos) (fun e h => (ma e h).bind fun x h => (ml e h).bind fun l h => match partI l with
    | some lo => (mh e h).bind fun u h => (match partI u with
      | some hi => slD m x lo hi h
      | none => .stuck)
    | none => .stuck) := by
  obtain ⟨tl, pl, kl⟩ := hl.ex
  obtain ⟨th, ph, kh⟩ := hh.ex
  refine ⟨fun pins s σ H Q I q => ?_⟩
  refine (pe_slice (sl_m (m := m) (W := fun c d H' => W c d σ H') hK) ha pl ph).run pins s σ H Q I ?_
  obtain ⟨g, h, ev, r, s, o⟩ := q
  refine tE.bind (f := fun x e h => (ml e h).bind fun l h => match partI l with
    | some lo => (mh e h).bind fun u h => (match partI u with
      | some hi => slD m x lo hi h
      | none => .stuck)
    | none => .stuck) r s o fun d v h1 H1 g1 _ r1 s1 q1 x1 o1 => ?_
  refine kl σ H1 Q g1 h1 ev (fun lo h => (mh ev h).bind fun u h => (match partI u with
      | some hi => slD m d lo hi h
      | none => .stuck)) _ r1 s1 o1 fun lo h2 H2 g2 r2 x2 o2 => ?_
  refine kh σ H2 Q g2 h2 ev (fun hi h => slD m d lo hi h) _ r2 (s1.mono x2 r1) o2 fun hi h3 H3 g3 r3 x3 o3 => ?_
  exact fun _ => ⟨g3, h3, d, r3, (q1.mono x2 r1).mono x3 r2, o3⟩
end
/-! ### what stands fast of a text -/
inductive GK where
  | int (i : Int) | str (s : Str) | fn (f np : Nat) (nd : List Int) | exc (c : Nat) | free
abbrev GE := List (Str × GK)
structure Sc where
  G : GE
  N : List Str
  sc : Scope
  fs : Option Scope
def GkOk (T : Tx) (X : Cx) (k : Nat) (ft : FT) (x : Str) : GK → Prop
  | .int i => ∃ t, X.mg x = some (.int i t)
  | .str s => ∃ t, X.mg x = some (.str s t)
  | .fn f np nd => X.mg x = some (.ref (T.fa f)) ∧ CalF T X k ft f np nd
  | .exc c => X.mg x = some (.ref (T.xa c)) ∧ ExcOk X (T.xa c)
  | .free => X.mg x = none
def fnB (S : Sc) (x : Str) : Bool := match S.fs with
  | none => true
  | some s => s.names.lookup x == some .cell
structure Sx (T : Tx) (ft : FT) (k : Nat) (S : Sc) (X : Cx) (W : WX) : Prop where
  K : X.K = T.K
  calm : X.calm = true
  nd : X.N.Nodup
  room : Room k X.A
  tk : L2N.Takes X W
  glob : ∀ x g, S.G.lookup x = some g → GkOk T X k ft x g
  N : X.N = S.N
  sc : X.env.scope = S.sc
  fn : ∀ x, fnB S x = true → X.fn x = true
theorem Sx.hu {T : Tx} {ft : FT} {k : Nat} {S : Sc} {X : Cx} {W : WX} (s : Sx T ft k S X W) : X.A.units + 200 < cLine := by have := s.room.un; omega
theorem takesF {X : Cx} : L2N.Takes X WF0 := fun u s' ⟨_, _, _, _, _, _, _, _, _, _, _, _, _, _, _, _, z⟩ => z.elim
def Sc.blk (S : Sc) (scope : Scope) : Sc := { S with sc := relS scope S.sc, fs := some scope }
theorem Sx.blk {T : Tx} {ft : FT} {k : Nat} {S : Sc} {X : Cx} {W : WX} (x : Sx T ft k S X W) (scope : Scope) (s : Shared) (H : Hp) (C : Addr) (cl : List (Str × Addr)) (fp : List Addr) : Sx T ft k (S.blk scope) (X.blk s H scope (compEnvC scope cl C X.env) fp) WF0 where
  K := x.K
  calm := x.calm
  nd := x.nd
  room := x.room
  tk := takesF
  glob := fun y g e => by
    have q := x.glob y g e
    cases g with
    | int i => exact q
    | str s => exact q
    | fn f np nd => exact ⟨q.1, q.2.kp, q.2.len, q.2.ex⟩
    | exc c => exact ⟨q.1, q.2.q, q.2.kp, q.2.r⟩
    | free => exact q
  N := x.N
  sc := by
    show relS scope X.env.scope = relS scope S.sc
    rw [x.sc]
  fn := fun y h => h
/-! ### the check, of expressions -/
def visB (sc : Scope) (n : Str) : Bool := match sc.names.lookup n with
  | some .local => true
  | some .cell => true
  | some .free => true
  | _ => false
def glB (sc : Scope) (n : Str) : Bool := match sc.names.lookup n with
  | some .globalImplicit => true
  | _ => false
def dbg : Str := "__debug__"
def cdt : Str := "__classdict__"
def okN (n : Str) : Bool := !(n == dbg)
def boB : Bo → Operator → Bool
  | .add, .Add => true
  | .sub, .Sub => true
  | .mul, .Mult => true
  | .fdiv, .FloorDiv => true
  | .mod, .Mod => true
  | .pow, .Pow => true
  | .band, .BitAnd => true
  | .shr, .RShift => true
  | _, _ => false
def coB : Co → CmpOp → Bool
  | .eq, .Eq => true
  | .ne, .NotEq => true
  | .lt, .Lt => true
  | .le, .LtE => true
  | .gt, .Gt => true
  | .ge, .GtE => true
  | .is, .Is => true
  | .isn, .IsNot => true
  | .inn, .In => true
  | .nin, .NotIn => true
  | _, _ => false
theorem boB_ok {o : Bo} {p : Operator} (h : boB o p = true) : p = boOf o := by cases o <;> cases p <;> first | rfl | cases h
theorem coB_ok {o : Co} {p : CmpOp} (h : coB o p = true) : p = coOf o := by cases o <;> cases p <;> first | rfl | cases h
def plainIxB : Expr → Bool
  | .Slice _ _ _ _ => false
  | _ => true
theorem plainIx_ok {e : Expr} (h : plainIxB e = true) : PlainIx e := by
  intro o i
  cases e <;> first | rfl | cases h
def baseB : Expr → Bool
  | .Call (.Name _ _) [] [] _ => false
  | _ => true
theorem base_ok {o : Expr} {f : Str} {env : Env} {w : Sem Value} (h : baseB o = true) : attributeBase o f env w = w := by
  unfold attributeBase
  split
  · cases h
  · rfl
def noSet : Expr → Bool
  | .Set _ _ _ => false
  | _ => true
theorem noSet_ok {e : Expr} {env : Env} (h : noSet e = true) : ∀ x, foldedSetIterable e env x = pure x := by
  intro x
  cases e <;> first | rfl | cases h
def isG (G : GE) (n : Str) (k : GK → Bool) : Bool := match G.lookup n with
  | some g => k g
  | none => false
def kInt (i : Int) : GK → Bool
  | .int j => decide (i = j)
  | _ => false
def kStr (i : Str) : GK → Bool
  | .str j => decide (i = j)
  | _ => false
def kFree : GK → Bool
  | .free => true
  | _ => false
def kFn (f : Nat) (dl : List Int) : GK → Bool
  | .fn f' np nd => decide (f = f') && (dl.isEmpty || decide (dl = nd))
  | _ => false
theorem isG_ok {G : GE} {n : Str} {k : GK → Bool} (h : isG G n k = true) : ∃ g, G.lookup n = some g ∧ k g = true := by
  unfold isG at h
  cases z : G.lookup n with
  | none => rw [z] at h; cases h
  | some g => rw [z] at h; exact ⟨g, rfl, h⟩
def freeB (S : Sc) (n : Str) : Bool := glB S.sc n && isG S.G n kFree
/-- the arguments that are written -/
def argN : E → Nat
  | .cons _ r => argN r + 1
  | _ => 0
def dropA : Nat → E → E
  | 0, e => e
  | n + 1, .cons _ r => dropA n r
  | _ + 1, e => e
def primN : Pr → Option Str
  | .len => some "len"
  | .all => some "all"
  | .any => some "any"
  | .sum => some "sum"
  | .list _ => some "list"
  | .tuple => some "tuple"
  | .min1 => some "min"
  | .max1 => some "max"
  | .min2 => some "min"
  | .max2 => some "max"
  | .abs => some "abs"
  | _ => none
def metN : Mt → Option Str
  | .append => some "append"
  | .extend => some "extend"
  | _ => none
def nmB (S : Sc) (i : Nat) : Expr → Bool
  | .Name n _ => decide (S.N[i]? = some n) && ((decide (S.sc.names.lookup n = some .local)) || (decide (S.sc.names.lookup n = some .cell) && fnB S n))
  | _ => false
def nmsB (S : Sc) : List Nat → List Expr → Bool
  | [], [] => true
  | i :: is, x :: xs => nmB S i x && nmsB S is xs
  | _, _ => false
def tupsB (S : Sc) (is : List Nat) : Expr → Bool
  | .Tuple xs _ _ => nmsB S is xs
  | _ => false
def tqB (S : Sc) (i : Nat) (is : List Nat) : List Expr → Bool
  | [x, z] => nmB S i x && tupsB S is z
  | _ => false
def tgB (S : Sc) : Tg → Expr → Bool
  | .nm i, x => nmB S i x
  | .tp is, .Tuple xs _ _ => nmsB S is xs
  | .tq i is, .Tuple xs _ _ => tqB S i is xs
  | _, _ => false
def tgInB : Tg → List Nat → Bool
  | .nm i, vs => vs.contains i
  | .tp is, vs => is.all vs.contains
  | .tq i is, vs => vs.contains i && is.all vs.contains
def blkB (S : Sc) (scope : Scope) (own : List (Str × Nat)) : Bool :=
  decide (scope.kind = .function) && scope.names.all (fun y => decide (scope.names.lookup y.1 = some y.2)) && own.all (fun p => decide (S.N[p.2]? = some p.1))
  && scope.names.all (fun y => !decide (y.2 = .free) || decide (S.sc.names.lookup y.1 = some .cell) || decide (S.sc.names.lookup y.1 = some .free))
  && scope.names.all (fun y => !(decide (y.2 = .local) || decide (y.2 = .cell)) || (own.map (·.1)).contains y.1 || !(S.N.contains y.1))
def isTrueE : E → Bool
  | .bl true => true
  | _ => false
def ifsB (l : List Expr) (n : Bool) (k : Expr → Bool) : Bool := match l with
  | [] => n
  | [x] => k x
  | _ => false
def notCls : Ty → Bool
  | .cls _ => false
  | _ => true
def isNilE : E → Bool
  | .nil => true
  | _ => false
def optB (l : Option Expr) (n : Bool) (k : Expr → Bool) : Bool := match l with
  | none => n
  | some x => k x
def isTup : Expr → Bool
  | .Tuple _ _ _ => true
  | _ => false
mutual
def chkE : E → Sc → Expr → Bool
  | .var i, S, x => (match x with
    | .Name n _ => decide (S.N[i]? = some n) && visB S.sc n && okN n && !(n == cdt)
    | _ => false)
  | .non, _, x => (match x with
    | .Constant .none _ _ => true
    | _ => false)
  | .bl b, _, x => (match x with
    | .Constant (.bool c) _ _ => decide (b = c)
    | _ => false)
  | .int i, _, x => (match x with
    | .Constant (.int c) _ _ => decide (i = c)
    | _ => false)
  | .str i, _, x => (match x with
    | .Constant (.str c) _ _ => decide (i = c)
    | _ => false)
  | .gI m i, S, x => (match x with
    | .Name n _ => glB S.sc n && okN n && isG S.G n (kInt i)
    | _ => false)
  | .gS m i, S, x => (match x with
    | .Name n _ => glB S.sc n && okN n && isG S.G n (kStr i)
    | _ => false)
  | .tup es, S, x => (match x with
    | .Tuple xs _ _ => chkA es S xs && decide (xs.length ≤ 1000)
    | _ => false)
  | .lst m es, S, x => (match x with
    | .List xs _ => chkA es S xs && decide (xs.length ≤ 1000)
    | _ => false)
  | .bin m o a b, S, x => (match x with
    | .BinOp y p z _ => boB o p && chkE a S y && chkE b S z
    | _ => false)
  | .neg a, S, x => (match x with
    | .UnaryOp .USub y _ => chkE a S y
    | _ => false)
  | .cmp o a b, S, x => (match x with
    | .Compare y [p] [z] _ => coB o p && !(behindInMarks p z) && chkE a S y && chkE b S z
    | _ => false)
  | .chain o o2 a b c, S, x => (match x with
    | .Compare y [p, p2] [z, u] _ => coB o p && coB o2 p2 && !(lastMarks [p, p2] [z, u]) && chkE a S y && chkE b S z && chkE c S u
    | _ => false)
  | .and a b, S, x => (match x with
    | .BoolOp .And [y, z] p => chkE a S y && chkE b S z
    | .BoolOp .And (y :: z :: u :: us) p => chkE a S y && chkE b S (.BoolOp .And (z :: u :: us) p)
    | _ => false)
  | .or a b, S, x => (match x with
    | .BoolOp .Or [y, z] p => chkE a S y && chkE b S z
    | .BoolOp .Or (y :: z :: u :: us) p => chkE a S y && chkE b S (.BoolOp .Or (z :: u :: us) p)
    | _ => false)
  | .not a, S, x => (match x with
    | .UnaryOp .Not y _ => chkE a S y
    | _ => false)
  | .ifx c a b, S, x => (match x with
    | .IfExp u y z _ => tstE c && chkE c S u && chkE a S y && chkE b S z
    | _ => false)
  | .idx a i, S, x => (match x with
    | .Subscript y z _ => plainIxB z && chkE a S y && chkE i S z
    | _ => false)
  | .sl m a lo hi, S, x => (match x with
    | .Subscript y (.Slice l u none _) _ => chkE a S y && optB l (isNilE lo) (fun l => chkA lo S [l]) && optB u (isNilE hi) (fun u => chkA hi S [u])
    | _ => false)
  | .call f es, S, x => (match x with
    | .Call (.Name n _) (y :: ys) [] _ => glB S.sc n && okN n && isG S.G n (kFn f []) && (y :: ys).all noStar && chkA es S (y :: ys)
    | _ => false)
  | .prim p es, S, x => (match x with
    | .Call (.Name n _) (y :: ys) [] _ => freeB S n && decide (primN p = some n) && (y :: ys).all noStar && chkA es S (y :: ys)
    | _ => false)
  | .isI a t, S, x => (match x with
    | .Call (.Name n _) [y, .Name u _] [] _ => freeB S n && decide (n = "isinstance") && freeB S u && decide (u = Str.ofString (tyN t)) && notCls t && noStar y && chkE a S y
    | _ => false)
  | .meth o m es, S, x => (match x with
    | .Call (.Attribute z n q) (y :: ys) [] p => decide (metN m = some n) && baseB z && (q.endLine == p.line) && decide ((y :: ys).length < 25) && chkE o S z && (y :: ys).all noStar && chkA es S (y :: ys)
    | _ => false)
  | .lc m t it c el own, S, x => (match x with
    | .ListComp elt [⟨tg, iter, ifs, 0⟩] scope _ => chkI it S tg iter && noSet iter && blkB S scope own && tgB (S.blk scope) t tg && tgInB t (own.map (·.2)) && ifsB ifs (isTrueE c) (fun z => tstE c && chkE c (S.blk scope) z) && chkE el (S.blk scope) elt
    | _ => false)
  | _, _, _ => false
def chkA : E → Sc → List Expr → Bool
  | .nil, _, xs => (match xs with
    | [] => true
    | _ => false)
  | .cons a r, S, xs => (match xs with
    | y :: ys => noStar y && chkE a S y && chkA r S ys
    | _ => false)
  | _, _, _ => false
def chkI : E → Sc → Expr → Expr → Bool
  | .rng1 a, S, _, x => (match x with
    | .Call (.Name n _) [y] [] _ => freeB S n && decide (n = "range") && noStar y && chkE a S y
    | _ => false)
  | .rng2 a b, S, _, x => (match x with
    | .Call (.Name n _) [y, z] [] _ => freeB S n && decide (n = "range") && noStar y && noStar z && chkE a S y && chkE b S z
    | _ => false)
  | .enum a, S, tg, x => (match x with
    | .Call (.Name n _) [y] [] _ => freeB S n && decide (n = "enumerate") && isTup tg && noStar y && chkE a S y
    | _ => false)
  | .zip a b, S, tg, x => (match x with
    | .Call (.Name n _) [y, z] [] _ => freeB S n && decide (n = "zip") && isTup tg && noStar y && noStar z && chkE a S y && chkE b S z
    | _ => false)
  | .gen a, S, _, x => chkE a S x
  | _, _, _, _ => false
/-- what can be a test -/
def tstE : E → Bool
  | .and a b => tstE a && tstE b
  | .or a b => tstE a && tstE b
  | .not a => tstE a
  | .ifx _ _ _ => false
  | _ => true
end
end Mi
namespace Mi
open PySem PySem.Spec PyProof.Rows L2
theorem and_all {a b : Bool} (h : (a && b) = true) : a = true ∧ b = true := Bool.and_eq_true_iff.mp h
structure OkE (T : Tx) (X : Cx) (W : WX) (x : Expr) (m : Ev → MH → R D) (tb : Bool) : Prop where
  se : SE T X W x m
  st : tb = true → ST T X W x m
  sw : tb = true → ∀ op xs p, x = .BoolOp op xs p → PW X x (tT T W m)
section
variable {T : Tx} {ft : FT} {k : Nat} {S : Sc} {X : Cx} {W : WX}
theorem SE.congr {x : Expr} {m m' : Ev → MH → R D} (h : SE T X W x m) (e : ∀ ev h, m ev h = m' ev h) : SE T X W x m' := by
  have : m = m' := funext fun ev => funext fun h => e ev h
  rw [← this]; exact h
/-- what is tested by its value -/
theorem OkE.val {x : Expr} {m : Ev → MH → R D} {tb : Bool} (h : SE T X W x m) (v : valTest x = true) : OkE T X W x m tb :=
  ⟨h, fun _ => st_val v h, fun _ op xs p e => by subst e; cases v⟩
theorem Sx.vis (s : Sx T ft k S X W) {n : Str} (h : visB S.sc n = true) : Vis X.env.scope n := by
  unfold visB at h
  rw [s.sc]
  cases z : S.sc.names.lookup n with
  | none => rw [z] at h; cases h
  | some q =>
    rw [z] at h
    cases q with
    | «local» => exact .inl z
    | cell => exact .inr (.inl z)
    | free => exact .inr (.inr z)
    | _ => cases h
theorem Sx.gl (s : Sx T ft k S X W) {n : Str} (h : glB S.sc n = true) : Gl X n := by
  unfold glB at h
  show X.env.scope.names.lookup n = _
  rw [s.sc]
  cases z : S.sc.names.lookup n with
  | none => rw [z] at h; cases h
  | some q =>
    rw [z] at h
    cases q with
    | globalImplicit => rfl
    | _ => cases h
theorem okN_ok {n : Str} (h : okN n = true) : (n == ("__debug__" : Str)) = false := by
  unfold okN dbg at h
  simpa using h
theorem Sx.free (s : Sx T ft k S X W) {n : Str} (h : freeB S n = true) : Gl X n ∧ X.mg n = none := by
  unfold freeB at h
  rw [Bool.and_eq_true] at h
  refine ⟨s.gl h.1, ?_⟩
  obtain ⟨g, e, q⟩ := isG_ok h.2
  have z := s.glob n g e
  cases g with
  | free => exact z
  | _ => cases q
theorem Sx.slot (s : Sx T ft k S X W) {i : Nat} {n : Str} (h : S.N[i]? = some n) : X.N[i]? = some n := by rw [s.N]; exact h
/-! ### targets -/
theorem nm_ok (s : Sx T ft k S X W) {i : Nat} {x : Expr} (h : nmB S i x = true) : ∃ n p, x = .Name n p ∧ X.N[i]? = some n ∧ Loc X.env.scope n ∧ (X.fn n = true ∨ X.env.scope.names.lookup n = some .local) := by
  cases x with
  | Name n p =>
    simp only [nmB, Bool.and_eq_true, Bool.or_eq_true, decide_eq_true_eq] at h
    obtain ⟨h1, h2⟩ := h
    refine ⟨n, p, rfl, s.slot h1, ?_, ?_⟩
    · rw [s.sc]
      rcases h2 with h2 | h2
      · exact .inl h2
      · exact .inr h2.1
    · rw [s.sc]
      rcases h2 with h2 | h2
      · exact .inr h2
      · exact .inl (s.fn n h2.2)
  | _ => cases h
theorem nms_ok (s : Sx T ft k S X W) : ∀ {is : List Nat} {xs : List Expr}, nmsB S is xs = true → PGs X xs (gNames is) ∧ (assignEach xs X.env).length = is.length ∧ (assignEach xs X.env).findIdx? (·.1) = none
  | [], [], _ => ⟨pgs_nil, rfl, rfl⟩
  | i :: is, x :: xs, h => by
    have h : (nmB S i x && nmsB S is xs) = true := h
    rw [Bool.and_eq_true] at h
    obtain ⟨n, p, rfl, e1, e2, e3⟩ := nm_ok s h.1
    obtain ⟨a, b, c⟩ := nms_ok s h.2
    refine ⟨pgs_cons (pg_name s.nd e1 e2 e3) a rfl, ?_, ?_⟩
    · show (assignEach xs X.env).length + 1 = _
      rw [b]; rfl
    · show ((false, assign (.Name n p) X.env) :: assignEach xs X.env).findIdx? (·.1) = none
      rw [List.findIdx?_cons]
      simp [c]
  | [], _ :: _, h => by cases h
  | _ :: _, [], h => by cases h
def gOf (T : Tx) : Tg → TG
  | .nm i => gName i
  | .tp is => gTup T.K is.length (gNames is)
  | .tq i is => gTup T.K 2 (gCons (gName i) (gCons (gTup T.K is.length (gNames is)) gNil))
theorem gOf_ok (t : Tg) : TgOk T t (gOf T t) := by
  cases t with
  | nm i => exact TgOk.nm i
  | tp is => exact TgOk.tp is
  | tq i is => exact TgOk.tq i is
theorem tg_ok (s : Sx T ft k S X W) {t : Tg} {x : Expr} (h : tgB S t x = true) : PG X x (gOf T t) := by
  cases t with
  | nm i =>
    obtain ⟨n, p, rfl, e1, e2, e3⟩ := nm_ok s (show nmB S i x = true from h)
    exact pg_name s.nd e1 e2 e3
  | tp is =>
    cases x with
    | Tuple xs n p =>
      obtain ⟨a, b, c⟩ := nms_ok s (show nmsB S is xs = true from h)
      have pg := pg_tup (k := n) (pos := p) s.calm a b c
      rw [s.K] at pg
      exact pg
    | _ => cases h
  | tq i is =>
    cases x with
    | Tuple xs n p =>
      have h : tqB S i is xs = true := h
      match xs, h with
      | [y, z], h =>
        cases z with
        | Tuple zs m q =>
          have h : (nmB S i y && nmsB S is zs) = true := h
          rw [Bool.and_eq_true] at h
          obtain ⟨nn, pp, rfl, e1, e2, e3⟩ := nm_ok s h.1
          obtain ⟨a, b, c⟩ := nms_ok s h.2
          have pg := pg_tup (k := m) (pos := q) s.calm a b c
          rw [s.K] at pg
          have pg2 := pg_tup (k := n) (pos := p) (n := 2) s.calm (pgs_cons (pg_name (pos := pp) s.nd e1 e2 e3) (pgs_cons pg pgs_nil rfl) rfl) rfl rfl
          rw [s.K] at pg2
          exact pg2
        | _ =>
          have h := (and_all h).2
          cases h
      | [], h => cases h
      | [_], h => cases h
      | _ :: _ :: _ :: _, h => cases h
    | _ => cases h
theorem tgIn_ok {t : Tg} {vs : List Nat} (h : tgInB t vs = true) : tgIn t vs := by
  cases t with
  | nm i => show i ∈ vs; simpa [tgInB] using h
  | tp is => show ∀ i ∈ is, i ∈ vs; simpa [tgInB] using h
  | tq i is => show i ∈ vs ∧ ∀ i ∈ is, i ∈ vs; simpa [tgInB] using h
theorem blk_ok (s : Sx T ft k S X W) {scope : Scope} {own : List (Str × Nat)} (h : blkB S scope own = true) : BlkOk X.N X.env.scope scope own := by
  unfold blkB at h
  simp only [Bool.and_eq_true, List.all_eq_true, decide_eq_true_eq] at h
  obtain ⟨⟨⟨⟨h1, h2⟩, h3⟩, h4⟩, h5⟩ := h
  refine ⟨h1, h2, fun p hp => by rw [s.N]; exact h3 p hp, fun y hy e => ?_, fun y hy e => ?_⟩
  · have := h4 y hy
    rw [s.sc]
    simp only [e, decide_true, Bool.not_true, Bool.false_or, Bool.or_eq_true, decide_eq_true_eq] at this
    exact this
  · have := h5 y hy
    rw [s.N]
    have e' : (decide (y.2 = .local) || decide (y.2 = .cell)) = true := by
      rcases e with e | e <;> simp [e]
    rw [e'] at this
    simp only [Bool.not_true, Bool.false_or, Bool.or_eq_true, Bool.not_eq_true'] at this
    rcases this with this | this
    · exact .inl (by simpa using this)
    · exact .inr (by simpa using this)
theorem prim_ok (s : Sx T ft k S X W) {p : Pr} {n : Str} (hp : primN p = some n) : (∃ id, CallM T X (.builtin id) (prim p) ∧ bootBuiltins n = some (.builtin id)) ∨ ∃ id, CallM T X (.type id) (prim p) ∧ bootBuiltins n = some (.type id) := by
  cases p with
  | len => cases hp; exact .inl ⟨_, len_m s.K, boot_len⟩
  | all => cases hp; exact .inl ⟨_, all_m s.calm, by decide +kernel⟩
  | any => cases hp; exact .inl ⟨_, any_m s.calm, by decide +kernel⟩
  | sum => cases hp; exact .inl ⟨_, sum_m s.K s.calm, by decide +kernel⟩
  | list m => cases hp; exact .inr ⟨_, list_m s.K, by decide +kernel⟩
  | tuple => cases hp; exact .inr ⟨_, tuple_m s.K, by decide +kernel⟩
  | abs => cases hp; exact .inl ⟨_, abs_m, by decide +kernel⟩
  | min1 => cases hp; exact .inl ⟨_, min1_m s.calm, by decide +kernel⟩
  | max1 => cases hp; exact .inl ⟨_, max1_m s.calm, by decide +kernel⟩
  | min2 => cases hp; exact .inl ⟨_, min2_m s.calm, by decide +kernel⟩
  | max2 => cases hp; exact .inl ⟨_, max2_m s.calm, by decide +kernel⟩
  | _ => cases hp
theorem prim_names {p : Pr} {n : Str} (hp : primN p = some n) : n ≠ "__name__" ∧ (n == ("__debug__" : Str)) = false := by
  cases p <;> first | (cases hp; done) | (cases hp; exact ⟨by decide, by decide⟩)
theorem PTs.imp {X : Cx} {e : List Expr} {t t' : TT} (h : PTs X e t) (k : ∀ σ H Q, t' σ H Q → t σ H Q) : PTs X e t' := ⟨fun pins s σ H Q I q => h.run pins s σ H Q I (k σ H Q q)⟩
theorem se_lc (s : Sx T ft k S X W) {elt tg iter : Expr} {ifs : List Expr} {scope : Scope} {pos : Pos} {m : Bool} {t : Tg} {own : List (Str × Nat)} {mi : Ev → MH → R It} {mc mel : Ev → MH → R D} (hi : SI T X W tg iter mi) (hs : ∀ x, foldedSetIterable iter X.env x = pure x) (hb : blkB S scope own = true)
    (ht : tgB (S.blk scope) t tg = true) (hv : tgInB t (own.map (·.2)) = true) (hc : ∀ X' W', Sx T ft k (S.blk scope) X' W' → PTs X' ifs (tT T W' mc)) (he : ∀ X' W', Sx T ft k (S.blk scope) X' W' → SE T X' W' elt mel) :
    SE T X W (.ListComp elt [⟨tg, iter, ifs, 0⟩] scope pos) (fun e h => (mi e h).bind fun w h => lcR m (lcB t mc mel (wipeE e (own.map (·.2)))) w h) := by
  exact PE.imp (pe_lc s.calm s.nd (PI.sz hi) (blk_ok s hb) (fun s' H C cl fp => tg_ok (s.blk scope s' H C cl fp) ht) (fun s' H C cl fp => hc _ _ (s.blk scope s' H C cl fp)) (fun s' H C cl fp => he _ _ (s.blk scope s' H C cl fp)) hs) fun σ H Q q => tLc_of (gOf_ok t) (tgIn_ok hv) q
mutual
theorem chkE_ok : ∀ (m : E) (S : Sc) (X : Cx) (W : WX) (x : Expr), chkE m S x = true → Sx T ft k S X W → OkE T X W x (evE ft m) (tstE m)
  | .var i, S, X, W, x, hc, s => by
    cases x with
    | Name n p =>
      obtain ⟨h1, h4⟩ := and_all (show (decide (S.N[i]? = some n) && visB S.sc n && okN n && !(n == cdt)) = true from hc)
      obtain ⟨h1, h3⟩ := and_all h1
      obtain ⟨h1, h2⟩ := and_all h1
      exact .val (se_var (s.slot (of_decide_eq_true h1)) (s.vis h2) (okN_ok h3) (by simpa [cdt] using h4)) rfl
    | _ => cases hc
  | .non, S, X, W, x, hc, s => by
    cases x with
    | Constant c j p =>
      cases c with
      | none => exact .val (SE.const pe_non fun _ _ => rfl) rfl
      | _ => cases hc
    | _ => cases hc
  | .bl b, S, X, W, x, hc, s => by
    cases x with
    | Constant c j p =>
      cases c with
      | bool d =>
        have e : b = d := of_decide_eq_true hc
        subst e
        exact .val (SE.const pe_bl fun _ _ => rfl) rfl
      | _ => cases hc
    | _ => cases hc
  | .int i, S, X, W, x, hc, s => by
    cases x with
    | Constant c j p =>
      cases c with
      | int d =>
        have e : i = d := of_decide_eq_true hc
        subst e
        exact .val (SE.const pe_int fun _ _ => rfl) rfl
      | _ => cases hc
    | _ => cases hc
  | .str i, S, X, W, x, hc, s => by
    cases x with
    | Constant c j p =>
      cases c with
      | str d =>
        have e : i = d := of_decide_eq_true hc
        subst e
        exact .val (SE.const pe_str fun _ _ => rfl) rfl
      | _ => cases hc
    | _ => cases hc
  | .gI m i, S, X, W, x, hc, s => by
    cases x with
    | Name n p =>
      obtain ⟨h1, h3⟩ := and_all (show (glB S.sc n && okN n && isG S.G n (kInt i)) = true from hc)
      obtain ⟨h1, h2⟩ := and_all h1
      obtain ⟨g, e, q⟩ := isG_ok h3
      have z := s.glob n g e
      cases g with
      | int j =>
        have e : i = j := of_decide_eq_true q
        subst e
        obtain ⟨t, z⟩ := z
        exact .val (SE.const (pe_glob (v := .int i) (s.gl h1) z ⟨t, rfl⟩ (okN_ok h2)) fun _ _ => rfl) rfl
      | _ => cases q
    | _ => cases hc
  | .gS m i, S, X, W, x, hc, s => by
    cases x with
    | Name n p =>
      obtain ⟨h1, h3⟩ := and_all (show (glB S.sc n && okN n && isG S.G n (kStr i)) = true from hc)
      obtain ⟨h1, h2⟩ := and_all h1
      obtain ⟨g, e, q⟩ := isG_ok h3
      have z := s.glob n g e
      cases g with
      | str j =>
        have e : i = j := of_decide_eq_true q
        subst e
        obtain ⟨t, z⟩ := z
        exact .val (SE.const (pe_glob (v := .str i) (s.gl h1) z ⟨t, rfl⟩ (okN_ok h2)) fun _ _ => rfl) rfl
      | _ => cases q
    | _ => cases hc
  | .gF _ _, S, X, W, x, hc, s => by cases hc
  | .nil, S, X, W, x, hc, s => by cases hc
  | .cons _ _, S, X, W, x, hc, s => by cases hc
  | .tup es, S, X, W, x, hc, s => by
    cases x with
    | Tuple xs n p =>
      obtain ⟨h1, h2⟩ := and_all (show (chkA es S xs && decide (xs.length ≤ 1000)) = true from hc)
      obtain ⟨a, l, _⟩ := chkA_ok es S X W xs h1 s
      exact .val (se_tup (of_decide_eq_true h2) a l) rfl
    | _ => cases hc
  | .lst m es, S, X, W, x, hc, s => by
    cases x with
    | List xs p =>
      obtain ⟨h1, h2⟩ := and_all (show (chkA es S xs && decide (xs.length ≤ 1000)) = true from hc)
      obtain ⟨a, l, _⟩ := chkA_ok es S X W xs h1 s
      exact .val (se_lst (m := m) (of_decide_eq_true h2) a l) rfl
    | _ => cases hc
  | .bin m o a b, S, X, W, x, hc, s => by
    cases x with
    | BinOp y p z q =>
      obtain ⟨h1, h3⟩ := and_all (show (boB o p && chkE a S y && chkE b S z) = true from hc)
      obtain ⟨h1, h2⟩ := and_all h1
      rw [boB_ok h1]
      exact .val (se_bin (m := m) (o := o) s.K (chkE_ok a S X W y h2 s).se (chkE_ok b S X W z h3 s).se) rfl
    | _ => cases hc
  | .neg a, S, X, W, x, hc, s => by
    cases x with
    | UnaryOp op y p =>
      cases op with
      | USub => exact .val (se_neg (chkE_ok a S X W y hc s).se) rfl
      | _ => cases hc
    | _ => cases hc
  | .cmp o a b, S, X, W, x, hc, s => by
    cases x with
    | Compare y ps zs q =>
      match ps, zs, hc with
      | [p], [z], hc =>
        obtain ⟨h1, h4⟩ := and_all (show (coB o p && !(behindInMarks p z) && chkE a S y && chkE b S z) = true from hc)
        obtain ⟨h1, h3⟩ := and_all h1
        obtain ⟨h1, h2⟩ := and_all h1
        have e := coB_ok h1
        subst e
        have h2 : behindInMarks (coOf o) z = false := by simpa using h2
        exact ⟨se_cmp s.K s.hu h2 (chkE_ok a S X W y h3 s).se (chkE_ok b S X W z h4 s).se, fun _ => st_cmp s.K s.hu h2 (chkE_ok a S X W y h3 s).se (chkE_ok b S X W z h4 s).se, fun _ _ _ _ e => nomatch e⟩
    | _ => cases hc
  | .chain o o2 a b c, S, X, W, x, hc, s => by
    cases x with
    | Compare y ps zs q =>
      match ps, zs, hc with
      | [p, p2], [z, u], hc =>
        obtain ⟨h1, h6⟩ := and_all (show (coB o p && coB o2 p2 && !(lastMarks [p, p2] [z, u]) && chkE a S y && chkE b S z && chkE c S u) = true from hc)
        obtain ⟨h1, h5⟩ := and_all h1
        obtain ⟨h1, h4⟩ := and_all h1
        obtain ⟨h1, h3⟩ := and_all h1
        obtain ⟨h1, h2⟩ := and_all h1
        have e := coB_ok h1
        subst e
        have e := coB_ok h2
        subst e
        have h3 : lastMarks [coOf o, coOf o2] [z, u] = false := by simpa using h3
        exact ⟨se_chain s.K s.hu h3 (chkE_ok a S X W y h4 s).se (chkE_ok b S X W z h5 s).se (chkE_ok c S X W u h6 s).se, fun _ => st_chain s.K s.hu h3 (chkE_ok a S X W y h4 s).se (chkE_ok b S X W z h5 s).se (chkE_ok c S X W u h6 s).se, fun _ _ _ _ e => nomatch e⟩
    | _ => cases hc
  | .and a b, S, X, W, x, hc, s => by
    cases x with
    | BoolOp op xs q =>
      cases op with
      | Or => cases xs with
        | nil => cases hc
        | cons _ ys => cases ys with
          | nil => cases hc
          | cons _ zs => cases zs <;> cases hc
      | And =>
        match xs, hc with
        | [y, z], hc =>
          obtain ⟨h1, h2⟩ := and_all (show (chkE a S y && chkE b S z) = true from hc)
          have ha := chkE_ok a S X W y h1 s
          have hb := chkE_ok b S X W z h2 s
          have sw : (tstE a && tstE b) = true → PW X (.BoolOp .And [y, z] q) (tT T W (andM (evE ft a) (evE ft b))) := fun t => sw_and (ha.st (and_all t).1) (sw_one (hb.st (and_all t).2))
          exact ⟨se_and ha.se (pe_one hb.se), fun t => (sw t).pt, fun t _ _ _ _ => sw t⟩
        | y :: z :: u :: us, hc =>
          obtain ⟨h1, h2⟩ := and_all (show (chkE a S y && chkE b S (.BoolOp .And (z :: u :: us) q)) = true from hc)
          have ha := chkE_ok a S X W y h1 s
          have hb := chkE_ok b S X W _ h2 s
          have sw : (tstE a && tstE b) = true → PW X (.BoolOp .And (y :: z :: u :: us) q) (tT T W (andM (evE ft a) (evE ft b))) := fun t => sw_and (ha.st (and_all t).1) (hb.sw (and_all t).2 _ _ _ rfl)
          exact ⟨se_and ha.se hb.se, fun t => (sw t).pt, fun t _ _ _ _ => sw t⟩
    | _ => cases hc
  | .or a b, S, X, W, x, hc, s => by
    cases x with
    | BoolOp op xs q =>
      cases op with
      | And => cases xs with
        | nil => cases hc
        | cons _ ys => cases ys with
          | nil => cases hc
          | cons _ zs => cases zs <;> cases hc
      | Or =>
        match xs, hc with
        | [y, z], hc =>
          obtain ⟨h1, h2⟩ := and_all (show (chkE a S y && chkE b S z) = true from hc)
          have ha := chkE_ok a S X W y h1 s
          have hb := chkE_ok b S X W z h2 s
          have sw : (tstE a && tstE b) = true → PW X (.BoolOp .Or [y, z] q) (tT T W (orM (evE ft a) (evE ft b))) := fun t => sw_or (ha.st (and_all t).1) (sw_one (hb.st (and_all t).2))
          exact ⟨se_or ha.se (pe_one hb.se), fun t => (sw t).pt, fun t _ _ _ _ => sw t⟩
        | y :: z :: u :: us, hc =>
          obtain ⟨h1, h2⟩ := and_all (show (chkE a S y && chkE b S (.BoolOp .Or (z :: u :: us) q)) = true from hc)
          have ha := chkE_ok a S X W y h1 s
          have hb := chkE_ok b S X W _ h2 s
          have sw : (tstE a && tstE b) = true → PW X (.BoolOp .Or (y :: z :: u :: us) q) (tT T W (orM (evE ft a) (evE ft b))) := fun t => sw_or (ha.st (and_all t).1) (hb.sw (and_all t).2 _ _ _ rfl)
          exact ⟨se_or ha.se hb.se, fun t => (sw t).pt, fun t _ _ _ _ => sw t⟩
    | _ => cases hc
  | .not a, S, X, W, x, hc, s => by
    cases x with
    | UnaryOp op y p =>
      cases op with
      | Not =>
        have ha := chkE_ok a S X W y hc s
        exact ⟨se_not ha.se, fun t => st_not (ha.st t), fun _ _ _ _ e => nomatch e⟩
      | _ => cases hc
    | _ => cases hc
  | .ifx c a b, S, X, W, x, hc, s => by
    cases x with
    | IfExp u y z p =>
      obtain ⟨h1, h3⟩ := and_all (show (tstE c && chkE c S u && chkE a S y && chkE b S z) = true from hc)
      obtain ⟨h1, h2⟩ := and_all h1
      obtain ⟨h0, h1⟩ := and_all h1
      exact ⟨se_if ((chkE_ok c S X W u h1 s).st h0) (chkE_ok a S X W y h2 s).se (chkE_ok b S X W z h3 s).se, fun t => (by cases t), fun t => (by cases t)⟩
    | _ => cases hc
  | .idx a i, S, X, W, x, hc, s => by
    cases x with
    | Subscript y z p =>
      obtain ⟨h1, h3⟩ := and_all (show (plainIxB z && chkE a S y && chkE i S z) = true from hc)
      obtain ⟨h1, h2⟩ := and_all h1
      exact .val (se_idx s.K s.hu (plainIx_ok h1) (chkE_ok a S X W y h2 s).se (chkE_ok i S X W z h3 s).se) rfl
    | _ => cases hc
  | .sl m a lo hi, S, X, W, x, hc, s => by
    cases x with
    | Subscript y z p =>
      cases z with
      | Slice l u st p2 =>
        cases st with
        | some _ => cases hc
        | none =>
          obtain ⟨h1, h3⟩ := and_all (show (chkE a S y && optB l (isNilE lo) (fun l => chkA lo S [l]) && optB u (isNilE hi) (fun u => chkA hi S [u])) = true from hc)
          obtain ⟨h1, h2⟩ := and_all h1
          have pl : PartOk T X W l (evA ft lo) := by
            cases l with
            | none =>
              cases lo with
              | nil => exact PartOk.no
              | _ => cases h2
            | some l => exact (chkA_ok lo S X W [l] h2 s).2.2 l rfl
          have pu : PartOk T X W u (evA ft hi) := by
            cases u with
            | none =>
              cases hi with
              | nil => exact PartOk.no
              | _ => cases h3
            | some u => exact (chkA_ok hi S X W [u] h3 s).2.2 u rfl
          exact .val (se_sl s.K (chkE_ok a S X W y h1 s).se pl pu) rfl
      | _ => cases hc
    | _ => cases hc
  | .rev _ _, S, X, W, x, hc, s => by cases hc
  | .call f es, S, X, W, x, hc, s => by
    cases x with
    | Call fn xs kws p =>
      cases fn with
      | Name n q =>
        match xs, kws, hc with
        | y :: ys, [], hc =>
          obtain ⟨h1, h5⟩ := and_all (show (glB S.sc n && okN n && isG S.G n (kFn f []) && (y :: ys).all noStar && chkA es S (y :: ys)) = true from hc)
          obtain ⟨h1, h4⟩ := and_all h1
          obtain ⟨h1, h3⟩ := and_all h1
          obtain ⟨h1, h2⟩ := and_all h1
          obtain ⟨g, e, qq⟩ := isG_ok h3
          have z := s.glob n g e
          cases g with
          | fn f' np nd =>
            have e : f = f' := of_decide_eq_true (and_all (show (decide (f = f') && _) = true from qq)).1
            subst e
            refine .val ((se_call (dl := []) z.2 s.room s.tk (s.gl h1) z.1 (okN_ok h2) (.inl rfl) h4 (chkA_ok es S X W (y :: ys) h5 s).1).congr fun ev h => ?_) rfl
            show _ = (evA ft es ev h).bind fun ds h => ft f ds h
            cases evA ft es ev h with
            | ok ds h1 => show ft f (ds ++ []) h1 = _; rw [List.append_nil]; rfl
            | _ => rfl
          | _ => cases qq
      | _ => cases hc
    | _ => cases hc
  | .prim p es, S, X, W, x, hc, s => by
    cases x with
    | Call fn xs kws q =>
      cases fn with
      | Name n q2 =>
        match xs, kws, hc with
        | y :: ys, [], hc =>
          obtain ⟨h1, h4⟩ := and_all (show (freeB S n && decide (primN p = some n) && (y :: ys).all noStar && chkA es S (y :: ys)) = true from hc)
          obtain ⟨h1, h3⟩ := and_all h1
          obtain ⟨h1, h2⟩ := and_all h1
          have h2 := of_decide_eq_true h2
          obtain ⟨gl, mg⟩ := s.free h1
          obtain ⟨n1, n2⟩ := prim_names h2
          have a := (chkA_ok es S X W (y :: ys) h4 s).1
          rcases prim_ok s h2 with ⟨id, c, b⟩ | ⟨id, c, b⟩
          · exact .val (se_callB c gl mg b n1 n2 h3 a) rfl
          · exact .val (se_callTy c gl mg b n1 n2 h3 a) rfl
      | _ => cases hc
    | _ => cases hc
  | .isI a t, S, X, W, x, hc, s => by
    cases x with
    | Call fn xs kws q =>
      cases fn with
      | Name n q2 =>
        match xs, kws, hc with
        | [y, .Name u q3], [], hc =>
          obtain ⟨h1, h7⟩ := and_all (show (freeB S n && decide (n = "isinstance") && freeB S u && decide (u = Str.ofString (tyN t)) && notCls t && noStar y && chkE a S y) = true from hc)
          obtain ⟨h1, h6⟩ := and_all h1
          obtain ⟨h1, h5⟩ := and_all h1
          obtain ⟨h1, h4⟩ := and_all h1
          obtain ⟨h1, h3⟩ := and_all h1
          obtain ⟨h1, h2⟩ := and_all h1
          obtain ⟨gl, mg⟩ := s.free h1
          obtain ⟨gl2, mg2⟩ := s.free h3
          have e := of_decide_eq_true h2
          subst e
          have e := of_decide_eq_true h4
          subst e
          exact .val (se_isI s.K (fun c e => by subst e; cases h5) gl mg gl2 mg2 h6 (chkE_ok a S X W y h7 s).se) rfl
      | _ => cases hc
    | _ => cases hc
  | .meth o m es, S, X, W, x, hc, s => by
    cases x with
    | Call fn xs kws p =>
      cases fn with
      | Attribute z n q =>
        match xs, kws, hc with
        | y :: ys, [], hc =>
          obtain ⟨h1, h7⟩ := and_all (show (decide (metN m = some n) && baseB z && (q.endLine == p.line) && decide ((y :: ys).length < 25) && chkE o S z && (y :: ys).all noStar && chkA es S (y :: ys)) = true from hc)
          obtain ⟨h1, h6⟩ := and_all h1
          obtain ⟨h1, h5⟩ := and_all h1
          obtain ⟨h1, h4⟩ := and_all h1
          obtain ⟨h1, h3⟩ := and_all h1
          obtain ⟨h1, h2⟩ := and_all h1
          have h1 := of_decide_eq_true h1
          have ho := (chkE_ok o S X W z h5 s).se
          have ha := (chkA_ok es S X W (y :: ys) h7 s).1
          cases m with
          | append => cases h1; exact .val (se_met (t := .list) s.K (.inl rfl) PySem.F.plainAttrs_list PySem.F.slot_list_append PySem.F.type_list_append app_m ho h6 ha (base_ok h2) (of_decide_eq_true h4) h3) rfl
          | extend => cases h1; exact .val (se_met (t := .list) s.K (.inl rfl) PySem.F.plainAttrs_list PySem.F.slot_list_extend PySem.F.type_list_extend ext_m ho h6 ha (base_ok h2) (of_decide_eq_true h4) h3) rfl
          | _ => cases h1
      | _ => cases hc
    | _ => cases hc
  | .omet _ _ _, S, X, W, x, hc, s => by cases hc
  | .fld _ _, S, X, W, x, hc, s => by cases hc
  | .lc m t it c el own, S, X, W, x, hc, s => by
    cases x with
    | ListComp elt gs scope p =>
      match gs, hc with
      | [⟨tg, iter, ifs, 0⟩], hc =>
        obtain ⟨h1, h7⟩ := and_all (show (chkI it S tg iter && noSet iter && blkB S scope own && tgB (S.blk scope) t tg && tgInB t (own.map (·.2)) && ifsB ifs (isTrueE c) (fun z => tstE c && chkE c (S.blk scope) z) && chkE el (S.blk scope) elt) = true from hc)
        obtain ⟨h1, h6⟩ := and_all h1
        obtain ⟨h1, h5⟩ := and_all h1
        obtain ⟨h1, h4⟩ := and_all h1
        obtain ⟨h1, h3⟩ := and_all h1
        obtain ⟨h1, h2⟩ := and_all h1
        refine .val (se_lc s (chkI_ok it S X W tg iter h1 s) (noSet_ok h2) h3 h4 h5 (fun X' W' s' => ?_) (fun X' W' s' => (chkE_ok el (S.blk scope) X' W' elt h7 s').se)) rfl
        cases ifs with
        | nil =>
          cases c with
          | bl b =>
            cases b with
            | true => exact PTs.imp pts_nil fun σ H Q ⟨g, h, e, r, s0, o⟩ => OutT.here r o
            | false => cases h6
          | _ => cases h6
        | cons z zs =>
          cases zs with
          | nil =>
            obtain ⟨a, b⟩ := and_all (show (tstE c && chkE c (S.blk scope) z) = true from h6)
            exact pts_one ((chkE_ok c (S.blk scope) X' W' z b s').st a)
          | cons _ _ => cases h6
    | _ => cases hc
  | .zipL _ _ _, S, X, W, x, hc, s => by cases hc
  | .dnew _, S, X, W, x, hc, s => by cases hc
  | .gen _, S, X, W, x, hc, s => by cases hc
  | .rng1 _, S, X, W, x, hc, s => by cases hc
  | .rng2 _ _, S, X, W, x, hc, s => by cases hc
  | .enum _, S, X, W, x, hc, s => by cases hc
  | .zip _ _, S, X, W, x, hc, s => by cases hc
theorem chkA_ok : ∀ (m : E) (S : Sc) (X : Cx) (W : WX) (xs : List Expr), chkA m S xs = true → Sx T ft k S X W →
    SA T X W xs (evA ft m) ∧ (∀ e h ds h1, evA ft m e h = .ok ds h1 → ds.length = xs.length) ∧ ∀ y, xs = [y] → PartOk T X W (some y) (evA ft m)
  | .nil, S, X, W, xs, hc, s => by
    cases xs with
    | nil => exact ⟨SA.nil, fun e h ds h1 z => by cases z; rfl, fun y e => nomatch e⟩
    | cons _ _ => cases hc
  | .cons a r, S, X, W, xs, hc, s => by
    cases xs with
    | nil => cases hc
    | cons y ys =>
      obtain ⟨h1, h3⟩ := and_all (show (noStar y && chkE a S y && chkA r S ys) = true from hc)
      obtain ⟨h1, h2⟩ := and_all h1
      have ha := (chkE_ok a S X W y h2 s).se
      obtain ⟨hr, hl, _⟩ := chkA_ok r S X W ys h3 s
      refine ⟨SA.cons h1 ha hr, fun e h ds h1 z => ?_, fun y' e => ?_⟩
      · have z : ((evE ft a e h).bind fun x h => (evA ft r e h).bind fun xs h => .ok (x :: xs) h) = .ok ds h1 := z
        cases z1 : evE ft a e h with
        | ok x h2 =>
          rw [z1] at z
          have z : ((evA ft r e h2).bind fun xs h => .ok (x :: xs) h) = .ok ds h1 := z
          cases z2 : evA ft r e h2 with
          | ok ds' h3 =>
            rw [z2] at z
            cases z
            simp [hl e h2 ds' _ z2]
          | _ => rw [z2] at z; cases z
        | _ => rw [z1] at z; cases z
      · cases e
        cases r with
        | nil => exact PartOk.yes ha
        | _ => cases h3
  | .var _, _, _, _, _, hc, _ => by cases hc
  | .non, _, _, _, _, hc, _ => by cases hc
  | .bl _, _, _, _, _, hc, _ => by cases hc
  | .int _, _, _, _, _, hc, _ => by cases hc
  | .str _, _, _, _, _, hc, _ => by cases hc
  | .gI _ _, _, _, _, _, hc, _ => by cases hc
  | .gS _ _, _, _, _, _, hc, _ => by cases hc
  | .gF _ _, _, _, _, _, hc, _ => by cases hc
  | .tup _, _, _, _, _, hc, _ => by cases hc
  | .lst _ _, _, _, _, _, hc, _ => by cases hc
  | .bin _ _ _ _, _, _, _, _, hc, _ => by cases hc
  | .neg _, _, _, _, _, hc, _ => by cases hc
  | .cmp _ _ _, _, _, _, _, hc, _ => by cases hc
  | .chain _ _ _ _ _, _, _, _, _, hc, _ => by cases hc
  | .and _ _, _, _, _, _, hc, _ => by cases hc
  | .or _ _, _, _, _, _, hc, _ => by cases hc
  | .not _, _, _, _, _, hc, _ => by cases hc
  | .ifx _ _ _, _, _, _, _, hc, _ => by cases hc
  | .idx _ _, _, _, _, _, hc, _ => by cases hc
  | .sl _ _ _ _, _, _, _, _, hc, _ => by cases hc
  | .rev _ _, _, _, _, _, hc, _ => by cases hc
  | .call _ _, _, _, _, _, hc, _ => by cases hc
  | .prim _ _, _, _, _, _, hc, _ => by cases hc
  | .isI _ _, _, _, _, _, hc, _ => by cases hc
  | .meth _ _ _, _, _, _, _, hc, _ => by cases hc
  | .omet _ _ _, _, _, _, _, hc, _ => by cases hc
  | .fld _ _, _, _, _, _, hc, _ => by cases hc
  | .lc _ _ _ _ _ _, _, _, _, _, hc, _ => by cases hc
  | .zipL _ _ _, _, _, _, _, hc, _ => by cases hc
  | .dnew _, _, _, _, _, hc, _ => by cases hc
  | .gen _, _, _, _, _, hc, _ => by cases hc
  | .rng1 _, _, _, _, _, hc, _ => by cases hc
  | .rng2 _ _, _, _, _, _, hc, _ => by cases hc
  | .enum _, _, _, _, _, hc, _ => by cases hc
  | .zip _ _, _, _, _, _, hc, _ => by cases hc
theorem chkI_ok : ∀ (m : E) (S : Sc) (X : Cx) (W : WX) (tg x : Expr), chkI m S tg x = true → Sx T ft k S X W → SI T X W tg x (evI ft m)
  | .gen a, S, X, W, tg, x, hc, s => si_gen s.K (chkE_ok a S X W x hc s).se
  | .rng1 a, S, X, W, tg, x, hc, s => by
    cases x with
    | Call fn xs kws q =>
      cases fn with
      | Name n q2 =>
        match xs, kws, hc with
        | [y], [], hc =>
          obtain ⟨h1, h4⟩ := and_all (show (freeB S n && decide (n = "range") && noStar y && chkE a S y) = true from hc)
          obtain ⟨h1, h3⟩ := and_all h1
          obtain ⟨h1, h2⟩ := and_all h1
          have e := of_decide_eq_true h2
          subst e
          obtain ⟨gl, mg⟩ := s.free h1
          exact si_rng1 gl mg h3 (chkE_ok a S X W y h4 s).se
      | _ => cases hc
    | _ => cases hc
  | .rng2 a b, S, X, W, tg, x, hc, s => by
    cases x with
    | Call fn xs kws q =>
      cases fn with
      | Name n q2 =>
        match xs, kws, hc with
        | [y, z], [], hc =>
          obtain ⟨h1, h6⟩ := and_all (show (freeB S n && decide (n = "range") && noStar y && noStar z && chkE a S y && chkE b S z) = true from hc)
          obtain ⟨h1, h5⟩ := and_all h1
          obtain ⟨h1, h4⟩ := and_all h1
          obtain ⟨h1, h3⟩ := and_all h1
          obtain ⟨h1, h2⟩ := and_all h1
          have e := of_decide_eq_true h2
          subst e
          obtain ⟨gl, mg⟩ := s.free h1
          exact si_rng2 gl mg h3 h4 (chkE_ok a S X W y h5 s).se (chkE_ok b S X W z h6 s).se
      | _ => cases hc
    | _ => cases hc
  | .enum a, S, X, W, tg, x, hc, s => by
    cases x with
    | Call fn xs kws q =>
      cases fn with
      | Name n q2 =>
        match xs, kws, hc with
        | [y], [], hc =>
          obtain ⟨h1, h5⟩ := and_all (show (freeB S n && decide (n = "enumerate") && isTup tg && noStar y && chkE a S y) = true from hc)
          obtain ⟨h1, h4⟩ := and_all h1
          obtain ⟨h1, h3⟩ := and_all h1
          obtain ⟨h1, h2⟩ := and_all h1
          have e := of_decide_eq_true h2
          subst e
          obtain ⟨gl, mg⟩ := s.free h1
          cases tg with
          | Tuple es kk tp => exact si_enum s.K gl mg h4 (chkE_ok a S X W y h5 s).se
          | _ => cases h3
      | _ => cases hc
    | _ => cases hc
  | .zip a b, S, X, W, tg, x, hc, s => by
    cases x with
    | Call fn xs kws q =>
      cases fn with
      | Name n q2 =>
        match xs, kws, hc with
        | [y, z], [], hc =>
          obtain ⟨h1, h7⟩ := and_all (show (freeB S n && decide (n = "zip") && isTup tg && noStar y && noStar z && chkE a S y && chkE b S z) = true from hc)
          obtain ⟨h1, h6⟩ := and_all h1
          obtain ⟨h1, h5⟩ := and_all h1
          obtain ⟨h1, h4⟩ := and_all h1
          obtain ⟨h1, h3⟩ := and_all h1
          obtain ⟨h1, h2⟩ := and_all h1
          have e := of_decide_eq_true h2
          subst e
          obtain ⟨gl, mg⟩ := s.free h1
          cases tg with
          | Tuple es kk tp => exact si_zip s.K gl mg h4 h5 (chkE_ok a S X W y h6 s).se (chkE_ok b S X W z h7 s).se
          | _ => cases h3
      | _ => cases hc
    | _ => cases hc
  | .nil, _, _, _, _, _, hc, _ => by cases hc
  | .cons _ _, _, _, _, _, _, hc, _ => by cases hc
  | .var _, _, _, _, _, _, hc, _ => by cases hc
  | .non, _, _, _, _, _, hc, _ => by cases hc
  | .bl _, _, _, _, _, _, hc, _ => by cases hc
  | .int _, _, _, _, _, _, hc, _ => by cases hc
  | .str _, _, _, _, _, _, hc, _ => by cases hc
  | .gI _ _, _, _, _, _, _, hc, _ => by cases hc
  | .gS _ _, _, _, _, _, _, hc, _ => by cases hc
  | .gF _ _, _, _, _, _, _, hc, _ => by cases hc
  | .tup _, _, _, _, _, _, hc, _ => by cases hc
  | .lst _ _, _, _, _, _, _, hc, _ => by cases hc
  | .bin _ _ _ _, _, _, _, _, _, hc, _ => by cases hc
  | .neg _, _, _, _, _, _, hc, _ => by cases hc
  | .cmp _ _ _, _, _, _, _, _, hc, _ => by cases hc
  | .chain _ _ _ _ _, _, _, _, _, _, hc, _ => by cases hc
  | .and _ _, _, _, _, _, _, hc, _ => by cases hc
  | .or _ _, _, _, _, _, _, hc, _ => by cases hc
  | .not _, _, _, _, _, _, hc, _ => by cases hc
  | .ifx _ _ _, _, _, _, _, _, hc, _ => by cases hc
  | .idx _ _, _, _, _, _, _, hc, _ => by cases hc
  | .sl _ _ _ _, _, _, _, _, _, hc, _ => by cases hc
  | .rev _ _, _, _, _, _, _, hc, _ => by cases hc
  | .call _ _, _, _, _, _, _, hc, _ => by cases hc
  | .prim _ _, _, _, _, _, _, hc, _ => by cases hc
  | .isI _ _, _, _, _, _, _, hc, _ => by cases hc
  | .meth _ _ _, _, _, _, _, _, hc, _ => by cases hc
  | .omet _ _ _, _, _, _, _, _, hc, _ => by cases hc
  | .fld _ _, _, _, _, _, _, hc, _ => by cases hc
  | .lc _ _ _ _ _ _, _, _, _, _, _, hc, _ => by cases hc
  | .zipL _ _ _, _, _, _, _, _, hc, _ => by cases hc
  | .dnew _, _, _, _, _, _, hc, _ => by cases hc
end
theorem ifs_ok {c : E} {ifs : List Expr} (h6 : ifsB ifs (isTrueE c) (fun z => tstE c && chkE c S z) = true) (s' : Sx T ft k S X W) : PTs X ifs (tT T W (evE ft c)) := by
  cases ifs with
  | nil =>
    cases c with
    | bl b =>
      cases b with
      | true => exact PTs.imp pts_nil fun σ H Q ⟨g, h, e, r, s0, o⟩ => OutT.here r o
      | false => cases h6
    | _ => cases h6
  | cons z zs =>
    cases zs with
    | nil =>
      obtain ⟨a, b⟩ := and_all (show (tstE c && chkE c S z) = true from h6)
      exact pts_one ((chkE_ok c S X W z b s').st a)
    | cons _ _ => cases h6
end
end Mi
namespace Mi
open PySem PySem.Spec PyProof.Rows L2
section
variable {T : Tx} {ft : FT} {k : Nat} {S : Sc} {X : Cx} {W : WX}
theorem augO_ne {o : Bo} (ho : o = .add ∨ o = .sub) : ∀ a b h c p h1, augO o a b h ≠ .exn c p h1 := by
  intro a b h c p h1 z
  unfold augO at z
  split at z
  · split at z
    · rcases ho with ho | ho <;> subst ho <;> cases z
    · cases z
  · split at z
    · split at z
      · rcases ho with ho | ho <;> subst ho
        · simp only [bop, addD] at z
          split at z <;> cases z
        · cases z
      · cases z
    · cases z
theorem isInt_some {d : D} {i : Int} (h : isInt d = some i) : d = .int i := by cases d <;> first | (cases h; rfl) | cases h
theorem isStr_some {d : D} {i : Str} (h : isStr d = some i) : d = .str i := by cases d <;> first | (cases h; rfl) | cases h
theorem aug_m {o : Bo} (op : Operator) (w : XW) (ho : (o = .add ∧ op = .Add) ∨ (o = .sub ∧ op = .Sub)) : PIp X op (R2m T w (augO o)) := by
  intro pins s σ H x y v u Q I rx ry q
  obtain ⟨g, h, a, b, r, ra, rb, oo⟩ := q (inv_sz I)
  unfold augO at oo
  cases za : isInt a with
  | some i =>
    rw [za] at oo
    have e := isInt_some za
    subst e
    cases zb : isInt b with
    | none => rw [zb] at oo; exact oo.elim
    | some j =>
      rw [zb] at oo
      have e := isInt_some zb
      subst e
      have e1 : x = .int i := ra
      have e2 : y = .int j := rb
      subst e1 e2
      rcases ho with ⟨rfl, rfl⟩ | ⟨rfl, rfl⟩
      · exact iop_add pins s σ H _ _ v u Q I rx ry ⟨i, j, rfl, rfl, Out.here (d := .int (i + j)) r oo rfl⟩
      · exact iop_sub pins s σ H _ _ v u Q I rx ry ⟨i, j, rfl, rfl, Out.here (d := .int (i - j)) r oo rfl⟩
  | none =>
    rw [za] at oo
    cases ya : isStr a with
    | none => rw [ya] at oo; exact oo.elim
    | some i =>
      rw [ya] at oo
      have e := isStr_some ya
      subst e
      cases zb : isStr b with
      | none => rw [zb] at oo; exact oo.elim
      | some j =>
        rw [zb] at oo
        have e := isStr_some zb
        subst e
        have e1 : x = .str i := ra
        have e2 : y = .str j := rb
        subst e1 e2
        rcases ho with ⟨rfl, rfl⟩ | ⟨rfl, rfl⟩
        · have oo : Out T g H (if i.length + j.length ≤ big then .ok (.str (i ++ j)) h else .stuck) Q w := oo
          by_cases c : i.length + j.length ≤ big
          · rw [if_pos c] at oo
            exact iop_add_str pins s σ H _ _ v u Q I rx ry ⟨i, j, rfl, rfl, big_size c, Out.here (d := .str (i ++ j)) r oo rfl⟩
          · rw [if_neg c] at oo; exact oo.elim
        · exact oo.elim
/-! ### the check, of statements -/
def noComp : Expr → Bool
  | .ListComp _ _ _ _ => false
  | .SetComp _ _ _ _ => false
  | .DictComp _ _ _ _ _ => false
  | _ => true
theorem noComp_ok {e : Expr} {t : Option Expr} {l : Nat} {env : Env} (h : noComp e = true) : swapsWith e t l env = pure false := by
  cases e <;> first | rfl | cases h
def augB : Bo → Operator → Bool
  | .add, .Add => true
  | .sub, .Sub => true
  | _, _ => false
theorem augB_ok {o : Bo} {p : Operator} (h : augB o p = true) : (o = .add ∧ p = .Add) ∨ (o = .sub ∧ p = .Sub) := by
  cases o <;> cases p <;> first | exact .inl ⟨rfl, rfl⟩ | exact .inr ⟨rfl, rfl⟩ | cases h
def isLoc (sc : Scope) (n : Str) : Bool := match sc.names.lookup n with
  | some .local => true
  | _ => false
theorem isLoc_ok {sc : Scope} {n : Str} (h : isLoc sc n = true) : sc.names.lookup n = some .local := by
  unfold isLoc at h
  cases z : sc.names.lookup n with
  | none => rw [z] at h; cases h
  | some q =>
    rw [z] at h
    cases q with
    | «local» => rfl
    | _ => cases h
def isNm : Expr → Bool
  | .Name _ _ => true
  | _ => false
/-- a store of a comprehension by name -/
def swB (sc : Scope) (n : Str) (py : Pos) (scope : Scope) (pos : Pos) : Bool :=
  decide (sc.kind = .function) && isLoc sc n && (py.line == pos.line) && !(scope.names.any fun (m, k) => m == n && (k == .local || k == .cell))
/-- .. by another road -/
def swN (sc : Scope) (n : Str) (py : Pos) (pos : Pos) : Bool := decide (sc.kind = .function) && (!(isLoc sc n) || !(py.line == pos.line))
theorem swN_ok {env : Env} {elt : Expr} {gs : List Comprehension} {scope : Scope} {n : Str} {py pos : Pos} {l : Nat} (h : swN env.scope n py pos = true) : swapsWith (.ListComp elt gs scope pos) (some (.Name n py)) l env = pure false := by
  unfold swN at h
  obtain ⟨h1, h2⟩ := and_all h
  have hb : env.blockKind = .function := by unfold Env.blockKind; rw [of_decide_eq_true h1]; rfl
  unfold swapsWith
  show pure (env.blockKind == .function && env.kindOf n == some .local && py.line == pos.line && !(scope.names.any fun (m, k) => m == n && (k == .local || k == .cell))) = pure false
  rw [hb]
  have : (env.kindOf n == some .local && py.line == pos.line) = false := by
    rw [Bool.or_eq_true] at h2
    rcases h2 with h2 | h2
    · have : (env.kindOf n == some .local) = false := by
        cases z : (env.kindOf n == some .local) with
        | false => rfl
        | true =>
          have z : env.scope.names.lookup n = some .local := eq_of_beq z
          unfold isLoc at h2
          rw [z] at h2
          cases h2
      rw [this]; rfl
    · rw [Bool.and_eq_false_iff]
      right
      simpa using h2
  rw [show ((ScopeKind.function == ScopeKind.function) && env.kindOf n == some .local && py.line == pos.line && !(scope.names.any fun (m, k) => m == n && (k == .local || k == .cell))) = ((env.kindOf n == some .local && py.line == pos.line) && !(scope.names.any fun (m, k) => m == n && (k == .local || k == .cell))) from rfl, this]
  rfl
def parB (sc : Scope) (x y : Str) (px py : Pos) (a b : Expr) : Bool :=
  decide (sc.kind = .function) && noStar a && noStar b && isLoc sc x && isLoc sc y && (px.line == py.line) && !decide (x = y) && !(foldedForSure 8 a && foldedForSure 8 b) && !(constantsAlone 8 a && constantsAlone 8 b)
def parN (sc : Scope) (x y : Str) : Bool := decide (sc.kind = .function) && !(isLoc sc x && isLoc sc y)
def twoN : Expr → Option (Str × Pos × Str × Pos)
  | .Tuple [.Name x px, .Name y py] _ _ => some (x, px, y, py)
  | _ => none
theorem star_no {a : Expr} (h : noStar a = true) : (match a with
    | .Starred .. => true
    | _ => false) = false := by cases a <;> first | rfl | cases h
theorem loc_eq {env : Env} {n : Str} : (env.kindOf n == some NameKind.local) = isLoc env.scope n := by
  unfold isLoc
  show (env.scope.names.lookup n == some NameKind.local) = _
  cases env.scope.names.lookup n with
  | none => rfl
  | some q => cases q <;> rfl
theorem par_ok {env : Env} {x y : Str} {px py pt pt2 : Pos} {kt k2 : Nat} {a b : Expr} (h : parB env.scope x y px py a b = true) :
    swappedStores [.Tuple [.Name x px, .Name y py] kt pt] (.Tuple [a, b] k2 pt2) env = pure (some [x, y]) := by
  unfold parB at h
  simp only [Bool.and_eq_true, decide_eq_true_eq, Bool.not_eq_true', decide_eq_false_iff_not] at h
  obtain ⟨⟨⟨⟨⟨⟨⟨⟨h1, h2⟩, h3⟩, h4⟩, h5⟩, h6⟩, h7⟩, h8⟩, h9⟩ := h
  have hb : env.blockKind = .function := by unfold Env.blockKind; rw [h1]; rfl
  have l : py.line = px.line := (eq_of_beq h6).symm
  unfold swappedStores
  simp only [hb, List.length_cons, List.length_nil, List.any_cons, List.any_nil, star_no h2, star_no h3, List.head?_cons, Option.map_some, Option.getD_some, List.filterMap_cons, List.filterMap_nil, loc_eq, h4, h5, Expr.pos, l, beq_self_eq_true, Bool.and_self, if_true, List.all_cons, List.all_nil, Bool.and_true, h8, h9]
  have e : ([x, y] : List Str).eraseDups.length = 2 := by
    rw [List.eraseDups_cons]
    have : ([y] : List Str).filter (fun b => !b == x) = [y] := by
      simp only [List.filter_cons, List.filter_nil]
      rw [if_pos]
      have : (y == x) = false := by
        cases z : (y == x) with
        | false => rfl
        | true => exact absurd (eq_of_beq z).symm h7
      rw [this]; rfl
    rw [this]; rfl
  simp [e]
  intro z
  exfalso
  rcases z with z | z
  · cases a <;> first | (cases h2; done) | (cases z; done)
  · cases b <;> first | (cases h3; done) | (cases z; done)
theorem parN_ok {env : Env} {x y : Str} {px py pt pt2 : Pos} {kt k2 : Nat} {vs : List Expr} (h : parN env.scope x y = true) :
    swappedStores [.Tuple [.Name x px, .Name y py] kt pt] (.Tuple vs k2 pt2) env = pure none := by
  unfold parN at h
  simp only [Bool.and_eq_true, decide_eq_true_eq, Bool.not_eq_true'] at h
  obtain ⟨h1, h2⟩ := h
  have hb : env.blockKind = .function := by unfold Env.blockKind; rw [h1]; rfl
  unfold swappedStores
  simp only [hb, List.length_cons, List.length_nil, List.head?_cons, Option.map_some, Option.getD_some, List.filterMap_cons, List.filterMap_nil, loc_eq, Expr.pos, beq_self_eq_true, Bool.and_true]
  have e1 : ∀ n : Str, ([n] : List Str).length ≠ 2 := fun _ => by simp
  cases hx : isLoc env.scope x
  · cases hy : (isLoc env.scope y && py.line == px.line)
    · simp
    · simp
  · have hy : isLoc env.scope y = false := by rw [hx] at h2; simpa using h2
    rw [hy]
    simp
end
end Mi
namespace Mi
open PySem PySem.Spec PyProof.Rows L2
def kExc (c : Nat) : GK → Bool
  | .exc d => decide (c = d)
  | _ => false
def noTup : Expr → Bool
  | .Tuple _ _ _ => false
  | _ => true
def lcScope : Expr → Option (Scope × Pos)
  | .ListComp _ _ s p => some (s, p)
  | _ => none
/-- name = value -/
def asgNB (S : Sc) (n : Str) (py : Pos) (e : Expr) : Bool := noComp e || (match lcScope e with
  | some (s, p) => swB S.sc n py s p || swN S.sc n py p
  | none => false)
/-- a, b = value -/
def twoB (S : Sc) (xs vs : List Expr) : Bool := match xs, vs with
  | [.Name x px, .Name y py], [a, b] => parB S.sc x y px py a b || parN S.sc x y
  | _, _ => false
def asgTB (S : Sc) (xs : List Expr) (e : Expr) : Bool := match e with
  | .Tuple vs _ _ => twoB S xs vs
  | _ => true
theorem twoB_ok {S : Sc} {xs vs : List Expr} (h : twoB S xs vs = true) : ∃ x px y py a b, xs = [.Name x px, .Name y py] ∧ vs = [a, b] ∧ (parB S.sc x y px py a b || parN S.sc x y) = true := by
  unfold twoB at h
  split at h
  · exact ⟨_, _, _, _, _, _, rfl, rfl, h⟩
  · cases h
mutual
def chkS : S → Sc → Stmt → Bool
  | .asg (.nm i) x, S, st => (match st with
    | .Assign [.Name n py] e _ => chkE x S e && nmB S i (.Name n py) && asgNB S n py e
    | _ => false)
  | .asg (.tp is) x, S, st => (match st with
    | .Assign [.Tuple xs kk tp] e _ => chkE x S e && tgB S (.tp is) (.Tuple xs kk tp) && asgTB S xs e
    | _ => false)
  | .sub o i x, S, st => (match st with
    | .Assign [.Subscript y z _] e _ => plainIxB z && chkE o S y && chkE i S z && chkE x S e
    | _ => false)
  | .aug i o x, S, st => (match st with
    | .AugAssign (.Name n p) op e _ => augB o op && nmB S i (.Name n p) && chkE x S e
    | _ => false)
  | .augS o i p x, S, st => (match st with
    | .AugAssign (.Subscript y z _) op e _ => augB p op && plainIxB z && chkE o S y && chkE i S z && chkE x S e
    | _ => false)
  | .ex x, S, st => (match st with
    | .Expr e _ => noComp e && chkE x S e
    | _ => false)
  | .ret x, S, st => (match st with
    | .Return (some e) _ => chkE x S e
    | _ => false)
  | .retN, _, st => (match st with
    | .Return none _ => true
    | _ => false)
  | .ifS c a b, S, st => (match st with
    | .If t xs ys _ => tstE c && chkE c S t && chkL a S xs && chkL b S ys
    | _ => false)
  | .whl c b, S, st => (match st with
    | .While t xs [] _ => tstE c && chkE c S t && chkL b S xs
    | _ => false)
  | .forS t it b, S, st => (match st with
    | .For tg iter xs [] _ => chkI it S tg iter && noSet iter && tgB S t tg && chkL b S xs
    | _ => false)
  | .brk, _, st => (match st with
    | .Break _ => true
    | _ => false)
  | .cnt, _, st => (match st with
    | .Continue _ => true
    | _ => false)
  | .pass, _, st => (match st with
    | .Pass _ => true
    | _ => false)
  | .raise c .nil, S, st => (match st with
    | .Raise (some (.Call (.Name n _) [] [] _)) none _ => glB S.sc n && okN n && isG S.G n (kExc c)
    | _ => false)
  | _, _, _ => false
def chkL : S → Sc → List Stmt → Bool
  | .nil, _, xs => (match xs with
    | [] => true
    | _ => false)
  | .cons a b, S, xs => (match xs with
    | y :: ys => chkS a S y && chkL b S ys
    | _ => false)
  | _, _, _ => false
end
section
variable {T : Tx} {ft : FT} {k : Nat} {S : Sc} {X : Cx} {W : WX} {w : Nat}
theorem S1.congr {x : Stmt} {m m' : Ev → MH → Fl} (h : S1 T X W x m) (e : ∀ ev h, m ev h = m' ev h) : S1 T X W x m' := by
  have : m = m' := funext fun ev => funext fun h => e ev h
  rw [← this]; exact h
theorem plainAsg {o i : Expr} {p : Pos} {env : Env} (h : plainIxB i = true) : ∀ v, assign (.Subscript o i p) env v = (do
      let ov ← holding [v] (eval o env)
      let iv ← holding [v, ov] (eval i env)
      standAt p
      holding [v, ov, iv] (setItem ov iv v)
      release [v, ov, iv] []) := by
  intro v
  cases i <;> first | rfl | cases h
theorem plainAug {i : Expr} (h : plainIxB i = true) : ∀ ov iv new, augStore i ov iv new = (do holding [new, ov, iv] (setItem ov iv new); release [new, ov, iv] []; pure .next) := by
  intro ov iv new
  cases i <;> first | rfl | cases h
theorem sole_no {tg e : Expr} {l : Nat} {env : Env} (h : isNm tg = false) : swapsWithSole [tg] e l env = pure false := by
  show swapsWith e (some tg) l env = pure false
  cases tg <;> first | (cases h; done) | (cases e <;> rfl)
theorem noTup_ok {tg e : Expr} {env : Env} (h : noTup e = true) : swappedStores [tg] e env = pure none := by
  cases tg <;> cases e <;> first | rfl | cases h
theorem sub_none {o i : Expr} {p : Pos} {e : Expr} {env : Env} : swappedStores [.Subscript o i p] e env = pure none := by cases e <;> rfl
theorem s1_lc (s : Sx T ft k S X W) {i : Nat} {n : Str} {py p lp : Pos} {x : E} {elt : Expr} {gs : List Comprehension} {scope : Scope} (h : chkE x S (.ListComp elt gs scope lp) = true) (e1 : X.N[i]? = some n) (e2 : X.env.scope.names.lookup n = some .local)
    (hsw : swapsWith (.ListComp elt gs scope lp) (some (.Name n py)) p.line X.env = pure true) : S1 T X W (.Assign [.Name n py] (.ListComp elt gs scope lp) p) (exS ft w (.asg (.nm i) x)) := by
  cases x with
  | lc m t it c el own =>
    match gs, h, hsw with
    | [⟨tg, iter, ifs, 0⟩], hc, hsw =>
      obtain ⟨g1, h7⟩ := and_all (show (chkI it S tg iter && noSet iter && blkB S scope own && tgB (S.blk scope) t tg && tgInB t (own.map (·.2)) && ifsB ifs (isTrueE c) (fun z => tstE c && chkE c (S.blk scope) z) && chkE el (S.blk scope) elt) = true from hc)
      obtain ⟨g2, h6⟩ := and_all g1
      obtain ⟨g3, h5⟩ := and_all g2
      obtain ⟨g4, h4⟩ := and_all g3
      obtain ⟨g5, h3⟩ := and_all g4
      obtain ⟨h1, h2⟩ := and_all g5
      refine PS.imp (ps_setLc s.calm s.nd e1 e2 hsw (PI.sz (chkI_ok it S X W tg iter h1 s)) (blk_ok s h3) (fun s' H C cl fp => tg_ok (s.blk scope s' H C cl fp) h4) (fun s' H C cl fp => ifs_ok (ft := ft) h6 (s.blk scope s' H C cl fp)) (fun s' H C cl fp => (chkE_ok el (S.blk scope) _ _ elt h7 (s.blk scope s' H C cl fp)).se) (noSet_ok h2)) fun D0 σ H q => ?_
      obtain ⟨g, h, e, r, s0, o⟩ := q
      refine tLc_of (gOf_ok t) (tgIn_ok h5) (Q := fun x H1 => gName i x σ H1 D0.nx) (m := m) ?_
      exact tAsg_of (T := T) (W := W) (TgOk.nm i) (ma := evE ft (.lc m t it c el own)) ⟨g, h, e, r, s0, o⟩
  | _ => cases h
theorem s1_par2 (s : Sx T ft k S X W) {is : List Nat} {x : E} {n1 n2 : Str} {p1 p2 tp tp2 p : Pos} {kk k2 : Nat} {a b : Expr} (h1 : chkE x S (.Tuple [a, b] k2 tp2) = true) (h2 : tgB S (.tp is) (.Tuple [.Name n1 p1, .Name n2 p2] kk tp) = true) (h3 : parB S.sc n1 n2 p1 p2 a b = true) :
    S1 T X W (.Assign [.Tuple [.Name n1 p1, .Name n2 p2] kk tp] (.Tuple [a, b] k2 tp2) p) (exS ft w (.asg (.tp is) x)) := by
  have hw := par_ok (env := X.env) (pt := tp) (pt2 := tp2) (kt := kk) (k2 := k2) (by rw [s.sc]; exact h3)
  cases x with
  | tup es =>
    obtain ⟨c1, c2⟩ := and_all (show (chkA es S [a, b] && decide ([a, b].length ≤ 1000)) = true from h1)
    have ha := (chkA_ok (ft := ft) es S X W [a, b] c1 s).1
    match is, h2 with
    | [i, j], h2 =>
      obtain ⟨d1, d2⟩ := and_all (show (nmB S i (.Name n1 p1) && nmsB S [j] [.Name n2 p2]) = true from h2)
      obtain ⟨d2, _⟩ := and_all (show (nmB S j (.Name n2 p2) && nmsB S [] []) = true from d2)
      obtain ⟨_, _, e1, a1, _, _⟩ := nm_ok s d1
      cases e1
      obtain ⟨_, _, e2, a2, _, _⟩ := nm_ok s d2
      cases e2
      unfold parB at h3
      simp only [Bool.and_eq_true, decide_eq_true_eq, Bool.not_eq_true', decide_eq_false_iff_not] at h3
      obtain ⟨⟨⟨⟨⟨⟨⟨⟨f1, f2⟩, f3⟩, f4⟩, f5⟩, f6⟩, f7⟩, f8⟩, f9⟩ := h3
      have hij : i ≠ j := fun z => by
        subst z
        rw [a1] at a2
        exact f7 (Option.some.inj a2)
      exact s1_par s.calm s.nd a1 a2 hij (by rw [s.sc]; exact isLoc_ok f4) (by rw [s.sc]; exact isLoc_ok f5) ha hw (sole_no rfl)
    | [], h2 => cases h2
    | [_], h2 =>
      have := (and_all (show (_ && nmsB S [] [Expr.Name n2 p2]) = true from h2)).2
      cases this
    | _ :: _ :: _ :: _, h2 =>
      have := (and_all (and_all h2).2).2
      cases this
  | _ => cases h1
mutual
theorem chkS_ok : ∀ (m : Mi.S) (S : Sc) (X : Cx) (W : WX) (st : Stmt), chkS m S st = true → Sx T ft k S X W → PassesOwn (model X.prog X.w) X.A X.env X.xe → S1 T X W st (exS ft w m)
  | .asg (.nm i) x, S, X, W, st, hc, s, hp => by
    cases st with
    | Assign ts e p =>
      match ts, hc with
      | [.Name n py], hc =>
        obtain ⟨h1, h3⟩ := and_all (show (chkE x S e && nmB S i (.Name n py) && asgNB S n py e) = true from hc)
        obtain ⟨h1, h2⟩ := and_all h1
        have he := (chkE_ok (ft := ft) x S X W e h1 s).se
        obtain ⟨n', p', en, e1, e2, e3⟩ := nm_ok s h2
        cases en
        unfold asgNB at h3
        rcases Bool.or_eq_true_iff.mp h3 with h3 | h3
        · exact s1_set s.nd e1 e2 e3 he (noComp_ok h3)
        · cases e with
          | ListComp elt gs scope lp =>
            have h3 : (swB S.sc n py scope lp || swN S.sc n py lp) = true := h3
            rcases Bool.or_eq_true_iff.mp h3 with h3 | h3
            · have h3 : (decide (S.sc.kind = .function) && isLoc S.sc n && (py.line == lp.line) && !(scope.names.any fun (m, k) => m == n && (k == .local || k == .cell))) = true := h3
              obtain ⟨h3, a4⟩ := and_all h3
              obtain ⟨h3, a3⟩ := and_all h3
              obtain ⟨a1, a2⟩ := and_all h3
              have hsw : swapsWith (.ListComp elt gs scope lp) (some (.Name n py)) p.line X.env = pure true := sw_true (by rw [s.sc]; exact of_decide_eq_true a1) (by rw [s.sc]; exact isLoc_ok a2) a3 (by simpa using a4)
              exact s1_lc (w := w) s h1 e1 (by rw [s.sc]; exact isLoc_ok a2) hsw
            · exact s1_set s.nd e1 e2 e3 he (swN_ok (by rw [s.sc]; exact h3))
          | _ => cases h3
    | _ => cases hc
  | .asg (.tp is) x, S, X, W, st, hc, s, hp => by
    cases st with
    | Assign ts e p =>
      match ts, hc with
      | [.Tuple xs kk tp], hc =>
        obtain ⟨h0, h3⟩ := and_all (show (chkE x S e && tgB S (.tp is) (.Tuple xs kk tp) && asgTB S xs e) = true from hc)
        obtain ⟨h1, h2⟩ := and_all h0
        have he := chkE_ok (ft := ft) x S X W e h1 s
        have hg := tg_ok s h2
        by_cases ht : noTup e = true
        · exact s1_asg (gOf_ok (.tp is)) hg he.se (sole_no rfl) (noTup_ok ht) rfl
        · cases e with
          | Tuple vs k2 tp2 =>
            obtain ⟨n1, p1, n2, p2, a, b, rfl, rfl, h3⟩ := twoB_ok (show twoB S xs vs = true from h3)
            rcases Bool.or_eq_true_iff.mp h3 with h3 | h3
            · exact s1_par2 (w := w) s h1 h2 h3
            · exact s1_asg (gOf_ok (.tp is)) hg he.se (sole_no rfl) (parN_ok (by rw [s.sc]; exact h3)) rfl
          | _ => exact absurd rfl ht
    | _ => cases hc
  | .asg (.tq _ _) _, _, _, _, _, hc, _, _ => by cases hc
  | .sub o i x, S, X, W, st, hc, s, hp => by
    cases st with
    | Assign ts e p =>
      match ts, hc with
      | [.Subscript y z q], hc =>
        obtain ⟨h1, h4⟩ := and_all (show (plainIxB z && chkE o S y && chkE i S z && chkE x S e) = true from hc)
        obtain ⟨h1, h3⟩ := and_all h1
        obtain ⟨h1, h2⟩ := and_all h1
        exact s1_sub s.hu (chkE_ok o S X W y h2 s).se (chkE_ok i S X W z h3 s).se (chkE_ok x S X W e h4 s).se (plainAsg h1) (sole_no rfl) sub_none rfl
    | _ => cases hc
  | .fld _ _ _, _, _, _, _, hc, _, _ => by cases hc
  | .aug i o x, S, X, W, st, hc, s, hp => by
    cases st with
    | AugAssign tg op e p =>
      cases tg with
      | Name n q =>
        obtain ⟨h1, h3⟩ := and_all (show (augB o op && nmB S i (.Name n q) && chkE x S e) = true from hc)
        obtain ⟨h1, h2⟩ := and_all h1
        obtain ⟨n', p', en, e1, e2, e3⟩ := nm_ok s h2
        cases en
        have ho := augB_ok h1
        exact s1_aug s.nd e1 e2 e3 (chkE_ok x S X W e h3 s).se (fun w => aug_m op w ho) (augO_ne (by rcases ho with h | h <;> simp [h.1]))
      | _ => cases hc
    | _ => cases hc
  | .augS o i b x, S, X, W, st, hc, s, hp => by
    cases st with
    | AugAssign tg op e p =>
      cases tg with
      | Subscript y z q =>
        obtain ⟨h1, h5⟩ := and_all (show (augB b op && plainIxB z && chkE o S y && chkE i S z && chkE x S e) = true from hc)
        obtain ⟨h1, h4⟩ := and_all h1
        obtain ⟨h1, h3⟩ := and_all h1
        obtain ⟨h1, h2⟩ := and_all h1
        have ho := augB_ok h1
        exact s1_augS s.hu (chkE_ok o S X W y h3 s).se (chkE_ok i S X W z h4 s).se (chkE_ok x S X W e h5 s).se (fun w => aug_m op w ho) (augO_ne (by rcases ho with h | h <;> simp [h.1])) (plainAug h2)
      | _ => cases hc
    | _ => cases hc
  | .ex x, S, X, W, st, hc, s, hp => by
    cases st with
    | Expr e p =>
      obtain ⟨h1, h2⟩ := and_all (show (noComp e && chkE x S e) = true from hc)
      exact s1_expr (chkE_ok x S X W e h2 s).se (noComp_ok h1)
    | _ => cases hc
  | .ret x, S, X, W, st, hc, s, hp => by
    cases st with
    | Return v p =>
      cases v with
      | some e => exact s1_ret (chkE_ok x S X W e hc s).se
      | none => cases hc
    | _ => cases hc
  | .retN, S, X, W, st, hc, s, hp => by
    cases st with
    | Return v p =>
      cases v with
      | none => exact s1_retN
      | some e => cases hc
    | _ => cases hc
  | .ifS c a b, S, X, W, st, hc, s, hp => by
    cases st with
    | If t xs ys p =>
      obtain ⟨h1, h4⟩ := and_all (show (tstE c && chkE c S t && chkL a S xs && chkL b S ys) = true from hc)
      obtain ⟨h1, h3⟩ := and_all h1
      obtain ⟨h1, h2⟩ := and_all h1
      exact s1_if ((chkE_ok c S X W t h2 s).st h1) (chkL_ok a S X W xs h3 s hp) (chkL_ok b S X W ys h4 s hp)
    | _ => cases hc
  | .whl c b, S, X, W, st, hc, s, hp => by
    cases st with
    | While t xs ys p =>
      cases ys with
      | nil =>
        obtain ⟨h1, h3⟩ := and_all (show (tstE c && chkE c S t && chkL b S xs) = true from hc)
        obtain ⟨h1, h2⟩ := and_all h1
        exact s1_whl hp ((chkE_ok c S X W t h2 s).st h1) (chkL_ok b S X W xs h3 s hp)
      | cons _ _ => cases hc
    | _ => cases hc
  | .forS t it b, S, X, W, st, hc, s, hp => by
    cases st with
    | For tg iter xs ys p =>
      cases ys with
      | nil =>
        obtain ⟨h1, h4⟩ := and_all (show (chkI it S tg iter && noSet iter && tgB S t tg && chkL b S xs) = true from hc)
        obtain ⟨h1, h3⟩ := and_all h1
        obtain ⟨h1, h2⟩ := and_all h1
        exact s1_for hp s.calm (gOf_ok t) (tg_ok s h3) (chkI_ok it S X W tg iter h1 s) (chkL_ok b S X W xs h4 s hp) (noSet_ok h2)
      | cons _ _ => cases hc
    | _ => cases hc
  | .forD _ _ _, _, _, _, _, hc, _, _ => by cases hc
  | .brk, S, X, W, st, hc, s, hp => by
    cases st with
    | Break p => exact s1_brk
    | _ => cases hc
  | .cnt, S, X, W, st, hc, s, hp => by
    cases st with
    | Continue p => exact s1_cnt
    | _ => cases hc
  | .pass, S, X, W, st, hc, s, hp => by
    cases st with
    | Pass p => exact s1_pass
    | _ => cases hc
  | .raise c x, S, X, W, st, hc, s, hp => by
    cases x with
    | nil =>
      cases st with
      | Raise v w' p =>
        match v, w', hc with
        | some (.Call (.Name n q) [] [] q2), none, hc =>
          obtain ⟨h1, h3⟩ := and_all (show (glB S.sc n && okN n && isG S.G n (kExc c)) = true from hc)
          obtain ⟨h1, h2⟩ := and_all h1
          obtain ⟨g, e, qq⟩ := isG_ok h3
          have z := s.glob n g e
          cases g with
          | exc d =>
            have e : c = d := of_decide_eq_true qq
            subst e
            exact s1_raise0 s.calm s.tk z.2 z.1 (s.gl h1) (okN_ok h2)
          | _ => cases qq
      | _ => cases hc
    | _ => cases hc
  | .tryS _ _, _, _, _, _, hc, _, _ => by cases hc
  | .nil, _, _, _, _, hc, _, _ => by cases hc
  | .cons _ _, _, _, _, _, hc, _, _ => by cases hc
theorem chkL_ok : ∀ (m : Mi.S) (S : Sc) (X : Cx) (W : WX) (st : List Stmt), chkL m S st = true → Sx T ft k S X W → PassesOwn (model X.prog X.w) X.A X.env X.xe → SS T X W st (exS ft w m)
  | .nil, S, X, W, st, hc, s, hp => by
    cases st with
    | nil => exact ss_nil
    | cons _ _ => cases hc
  | .cons a b, S, X, W, st, hc, s, hp => by
    cases st with
    | nil => cases hc
    | cons y ys =>
      obtain ⟨h1, h2⟩ := and_all (show (chkS a S y && chkL b S ys) = true from hc)
      exact ss_cons (chkS_ok a S X W y h1 s hp) (chkL_ok b S X W ys h2 s hp)
  | .asg _ _, _, _, _, _, hc, _, _ => by cases hc
  | .sub _ _ _, _, _, _, _, hc, _, _ => by cases hc
  | .fld _ _ _, _, _, _, _, hc, _, _ => by cases hc
  | .aug _ _ _, _, _, _, _, hc, _, _ => by cases hc
  | .augS _ _ _ _, _, _, _, _, hc, _, _ => by cases hc
  | .ex _, _, _, _, _, hc, _, _ => by cases hc
  | .ret _, _, _, _, _, hc, _, _ => by cases hc
  | .retN, _, _, _, _, hc, _, _ => by cases hc
  | .ifS _ _ _, _, _, _, _, hc, _, _ => by cases hc
  | .whl _ _, _, _, _, _, hc, _, _ => by cases hc
  | .forS _ _ _, _, _, _, _, hc, _, _ => by cases hc
  | .forD _ _ _, _, _, _, _, hc, _, _ => by cases hc
  | .brk, _, _, _, _, hc, _, _ => by cases hc
  | .cnt, _, _, _, _, hc, _, _ => by cases hc
  | .pass, _, _, _, _, hc, _, _ => by cases hc
  | .raise _ _, _, _, _, _, hc, _, _ => by cases hc
  | .tryS _ _, _, _, _, _, hc, _, _ => by cases hc
end
end
end Mi
namespace Mi
open PySem PySem.Spec PyProof.Rows L2
/-! ### at a def's end -/
def Gr.cut (g : Gr) (c : Nat) : Gr := { phi := g.phi.take c, fz := fun a => g.fz a ∨ a ∈ g.phi.drop c }
section
variable {T : Tx} {H H1 : Hp} {g g1 : Gr} {h h1 : MH} {c : Nat}
theorem cl_ref {n : Nat} (h : cl c (.ref n) = true) : n < c := of_decide_eq_true h
mutual
theorem RepV.cut : ∀ (d : D) (v : V), cl c d = true → RepV T H g d v → RepV T H (g.cut c) d v
  | .non, v, _, q => q
  | .bl _, v, _, q => q
  | .int _, v, _, q => q
  | .str _, v, _, q => q
  | .tup ds, v, e, q => by
    obtain ⟨a, vs, e1, e2, e3⟩ := q
    exact ⟨a, vs, e1, e2, RepL.cut ds vs e e3⟩
  | .lst ds, v, e, q => by
    obtain ⟨a, vs, e1, f, e2, e3⟩ := q
    exact ⟨a, vs, e1, .inl f, e2, RepL.cut ds vs e e3⟩
  | .dK kvs, v, e, q => by
    obtain ⟨a, vs, e1, f, e2, e3⟩ := q
    exact ⟨a, vs, e1, .inl f, e2, RepK.cut kvs vs e e3⟩
  | .dT kvs, v, e, q => by
    obtain ⟨a, vs, e1, f, e2, e3⟩ := q
    exact ⟨a, vs, e1, .inl f, e2, RepT.cut kvs vs e e3⟩
  | .ref n, v, e, q => by
    obtain ⟨a, e1, e2⟩ := q
    refine ⟨a, e1, ?_⟩
    show (g.phi.take c)[n]? = _
    rw [List.getElem?_take_of_lt (cl_ref e)]
    exact e2
  | .scr ns, v, _, q => by
    obtain ⟨a, e1, q | q⟩ := q
    · obtain ⟨o, e2, n⟩ := q
      exact ⟨a, e1, .inl ⟨o, e2, fun z => n (List.mem_of_mem_take z)⟩⟩
    · exact ⟨a, e1, .inr q⟩
  | .fn _, v, _, q => q
theorem RepL.cut : ∀ (ds : List D) (vs : List V), clL c ds = true → RepL T H g ds vs → RepL T H (g.cut c) ds vs
  | [], [], _, _ => True.intro
  | d :: ds, v :: vs, e, q => by
    have e : (cl c d && clL c ds) = true := e
    rw [Bool.and_eq_true] at e
    exact ⟨RepV.cut d v e.1 q.1, RepL.cut ds vs e.2 q.2⟩
  | [], _ :: _, _, q => q.elim
  | _ :: _, [], _, q => q.elim
theorem RepK.cut : ∀ (ds : List (Ky × D)) (vs : List (L2.Key × V)), clK c ds = true → RepK T H g ds vs → RepK T H (g.cut c) ds vs
  | [], [], _, _ => True.intro
  | (k, d) :: ds, (p, v) :: vs, e, q => by
    have e : (cl c d && clK c ds) = true := e
    rw [Bool.and_eq_true] at e
    exact ⟨q.1, RepV.cut d v e.1 q.2.1, RepK.cut ds vs e.2 q.2.2⟩
  | [], _ :: _, _, q => q.elim
  | _ :: _, [], _, q => q.elim
theorem RepT.cut : ∀ (ds : List (List Ky × D)) (vs : List (List L2.Key × V)), clT c ds = true → RepT T H g ds vs → RepT T H (g.cut c) ds vs
  | [], [], _, _ => True.intro
  | (k, d) :: ds, (p, v) :: vs, e, q => by
    have e : (cl c d && clT c ds) = true := e
    rw [Bool.and_eq_true] at e
    exact ⟨q.1, RepV.cut d v e.1 q.2.1, RepT.cut ds vs e.2 q.2.2⟩
  | [], _ :: _, _, q => q.elim
  | _ :: _, [], _, q => q.elim
end
theorem RepF.cut : ∀ (ds : List (Nat × D)) (vs : List (Str × V)), (ds.all fun p => cl c p.2) = true → RepF T H g ds vs → RepF T H (g.cut c) ds vs
  | [], [], _, _ => True.intro
  | (k, d) :: ds, (p, v) :: vs, e, q => by
    simp only [List.all_cons, Bool.and_eq_true] at e
    exact ⟨q.1, RepV.cut d v e.1 q.2.1, RepF.cut ds vs e.2 q.2.2⟩
  | [], _ :: _, _, q => q.elim
  | _ :: _, [], _, q => q.elim
theorem RepO.cut {o : MO} {a : Addr} (e : clO c o = true) (q : RepO T H g o a) : RepO T H (g.cut c) o a := by
  cases o with
  | lst ds => obtain ⟨vs, e1, e2⟩ := q; exact ⟨vs, e1, RepL.cut _ _ e e2⟩
  | dK l kvs => obtain ⟨kk, e1, e2⟩ := q; exact ⟨kk, RepK.cut _ _ e e1, e2⟩
  | dT l kvs => obtain ⟨kk, e1, e2⟩ := q; exact ⟨kk, RepT.cut _ _ e e1, e2⟩
  | ins cc fs => obtain ⟨dx, vs, e1, e2⟩ := q; exact ⟨dx, vs, e1, RepF.cut _ _ e e2⟩
theorem mapO_rep {f : D → Option D} {P : D → V → Prop} {Q : List D → List V → Prop} (k : ∀ d v d1, f d = some d1 → RepV T H g d v → RepV T H (g.cut c) d1 v) : ∀ {ds ds1 : List D} {vs : List V}, mapO f ds = some ds1 → RepL T H g ds vs → RepL T H (g.cut c) ds1 vs
  | [], ds1, [], e, _ => by cases e; exact True.intro
  | d :: ds, ds1, v :: vs, e, q => by
    simp only [mapO] at e
    cases z : f d with
    | none => rw [z] at e; cases e
    | some d1 =>
      rw [z] at e
      cases y : mapO f ds with
      | none => simp only [y] at e; cases e
      | some ds2 =>
        simp only [y] at e
        cases e
        exact ⟨k d v d1 z q.1, mapO_rep (P := P) (Q := Q) k y q.2⟩
  | [], _, _ :: _, _, q => q.elim
  | _ :: _, _, [], _, q => q.elim
theorem fz_rep (r : Rel T H g h) : ∀ (n : Nat) (d d1 : D) (v : V), fz h c n d = some d1 → RepV T H g d v → RepV T H (g.cut c) d1 v
  | 0, _, _, _, e, _ => by cases e
  | n + 1, d, d1, v, e, q => by
    unfold fz at e
    by_cases z : cl c d = true
    · rw [if_pos z] at e
      cases e
      exact RepV.cut d v z q
    · rw [if_neg z] at e
      cases d with
      | ref k =>
        obtain ⟨a, ev, ea⟩ := q
        have hk : c ≤ k := by
          have : ¬ k < c := fun w => z (decide_eq_true w)
          omega
        have fz' : (g.cut c).fz a := .inr (by
          refine List.mem_of_getElem? (i := k - c) ?_
          rw [List.getElem?_drop, show c + (k - c) = k by omega]
          exact ea)
        simp only at e
        cases y : h[k]? with
        | none => rw [y] at e; cases e
        | some o =>
          rw [y] at e
          have ro := r.obj k o a y ea
          cases o with
          | lst xs =>
            obtain ⟨vs, e1, e2⟩ := ro
            simp only at e
            cases w : mapO (fz h c n) xs with
            | none => rw [w] at e; cases e
            | some ys =>
              rw [w] at e
              cases e
              exact ⟨a, vs, ev, fz', e1, mapO_rep (P := fun _ _ => True) (Q := fun _ _ => True) (fun d v d1 => fz_rep r n d d1 v) w e2⟩
          | dK l kvs =>
            cases l with
            | true => cases e
            | false =>
              obtain ⟨kk, e2, e1⟩ := ro
              simp only at e
              by_cases w : clK c kvs = true
              · rw [if_pos w] at e
                cases e
                exact ⟨a, kk, ev, fz', e1, RepK.cut _ _ w e2⟩
              · rw [if_neg w] at e; cases e
          | dT l kvs =>
            cases l with
            | true => cases e
            | false =>
              obtain ⟨kk, e2, e1⟩ := ro
              simp only at e
              by_cases w : clT c kvs = true
              · rw [if_pos w] at e
                cases e
                exact ⟨a, kk, ev, fz', e1, RepT.cut _ _ w e2⟩
              · rw [if_neg w] at e; cases e
          | ins _ _ => cases e
      | tup xs =>
        obtain ⟨a, vs, ev, e1, e2⟩ := q
        simp only at e
        cases w : mapO (fz h c n) xs with
        | none => rw [w] at e; cases e
        | some ys =>
          rw [w] at e
          cases e
          exact ⟨a, vs, ev, e1, mapO_rep (P := fun _ _ => True) (Q := fun _ _ => True) (fun d v d1 => fz_rep r n d d1 v) w e2⟩
      | lst xs =>
        obtain ⟨a, vs, ev, f, e1, e2⟩ := q
        simp only at e
        cases w : mapO (fz h c n) xs with
        | none => rw [w] at e; cases e
        | some ys =>
          rw [w] at e
          cases e
          exact ⟨a, vs, ev, .inl f, e1, mapO_rep (P := fun _ _ => True) (Q := fun _ _ => True) (fun d v d1 => fz_rep r n d d1 v) w e2⟩
      | _ => cases e
theorem Rel.cut (r : Rel T H g h) (e : clH c (h.take c) = true) : Rel T H (g.cut c) (h.take c) := by
  refine ⟨?_, r.nd.sublist (List.take_sublist _ _), fun a ha z => ?_, fun a z => ?_, fun n o a e1 e2 => ?_⟩
  · show (g.phi.take c).length = _
    rw [List.length_take, List.length_take, r.len]
  · have ha : a ∈ g.phi.take c := ha
    rcases z with z | z
    · exact r.dis a (List.mem_of_mem_take ha) z
    · have nd := r.nd
      rw [← List.take_append_drop c g.phi, List.nodup_append] at nd
      exact nd.2.2 a ha a z rfl
  · rcases z with z | z
    · exact r.trk a z
    · obtain ⟨o, q, _⟩ := r.there (List.mem_of_mem_drop z)
      exact ⟨o, q⟩
  · have e2 : (g.phi.take c)[n]? = some a := e2
    have hn : n < c := by
      have := (List.getElem?_eq_some_iff.mp e1).1
      rw [List.length_take] at this
      omega
    rw [List.getElem?_take_of_lt hn] at e2
    have e1' := e1
    rw [List.getElem?_take_of_lt hn] at e1
    refine RepO.cut ?_ (r.obj n o a e1 e2)
    exact List.all_eq_true.mp e o (List.mem_of_getElem? e1')
theorem Ext.cut (r : Rel T H g h) (r1 : Rel T H1 g1 h1) (x : Ext g H g1 H1) (hc : h.length ≤ c) : Ext g H (g1.cut c) H1 := by
  obtain ⟨t, e1, e2⟩ := x.phi
  have hl : g.phi.length ≤ c := by rw [r.len]; exact hc
  refine ⟨x.fr, fun a z => .inl (x.fzs a z), ⟨t.take (c - g.phi.length), ?_, fun a z => e2 a (List.mem_of_mem_take z)⟩, fun a z => ?_⟩
  · show g1.phi.take c = _
    rw [e1, List.take_append, List.take_of_length_le hl]
  · rcases z with z | z
    · exact x.fzn a z
    · rw [e1, List.drop_append, List.drop_of_length_le hl, List.nil_append] at z
      exact .inr (e2 a (List.mem_of_mem_drop z))
theorem fin_ok {keep : Option Nat} {d : D} (r : Rel T H g h) (r1 : Rel T H1 g1 h1) (x : Ext g H g1 H1) : fin keep h.length d h1 = .stuck ∨ ∃ d' h' g', fin keep h.length d h1 = .ok d' h' ∧ Rel T H1 g' h' ∧ Ext g H g' H1 ∧ ∀ v, RepV T H1 g1 d v → RepV T H1 g' d' v := by
  cases keep with
  | none =>
    unfold fin
    simp only
    by_cases c1 : h1.length ≤ h.length
    · rw [if_pos c1]
      exact .inr ⟨d, h1, g1, rfl, r1, x, fun _ q => q⟩
    · rw [if_neg c1]
      cases z : fz h1 h.length 5 d with
      | none => exact .inl rfl
      | some d1 =>
        simp only
        by_cases c2 : clH h.length (h1.take h.length) = true
        · rw [if_pos c2]
          exact .inr ⟨d1, _, g1.cut h.length, rfl, r1.cut c2, Ext.cut r r1 x (Nat.le_refl _), fun v q => fz_rep r1 5 d d1 v z q⟩
        · rw [if_neg c2]; exact .inl rfl
  | some k =>
    unfold fin
    simp only
    by_cases c1 : h1.length ≤ h.length + k
    · rw [if_pos c1]
      exact .inr ⟨d, h1, g1, rfl, r1, x, fun _ q => q⟩
    · rw [if_neg c1]
      by_cases c2 : (cl (h.length + k) d && clH (h.length + k) (h1.take (h.length + k))) = true
      · rw [if_pos c2]
        rw [Bool.and_eq_true] at c2
        exact .inr ⟨d, _, g1.cut (h.length + k), rfl, r1.cut c2.2, Ext.cut r r1 x (by omega), fun v q => RepV.cut d v c2.1 q⟩
      · rw [if_neg c2]; exact .inl rfl
theorem fin_out {keep : Option Nat} {d : D} {v : V} {Q : VK} {E : XW} (r : Rel T H g h) (r1 : Rel T H1 g1 h1) (x : Ext g H g1 H1) (q : RepV T H1 g1 d v) (o : Out T g H (fin keep h.length d h1) Q E) : Q v H1 := by
  rcases fin_ok (keep := keep) (d := d) r r1 x with z | ⟨d', h', g', z, r', x', k⟩
  · rw [z] at o; exact o.elim
  · rw [z] at o
    exact o v H1 g' r' x' (k v q)
theorem finX_out {keep : Option Nat} {cc : Nat} {p : Option D} {dx : Option Addr} {Q : VK} {E : XW} (r : Rel T H g h) (r1 : Rel T H1 g1 h1) (x : Ext g H g1 H1) (q : RepX T H1 g1 p dx) (o : Out T g H (finX keep h.length cc p h1) Q E) : E (.ref (T.xa cc)) dx H1 := by
  cases p with
  | none =>
    rcases fin_ok (keep := keep) (d := .non) r r1 x with z | ⟨d', h', g', z, r', x', k⟩
    · unfold finX at o
      simp only [z] at o
      exact o.elim
    · unfold finX at o
      simp only [z] at o
      exact o dx H1 g' r' x' q
  | some d =>
    rcases fin_ok (keep := keep) (d := d) r r1 x with z | ⟨d', h', g', z, r', x', k⟩
    · unfold finX at o
      simp only [z] at o
      exact o.elim
    · unfold finX at o
      simp only [z] at o
      obtain ⟨a, v, e1, e2, e3⟩ := q
      exact o dx H1 g' r' x' ⟨a, v, e1, e2, k v e3⟩
end
end Mi
namespace Mi
open PySem PySem.Spec PyProof.Rows L2
/-- a def of the text -/
structure FnT where
  at_ : Str × Option Str
  name : Str
  qual : Str
  params : Arguments
  body : List Stmt
  scope : Scope
  ps : List Str
  N : List Str
  dfl : List Int
def scopeB (t : FnT) : Bool :=
  decide (t.scope.kind = .function) && !t.scope.isCoroutine && !t.scope.isGenerator && decide t.N.Nodup && decide (t.N.take t.ps.length = t.ps) && t.ps.all (fun x => decide (t.scope.names.lookup x = some .local) || decide (t.scope.names.lookup x = some .cell)) && t.scope.names.all (fun y => !decide (y.2 = .free))
theorem scopeB_ok {t : FnT} (h : scopeB t = true) : FnScope t.N t.ps t.scope := by
  unfold scopeB at h
  simp only [Bool.and_eq_true, List.all_eq_true, decide_eq_true_eq, Bool.not_eq_true', Bool.or_eq_true, decide_eq_false_iff_not] at h
  obtain ⟨⟨⟨⟨⟨⟨h1, h2⟩, h3⟩, h4⟩, h5⟩, h6⟩, h7⟩ := h
  exact ⟨h1, h2, h3, h4, h5, h6, h7⟩
def chkF (G : GE) (t : FnT) (i : FI) : Bool := scopeB t && decide (i.np = t.ps.length) && decide (i.nn = t.N.length) && chkL i.body ⟨G, t.N, t.scope, none⟩ t.body
/-- a def as the top leaves it -/
structure TxtOk (K : PySem.W.Frag) (t : FnT) (a : Addr) : Prop where
  ex : ∃ (fd : FuncData) (dvs : List V), FunD K t.name t.qual t.params t.body t.scope dvs [] a fd ∧ Binds K fd t.ps [] ∧ (t.dfl ≠ [] → ∃ ds, Vals (t.dfl.map V.int) ds ∧ Binds K fd t.ps ds)
/-- a law's text: the defs that it has, what its names stand for -/
structure Lw where
  P : Nat → Option FI
  tx : Nat → FnT
  G : GE
/-- what stands fast behind the top -/
structure LwOk (L : Lw) (T : Tx) (mg : Str → Option Value) : Prop where
  chk : ∀ f i, L.P f = some i → chkF L.G (L.tx f) i = true
  txt : ∀ f i, L.P f = some i → TxtOk T.K (L.tx f) (T.fa f)
  glob : ∀ x g, L.G.lookup x = some g → match g with
    | .int i => ∃ t, mg x = some (.int i t)
    | .str s => ∃ t, mg x = some (.str s t)
    | .fn f np nd => mg x = some (.ref (T.fa f)) ∧ ∃ i, L.P f = some i ∧ i.np = np ∧ (L.tx f).dfl = nd
    | .exc c => mg x = some (.ref (T.xa c)) ∧ PySem.W.excIn T.K (T.xa c) He.veBase "ValueError.__new__" = true ∧ PySem.W.keepIn T.K (.ref (T.xa c)) = true ∧ PySem.W.subIn T.K (.ref (T.xa c)) (.type "BaseException") = some true ∧ PySem.W.typeIn T.K (.ref (T.xa c)) = some (.type "type")
    | .free => mg x = none
section
variable {L : Lw} {T : Tx} {mg : Str → Option Value} {Pg : Program} {w : World} {base : Heap}
theorem callN_len {P : Nat → Option FI} {f : Nat} {i : FI} (e : P f = some i) : ∀ (n : Nat) (ds : List D) (h : MH), ds.length ≠ i.np → callN P n f ds h = .stuck
  | 0, _, _, _ => rfl
  | n + 1, ds, h, z => by
    unfold callN
    rw [e]
    simp only [if_neg z]
theorem RepL.start {H : Hp} {g : Gr} {N : List Str} : ∀ {ds : List D} {vs : List V}, RepL T H g ds vs → RepS T H g (ds.map some ++ List.replicate (N.length - ds.length) none) (L2.start N vs) := by
  intro ds vs q
  have hl := q.length
  refine ⟨by simp [L2.start, hl], fun i d e => ?_⟩
  unfold L2.start
  by_cases hi : i < ds.length
  · rw [List.getElem?_append_left (by simpa using hi), List.getElem?_map] at e
    cases z : ds[i]? with
    | none => rw [z] at e; cases e
    | some d' =>
      rw [z] at e
      cases e
      obtain ⟨v, ev, rv⟩ := q.get z
      exact ⟨v, by rw [List.getElem?_append_left (by simp; omega), List.getElem?_map, ev]; rfl, rv⟩
  · rw [List.getElem?_append_right (by simpa using hi), List.getElem?_replicate] at e
    split at e <;> cases e
theorem fn_all (ok : LwOk L T mg) : ∀ (n : Nat) (f : Nat) (i : FI), L.P f = some i → ∀ (fd : FuncData) (dvs : List V), FunD T.K (L.tx f).name (L.tx f).qual (L.tx f).params (L.tx f).body (L.tx f).scope dvs [] (T.fa f) fd →
    FnOk Pg w T.K mg base (L2N.CX Pg w) n (T.fa f) fd (L.tx f).ps (spF T (callN L.P n) f i.np)
  | 0, f, i, e, fd, dvs, F => by
    obtain ⟨c1, _⟩ := and_all (show (scopeB (L.tx f) && decide (i.np = (L.tx f).ps.length) && decide (i.nn = (L.tx f).N.length) && chkL i.body ⟨L.G, (L.tx f).N, (L.tx f).scope, none⟩ (L.tx f).body) = true from ok.chk f i e)
    obtain ⟨c1, _⟩ := and_all c1
    obtain ⟨c0, c2⟩ := and_all c1
    have c2 := of_decide_eq_true c2
    exact ⟨fun vs H Q E h => by rw [← c2]; exact h.1, fun A outer s H args us vs Q E hr e0 hb hv h => by
      obtain ⟨_, _, _, _, _, _, o⟩ := h
      exact o.elim⟩
  | n + 1, f, i, e, fd, dvs, F => by
    obtain ⟨c1, c4⟩ := and_all (show (scopeB (L.tx f) && decide (i.np = (L.tx f).ps.length) && decide (i.nn = (L.tx f).N.length) && chkL i.body ⟨L.G, (L.tx f).N, (L.tx f).scope, none⟩ (L.tx f).body) = true from ok.chk f i e)
    obtain ⟨c1, c3⟩ := and_all c1
    obtain ⟨c0, c2⟩ := and_all c1
    have c2 := of_decide_eq_true c2
    have c3 := of_decide_eq_true c3
    have sc := scopeB_ok c0
    refine F.ok sc (fun vs H Q E h => by rw [← c2]; exact h.1) fun cdv A outer s H vs Q E hr h => ?_
    obtain ⟨hlen, g, h0, ds, r, q, o⟩ := h
    refine ⟨tS T (fun c d _ H => E c d H) (exS (callN L.P n) WF i.body), ?_, g, h0, ds.map some ++ List.replicate (i.nn - ds.length) none, r, by rw [c3]; exact q.start, ?_⟩
    · refine chkL_ok (k := n) i.body ⟨L.G, (L.tx f).N, (L.tx f).scope, none⟩ _ _ (L.tx f).body c4 ?_ (passes_of rfl)
      refine { K := rfl, calm := rfl, nd := sc.nd, room := hr, tk := L2N.takes_of rfl rfl rfl rfl, glob := fun x gk eg => ?_, N := rfl, sc := rfl, fn := fun _ _ => rfl }
      have z := ok.glob x gk eg
      cases gk with
      | int j => exact z
      | str j => exact z
      | free => exact z
      | exc c => exact ⟨z.1, z.2.1, z.2.2.1, raises_own z.2.2.2.1 z.2.2.2.2⟩
      | fn f' np nd =>
        obtain ⟨z1, i', e', z2, z3⟩ := z
        obtain ⟨fd', dvs', F', b0, bd⟩ := (ok.txt f' i' e').ex
        have np' : (L.tx f').ps.length = i'.np := by
          obtain ⟨d1, _⟩ := and_all (show (scopeB (L.tx f') && decide (i'.np = (L.tx f').ps.length) && decide (i'.nn = (L.tx f').N.length) && chkL i'.body ⟨L.G, (L.tx f').N, (L.tx f').scope, none⟩ (L.tx f').body) = true from ok.chk f' i' e')
          obtain ⟨d1, _⟩ := and_all d1
          exact (of_decide_eq_true (and_all d1).2).symm
        refine ⟨z1, F'.kp, fun ds h z => callN_len e' n ds h (by rw [z2]; exact z), fd', (L.tx f').ps, by rw [np', z2], ?_, b0, fun hn => ?_⟩
        · rw [← z2]
          exact fn_all ok n f' i' e' fd' dvs' F'
        · have := bd (by rw [z3]; exact hn)
          rw [z3] at this
          exact this
    · have hl : ds.length = i.np := by rw [q.length, hlen]
      have o : Out T g H (match L.P f with
        | none => .stuck
        | some i => if ds.length = i.np then (match exS (callN L.P n) WF i.body (ds.map some ++ List.replicate (i.nn - ds.length) none) h0 with
          | .nx _ h1 => fin i.keep h0.length .non h1
          | .ret d h1 => fin i.keep h0.length d h1
          | .exn c p h1 => finX i.keep h0.length c p h1
          | _ => .stuck) else .stuck) Q E := o
      rw [e] at o
      simp only [if_pos hl] at o
      revert o
      cases exS (callN L.P n) WF i.body (ds.map some ++ List.replicate (i.nn - ds.length) none) h0 with
      | nx e1 h1 => exact fun o σ1 H1 g1 r1 x1 s1 => fin_out (d := .non) r r1 x1 (v := .non) rfl o
      | ret d h1 => exact fun o v H1 g1 r1 x1 q1 => fin_out r r1 x1 q1 o
      | exn c p h1 => exact fun o σ1 dx H1 g1 r1 x1 q1 => finX_out r r1 x1 q1 o
      | brk _ _ => exact fun o => o.elim
      | cnt _ _ => exact fun o => o.elim
      | stuck => exact fun o => o.elim
end
end Mi
namespace Mi
open PySem PySem.Spec PyProof.Rows L2
/-! ### a law's data -/
structure LD where
  fns : List (Nat × FnT × FI)
  G : GE
  xn : Nat → Str
def noFn : FnT := ⟨(Str.empty, none), Str.empty, Str.empty, ⟨[], [], none, [], [], none, []⟩, [], ⟨.function, [], false, false, []⟩, [], [], []⟩
def LD.tx (L : LD) (f : Nat) : FnT := ((L.fns.lookup f).map (·.1)).getD noFn
def LD.P (L : LD) (f : Nat) : Option FI := (L.fns.lookup f).map (·.2)
def LD.lw (L : LD) : Lw := ⟨L.P, L.tx, L.G⟩
def LD.T (L : LD) (K : PySem.W.Frag) : Tx := ⟨K, fun _ => 0, fun c => He.ga K (L.xn c), fun f => He.fAd K (L.tx f).at_, fun _ => Str.empty⟩
def defD (t : FnT) : He.DefD := ⟨t.at_, t.name, t.qual, t.params, t.body, t.scope, t.dfl.map He.Dv.int, []⟩
def LD.defs (L : LD) : List He.DefD := L.fns.map fun p => defD p.2.1
def gFa (p : Str × GK) : List He.Fa := match p.2 with
  | .int i => [.int p.1 i]
  | .str s => [.str p.1 s]
  | .fn _ _ _ => [.glo p.1]
  | .exc _ => [.glo p.1, .exc p.1]
  | .free => [.free p.1]
def LD.facts (L : LD) : List He.Fa := L.G.flatMap gFa
def gB (L : LD) : Bool := L.G.all fun p => match p.2 with
  | .fn f np nd => (match L.fns.lookup f with
    | some (t, i) => decide (t.at_ = (p.1, none)) && decide (i.np = np) && decide (t.dfl = nd)
    | none => false)
  | .exc c => decide (L.xn c = p.1)
  | _ => true
/-- how a def's arguments bind -/
structure BindsOk (t : FnT) : Prop where
  all : t.dfl = [] → ∀ (kV doc pm : Value) (an : Option Addr) (cdv ct : Value) (us : List Value), us.length = t.ps.length → bindArgs (PySem.W.fnOf t.name t.qual t.params t.body t.scope .none kV doc pm an cdv ct) ⟨us, []⟩ = pure (t.ps.zip us)
  dfl : t.dfl ≠ [] → ∀ j, (j = 0 ∨ j = t.dfl.length) → ∀ (T : Addr) (kV doc pm : Value) (an : Option Addr) (cdv ct : Value) (us its : List Value), us.length = t.ps.length - (t.dfl.length - j) → its.length = t.dfl.length →
    ∃ k, bindArgs (PySem.W.fnOf t.name t.qual t.params t.body t.scope (.ref T) kV doc pm an cdv ct) ⟨us, []⟩ = seqItems? (.ref T) >>= k ∧ k (some its.toArray) = pure (t.ps.zip (us ++ its.drop j))
  le : t.dfl.length ≤ t.ps.length
def BindsAll : List (Nat × FnT × FI) → Prop
  | [] => True
  | p :: r => BindsOk p.2.1 ∧ BindsAll r
theorem BindsAll.mem : ∀ {l : List (Nat × FnT × FI)} {p : Nat × FnT × FI}, BindsAll l → p ∈ l → BindsOk p.2.1
  | q :: r, p, h, m => by
    rcases List.mem_cons.mp m with e | m
    · rw [e]; exact h.1
    · exact BindsAll.mem h.2 m
theorem lookup_mem {α β : Type} [BEq α] [LawfulBEq α] {k : α} {v : β} : ∀ {l : List (α × β)}, l.lookup k = some v → (k, v) ∈ l
  | (a, b) :: r, h => by
    rw [List.lookup_cons] at h
    by_cases e : (k == a) = true
    · simp only [e] at h
      cases h
      rw [eq_of_beq e]
      exact List.mem_cons_self ..
    · have e : (k == a) = false := by simpa using e
      simp only [e] at h
      exact List.mem_cons_of_mem _ (lookup_mem h)
theorem BindsOk.one {t : FnT} (h : t.dfl = []) (b : ∀ (kV doc pm : Value) (an : Option Addr) (cdv ct : Value) (us : List Value), us.length = t.ps.length → bindArgs (PySem.W.fnOf t.name t.qual t.params t.body t.scope .none kV doc pm an cdv ct) ⟨us, []⟩ = pure (t.ps.zip us)) : BindsOk t :=
  ⟨fun _ => b, fun n => absurd h n, by rw [h]; exact Nat.zero_le _⟩
section
variable {L : LD} {K : PySem.W.Frag} {h : Heap} {mg : Str → Option Value}
theorem LD.P_some {f : Nat} {i : FI} (e : L.P f = some i) : ∃ t, L.fns.lookup f = some (t, i) ∧ L.tx f = t := by
  unfold LD.P at e
  cases z : L.fns.lookup f with
  | none => rw [z] at e; cases e
  | some p =>
    obtain ⟨t, j⟩ := p
    rw [z] at e
    cases e
    exact ⟨t, rfl, by unfold LD.tx; rw [z]; rfl⟩
theorem ints_v : ∀ ns : List Int, (ns.map He.Dv.int).map (He.Dv.v K) = ns.map V.int
  | [] => rfl
  | n :: ns => by simp only [List.map_cons, ints_v ns]; rfl
theorem LD.txt (c : He.SaysD L.facts L.defs K) (hb : BindsAll L.fns) {f : Nat} {i : FI} (e : L.P f = some i) : TxtOk K (L.tx f) (He.fAd K (L.tx f).at_) ∧ ((L.tx f).dfl = [] → ∃ fd, FunD K (L.tx f).name (L.tx f).qual (L.tx f).params (L.tx f).body (L.tx f).scope [] [] (He.fAd K (L.tx f).at_) fd) := by
  obtain ⟨t, e1, e2⟩ := LD.P_some e
  have m := lookup_mem e1
  obtain ⟨n, hn, en⟩ := List.getElem_of_mem m
  have ed : L.defs[n]? = some (defD t) := by
    unfold LD.defs
    rw [List.getElem?_map, List.getElem?_eq_getElem hn, en]
    rfl
  obtain ⟨fd, F⟩ := c.def_ n ed
  rw [e2]
  have F : FunD K t.name t.qual t.params t.body t.scope ((t.dfl.map He.Dv.int).map (He.Dv.v K)) [] (He.fAd K t.at_) fd := F
  rw [ints_v] at F
  have b : BindsOk t := hb.mem m
  refine ⟨⟨fd, t.dfl.map V.int, F, ?_, fun hd => ?_⟩, fun hd => ?_⟩
  · by_cases hd : t.dfl = []
    · rw [hd] at F
      exact F.bindsN (b.all hd)
    · have hd' : t.dfl.map V.int ≠ [] := by simpa using hd
      obtain ⟨ds, v, bb⟩ := F.binds1 (ps := t.ps) t.ps.length t.dfl.length hd' (by simp) (fun T kV doc pm an cdv ct us its h1 h2 => by
        have := b.dfl hd t.dfl.length (.inr rfl) T kV doc pm an cdv ct us its (by rw [h1]; omega) (by simpa using h2)
        exact this)
      have : ds = [] := by
        have := v.length
        simp at this
        exact List.eq_nil_of_length_eq_zero this.symm
      rw [this] at bb
      exact bb
  · have hd' : t.dfl.map V.int ≠ [] := by simpa using hd
    have hle := b.le
    obtain ⟨ds, v, bb⟩ := F.binds1 (ps := t.ps) (t.ps.length - t.dfl.length) 0 hd' (by simp; omega) (fun T kV doc pm an cdv ct us its h1 h2 => by
      have := b.dfl hd 0 (.inl rfl) T kV doc pm an cdv ct us its (by rw [h1]; omega) (by simpa using h2)
      exact this)
    exact ⟨ds, by simpa using v, bb⟩
  · rw [hd] at F
    exact ⟨fd, F⟩
theorem LD.ok (X : K.In h) (Gh : h.Ns mainGlobals mg) (c : He.SaysD L.facts L.defs K) (hc : (L.fns.all fun p => chkF L.G p.2.1 p.2.2) = true) (hg : gB L = true) (hb : BindsAll L.fns) : LwOk L.lw (L.T K) mg where
  chk := fun f i e => by
    obtain ⟨t, e1, e2⟩ := LD.P_some (show L.P f = some i from e)
    have := List.all_eq_true.mp hc _ (lookup_mem e1)
    show chkF L.G (L.tx f) i = true
    rw [e2]
    exact this
  txt := fun f i e => (LD.txt c hb (show L.P f = some i from e)).1
  glob := fun x g e => by
    have m := lookup_mem (show L.G.lookup x = some g from e)
    have fact : ∀ a ∈ gFa (x, g), a.ok K = true := fun a ha => by
      have : a ∈ L.facts := List.mem_flatMap.mpr ⟨_, m, ha⟩
      obtain ⟨n, hn, en⟩ := List.getElem_of_mem this
      exact c.fact n (by rw [List.getElem?_eq_getElem hn, en])
    have hg := List.all_eq_true.mp hg _ m
    cases g with
    | int i => exact He.int_ok X Gh (fact _ (List.mem_cons_self ..))
    | str i => exact He.str_ok X Gh (fact _ (List.mem_cons_self ..))
    | free => exact He.free_ok X Gh (fact _ (List.mem_cons_self ..))
    | exc d =>
      have e := of_decide_eq_true (show decide (L.xn d = x) = true from hg)
      have q := He.exc_ok (fact (.exc x) (List.mem_cons_of_mem _ (List.mem_cons_self ..)))
      have z := He.glo_ok X Gh (fact (.glo x) (List.mem_cons_self ..))
      show mg x = some (.ref (He.ga K (L.xn d))) ∧ PySem.W.excIn K (He.ga K (L.xn d)) He.veBase "ValueError.__new__" = true ∧ PySem.W.keepIn K (.ref (He.ga K (L.xn d))) = true ∧ PySem.W.subIn K (.ref (He.ga K (L.xn d))) (.type "BaseException") = some true ∧ PySem.W.typeIn K (.ref (He.ga K (L.xn d))) = some (.type "type")
      rw [e]
      exact ⟨z, q⟩
    | fn f np nd =>
      have hg : (match L.fns.lookup f with
        | some (t, i) => decide (t.at_ = (x, none)) && decide (i.np = np) && decide (t.dfl = nd)
        | none => false) = true := hg
      have z := He.glo_ok X Gh (fact (.glo x) (List.mem_cons_self ..))
      cases y : L.fns.lookup f with
      | none => rw [y] at hg; cases hg
      | some p =>
        obtain ⟨t, i⟩ := p
        rw [y] at hg
        simp only [Bool.and_eq_true, decide_eq_true_eq] at hg
        obtain ⟨⟨h1, h2⟩, h3⟩ := hg
        have et : L.tx f = t := by unfold LD.tx; rw [y]; rfl
        refine ⟨?_, i, by show L.P f = some i; unfold LD.P; rw [y]; rfl, h2, ?_⟩
        · show mg x = some (.ref (He.fAd K (L.tx f).at_))
          rw [et, h1]
          exact z
        · show (L.tx f).dfl = nd
          rw [et]; exact h3
/-- what a law lets out -/
def CXE (P : Program) : CXT := fun outer H s E u s' => ∃ w, L2N.CX P w outer H s E u s'
theorem FnOk.cx {P : Program} {w : World} {mg : Str → Option Value} {base : Heap} {CX CX' : CXT} {k : Nat} {f : Addr} {fd : FuncData} {ps : List Str} {sp : Sp} (F : FnOk P w K mg base CX k f fd ps sp) (h : ∀ outer H s E u s', CX outer H s E u s' → CX' outer H s E u s') : FnOk P w K mg base CX' k f fd ps sp :=
  ⟨F.len, fun A outer s H args us vs Q E hr e0 hb hv hs => codeAny_mono (F.run A outer s H args us vs Q E hr e0 hb hv hs) fun r s' hq => by
    cases r with
    | error e => exact h _ _ _ _ _ _ hq
    | ok fl => cases fl <;> exact hq⟩
theorem cxe_no {P : Program} : ∀ (H : Hp) (s : Shared) (e : Value) (s' : Shared), CXE P [] H s (fun _ _ _ => False) e s' → False := fun H s e s' ⟨w, a, B, H', cls, d, _, _, _, _, _, _, _, z⟩ => z
/-- the law's own def -/
theorem LD.law {P : Program} {w : World} {fa : Addr} {f n : Nat} {i : FI} {x : Str} (X : K.In h) (Gh : h.Ns mainGlobals mg) (c : He.SaysD L.facts L.defs K) (hc : (L.fns.all fun p => chkF L.G p.2.1 p.2.2) = true) (hg : gB L = true) (hb : BindsAll L.fns)
    (ef : L.G.lookup ("law" : Str) = some (.fn f 1 [])) (ei : L.P f = some i) (ed : (L.tx f).dfl = []) (ep : (L.tx f).ps = [x]) (hmg : mg ("law" : Str) = some (.ref fa))
    (spec : ∀ ns : List Int, ns.length ≤ 63 → ∃ h', callN L.P n f [.scr ns] [] = .ok (.bl true) h') :
    ∃ (K : PySem.W.Frag) (fd : FuncData) (sp : Sp), K.In h ∧ (∀ (s : Shared) (u : Value), BindsTo s fd ⟨[u], []⟩ [(x, u)]) ∧
        (∀ (H : Hp) (a : Addr) (ns : List Int), ns.length ≤ 63 → Only H → SqL K H a (ns.map V.int) → sp [.ref a] H (fun v _ => v = .bl true) fun _ _ _ => False) ∧
        ∀ base : Heap, K.In base → base.Ns mainGlobals mg → FnOk P w K mg base (CXE P) n fa fd [x] sp := by
  have ok := LD.ok X Gh c hc hg hb
  have z := ok.glob ("law" : Str) _ ef
  obtain ⟨z1, i', z2, z3, z4⟩ := z
  have e1 : L.P f = some i' := z2
  rw [ei] at e1
  cases e1
  have e2 : fa = He.fAd K (L.tx f).at_ := by
    have z1 : mg "law" = some (.ref (He.fAd K (L.tx f).at_)) := z1
    rw [hmg] at z1
    cases z1
    rfl
  obtain ⟨tx, fdx⟩ := LD.txt c hb ei
  obtain ⟨fd, F⟩ := fdx ed
  obtain ⟨t, t1, t2⟩ := LD.P_some ei
  have b : BindsOk (L.tx f) := by rw [t2]; exact hb.mem (lookup_mem t1)
  refine ⟨K, fd, spF (L.T K) (callN L.P n) f 1, X, fun s u => ?_, fun H a ns hl hO hS => ?_, fun base KB GB => ?_⟩
  · have := FunD.bindsA (ps := (L.tx f).ps) F (b.all ed) s [u] (by rw [ep]; rfl)
    rw [ep] at this
    exact this
  · refine ⟨rfl, ⟨[], fun _ => False⟩, [], [.scr ns], ⟨rfl, .nil, fun _ h => (nomatch h), fun _ h => h.elim, fun n o a e => by simp at e⟩, ⟨⟨a, rfl, ?_⟩, True.intro⟩, ?_⟩
    · rcases hS with (hS | ⟨o, hS⟩) | hS
      · rcases hO a with q | ⟨o, xs, q⟩
        · rw [q] at hS; cases hS
        · rw [q] at hS; cases hS
      · exact .inl ⟨o, hS, fun q => nomatch q⟩
      · exact .inr fun H' => .inr hS
    · obtain ⟨h', e⟩ := spec ns hl
      rw [e]
      exact fun v H1 g1 r x q => q
  · rw [e2, ← ep]
    have := fn_all (Pg := P) (w := w) (base := base) ok n f i ei fd [] F
    rw [show i.np = 1 from z3] at this
    exact FnOk.cx this fun outer H s E u s' q => ⟨w, q⟩
end
end Mi
namespace Mi
open PySem
/-! ### running by rewriting -/
@[simp] theorem bind_ok {α β : Type} (a : α) (h : MH) (f : α → MH → R β) : R.bind (.ok a h) f = f a h := rfl
@[simp] theorem bind_exn {α β : Type} (c : Nat) (p : Option D) (h : MH) (f : α → MH → R β) : R.bind (.exn c p h : R α) f = .exn c p h := rfl
@[simp] theorem bind_stuck {α β : Type} (f : α → MH → R β) : R.bind (.stuck : R α) f = .stuck := rfl
@[simp] theorem bind_ite {α β : Type} (c : Prop) [Decidable c] (a b : R α) (f : α → MH → R β) : R.bind (if c then a else b) f = if c then R.bind a f else R.bind b f := by split <;> rfl
@[simp] theorem evS_ok {α : Type} (a : α) (h : MH) (f : α → MH → Fl) : evS (.ok a h) f = f a h := rfl
@[simp] theorem evS_exn {α : Type} (c : Nat) (p : Option D) (h : MH) (f : α → MH → Fl) : evS (.exn c p h : R α) f = .exn c p h := rfl
@[simp] theorem evS_ite {α : Type} (c : Prop) [Decidable c] (a b : R α) (f : α → MH → Fl) : evS (if c then a else b) f = if c then evS a f else evS b f := by split <;> rfl
/-- one statement behind another -/
def seqF (r : Fl) (k : Ev → MH → Fl) : Fl := match r with
  | .nx e1 h1 => k e1 h1
  | r => r
@[simp] theorem seqF_nx (e : Ev) (h : MH) (k : Ev → MH → Fl) : seqF (.nx e h) k = k e h := rfl
@[simp] theorem seqF_ret (d : D) (h : MH) (k : Ev → MH → Fl) : seqF (.ret d h) k = .ret d h := rfl
@[simp] theorem seqF_exn (c : Nat) (p : Option D) (h : MH) (k : Ev → MH → Fl) : seqF (.exn c p h) k = .exn c p h := rfl
@[simp] theorem seqF_brk (e : Ev) (h : MH) (k : Ev → MH → Fl) : seqF (.brk e h) k = .brk e h := rfl
@[simp] theorem seqF_cnt (e : Ev) (h : MH) (k : Ev → MH → Fl) : seqF (.cnt e h) k = .cnt e h := rfl
@[simp] theorem seqF_ite (c : Prop) [Decidable c] (a b : Fl) (k : Ev → MH → Fl) : seqF (if c then a else b) k = if c then seqF a k else seqF b k := by split <;> rfl
/-- a def's end -/
def retF (keep : Option Nat) (b : Nat) (r : Fl) : R D := match r with
  | .nx _ h1 => fin keep b .non h1
  | .ret d h1 => fin keep b d h1
  | .exn c p h1 => finX keep b c p h1
  | _ => .stuck
@[simp] theorem retF_nx (keep : Option Nat) (b : Nat) (e : Ev) (h : MH) : retF keep b (.nx e h) = fin keep b .non h := rfl
@[simp] theorem retF_ret (keep : Option Nat) (b : Nat) (d : D) (h : MH) : retF keep b (.ret d h) = fin keep b d h := rfl
@[simp] theorem retF_exn (keep : Option Nat) (b : Nat) (c : Nat) (p : Option D) (h : MH) : retF keep b (.exn c p h) = finX keep b c p h := rfl
@[simp] theorem retF_ite (keep : Option Nat) (b : Nat) (c : Prop) [Decidable c] (x y : Fl) : retF keep b (if c then x else y) = if c then retF keep b x else retF keep b y := by split <;> rfl
@[simp] theorem fin_same (b : Nat) (d : D) (h : MH) (e : h.length = b) : fin none b d h = .ok d h := by
  unfold fin
  simp [e]
@[simp] theorem fin_here (keep : Option Nat) (d : D) (h : MH) : fin keep h.length d h = .ok d h := by
  unfold fin
  cases keep <;> simp
@[simp] theorem finX_here (keep : Option Nat) (c : Nat) (h : MH) : finX keep h.length c none h = .exn c none h := by
  unfold finX
  simp
theorem callN_run {P : Nat → Option FI} {f : Nat} {i : FI} (e : P f = some i) (n : Nat) (as : List D) (h : MH) (hl : as.length = i.np) :
    callN P (n + 1) f as h = retF i.keep h.length (exS (callN P n) WF i.body (as.map some ++ List.replicate (i.nn - as.length) none) h) := by
  unfold callN
  rw [e]
  simp only [if_pos hl]
  cases exS (callN P n) WF i.body (as.map some ++ List.replicate (i.nn - as.length) none) h <;> rfl
section
variable {ft : FT} {w : Nat} {e : Ev} {h : MH}
@[simp] theorem exS_nil : exS ft w .nil e h = .nx e h := rfl
@[simp] theorem exS_cons (a b : S) : exS ft w (.cons a b) e h = seqF (exS ft w a e h) (exS ft w b) := by
  show (match exS ft w a e h with
    | .nx e1 h1 => exS ft w b e1 h1
    | r => r) = _
  cases exS ft w a e h <;> rfl
@[simp] theorem exS_asg (t : Tg) (x : E) : exS ft w (.asg t x) e h = evS (evE ft x e h) fun d h => setM t d e h := rfl
@[simp] theorem exS_sub (o i x : E) : exS ft w (.sub o i x) e h = evS (evE ft x e h) fun v h => evS (evE ft o e h) fun a h => evS (evE ft i e h) fun k h => subM a k v e h := rfl
@[simp] theorem exS_aug (i : Nat) (o : Bo) (x : E) : exS ft w (.aug i o x) e h = match vget e i with
    | some a => evS (evE ft x e h) fun b h => augM o i a b e h
    | none => .stuck := rfl
@[simp] theorem exS_augS (o i : E) (p : Bo) (x : E) : exS ft w (.augS o i p x) e h = evS (evE ft o e h) fun a h => evS (evE ft i e h) fun k h => match augI a k h with
    | some u => evS (evE ft x e h) fun w h => augW p u a k w e h
    | none => .stuck := rfl
@[simp] theorem exS_ex (x : E) : exS ft w (.ex x) e h = evS (evE ft x e h) fun _ h => .nx e h := rfl
@[simp] theorem exS_ret (x : E) : exS ft w (.ret x) e h = evS (evE ft x e h) fun d h => .ret d h := rfl
@[simp] theorem exS_retN : exS ft w .retN e h = .ret .non h := rfl
@[simp] theorem exS_if (c : E) (a b : S) : exS ft w (.ifS c a b) e h = evS (evE ft c e h) fun d h => ifK d (exS ft w a e) (exS ft w b e) h := rfl
@[simp] theorem exS_whl (c : E) (b : S) : exS ft w (.whl c b) e h = whL (evE ft c) (exS ft w b) w e h := rfl
/-- a loop -/
def forF (t : Tg) (b : Ev → MH → Fl) (r : R It) (e : Ev) : Fl := match r with
  | .ok (.its xs) h1 => forL t b xs e h1
  | .ok (.hp n w) h1 => forH t b n w (lenH h1 n) 0 e h1
  | .exn c p h1 => .exn c p h1
  | .stuck => .stuck
@[simp] theorem forF_its (t : Tg) (b : Ev → MH → Fl) (xs : List D) (h1 : MH) (e : Ev) : forF t b (.ok (.its xs) h1) e = forL t b xs e h1 := rfl
@[simp] theorem forF_hp (t : Tg) (b : Ev → MH → Fl) (n : Nat) (w : Bool) (h1 : MH) (e : Ev) : forF t b (.ok (.hp n w) h1) e = forH t b n w (lenH h1 n) 0 e h1 := rfl
@[simp] theorem exS_for (t : Tg) (it : E) (b : S) : exS ft w (.forS t it b) e h = forF t (exS ft w b) (evI ft it e h) e := rfl
@[simp] theorem exS_brk : exS ft w .brk e h = .brk e h := rfl
@[simp] theorem exS_cnt : exS ft w .cnt e h = .cnt e h := rfl
@[simp] theorem exS_pass : exS ft w .pass e h = .nx e h := rfl
@[simp] theorem exS_raise (c : Nat) (x : E) : exS ft w (.raise c x) e h = evS (evA ft x e h) fun ds h => raiseM c ds h := rfl
@[simp] theorem raiseM_nil (c : Nat) (h : MH) : raiseM c [] h = .exn c none h := rfl
@[simp] theorem raiseM_one (c : Nat) (d : D) (h : MH) : raiseM c [d] h = .exn c (some d) h := rfl
@[simp] theorem ifK_bl (k : Bool) (a b : MH → Fl) (h : MH) : ifK (.bl k) a b h = if k = true then a h else b h := rfl
@[simp] theorem setM_nm (i : Nat) (d : D) : setM (.nm i) d e h = .nx (e.set i (some d)) h := rfl
@[simp] theorem setM_tp (is : List Nat) (ds : List D) : setM (.tp is) (.tup ds) e h = match setL is ds e with
  | some e1 => .nx e1 h
  | none => .stuck := rfl
@[simp] theorem setL_nil : setL [] [] e = some e := rfl
@[simp] theorem setL_cons (i : Nat) (is : List Nat) (d : D) (ds : List D) : setL (i :: is) (d :: ds) e = setL is ds (e.set i (some d)) := rfl
@[simp] theorem vget_zero (d : D) (e : Ev) : vget (some d :: e) 0 = some d := rfl
@[simp] theorem vget_succ (o : Option D) (e : Ev) (i : Nat) : vget (o :: e) (i + 1) = vget e i := rfl
@[simp] theorem evE_var (i : Nat) : evE ft (.var i) e h = match vget e i with
    | some d => .ok d h
    | none => .stuck := rfl
@[simp] theorem evE_non : evE ft .non e h = .ok .non h := rfl
@[simp] theorem evE_bl (b : Bool) : evE ft (.bl b) e h = .ok (.bl b) h := rfl
@[simp] theorem evE_int (i : Int) : evE ft (.int i) e h = .ok (.int i) h := rfl
@[simp] theorem evE_str (x : Str) : evE ft (.str x) e h = .ok (.str x) h := rfl
@[simp] theorem evE_gI (x : Str) (i : Int) : evE ft (.gI x i) e h = .ok (.int i) h := rfl
@[simp] theorem evE_gS (x s : Str) : evE ft (.gS x s) e h = .ok (.str s) h := rfl
@[simp] theorem evE_tup (es : E) : evE ft (.tup es) e h = (evA ft es e h).bind fun ds h => .ok (.tup ds) h := rfl
@[simp] theorem evE_lst (m : Bool) (es : E) : evE ft (.lst m es) e h = (evA ft es e h).bind fun ds h => mk m ds h := rfl
@[simp] theorem evE_bin (m : Bool) (o : Bo) (a b : E) : evE ft (.bin m o a b) e h = (evE ft a e h).bind fun x h => (evE ft b e h).bind fun y h => bop m o x y h := rfl
@[simp] theorem evE_neg (a : E) : evE ft (.neg a) e h = (evE ft a e h).bind fun x h => negM x h := rfl
@[simp] theorem evE_cmp (o : Co) (a b : E) : evE ft (.cmp o a b) e h = (evE ft a e h).bind fun x h => (evE ft b e h).bind fun y h => cmpM o x y h := rfl
/-- by a bool -/
def onB (d : D) (a b : MH → R D) (h : MH) : R D := match d with
  | .bl k => if k = true then a h else b h
  | _ => .stuck
@[simp] theorem onB_bl (k : Bool) (a b : MH → R D) (h : MH) : onB (.bl k) a b h = if k = true then a h else b h := rfl
@[simp] theorem evE_chain (o p : Co) (a b c : E) : evE ft (.chain o p a b c) e h = (evE ft a e h).bind fun x h => (evE ft b e h).bind fun y h => (cmpM o x y h).bind fun k h => onB k (fun h => (evE ft c e h).bind fun z h => cmpM p y z h) (fun h => .ok (.bl false) h) h := rfl
@[simp] theorem evE_and (a b : E) : evE ft (.and a b) e h = (evE ft a e h).bind fun x h => onB x (fun h => evE ft b e h) (fun h => .ok (.bl false) h) h := rfl
@[simp] theorem evE_or (a b : E) : evE ft (.or a b) e h = (evE ft a e h).bind fun x h => onB x (fun h => .ok (.bl true) h) (fun h => evE ft b e h) h := rfl
def notB (d : D) (h : MH) : R D := match d with
  | .bl k => .ok (.bl (!k)) h
  | _ => .stuck
@[simp] theorem notB_bl (k : Bool) (h : MH) : notB (.bl k) h = .ok (.bl (!k)) h := rfl
@[simp] theorem evE_not (a : E) : evE ft (.not a) e h = (evE ft a e h).bind fun x h => notB x h := rfl
@[simp] theorem evE_ifx (c a b : E) : evE ft (.ifx c a b) e h = (evE ft c e h).bind fun x h => onB x (fun h => evE ft a e h) (fun h => evE ft b e h) h := rfl
@[simp] theorem evE_idx (a i : E) : evE ft (.idx a i) e h = (evE ft a e h).bind fun x h => (evE ft i e h).bind fun y h => idxM x y h := rfl
@[simp] theorem evE_call (f : Nat) (es : E) : evE ft (.call f es) e h = (evA ft es e h).bind fun ds h => ft f ds h := rfl
@[simp] theorem evE_prim (p : Pr) (es : E) : evE ft (.prim p es) e h = (evA ft es e h).bind fun ds h => prim p ds h := rfl
@[simp] theorem evE_isI (a : E) (t : Ty) : evE ft (.isI a t) e h = (evE ft a e h).bind fun x h => isM t x h := rfl
@[simp] theorem evE_meth (o : E) (m : Mt) (es : E) : evE ft (.meth o m es) e h = (evE ft o e h).bind fun x h => if tnOf h x = some (recvT m) then (evA ft es e h).bind fun ds h => metD m x ds h else .stuck := rfl
@[simp] theorem evE_lc (m : Bool) (t : Tg) (it c el : E) (own : List (Str × Nat)) : evE ft (.lc m t it c el own) e h = (evI ft it e h).bind fun w h => lcR m (lcB t (evE ft c) (evE ft el) (wipeE e (own.map (·.2)))) w h := rfl
@[simp] theorem evA_nil : evA ft .nil e h = .ok [] h := rfl
@[simp] theorem evA_cons (a r : E) : evA ft (.cons a r) e h = (evE ft a e h).bind fun x h => (evA ft r e h).bind fun xs h => .ok (x :: xs) h := rfl
def onI (d : D) (k : Int → R It) : R It := match d with
  | .int j => k j
  | _ => .stuck
@[simp] theorem onI_int (j : Int) (k : Int → R It) : onI (.int j) k = k j := rfl
def rngM (j : Int) (h : MH) : R It := if decide (j ≤ (big : Int)) && decide (-(2 ^ 60) < j) then .ok (.its ((List.range j.toNat).map fun i => .int (i : Nat))) h else .stuck
def rngL (k : Nat) : List D := (List.range k).map fun (i : Nat) => .int (i : Int)
theorem rngM_nat (k : Nat) (hk : k ≤ 10000) : rngM (k : Int) h = .ok (.its (rngL k)) h := by
  unfold rngM rngL
  rw [if_pos]
  · rw [Int.toNat_natCast]
  · unfold big
    simp only [Bool.and_eq_true, decide_eq_true_eq]
    omega
@[simp] theorem rngL_len (k : Nat) : (rngL k).length = k := by simp [rngL]
theorem rngL_mem {k : Nat} {d : D} (hd : d ∈ rngL k) : ∃ i : Nat, i < k ∧ d = .int (i : Int) := by
  unfold rngL at hd
  obtain ⟨i, hi, rfl⟩ := List.mem_map.mp hd
  exact ⟨i, List.mem_range.mp hi, rfl⟩
@[simp] theorem evI_rng1 (a : E) : evI ft (.rng1 a) e h = (evE ft a e h).bind fun x h => onI x fun j => rngM j h := rfl
@[simp] theorem evI_gen (a : E) : evI ft (.gen a) e h = (evE ft a e h).bind fun d h => match itOf h d with
    | some w => .ok w h
    | none => .stuck := rfl
@[simp] theorem evI_enum (a : E) : evI ft (.enum a) e h = (evE ft a e h).bind fun d h => match enumOf h d with
    | some w => .ok w h
    | none => .stuck := rfl
@[simp] theorem evI_zip (a b : E) : evI ft (.zip a b) e h = (evE ft a e h).bind fun x h => (evE ft b e h).bind fun y h => match plainIts x, plainIts y with
    | some xs, some ys => .ok (.its (zipD xs ys)) h
    | _, _ => .stuck := rfl
@[simp] theorem itOf_tup (xs : List D) : itOf h (.tup xs) = some (.its xs) := rfl
@[simp] theorem itOf_lst (xs : List D) : itOf h (.lst xs) = some (.its xs) := rfl
@[simp] theorem enumOf_tup (xs : List D) : enumOf h (.tup xs) = some (.its (enumL 0 xs)) := rfl
@[simp] theorem enumOf_lst (xs : List D) : enumOf h (.lst xs) = some (.its (enumL 0 xs)) := rfl
@[simp] theorem plainIts_tup (xs : List D) : plainIts (.tup xs) = some xs := rfl
@[simp] theorem plainIts_lst (xs : List D) : plainIts (.lst xs) = some xs := rfl
@[simp] theorem mk_false (xs : List D) : mk false xs h = .ok (.lst xs) h := rfl
@[simp] theorem mk_true (xs : List D) : mk true xs h = .ok (.ref h.length) (h ++ [.lst xs]) := rfl
/-! ### operators -/
@[simp] theorem bop_add (m : Bool) (i j : Int) : bop m .add (.int i) (.int j) h = .ok (.int (i + j)) h := rfl
@[simp] theorem bop_sub (m : Bool) (i j : Int) : bop m .sub (.int i) (.int j) h = .ok (.int (i - j)) h := rfl
theorem bop_mul (m : Bool) (i j : Int) (c : (small i || small j || (decide (i.natAbs < 2 ^ 4000) && decide (j.natAbs < 2 ^ 4000))) = true) : bop m .mul (.int i) (.int j) h = .ok (.int (i * j)) h := by
  show (if (small i || small j || (decide (i.natAbs < 2 ^ 4000) && decide (j.natAbs < 2 ^ 4000))) = true then R.ok (D.int (i * j)) h else .stuck) = _
  rw [if_pos c]
theorem bop_fdiv (m : Bool) (i j : Int) (h0 : 0 < j) (h1 : j.natAbs < 2 ^ 8000) : bop m .fdiv (.int i) (.int j) h = .ok (.int (i / j)) h := by
  show (if (decide (0 < j) && decide (j.natAbs < 2 ^ 8000)) = true then R.ok (D.int (i / j)) h else _) = _
  rw [if_pos (by simp [h0, h1])]
theorem bop_mod (m : Bool) (i j : Int) (h0 : 0 < j) : bop m .mod (.int i) (.int j) h = .ok (.int (i % j)) h := by
  show (if 0 < j then R.ok (D.int (i % j)) h else _) = _
  rw [if_pos h0]
theorem bop_pow (m : Bool) (i j : Int) (h0 : (decide (0 ≤ j) && decide (j ≤ 1000000) && small i) = true) : bop m .pow (.int i) (.int j) h = .ok (.int (i ^ j.toNat)) h := by
  show (if (decide (0 ≤ j) && decide (j ≤ 1000000) && small i) = true then R.ok (D.int (i ^ j.toNat)) h else _) = _
  rw [if_pos h0]
@[simp] theorem cmp_lt (i j : Int) : cmpM .lt (.int i) (.int j) h = .ok (.bl (decide (i < j))) h := rfl
@[simp] theorem cmp_le (i j : Int) : cmpM .le (.int i) (.int j) h = .ok (.bl (decide (i ≤ j))) h := rfl
@[simp] theorem cmp_gt (i j : Int) : cmpM .gt (.int i) (.int j) h = .ok (.bl (decide (j < i))) h := rfl
@[simp] theorem cmp_ge (i j : Int) : cmpM .ge (.int i) (.int j) h = .ok (.bl (decide (j ≤ i))) h := rfl
@[simp] theorem cmp_eqI (i j : Int) : cmpM .eq (.int i) (.int j) h = .ok (.bl (decide (i = j))) h := rfl
@[simp] theorem cmp_neI (i j : Int) : cmpM .ne (.int i) (.int j) h = .ok (.bl (!decide (i = j))) h := rfl
@[simp] theorem cmp_isN (d : D) : cmpM .is d .non h = .ok (.bl (isNon d)) h := rfl
@[simp] theorem cmp_isnN (d : D) : cmpM .isn d .non h = .ok (.bl (!isNon d)) h := rfl
@[simp] theorem prim_1 (p : Pr) (a : D) : prim p [a] h = prim1 p a h := rfl
@[simp] theorem prim_2 (p : Pr) (a b : D) : prim p [a, b] h = prim2 p a b h := rfl
@[simp] theorem len_tup (xs : List D) : prim1 .len (.tup xs) h = .ok (.int xs.length) h := rfl
@[simp] theorem len_lst (xs : List D) : prim1 .len (.lst xs) h = .ok (.int xs.length) h := rfl
@[simp] theorem len_scr (ns : List Int) : prim1 .len (.scr ns) h = .ok (.int ns.length) h := by
  show R.ok (D.int ((ns.map D.int).length)) h = _
  rw [List.length_map]
@[simp] theorem tuple_lst (xs : List D) : prim1 .tuple (.lst xs) h = .ok (.tup xs) h := rfl
@[simp] theorem tuple_tup (xs : List D) : prim1 .tuple (.tup xs) h = .ok (.tup xs) h := rfl
@[simp] theorem abs_int (i : Int) : prim1 .abs (.int i) h = .ok (.int (if i < 0 then -i else i)) h := rfl
@[simp] theorem min2_int (i j : Int) : prim2 .min2 (.int i) (.int j) h = .ok (.int (if j < i then j else i)) h := rfl
@[simp] theorem max2_int (i j : Int) : prim2 .max2 (.int i) (.int j) h = .ok (.int (if j > i then j else i)) h := rfl
theorem blsD_map (bs : List Bool) : blsD (bs.map D.bl) = some bs := by
  induction bs with
  | nil => rfl
  | cons b bs ih => simp [blsD, ih]
theorem intsD_map (is : List Int) : intsD (is.map D.int) = some is := by
  induction is with
  | nil => rfl
  | cons b bs ih => simp [intsD, ih]
@[simp] theorem all_lst (bs : List Bool) : prim1 .all (.lst (bs.map D.bl)) h = .ok (.bl (bs.all id)) h := by
  show (match (some (bs.map D.bl)).bind blsD with
    | some bs => R.ok (D.bl (bs.all id)) h
    | none => .stuck) = _
  simp [blsD_map]
@[simp] theorem any_lst (bs : List Bool) : prim1 .any (.lst (bs.map D.bl)) h = .ok (.bl (bs.any id)) h := by
  show (match (some (bs.map D.bl)).bind blsD with
    | some bs => R.ok (D.bl (bs.any id)) h
    | none => .stuck) = _
  simp [blsD_map]
@[simp] theorem sum_lst (is : List Int) : prim1 .sum (.lst (is.map D.int)) h = .ok (.int is.sum) h := by
  show (match (some (is.map D.int)).bind intsD with
    | some bs => R.ok (D.int bs.sum) h
    | none => .stuck) = _
  simp [intsD_map]
@[simp] theorem sum_tup (is : List Int) : prim1 .sum (.tup (is.map D.int)) h = .ok (.int is.sum) h := by
  show (match (some (is.map D.int)).bind intsD with
    | some bs => R.ok (D.int bs.sum) h
    | none => .stuck) = _
  simp [intsD_map]
/-! ### subscripts -/
theorem atI_nat {α : Type} (xs : List α) (i : Nat) (x : α) (e : xs[i]? = some x) : atI xs (i : Int) = some x := by
  have hl := (List.getElem?_eq_some_iff.mp e).1
  unfold atI ixN
  rw [if_pos (by omega), Int.toNat_natCast, if_pos hl]
  exact e
theorem atI_int {α : Type} (xs : List α) (i : Int) (x : α) (h0 : 0 ≤ i) (e : xs[i.toNat]? = some x) : atI xs i = some x := by
  obtain ⟨n, rfl⟩ := Int.eq_ofNat_of_zero_le h0
  exact atI_nat xs n x e
theorem idx_tup (xs : List D) (i : Int) (d : D) (e : atI xs i = some d) : idxM (.tup xs) (.int i) h = .ok d h := by
  show (match atI xs i with
    | some d => R.ok d h
    | none => .stuck) = _
  rw [e]
theorem idx_lst (xs : List D) (i : Int) (d : D) (e : atI xs i = some d) : idxM (.lst xs) (.int i) h = .ok d h := by
  show (match atI xs i with
    | some d => R.ok d h
    | none => .stuck) = _
  rw [e]
theorem idx_scr (xs : List Int) (i : Int) (j : Int) (e : atI xs i = some j) : idxM (.scr xs) (.int i) h = .ok (.int j) h := by
  show (match atI (xs.map D.int) i with
    | some d => R.ok d h
    | none => .stuck) = _
  have : atI (xs.map D.int) i = some (.int j) := by
    unfold atI at e ⊢
    rw [List.length_map]
    cases z : ixN xs.length i with
    | none => rw [z] at e; cases e
    | some k => rw [z] at e; simp only [List.getElem?_map] at e ⊢; rw [e]; rfl
  rw [this]
theorem idx_ref (n : Nat) (xs : List D) (i : Int) (d : D) (e1 : h[n]? = some (.lst xs)) (e : atI xs i = some d) : idxM (.ref n) (.int i) h = .ok d h := by
  show (match (match h[n]? with
    | some (.lst xs) => idxI (some xs) (.int i)
    | _ => (dget h (.ref n) (.int i)).bind id) with
    | some d => R.ok d h
    | none => .stuck) = _
  rw [e1]
  show (match atI xs i with
    | some d => R.ok d h
    | none => .stuck) = _
  rw [e]
/-! ### comprehensions -/
theorem lcL_map {f : D → MH → R (Option D)} {g : D → D} : ∀ {xs : List D}, (∀ d ∈ xs, f d h = .ok (some (g d)) h) → lcL f xs h = .ok (xs.map g) h
  | [], _ => rfl
  | d :: ds, k => by
    show (match f d h with
      | .ok none h1 => lcL f ds h1
      | .ok (some x) h1 => (match lcL f ds h1 with
        | .ok xs h2 => .ok (x :: xs) h2
        | _ => .stuck)
      | _ => .stuck) = _
    rw [k d (List.mem_cons_self ..)]
    simp only
    rw [lcL_map (xs := ds) fun d hd => k d (List.mem_cons_of_mem _ hd)]
    rfl
theorem lcL_filter {f : D → MH → R (Option D)} {p : D → Bool} {g : D → D} : ∀ {xs : List D}, (∀ d ∈ xs, f d h = .ok (if p d = true then some (g d) else none) h) → lcL f xs h = .ok ((xs.filter p).map g) h
  | [], _ => rfl
  | d :: ds, k => by
    show (match f d h with
      | .ok none h1 => lcL f ds h1
      | .ok (some x) h1 => (match lcL f ds h1 with
        | .ok xs h2 => .ok (x :: xs) h2
        | _ => .stuck)
      | _ => .stuck) = _
    rw [k d (List.mem_cons_self ..)]
    have ih := lcL_filter (xs := ds) fun d hd => k d (List.mem_cons_of_mem _ hd)
    by_cases c : p d = true
    · simp only [c, if_true]
      rw [ih]
      simp [c]
    · simp only [c]
      simp [c, ih]
theorem lcR_map {m : Bool} {f : D → MH → R (Option D)} {g : D → D} {xs : List D} (k : ∀ d ∈ xs, f d h = .ok (some (g d)) h) : lcR m f (.its xs) h = mk m (xs.map g) h := by
  show (match lcL f xs h with
    | .ok ys h => mk m ys h
    | _ => .stuck) = _
  rw [lcL_map k]
theorem lcR_filter {m : Bool} {f : D → MH → R (Option D)} {p : D → Bool} {g : D → D} {xs : List D} (k : ∀ d ∈ xs, f d h = .ok (if p d = true then some (g d) else none) h) : lcR m f (.its xs) h = mk m ((xs.filter p).map g) h := by
  show (match lcL f xs h with
    | .ok ys h => mk m ys h
    | _ => .stuck) = _
  rw [lcL_filter k]
/-- each turn changes the heap's first object only, within I -/
theorem lcL_inv {α : Type} {mkH : α → MH} {I : α → Prop} {Q : D → Prop} {f : D → MH → R (Option D)} : ∀ {xs : List D} {a : α}, (∀ d ∈ xs, ∀ a, I a → ∃ x a', f d (mkH a) = .ok (some x) (mkH a') ∧ I a' ∧ Q x) → I a → ∃ ys a', lcL f xs (mkH a) = .ok ys (mkH a') ∧ I a' ∧ ys.length = xs.length ∧ ∀ y ∈ ys, Q y
  | [], a, _, ia => ⟨[], a, rfl, ia, rfl, fun _ h => nomatch h⟩
  | d :: ds, a, k, ia => by
    obtain ⟨x, a1, e, i1, q⟩ := k d (List.mem_cons_self ..) a ia
    obtain ⟨ys, a2, e2, i2, l, qs⟩ := lcL_inv (xs := ds) (fun d hd => k d (List.mem_cons_of_mem _ hd)) i1
    refine ⟨x :: ys, a2, ?_, i2, by simp [l], fun y hy => ?_⟩
    · show (match f d (mkH a) with
        | .ok none h1 => lcL f ds h1
        | .ok (some x) h1 => (match lcL f ds h1 with
          | .ok xs h2 => .ok (x :: xs) h2
          | _ => .stuck)
        | _ => .stuck) = _
      rw [e]
      simp only
      rw [e2]
    · rcases List.mem_cons.mp hy with z | z
      · rw [z]; exact q
      · exact qs y z
/-- a turn of a comprehension -/
def lcK (c el : MH → R D) (h : MH) : R (Option D) := (c h).bind fun k h => (match k with
    | .bl b => if b = true then (el h).bind fun x h => .ok (some x) h else .ok none h
    | _ => .stuck)
theorem lcB_eq (t : Tg) (c el : Ev → MH → R D) (w0 : Ev) (d : D) (h : MH) : lcB t c el w0 d h = match setT t d w0 with
  | some e1 => lcK (c e1) (el e1) h
  | none => .stuck := by
  unfold lcB lcK
  cases setT t d w0 <;> rfl
@[simp] theorem lcK_true (el : MH → R D) (h : MH) : lcK (fun h => .ok (.bl true) h) el h = (el h).bind fun x h => .ok (some x) h := rfl
@[simp] theorem setT_nm (i : Nat) (d : D) : setT (.nm i) d e = some (e.set i (some d)) := rfl
@[simp] theorem setT_tp (is : List Nat) (ds : List D) : setT (.tp is) (.tup ds) e = setL is ds e := rfl
@[simp] theorem setT_tq (i : Nat) (is : List Nat) (a : D) (ds : List D) : setT (.tq i is) (.tup [a, .tup ds]) e = setL is ds (e.set i (some a)) := rfl
@[simp] theorem wipeE_nil : wipeE e [] = e := rfl
@[simp] theorem wipeE_cons (v : Nat) (vs : List Nat) : wipeE e (v :: vs) = (wipeE e vs).set v none := rfl
/-- a comprehension without a test -/
theorem lc_nm {ft : FT} {m : Bool} {i : Nat} {el : Ev → MH → R D} {xs : List D} (g : D → D) (k : ∀ d ∈ xs, el (e.set i (some d)) h = .ok (g d) h) : lcR m (lcB (.nm i) (evE ft (.bl true)) el e) (.its xs) h = mk m (xs.map g) h :=
  lcR_map fun d hd => by
    rw [lcB_eq]
    show lcK (fun h => .ok (.bl true) h) (el (e.set i (some d))) h = _
    rw [lcK_true, k d hd]
    rfl
theorem lc_if {ft : FT} {m : Bool} {i : Nat} {c el : Ev → MH → R D} {xs : List D} (p : D → Bool) (g : D → D) (kc : ∀ d ∈ xs, c (e.set i (some d)) h = .ok (.bl (p d)) h) (k : ∀ d ∈ xs, p d = true → el (e.set i (some d)) h = .ok (g d) h) :
    lcR m (lcB (.nm i) c el e) (.its xs) h = mk m ((xs.filter p).map g) h :=
  lcR_filter fun d hd => by
    rw [lcB_eq]
    show lcK (c (e.set i (some d))) (el (e.set i (some d))) h = _
    unfold lcK
    rw [kc d hd]
    by_cases z : p d = true
    · simp [z, k d hd z]
    · simp [z]
/-- .. over pairs -/
theorem lc_tp {ft : FT} {m : Bool} {is : List Nat} {el : Ev → MH → R D} {xs : List D} (g : D → D) (k : ∀ d ∈ xs, ∃ e1, setT (.tp is) d e = some e1 ∧ el e1 h = .ok (g d) h) : lcR m (lcB (.tp is) (evE ft (.bl true)) el e) (.its xs) h = mk m (xs.map g) h :=
  lcR_map fun d hd => by
    obtain ⟨e1, z, q⟩ := k d hd
    rw [lcB_eq, z]
    show lcK (fun h => .ok (.bl true) h) (el e1) h = _
    rw [lcK_true, q]
    rfl
theorem lc_tpIf {m : Bool} {is : List Nat} {c el : Ev → MH → R D} {xs : List D} (p : D → Bool) (g : D → D) (k : ∀ d ∈ xs, ∃ e1, setT (.tp is) d e = some e1 ∧ c e1 h = .ok (.bl (p d)) h ∧ (p d = true → el e1 h = .ok (g d) h)) :
    lcR m (lcB (.tp is) c el e) (.its xs) h = mk m ((xs.filter p).map g) h :=
  lcR_filter fun d hd => by
    obtain ⟨e1, z, kc, kk⟩ := k d hd
    rw [lcB_eq, z]
    show lcK (c e1) (el e1) h = _
    unfold lcK
    rw [kc]
    by_cases z : p d = true
    · simp [z, kk z]
    · simp [z]
theorem map_bl (xs : List D) (g : D → Bool) : (xs.map fun d => D.bl (g d)) = (xs.map g).map D.bl := by rw [List.map_map]; rfl
theorem map_int (xs : List D) (g : D → Int) : (xs.map fun d => D.int (g d)) = (xs.map g).map D.int := by rw [List.map_map]; rfl
def allB (g : D → Bool) (xs : List D) : Bool := xs.all g
def anyB (g : D → Bool) (xs : List D) : Bool := xs.any g
@[simp] theorem all_map (xs : List D) (g : D → Bool) : prim1 .all (.lst (xs.map fun d => D.bl (g d))) h = .ok (.bl (allB g xs)) h := by
  rw [map_bl, all_lst, List.all_map]
  rfl
@[simp] theorem any_map (xs : List D) (g : D → Bool) : prim1 .any (.lst (xs.map fun d => D.bl (g d))) h = .ok (.bl (anyB g xs)) h := by
  rw [map_bl, any_lst, List.any_map]
  rfl
@[simp] theorem cmp_eqN (a b : Nat) : cmpM .eq (.int (a : Int)) (.int (b : Int)) h = .ok (.bl (decide (a = b))) h := by
  rw [cmp_eqI]
  simp [Int.ofNat_inj]
@[simp] theorem sum_map (xs : List D) (g : D → Int) : prim1 .sum (.lst (xs.map fun d => D.int (g d))) h = .ok (.int (xs.map g).sum) h := by
  rw [map_int, sum_lst]
end
end Mi
namespace Mi
open PySem
-- is_whole, id 0
def fi_is_whole : FI := ⟨3, 3, none,
 (.cons (.ret (.and (.isI (.var 0) .int) (.and (.not (.isI (.var 0) .bool)) (.chain .le .le (.var 1) (.var 0) (.var 2)))))
 .nil)⟩
-- is_shape, id 1
def fi_is_shape : FI := ⟨1, 2, none,
 (.cons (.ifS (.or (.not (.isI (.var 0) .tuple)) (.not (.chain .le .le (.int 1) (.prim .len (.cons (.var 0) .nil)) (.int 5))))
  (.cons (.ret (.bl false))
   .nil)
  .nil)
 (.cons (.ifS (.not (.prim .all (.cons (.lc false (.nm 1) (.gen (.var 0)) (.bl true) (.and (.isI (.var 1) .tuple) (.chain .le .le (.int 1) (.prim .len (.cons (.var 1) .nil)) (.int 5))) [((Str.ofString "row"), 1)]) .nil)))
  (.cons (.ret (.bl false))
   .nil)
  .nil)
 (.cons (.ret (.prim .all (.cons (.lc false (.nm 1) (.gen (.var 0)) (.bl true) (.cmp .eq (.prim .len (.cons (.var 1) .nil)) (.prim .len (.cons (.idx (.var 0) (.int 0)) .nil))) [((Str.ofString "row"), 1)]) .nil)))
 .nil)))⟩
-- is_table, id 2
def fi_is_table : FI := ⟨1, 3, none,
 (.cons (.ifS (.not (.call 1 (.cons (.var 0) .nil)))
  (.cons (.ret (.bl false))
   .nil)
  .nil)
 (.cons (.forS (.nm 1) (.gen (.var 0))
  (.cons (.ifS (.not (.prim .all (.cons (.lc false (.nm 2) (.gen (.var 1)) (.bl true) (.call 0 (.cons (.var 2) (.cons (.int 0) (.cons (.gI (Str.ofString "MOST") 9999) .nil)))) [((Str.ofString "one"), 2)]) .nil)))
    (.cons (.ret (.bl false))
     .nil)
    .nil)
   .nil))
 (.cons (.ret (.cmp .le (.prim .sum (.cons (.lc false (.nm 1) (.gen (.var 0)) (.bl true) (.prim .sum (.cons (.var 1) .nil)) [((Str.ofString "row"), 1)]) .nil)) (.gI (Str.ofString "MOST") 9999)))
 .nil)))⟩
-- need_table, id 3
def fi_need_table : FI := ⟨1, 1, none,
 (.cons (.ifS (.not (.call 2 (.cons (.var 0) .nil)))
  (.cons (.raise 0 .nil)
   .nil)
  .nil)
 .nil)⟩
-- all_cells, id 15
def fi_all_cells : FI := ⟨1, 4, none,
 (.cons (.asg (.nm 1) (.lst true .nil))
 (.cons (.forS (.nm 2) (.rng1 (.prim .len (.cons (.var 0) .nil)))
  (.cons (.ex (.meth (.var 1) .extend (.cons (.lc false (.nm 3) (.rng1 (.prim .len (.cons (.idx (.var 0) (.int 0)) .nil))) (.bl true) (.tup (.cons (.var 2) (.cons (.var 3) .nil))) [((Str.ofString "to"), 3)]) .nil)))
   .nil))
 (.cons (.ret (.var 1))
 .nil)))⟩
-- is_move, id 62
def fi_is_move : FI := ⟨2, 8, none,
 (.cons (.ifS (.or (.not (.isI (.var 1) .tuple)) (.cmp .ne (.prim .len (.cons (.var 1) .nil)) (.int 5)))
  (.cons (.ret (.bl false))
   .nil)
  .nil)
 (.cons (.ifS (.not (.prim .all (.cons (.lc false (.nm 7) (.gen (.sl false (.var 1) .nil (.cons (.int 2) .nil))) (.bl true) (.call 0 (.cons (.var 7) (.cons (.int 0) (.cons (.bin false .sub (.prim .len (.cons (.var 0) .nil)) (.int 1)) .nil)))) [((Str.ofString "one"), 7)]) .nil)))
  (.cons (.ret (.bl false))
   .nil)
  .nil)
 (.cons (.ifS (.or (.not (.prim .all (.cons (.lc false (.nm 7) (.gen (.sl false (.var 1) (.cons (.int 2) .nil) (.cons (.int 4) .nil))) (.bl true) (.call 0 (.cons (.var 7) (.cons (.int 0) (.cons (.bin false .sub (.prim .len (.cons (.idx (.var 0) (.int 0)) .nil)) (.int 1)) .nil)))) [((Str.ofString "one"), 7)]) .nil))) (.not (.call 0 (.cons (.idx (.var 1) (.int 4)) (.cons (.int 1) (.cons (.gI (Str.ofString "MOST") 9999) .nil))))))
  (.cons (.ret (.bl false))
   .nil)
  .nil)
 (.cons (.asg (.tp [2, 3, 4, 5, 6]) (.var 1))
 (.cons (.ifS (.or (.cmp .eq (.var 2) (.var 3)) (.cmp .eq (.var 4) (.var 5)))
  (.cons (.ret (.bl false))
   .nil)
  .nil)
 (.cons (.ret (.and (.cmp .ge (.idx (.idx (.var 0) (.var 2)) (.var 5)) (.var 6)) (.cmp .ge (.idx (.idx (.var 0) (.var 3)) (.var 4)) (.var 6))))
 .nil))))))⟩
-- do_move, id 63
def fi_do_move : FI := ⟨2, 7, none,
 (.cons (.asg (.tp [2, 3, 4, 5, 6]) (.var 1))
 (.cons (.augS (.idx (.var 0) (.var 2)) (.var 4) .add (.var 6))
 (.cons (.augS (.idx (.var 0) (.var 3)) (.var 5) .add (.var 6))
 (.cons (.augS (.idx (.var 0) (.var 2)) (.var 5) .sub (.var 6))
 (.cons (.augS (.idx (.var 0) (.var 3)) (.var 4) .sub (.var 6))
 .nil)))))⟩
-- moved, id 64
def fi_moved : FI := ⟨2, 4, none,
 (.cons (.ex (.call 3 (.cons (.var 0) .nil)))
 (.cons (.ifS (.not (.call 62 (.cons (.var 0) (.cons (.var 1) .nil))))
  (.cons (.raise 7 .nil)
   .nil)
  .nil)
 (.cons (.asg (.nm 2) (.lc false (.nm 3) (.gen (.var 0)) (.bl true) (.prim (.list true) (.cons (.var 3) .nil)) [((Str.ofString "row"), 3)]))
 (.cons (.ex (.call 63 (.cons (.var 2) (.cons (.var 1) .nil))))
 (.cons (.ret (.prim .tuple (.cons (.lc false (.nm 3) (.gen (.var 2)) (.bl true) (.prim .tuple (.cons (.var 3) .nil)) [((Str.ofString "row"), 3)]) .nil)))
 .nil)))))⟩
-- same_size, id 65
def fi_same_size : FI := ⟨2, 2, none,
 (.cons (.ret (.and (.cmp .eq (.prim .len (.cons (.var 0) .nil)) (.prim .len (.cons (.var 1) .nil))) (.cmp .eq (.prim .len (.cons (.idx (.var 0) (.int 0)) .nil)) (.prim .len (.cons (.idx (.var 1) (.int 0)) .nil)))))
 .nil)⟩
-- apart, id 66
def fi_apart : FI := ⟨2, 4, none,
 (.cons (.ex (.call 3 (.cons (.var 0) .nil)))
 (.cons (.ex (.call 3 (.cons (.var 1) .nil)))
 (.cons (.ifS (.not (.call 65 (.cons (.var 0) (.cons (.var 1) .nil))))
  (.cons (.raise 8 .nil)
   .nil)
  .nil)
 (.cons (.ret (.prim .sum (.cons (.lc false (.tp [2, 3]) (.gen (.call 15 (.cons (.var 0) .nil))) (.bl true) (.prim .abs (.cons (.bin false .sub (.idx (.idx (.var 0) (.var 2)) (.var 3)) (.idx (.idx (.var 1) (.var 2)) (.var 3))) .nil)) [((Str.ofString "at"), 2), ((Str.ofString "to"), 3)]) .nil)))
 .nil))))⟩
-- _law_draw, id 117
def fi_law_draw : FI := ⟨3, 6, none,
 (.cons (.ifS (.cmp .gt (.idx (.var 1) (.int 1)) (.int 0))
  (.cons (.asg (.nm 5) (.bin false .mod (.idx (.var 1) (.int 1)) (.var 2)))
   (.cons (.sub (.var 1) (.int 1) (.bin false .fdiv (.idx (.var 1) (.int 1)) (.var 2)))
   (.cons (.ret (.var 5))
   .nil)))
  .nil)
 (.cons (.asg (.nm 3) (.idx (.var 1) (.int 0)))
 (.cons (.augS (.var 1) (.int 0) .add (.int 1))
 (.cons (.ifS (.cmp .eq (.var 0) (.lst false .nil))
  (.cons (.ret (.bin false .mod (.var 3) (.var 2)))
   .nil)
  .nil)
 (.cons (.ifS (.and (.cmp .lt (.var 3) (.prim .len (.cons (.var 0) .nil))) (.cmp .ge (.idx (.var 0) (.var 3)) (.bin false .pow (.int 10) (.int 18))))
  (.cons (.sub (.var 1) (.int 1) (.bin false .mod (.bin false .fdiv (.idx (.var 0) (.var 3)) (.var 2)) (.bin false .mul (.bin false .pow (.int 10) (.int 60)) (.bin false .pow (.int 10) (.int 60)))))
   (.cons (.ret (.bin false .mod (.idx (.var 0) (.var 3)) (.var 2)))
   .nil))
  .nil)
 (.cons (.asg (.nm 4) (.bin false .mod (.bin false .add (.bin false .add (.bin false .mul (.idx (.var 0) (.bin false .mod (.var 3) (.prim .len (.cons (.var 0) .nil)))) (.int 1103515245)) (.bin false .mul (.int 7919) (.var 3))) (.int 12345)) (.int 2147483647)))
 (.cons (.ret (.bin false .mod (.bin false .mod (.bin false .mod (.bin false .pow (.var 4) (.int 5)) (.int 2147483647)) (.int 999983)) (.var 2)))
 .nil)))))))⟩
-- _law_pick, id 118
def fi_law_pick : FI := ⟨3, 3, none,
 (.cons (.ret (.idx (.var 2) (.call 117 (.cons (.var 0) (.cons (.var 1) (.cons (.prim .len (.cons (.var 2) .nil)) .nil))))))
 .nil)⟩
-- _law_cells, id 119
def fi_law_cells : FI := ⟨1, 4, none,
 (.cons (.asg (.nm 1) (.lst true .nil))
 (.cons (.forS (.nm 2) (.rng1 (.prim .len (.cons (.var 0) .nil)))
  (.cons (.ex (.meth (.var 1) .extend (.cons (.lc false (.nm 3) (.rng1 (.prim .len (.cons (.idx (.var 0) (.int 0)) .nil))) (.bl true) (.tup (.cons (.var 2) (.cons (.var 3) .nil))) [((Str.ofString "_law_to"), 3)]) .nil)))
   .nil))
 (.cons (.ret (.var 1))
 .nil)))⟩
-- _law_sized, id 120
def fi_law_sized : FI := ⟨5, 8, none,
 (.cons (.asg (.nm 5) (.lst true .nil))
 (.cons (.forS (.nm 6) (.rng1 (.var 2))
  (.cons (.ex (.meth (.var 5) .append (.cons (.prim .tuple (.cons (.lc false (.nm 7) (.rng1 (.var 3)) (.bl true) (.call 117 (.cons (.var 0) (.cons (.var 1) (.cons (.var 4) .nil)))) [((Str.ofString "_law_to"), 7)]) .nil)) .nil)))
   .nil))
 (.cons (.ret (.prim .tuple (.cons (.var 5) .nil)))
 .nil)))⟩
-- _law_table, id 121
def fi_law_table : FI := ⟨4, 6, none,
 (.cons (.asg (.tp [4, 5]) (.tup (.cons (.bin false .add (.int 1) (.call 117 (.cons (.var 0) (.cons (.var 1) (.cons (.var 2) .nil))))) (.cons (.bin false .add (.int 1) (.call 117 (.cons (.var 0) (.cons (.var 1) (.cons (.var 3) .nil))))) .nil))))
 (.cons (.ret (.call 120 (.cons (.var 0) (.cons (.var 1) (.cons (.var 4) (.cons (.var 5) (.cons (.call 118 (.cons (.var 0) (.cons (.var 1) (.cons (.lst false (.cons (.int 2) (.cons (.int 3) (.cons (.int 10) (.cons (.bin false .add (.bin false .fdiv (.int 9999) (.bin false .mul (.var 4) (.var 5))) (.int 1)) .nil))))) .nil)))) .nil)))))))
 .nil))⟩
-- _law_shut, id 122
def fi_law_shut : FI := ⟨3, 5, none,
 (.cons (.asg (.nm 3) (.call 118 (.cons (.var 0) (.cons (.var 1) (.cons (.lst false (.cons (.int 1) (.cons (.int 2) (.cons (.int 2) (.cons (.int 4) .nil))))) .nil)))))
 (.cons (.ret (.prim .tuple (.cons (.lc false (.nm 4) (.gen (.call 119 (.cons (.var 2) .nil))) (.cmp .eq (.call 117 (.cons (.var 0) (.cons (.var 1) (.cons (.var 3) .nil)))) (.int 0)) (.var 4) [((Str.ofString "_law_cell"), 4)]) .nil)))
 .nil))⟩
-- _law_rights, id 125
def fi_law_rights : FI := ⟨1, 2, none,
 (.cons (.ret (.lc false (.nm 1) (.gen (.var 0)) (.bl true) (.prim .sum (.cons (.var 1) .nil)) [((Str.ofString "_law_row"), 1)]))
 .nil)⟩
-- _law_belows, id 126
def fi_law_belows : FI := ⟨1, 3, none,
 (.cons (.ret (.lc false (.nm 1) (.rng1 (.prim .len (.cons (.idx (.var 0) (.int 0)) .nil))) (.bl true) (.prim .sum (.cons (.lc false (.nm 2) (.gen (.var 0)) (.bl true) (.idx (.var 2) (.var 1)) [((Str.ofString "_law_row"), 2)]) .nil)) [((Str.ofString "_law_to"), 1)]))
 .nil)⟩
-- _law_sheet, id 127
def fi_law_sheet : FI := ⟨2, 5, none,
 (.cons (.asg (.nm 2) (.lst true .nil))
 (.cons (.forS (.nm 3) (.rng1 (.prim .len (.cons (.var 0) .nil)))
  (.cons (.ex (.meth (.var 2) .append (.cons (.prim .tuple (.cons (.lc false (.nm 4) (.rng1 (.prim .len (.cons (.idx (.var 0) (.int 0)) .nil))) (.bl true) (.ifx (.cmp .inn (.tup (.cons (.var 3) (.cons (.var 4) .nil))) (.var 1)) .non (.idx (.idx (.var 0) (.var 3)) (.var 4))) [((Str.ofString "_law_to"), 4)]) .nil)) .nil)))
   .nil))
 (.cons (.ret (.tup (.cons (.prim .tuple (.cons (.var 2) .nil)) (.cons (.prim .tuple (.cons (.call 125 (.cons (.var 0) .nil)) .nil)) (.cons (.prim .tuple (.cons (.call 126 (.cons (.var 0) .nil)) .nil)) .nil)))))
 .nil)))⟩
-- _law_left, id 128
def fi_law_left : FI := ⟨1, 7, none,
 (.cons (.asg (.nm 1) (.lc false (.nm 3) (.gen (.idx (.var 0) (.int 0))) (.bl true) (.lc false (.nm 6) (.gen (.var 3)) (.bl true) (.ifx (.cmp .is (.var 6) .non) (.int 0) (.var 6)) [((Str.ofString "_law_one"), 6)]) [((Str.ofString "_law_row"), 3)]))
 (.cons (.asg (.nm 2) (.lc false (.tp [4, 5]) (.zip (.idx (.var 0) (.int 1)) (.call 125 (.cons (.var 1) .nil))) (.bl true) (.bin false .sub (.var 4) (.var 5)) [((Str.ofString "_law_whole"), 4), ((Str.ofString "_law_part"), 5)]))
 (.cons (.ret (.tup (.cons (.var 2) (.cons (.lc false (.tp [4, 5]) (.zip (.idx (.var 0) (.int 2)) (.call 126 (.cons (.var 1) .nil))) (.bl true) (.bin false .sub (.var 4) (.var 5)) [((Str.ofString "_law_whole"), 4), ((Str.ofString "_law_part"), 5)]) .nil))))
 .nil)))⟩
-- law_k23, id 219
def fi_law_k23 : FI := ⟨1, 15, none,
 (.cons (.asg (.nm 1) (.lst true (.cons (.int 0) (.cons (.int 0) .nil))))
 (.cons (.asg (.tp [2, 3]) (.tup (.cons (.bin false .add (.int 2) (.call 117 (.cons (.var 0) (.cons (.var 1) (.cons (.int 4) .nil))))) (.cons (.bin false .add (.int 2) (.call 117 (.cons (.var 0) (.cons (.var 1) (.cons (.int 4) .nil))))) .nil))))
 (.cons (.asg (.nm 4) (.call 120 (.cons (.var 0) (.cons (.var 1) (.cons (.var 2) (.cons (.var 3) (.cons (.call 118 (.cons (.var 0) (.cons (.var 1) (.cons (.lst false (.cons (.int 2) (.cons (.int 4) (.cons (.bin false .add (.bin false .fdiv (.int 9999) (.bin false .mul (.var 2) (.var 3))) (.int 1)) .nil)))) .nil)))) .nil)))))))
 (.cons (.asg (.tp [5, 6]) (.tup (.cons (.call 117 (.cons (.var 0) (.cons (.var 1) (.cons (.var 2) .nil)))) (.cons (.call 117 (.cons (.var 0) (.cons (.var 1) (.cons (.var 3) .nil)))) .nil))))
 (.cons (.asg (.nm 7) (.bin false .mod (.bin false .add (.bin false .add (.var 5) (.int 1)) (.call 117 (.cons (.var 0) (.cons (.var 1) (.cons (.bin false .sub (.var 2) (.int 1)) .nil))))) (.var 2)))
 (.cons (.asg (.nm 8) (.bin false .mod (.bin false .add (.bin false .add (.var 6) (.int 1)) (.call 117 (.cons (.var 0) (.cons (.var 1) (.cons (.bin false .sub (.var 3) (.int 1)) .nil))))) (.var 3)))
 (.cons (.asg (.nm 9) (.prim .min2 (.cons (.idx (.idx (.var 4) (.var 5)) (.var 8)) (.cons (.idx (.idx (.var 4) (.var 7)) (.var 6)) .nil))))
 (.cons (.ifS (.cmp .eq (.var 9) (.int 0))
  (.cons (.ret (.cmp .eq (.call 66 (.cons (.var 4) (.cons (.var 4) .nil))) (.int 0)))
   .nil)
  .nil)
 (.cons (.asg (.nm 10) (.bin false .add (.int 1) (.call 117 (.cons (.var 0) (.cons (.var 1) (.cons (.var 9) .nil))))))
 (.cons (.asg (.nm 11) (.call 64 (.cons (.var 4) (.cons (.tup (.cons (.var 5) (.cons (.var 7) (.cons (.var 6) (.cons (.var 8) (.cons (.var 10) .nil)))))) .nil))))
 (.cons (.asg (.nm 12) (.lc false (.nm 14) (.gen (.var 4)) (.bl true) (.prim (.list true) (.cons (.var 14) .nil)) [((Str.ofString "_law_one"), 14)]))
 (.cons (.augS (.idx (.var 12) (.var 5)) (.var 6) .add (.var 10))
 (.cons (.augS (.idx (.var 12) (.var 7)) (.var 8) .add (.var 10))
 (.cons (.augS (.idx (.var 12) (.var 5)) (.var 8) .sub (.var 10))
 (.cons (.augS (.idx (.var 12) (.var 7)) (.var 6) .sub (.var 10))
 (.cons (.ifS (.cmp .ne (.var 11) (.prim .tuple (.cons (.lc false (.nm 14) (.gen (.var 12)) (.bl true) (.prim .tuple (.cons (.var 14) .nil)) [((Str.ofString "_law_one"), 14)]) .nil)))
  (.cons (.ret (.bl false))
   .nil)
  .nil)
 (.cons (.asg (.nm 13) (.call 64 (.cons (.var 11) (.cons (.tup (.cons (.var 7) (.cons (.var 5) (.cons (.var 6) (.cons (.var 8) (.cons (.var 10) .nil)))))) .nil))))
 (.cons (.ret (.and (.cmp .eq (.var 13) (.var 4)) (.and (.cmp .eq (.call 66 (.cons (.var 4) (.cons (.var 11) .nil))) (.bin false .mul (.int 4) (.var 10))) (.cmp .eq (.call 66 (.cons (.var 11) (.cons (.var 4) .nil))) (.bin false .mul (.int 4) (.var 10))))))
 .nil))))))))))))))))))⟩

end Mi
namespace Mi
open PySem
/-! ### what the defs compute: the law's draws -/
section
variable {P : Nat → Option FI} {n : Nat} {h : MH}
/-- the law's town -/
def tw (a b : Int) : MO := .lst [.int a, .int b]
theorem atI0 {α : Type} (x : α) (xs : List α) : atI (x :: xs) 0 = some x := rfl
theorem atI1 {α : Type} (x y : α) (xs : List α) : atI (x :: y :: xs) 1 = some y := by
  have : atI (x :: y :: xs) ((1 : Nat) : Int) = some y := atI_nat _ 1 y rfl
  exact this
theorem tw0 (a b : Int) (r : MH) : idxM (.ref 0) (.int 0) (tw a b :: r) = .ok (.int a) (tw a b :: r) := rfl
theorem tw1 (a b : Int) (r : MH) : idxM (.ref 0) (.int 1) (tw a b :: r) = .ok (.int b) (tw a b :: r) := rfl
theorem tws1 (a b v : Int) (e : Ev) (r : MH) : subM (.ref 0) (.int 1) (.int v) e (tw a b :: r) = .nx e (tw a v :: r) := rfl
theorem twa0 (a b : Int) (r : MH) : augI (.ref 0) (.int 0) (tw a b :: r) = some a := rfl
theorem twg0 (a b v : Int) (e : Ev) (r : MH) : augW .add a (.ref 0) (.int 0) (.int v) e (tw a b :: r) = .nx e (tw (a + v) b :: r) := rfl
theorem eqI_nil (ns : List Int) : eqI ns [] = decide (ns = []) := by cases ns <;> rfl
theorem scr_nil (ns : List Int) (h : MH) : cmpM .eq (.scr ns) (.lst []) h = .ok (.bl (decide (ns = []))) h := by
  show (match (match (if (okD 8 (res h 8 (.scr ns)) && okD 8 (res h 8 (.lst []))) = true then some (eqD (res h 8 (.scr ns)) (res h 8 (.lst []))) else none) with
    | some k => some k
    | none => none) with
    | some k => R.ok (D.bl k) h
    | none => .stuck) = _
  show R.ok (D.bl (eqI ns [])) h = _
  rw [eqI_nil]
theorem draw_spec (h117 : P 117 = some fi_law_draw) (ns : List Int) (a b many : Int) (ha : 0 ≤ a) (hb : 0 ≤ b) (hm : 0 < many) (hm2 : many < 2 ^ 60) : ∃ d a' b' : Int, 0 ≤ d ∧ d < many ∧ 0 ≤ a' ∧ 0 ≤ b' ∧
    ∀ r : MH, callN P (n + 1) 117 [.scr ns, .ref 0, .int many] (tw a b :: r) = .ok (.int d) (tw a' b' :: r) := by
  have hn : many.natAbs < 2 ^ 8000 := Nat.lt_of_lt_of_le (show many.natAbs < 2 ^ 60 by omega) (Nat.pow_le_pow_right (by decide) (by decide))
  by_cases c1 : 0 < b
  · refine ⟨b % many, a, b / many, Int.emod_nonneg _ (by omega), Int.emod_lt_of_pos _ hm, ha, Int.ediv_nonneg hb (by omega), fun r => ?_⟩
    rw [callN_run h117 n _ _ rfl]
    simp [fi_law_draw, tw1, tws1, c1, bop_mod _ _ _ hm, bop_fdiv _ _ _ hm hn]
  · by_cases c2 : ns = []
    · refine ⟨a % many, a + 1, b, Int.emod_nonneg _ (by omega), Int.emod_lt_of_pos _ hm, by omega, hb, fun r => ?_⟩
      rw [callN_run h117 n _ _ rfl]
      simp [fi_law_draw, tw1, tw0, twa0, twg0, tws1, c1, c2, scr_nil, bop_mod _ _ _ hm, bop_fdiv _ _ _ hm hn]
    · have hl : 0 < ns.length := List.length_pos_iff.mpr c2
      obtain ⟨y, hy⟩ : ∃ y, atI ns (a % (ns.length : Int)) = some y := by
        have h0 : 0 ≤ a % (ns.length : Int) := Int.emod_nonneg _ (by omega)
        have h1 : a % (ns.length : Int) < ns.length := Int.emod_lt_of_pos _ (by omega)
        exact ⟨_, atI_int ns _ _ h0 (List.getElem?_eq_getElem (by omega))⟩
      have hM : 0 ≤ (y * 1103515245 + 7919 * a + 12345) % 2147483647 ∧ (y * 1103515245 + 7919 * a + 12345) % 2147483647 < 2147483647 := ⟨Int.emod_nonneg _ (by decide), Int.emod_lt_of_pos _ (by decide)⟩
      generalize hmix : (y * 1103515245 + 7919 * a + 12345) % 2147483647 = mix at hM
      have hsm : small mix = true := by
        unfold small
        rw [decide_eq_true_eq]
        have : mix.natAbs < 2147483647 := by omega
        exact Nat.lt_trans this (by decide)
      have dflt : ∀ (x : Int) (r : MH), (a < (ns.length : Int) → atI ns a = some x ∧ ¬ 1000000000000000000 ≤ x) → callN P (n + 1) 117 [.scr ns, .ref 0, .int many] (tw a b :: r) = .ok (.int (mix ^ 5 % 2147483647 % 999983 % many)) (tw (a + 1) b :: r) := fun x r hx => by
        rw [callN_run h117 n _ _ rfl]
        by_cases c3 : a < (ns.length : Int)
        · obtain ⟨e1, e2⟩ := hx c3
          simp [fi_law_draw, tw1, tw0, twa0, twg0, tws1, c1, c2, c3, scr_nil, idx_scr _ _ _ e1, idx_scr _ _ _ hy, bop_pow false 10 18 (by decide), e2, bop_mod _ _ _ hm, bop_mod _ _ _ (show (0 : Int) < ns.length by omega), bop_mul false y 1103515245 (by simp [small]), bop_mul false 7919 a (by simp [small]), bop_mod _ _ _ (show (0 : Int) < 2147483647 by decide), bop_mod _ _ _ (show (0 : Int) < 999983 by decide), hmix, bop_pow false mix 5 (by simp [hsm])]
        · simp [fi_law_draw, tw1, tw0, twa0, twg0, tws1, c1, c2, c3, scr_nil, idx_scr _ _ _ hy, bop_mod _ _ _ hm, bop_mod _ _ _ (show (0 : Int) < ns.length by omega), bop_mul false y 1103515245 (by simp [small]), bop_mul false 7919 a (by simp [small]), bop_mod _ _ _ (show (0 : Int) < 2147483647 by decide), bop_mod _ _ _ (show (0 : Int) < 999983 by decide), hmix, bop_pow false mix 5 (by simp [hsm])]
      by_cases c3 : a < (ns.length : Int)
      · obtain ⟨x, hx⟩ : ∃ x, atI ns a = some x := ⟨_, atI_int ns a _ ha (List.getElem?_eq_getElem (by omega))⟩
        by_cases c4 : 1000000000000000000 ≤ x
        · refine ⟨x % many, a + 1, x / many % (10 ^ 60 * 10 ^ 60), Int.emod_nonneg _ (by omega), Int.emod_lt_of_pos _ hm, by omega, Int.emod_nonneg _ (by decide), fun r => ?_⟩
          rw [callN_run h117 n _ _ rfl]
          simp [fi_law_draw, tw1, tw0, twa0, twg0, tws1, c1, c2, c3, c4, scr_nil, idx_scr _ _ _ hx, bop_pow false 10 18 (by decide), bop_pow false 10 60 (by decide), bop_fdiv _ _ _ hm hn, bop_mod _ _ _ hm, bop_mul false 1000000000000000000000000000000000000000000000000000000000000 1000000000000000000000000000000000000000000000000000000000000 (by decide +kernel), bop_mod _ _ _ (show (0 : Int) < 1000000000000000000000000000000000000000000000000000000000000000000000000000000000000000000000000000000000000000000000000 by decide)]
        · exact ⟨_, a + 1, b, Int.emod_nonneg _ (by omega), Int.emod_lt_of_pos _ hm, by omega, hb, fun r => dflt x r fun _ => ⟨hx, c4⟩⟩
      · exact ⟨_, a + 1, b, Int.emod_nonneg _ (by omega), Int.emod_lt_of_pos _ hm, by omega, hb, fun r => dflt 0 r fun z => absurd z c3⟩
end
end Mi
namespace Mi
open PySem
/-! ### plain things, and what the tables' defs answer of them -/
mutual
/-- data without a place of its own -/
def pl : D → Bool
  | .non => true
  | .bl _ => true
  | .int _ => true
  | .str _ => true
  | .tup xs => plL xs
  | .lst xs => plL xs
  | .dK _ => true
  | .dT _ => true
  | .ref _ => false
  | .scr _ => false
  | .fn _ => false
def plL : List D → Bool
  | [] => true
  | x :: xs => pl x && plL xs
end
theorem plL_mem : ∀ {xs : List D}, plL xs = true → ∀ x ∈ xs, pl x = true
  | y :: ys, h, x, hx => by
    have h : (pl y && plL ys) = true := h
    rw [Bool.and_eq_true] at h
    rcases List.mem_cons.mp hx with z | z
    · rw [z]; exact h.1
    · exact plL_mem h.2 x z
theorem plL_of : ∀ {xs : List D}, (∀ x ∈ xs, pl x = true) → plL xs = true
  | [], _ => rfl
  | y :: ys, h => by
    show (pl y && plL ys) = true
    rw [h y (List.mem_cons_self ..), plL_of fun x hx => h x (List.mem_cons_of_mem _ hx)]
    rfl
def isTu : D → Bool
  | .tup _ => true
  | _ => false
def isIn : D → Bool
  | .int _ => true
  | .bl _ => true
  | _ => false
def isBo : D → Bool
  | .bl _ => true
  | _ => false
section
variable {h : MH} {d : D}
theorem isM_tup (p : pl d = true) : isM .tuple d h = .ok (.bl (isTu d)) h := by cases d <;> first | rfl | cases p
theorem isM_int (p : pl d = true) : isM .int d h = .ok (.bl (isIn d)) h := by cases d <;> first | rfl | cases p
theorem isM_bool (p : pl d = true) : isM .bool d h = .ok (.bl (isBo d)) h := by cases d <;> first | rfl | cases p
end
/-- is_whole -/
def whole (d : D) (lo hi : Int) : Bool := match d with
  | .int i => decide (lo ≤ i) && decide (i ≤ hi)
  | _ => false
section
variable {P : Nat → Option FI} {n : Nat} {h : MH}
theorem is_whole_spec (h0 : P 0 = some fi_is_whole) (d : D) (lo hi : Int) (p : pl d = true) : callN P (n + 1) 0 [d, .int lo, .int hi] h = .ok (.bl (whole d lo hi)) h := by
  rw [callN_run h0 n _ _ rfl]
  cases d with
  | int i =>
    by_cases c : lo ≤ i
    · simp [fi_is_whole, isM_int (d := .int i) rfl, isM_bool (d := .int i) rfl, isIn, isBo, whole, c]
    · simp [fi_is_whole, isM_int (d := .int i) rfl, isM_bool (d := .int i) rfl, isIn, isBo, whole, c]
  | bl b => simp [fi_is_whole, isM_int (d := .bl b) rfl, isM_bool (d := .bl b) rfl, isIn, isBo, whole]
  | ref _ => cases p
  | scr _ => cases p
  | fn _ => cases p
  | _ => simp [fi_is_whole, isM_int p, isM_bool p, isIn, isBo, whole]
/-- loops -/
theorem forL_ret {t : Tg} {b : Ev → MH → Fl} {E : Option D → Ev} {g : D → Bool} {r : D} : ∀ {xs : List D}, (∀ o, ∀ d ∈ xs, ∃ e1, setT t d (E o) = some e1 ∧ b e1 h = if g d = true then .nx (E (some d)) h else .ret r h) →
    ∀ o, ∃ o', forL t b xs (E o) h = if allB g xs = true then .nx (E o') h else .ret r h
  | [], _, o => ⟨o, rfl⟩
  | d :: ds, k, o => by
    obtain ⟨e1, z1, z2⟩ := k o d (List.mem_cons_self ..)
    have run : forL t b (d :: ds) (E o) h = (match setT t d (E o) with
      | none => .stuck
      | some e1 => match b e1 h with
        | .nx e2 h2 => forL t b ds e2 h2
        | .cnt e2 h2 => forL t b ds e2 h2
        | .brk e2 h2 => .nx e2 h2
        | r => r) := rfl
    rw [run, z1]
    simp only
    rw [z2]
    by_cases c : g d = true
    · rw [if_pos c]
      obtain ⟨o', e⟩ := forL_ret (xs := ds) (fun o d hd => k o d (List.mem_cons_of_mem _ hd)) (some d)
      refine ⟨o', ?_⟩
      simp only
      rw [e]
      simp [c, allB]
    · rw [if_neg c]
      refine ⟨o, ?_⟩
      simp [c, allB]
/-- a loop that goes through -/
theorem forL_run {A : Type} {t : Tg} {b : Ev → MH → Fl} {E : A → Ev} {M : A → MH} {f : A → D → A} : ∀ {xs : List D} {a : A}, (∀ a, ∀ d ∈ xs, ∃ e1, setT t d (E a) = some e1 ∧ b e1 (M a) = .nx (E (f a d)) (M (f a d))) →
    forL t b xs (E a) (M a) = .nx (E (xs.foldl f a)) (M (xs.foldl f a))
  | [], a, _ => rfl
  | d :: ds, a, k => by
    obtain ⟨e1, z1, z2⟩ := k a d (List.mem_cons_self ..)
    have run : forL t b (d :: ds) (E a) (M a) = (match setT t d (E a) with
      | none => .stuck
      | some e1 => match b e1 (M a) with
        | .nx e2 h2 => forL t b ds e2 h2
        | .cnt e2 h2 => forL t b ds e2 h2
        | .brk e2 h2 => .nx e2 h2
        | r => r) := rfl
    rw [run, z1]
    simp only
    rw [z2]
    exact forL_run (xs := ds) fun a d hd => k a d (List.mem_cons_of_mem _ hd)
def lenT : D → Nat
  | .tup xs => xs.length
  | _ => 0
@[simp] theorem lenT_tup (xs : List D) : lenT (.tup xs) = xs.length := rfl
def rowB (r : D) : Bool := isTu r && (decide (1 ≤ lenT r) && decide (lenT r ≤ 5))
def itemsT : D → List D
  | .tup xs => xs
  | _ => []
@[simp] theorem itemsT_tup (xs : List D) : itemsT (.tup xs) = xs := rfl
def fst0 : List D → D
  | [] => .non
  | x :: _ => x
def shapeB (d : D) : Bool := isTu d && (decide (1 ≤ lenT d) && decide (lenT d ≤ 5)) && allB rowB (itemsT d) && allB (fun r => decide (lenT r = lenT (fst0 (itemsT d)))) (itemsT d)
theorem map_all (xs : List D) (g : D → Bool) : (xs.map fun d => D.bl (g d)) = (xs.map g).map D.bl := by rw [List.map_map]; rfl
theorem dec_cast (a b : Nat) : decide ((a : Int) = (b : Int)) = decide (a = b) := by
  rw [decide_eq_decide]
  omega
theorem is_shape_spec (h1 : P 1 = some fi_is_shape) (d : D) (p : pl d = true) : callN P (n + 1) 1 [d] h = .ok (.bl (shapeB d)) h := by
  rw [callN_run h1 n _ _ rfl]
  by_cases c : isTu d = true
  · obtain ⟨xs, rfl⟩ : ∃ xs, d = .tup xs := by
      cases d with
      | tup xs => exact ⟨xs, rfl⟩
      | _ => cases c
    have pm := plL_mem (show plL xs = true from p)
    by_cases c1 : 1 ≤ xs.length
    · have i1 : (1 : Int) ≤ (xs.length : Int) := by omega
      by_cases c2 : xs.length ≤ 5
      · have i2 : (xs.length : Int) ≤ 5 := by omega
        have z0 : atI xs 0 = some (fst0 xs) := by
          cases xs with
          | nil => simp at c1
          | cons a b => rfl
        simp [fi_is_shape, isM_tup p, isTu, i1, i2]
        rw [lc_nm (fun d => .bl (rowB d)) fun d hd => ?_]
        · by_cases c3 : allB rowB xs = true
          · simp [c3]
            have hh : rowB (fst0 xs) = true := by
              cases xs with
              | nil => simp at c1
              | cons a b => exact List.all_eq_true.mp c3 a (List.mem_cons_self ..)
            rw [lc_nm (fun d => .bl (decide (lenT d = lenT (fst0 xs)))) fun d hd => ?_]
            · simp [shapeB, isTu, c1, c2, c3]
              try rfl
            · have hr := List.all_eq_true.mp c3 d hd
              cases d with
              | tup ys =>
                cases q : fst0 xs with
                | tup zs =>
                  simp [idx_tup _ _ _ z0, q]
                  exact dec_cast _ _
                | _ => rw [q] at hh; cases hh
              | _ => cases hr
          · simp [c3, shapeB, isTu, c1, c2]
        · have pd := pm d hd
          cases d with
          | tup ys =>
            by_cases k1 : 1 ≤ ys.length
            · have j1 : (1 : Int) ≤ (ys.length : Int) := by omega
              by_cases k2 : ys.length ≤ 5
              · have j2 : (ys.length : Int) ≤ 5 := by omega
                simp [isM_tup (d := .tup ys) pd, isTu, rowB, k1, j1, k2, j2]
              · have j2 : ¬ (ys.length : Int) ≤ 5 := by omega
                simp [isM_tup (d := .tup ys) pd, isTu, rowB, k1, j1, k2, j2]
            · have j1 : ¬ (1 : Int) ≤ (ys.length : Int) := by omega
              simp [isM_tup (d := .tup ys) pd, isTu, rowB, k1, j1]
          | _ => simp [isM_tup pd, isTu, rowB]
      · have i2 : ¬ (xs.length : Int) ≤ 5 := by omega
        simp [fi_is_shape, isM_tup p, isTu, i1, i2, shapeB, c2]
    · have i1 : ¬ (1 : Int) ≤ (xs.length : Int) := by omega
      simp [fi_is_shape, isM_tup p, isTu, i1, shapeB, c1]
  · simp [fi_is_shape, isM_tup p, c, shapeB]
/-- is_table -/
def intT : D → Int
  | .int i => i
  | _ => 0
def sumT (d : D) : Int := ((itemsT d).map intT).sum
def tableB (d : D) : Bool := shapeB d && allB (fun r => allB (fun x => whole x 0 9999) (itemsT r)) (itemsT d) && decide (((itemsT d).map sumT).sum ≤ 9999)
theorem whole_int {d : D} {a b : Int} (w : whole d a b = true) : ∃ i, d = .int i ∧ a ≤ i ∧ i ≤ b := by
  cases d with
  | int i => exact ⟨i, rfl, by simpa [whole] using w⟩
  | _ => cases w
theorem ints_whole {xs : List D} {a b : Int} (w : allB (fun x => whole x a b) xs = true) : xs = (xs.map intT).map D.int := by
  unfold allB at w
  induction xs with
  | nil => rfl
  | cons x xs ih =>
    simp only [List.all_cons, Bool.and_eq_true] at w
    obtain ⟨i, rfl, _⟩ := whole_int w.1
    simp only [List.map_cons, intT]
    rw [← ih w.2]
theorem shape_tup {d : D} (s : shapeB d = true) : ∃ xs, d = .tup xs ∧ 1 ≤ xs.length ∧ xs.length ≤ 5 ∧ (∀ r ∈ xs, ∃ ys, r = .tup ys ∧ 1 ≤ ys.length ∧ ys.length ≤ 5 ∧ ys.length = lenT (fst0 xs)) := by
  unfold shapeB at s
  simp only [Bool.and_eq_true, decide_eq_true_eq, allB, List.all_eq_true] at s
  obtain ⟨⟨⟨s0, s1, s2⟩, s3⟩, s4⟩ := s
  cases d with
  | tup xs =>
    refine ⟨xs, rfl, s1, s2, fun r hr => ?_⟩
    have a := s3 r hr
    have b := s4 r hr
    unfold rowB at a
    simp only [Bool.and_eq_true, decide_eq_true_eq] at a
    cases r with
    | tup ys => exact ⟨ys, rfl, a.2.1, a.2.2, b⟩
    | _ => cases a.1
  | _ => cases s0
theorem is_table_spec (h0 : P 0 = some fi_is_whole) (h1 : P 1 = some fi_is_shape) (h2 : P 2 = some fi_is_table) (d : D) (p : pl d = true) : callN P (n + 2) 2 [d] h = .ok (.bl (tableB d)) h := by
  rw [callN_run h2 (n + 1) _ _ rfl]
  simp [fi_is_table, is_shape_spec h1 d p]
  by_cases c : shapeB d = true
  · obtain ⟨xs, rfl, c1, c2, c3⟩ := shape_tup c
    have pm := plL_mem (show plL xs = true from p)
    simp [c]
    obtain ⟨o', e⟩ := forL_ret (h := h) (t := .nm 1) (b := exS (callN P (n + 1)) WF (.cons (.ifS (.not (.prim .all (.cons (.lc false (.nm 2) (.gen (.var 1)) (.bl true) (.call 0 (.cons (.var 2) (.cons (.int 0) (.cons (.gI (Str.ofString "MOST") 9999) .nil)))) [((Str.ofString "one"), 2)]) .nil)))
      (.cons (.ret (.bl false)) .nil) .nil) .nil)) (E := fun o => [some (.tup xs), o, none]) (g := fun r => allB (fun x => whole x 0 9999) (itemsT r)) (r := .bl false) (xs := xs) (fun o r hr => by
        obtain ⟨ys, rfl, _⟩ := c3 r hr
        have py := plL_mem (show plL ys = true from pm _ hr)
        refine ⟨_, rfl, ?_⟩
        simp
        rw [lc_nm (fun d => .bl (whole d 0 9999)) fun d hd => by simp [is_whole_spec h0 d 0 9999 (py d hd)]]
        by_cases z : allB (fun x => whole x 0 9999) ys = true
        · simp [z]
        · simp [z]) none
    rw [e]
    by_cases c4 : allB (fun r => allB (fun x => whole x 0 9999) (itemsT r)) xs = true
    · rw [if_pos c4]
      simp
      rw [lc_nm (fun d => .int (sumT d)) fun r hr => ?_]
      · simp [tableB, c, c4]
        rfl
      · obtain ⟨ys, rfl, _⟩ := c3 r hr
        have w := List.all_eq_true.mp c4 _ hr
        have w : allB (fun x => whole x 0 9999) ys = true := w
        have e : prim1 .sum (.tup ys) h = .ok (.int (sumT (.tup ys))) h := by
          have := sum_tup (h := h) (ys.map intT)
          rw [← ints_whole w] at this
          exact this
        simp [e]
    · rw [if_neg c4]
      simp [tableB, c, c4]
  · simp [c, tableB]
end
end Mi
namespace Mi
open PySem
/-! ### a def's own list -/
theorem forL_go {A : Type} {t : Tg} {b : Ev → MH → Fl} {E : A → Ev} {M : A → MH} {J : List D → A → Prop} (step : ∀ d ds a, J (d :: ds) a → ∃ e1 a', setT t d (E a) = some e1 ∧ (b e1 (M a) = .nx (E a') (M a') ∨ b e1 (M a) = .cnt (E a') (M a')) ∧ J ds a') : ∀ {xs : List D} {a : A}, J xs a → ∃ a', forL t b xs (E a) (M a) = .nx (E a') (M a') ∧ J [] a'
  | [], a, j => ⟨a, rfl, j⟩
  | d :: ds, a, j => by
    obtain ⟨e1, a', z1, z2, j'⟩ := step d ds a j
    obtain ⟨a2, e2, j2⟩ := forL_go step j'
    refine ⟨a2, ?_, j2⟩
    have run : forL t b (d :: ds) (E a) (M a) = (match setT t d (E a) with
      | none => .stuck
      | some e1 => match b e1 (M a) with
        | .nx e2 h2 => forL t b ds e2 h2
        | .cnt e2 h2 => forL t b ds e2 h2
        | .brk e2 h2 => .nx e2 h2
        | r => r) := rfl
    rw [run, z1]
    simp only
    rcases z2 with z2 | z2 <;> rw [z2] <;> exact e2
section
variable {h t : MH} {xs ys : List D} {d : D}
theorem clL_of {b : Nat} : ∀ {xs : List D}, (∀ x ∈ xs, cl b x = true) → clL b xs = true
  | [], _ => rfl
  | x :: xs, k => by
    show (cl b x && clL b xs) = true
    rw [k x (List.mem_cons_self ..), clL_of fun y hy => k y (List.mem_cons_of_mem _ hy)]
    rfl
theorem mapO_id {f : D → Option D} : ∀ {xs : List D}, (∀ x ∈ xs, f x = some x) → mapO f xs = some xs
  | [], _ => rfl
  | x :: xs, k => by
    simp only [mapO]
    rw [k x (List.mem_cons_self ..)]
    simp only
    rw [mapO_id fun y hy => k y (List.mem_cons_of_mem _ hy)]
theorem clL_mem {b : Nat} : ∀ {xs : List D}, clL b xs = true → ∀ x ∈ xs, cl b x = true
  | y :: ys, k, x, hx => by
    have k : (cl b y && clL b ys) = true := k
    rw [Bool.and_eq_true] at k
    rcases List.mem_cons.mp hx with z | z
    · rw [z]; exact k.1
    · exact clL_mem k.2 x z
theorem fz_cl {b n : Nat} {H : MH} (c : cl b d = true) : fz H b (n + 1) d = some d := by
  unfold fz
  rw [if_pos c]
theorem fin_val (hd : cl h.length d = true) (hc : clH h.length h = true) : fin none h.length d (h ++ t) = .ok d h := by
  unfold fin
  simp only
  by_cases c : (h ++ t).length ≤ h.length
  · rw [if_pos c]
    have : t = [] := by
      rw [List.length_append] at c
      exact List.eq_nil_of_length_eq_zero (by omega)
    rw [this, List.append_nil]
  · rw [if_neg c, fz_cl hd]
    simp only [List.take_left]
    rw [if_pos hc]
theorem fin_ref {j : Nat} (e : t[j]? = some (.lst xs)) (hx : clL h.length xs = true) (hc : clH h.length h = true) : fin none h.length (.ref (h.length + j)) (h ++ t) = .ok (.lst xs) h := by
  have hj := (List.getElem?_eq_some_iff.mp e).1
  unfold fin
  simp only
  rw [if_neg (by rw [List.length_append]; omega)]
  have : fz (h ++ t) h.length 5 (.ref (h.length + j)) = some (.lst xs) := by
    unfold fz
    rw [if_neg (by simp [cl])]
    simp only
    rw [List.getElem?_append_right (by omega), Nat.add_sub_cancel_left, e]
    simp only
    rw [mapO_id fun x hx' => fz_cl (clL_mem hx x hx')]
    rfl
  rw [this]
  simp only [List.take_left]
  rw [if_pos hc]
theorem fin_ref0 (hx : clL h.length xs = true) (hc : clH h.length h = true) : fin none h.length (.ref h.length) (h ++ [.lst xs]) = .ok (.lst xs) h := fin_ref (t := [.lst xs]) (j := 0) rfl hx hc
theorem ext_last (b : xs.length + ys.length ≤ big) : metD .extend (.ref h.length) [.lst ys] (h ++ [.lst xs]) = .ok .non (h ++ [.lst (xs ++ ys)]) := by
  show (match (h ++ [MO.lst xs])[h.length]? with
    | some (.lst xs') => (match lits (h ++ [MO.lst xs]) (.lst ys) with
      | some ys => if xs'.length + ys.length ≤ big then R.ok D.non ((h ++ [MO.lst xs]).set h.length (.lst (xs' ++ ys))) else .stuck
      | none => .stuck)
    | _ => .stuck) = _
  rw [List.getElem?_append_right (Nat.le_refl _), Nat.sub_self]
  show (if xs.length + ys.length ≤ big then R.ok D.non ((h ++ [MO.lst xs]).set h.length (.lst (xs ++ ys))) else .stuck) = _
  rw [if_pos b, List.set_append_right _ _ (Nat.le_refl _), Nat.sub_self]
  rfl
theorem app_last (b : xs.length < big) : metD .append (.ref h.length) [d] (h ++ [.lst xs]) = .ok .non (h ++ [.lst (xs ++ [d])]) := by
  show (match (h ++ [MO.lst xs])[h.length]? with
    | some (.lst xs') => if xs'.length < big then R.ok D.non ((h ++ [MO.lst xs]).set h.length (.lst (xs' ++ [d]))) else .stuck
    | _ => .stuck) = _
  rw [List.getElem?_append_right (Nat.le_refl _), Nat.sub_self]
  show (if xs.length < big then R.ok D.non ((h ++ [MO.lst xs]).set h.length (.lst (xs ++ [d]))) else .stuck) = _
  rw [if_pos b, List.set_append_right _ _ (Nat.le_refl _), Nat.sub_self]
  rfl
theorem tn_last : tnOf (h ++ [.lst xs]) (.ref h.length) = some .list := by
  show (match (h ++ [MO.lst xs])[h.length]? with
    | some (.lst _) => some Tn.list
    | some (.dK false _) => some .dict
    | some (.dT false _) => some .dict
    | _ => none) = _
  rw [List.getElem?_append_right (Nat.le_refl _), Nat.sub_self]
  rfl
def lastO (o : Option D) (xs : List D) : Option D := xs.foldl (fun _ d => some d) o
/-- a loop that makes the heap's last list longer -/
theorem forL_acc {tg : Tg} {b : Ev → MH → Fl} (E : Option D → Ev) (f : D → List D) : ∀ {zs : List D} {o : Option D} {acc : List D}, (∀ acc o, ∀ d ∈ zs, acc.length + (f d).length ≤ big → ∃ e1, setT tg d (E o) = some e1 ∧ (b e1 (h ++ [.lst acc]) = .nx (E (some d)) (h ++ [.lst (acc ++ f d)]) ∨ b e1 (h ++ [.lst acc]) = .cnt (E (some d)) (h ++ [.lst (acc ++ f d)]))) →
    acc.length + (zs.flatMap f).length ≤ big → forL tg b zs (E o) (h ++ [.lst acc]) = .nx (E (lastO o zs)) (h ++ [.lst (acc ++ zs.flatMap f)])
  | [], o, acc, _, _ => by
    show Fl.nx _ _ = _
    simp [lastO]
  | d :: ds, o, acc, k, hb => by
    rw [List.flatMap_cons, List.length_append] at hb
    obtain ⟨e1, z1, z2⟩ := k acc o d (List.mem_cons_self ..) (by omega)
    have run : forL tg b (d :: ds) (E o) (h ++ [.lst acc]) = (match setT tg d (E o) with
      | none => .stuck
      | some e1 => match b e1 (h ++ [.lst acc]) with
        | .nx e2 h2 => forL tg b ds e2 h2
        | .cnt e2 h2 => forL tg b ds e2 h2
        | .brk e2 h2 => .nx e2 h2
        | r => r) := rfl
    rw [run, z1]
    have ih := forL_acc (tg := tg) (b := b) E f (zs := ds) (o := some d) (acc := acc ++ f d) (fun acc o d hd => k acc o d (List.mem_cons_of_mem _ hd)) (by rw [List.length_append]; omega)
    have e : forL tg b ds (E (some d)) (h ++ [.lst (acc ++ f d)]) = .nx (E (lastO o (d :: ds))) (h ++ [.lst (acc ++ (d :: ds).flatMap f)]) := by
      rw [ih, List.flatMap_cons, List.append_assoc]
      rfl
    simp only
    rcases z2 with z2 | z2 <;> rw [z2] <;> exact e
theorem items_last : items (h ++ [.lst xs]) (.ref h.length) = some xs := by
  have e : (h ++ [MO.lst xs])[h.length]? = some (.lst xs) := by
    rw [List.getElem?_append_right (Nat.le_refl _), Nat.sub_self]
    rfl
  unfold items
  simp only [e]
theorem tuple_last : prim1 .tuple (.ref h.length) (h ++ [.lst xs]) = .ok (.tup xs) (h ++ [.lst xs]) := by
  show tupleD (.ref h.length) (h ++ [.lst xs]) = _
  unfold tupleD
  rw [items_last]
/-! ### cells -/
def cellsRow (C : Nat) (d : D) : List D := (rngL C).map fun x => .tup [d, x]
def cellsD (R C : Nat) : List D := (rngL R).flatMap (cellsRow C)
theorem cellsRow_len (C : Nat) (d : D) : (cellsRow C d).length = C := by simp [cellsRow]
theorem flat_len (C : Nat) : ∀ (ds : List D), (ds.flatMap (cellsRow C)).length = ds.length * C
  | [] => by simp
  | d :: ds => by
    rw [List.flatMap_cons, List.length_append, flat_len C ds, cellsRow_len, List.length_cons, Nat.succ_mul]
    omega
theorem cellsD_cl (b R C : Nat) : clL b (cellsD R C) = true := clL_of fun x hx => by
  unfold cellsD cellsRow at hx
  simp only [List.mem_flatMap, List.mem_map] at hx
  obtain ⟨d, hd, j, hj, rfl⟩ := hx
  obtain ⟨_, _, rfl⟩ := rngL_mem hd
  obtain ⟨_, _, rfl⟩ := rngL_mem hj
  rfl
end
section
variable {P : Nat → Option FI} {n : Nat} {h : MH}
/-- all_cells and its likes -/
def cellsBody (nm : Str) : S :=
 (.cons (.asg (.nm 1) (.lst true .nil))
 (.cons (.forS (.nm 2) (.rng1 (.prim .len (.cons (.var 0) .nil)))
  (.cons (.ex (.meth (.var 1) .extend (.cons (.lc false (.nm 3) (.rng1 (.prim .len (.cons (.idx (.var 0) (.int 0)) .nil))) (.bl true) (.tup (.cons (.var 2) (.cons (.var 3) .nil))) [(nm, 3)]) .nil)))
   .nil))
 (.cons (.ret (.var 1))
 .nil)))
theorem cells_run (f : Nat) (i : FI) (hi : P f = some i) (hnp : i.np = 1) (hnn : i.nn = 4) (hk : i.keep = none) (nm : Str) (hb : i.body = cellsBody nm) (x : D) (rows cols : List D) (hx : x = .tup rows) (hr : rows.length ≤ 100) (hr0 : 1 ≤ rows.length) (h0 : fst0 rows = .tup cols) (hcl : cols.length ≤ 100) (hc : clH h.length h = true) :
    callN P (n + 1) f [x] h = .ok (.lst (cellsD rows.length cols.length)) h := by
  subst hx
  rw [callN_run hi n [.tup rows] h (by rw [hnp]; rfl), hb, hk, hnn]
  have z0 : atI rows 0 = some (fst0 rows) := by
    cases rows with
    | nil => simp at hr0
    | cons a b => rfl
  simp [cellsBody, rngM_nat _ (show rows.length ≤ 10000 by omega)]
  rw [forL_acc (fun o => [some (.tup rows), some (.ref h.length), o, none]) (cellsRow cols.length) (fun acc o d hd hb => ⟨_, rfl, .inl ?_⟩) ?_]
  · simp
    exact fin_ref0 (cellsD_cl _ _ _) hc
  · rw [flat_len]
    simp
    unfold big
    have : rows.length * cols.length ≤ 100 * 100 := Nat.mul_le_mul hr hcl
    omega
  · simp [tn_last, recvT, idx_tup _ _ _ z0, h0, rngM_nat _ (show cols.length ≤ 10000 by omega)]
    rw [lc_nm (fun x => .tup [d, x]) fun x hx => by simp]
    rw [cellsRow_len] at hb
    have e : (rngL cols.length).map (fun x => .tup [d, x]) = cellsRow cols.length d := rfl
    rw [e]
    simp [ext_last (show acc.length + (cellsRow cols.length d).length ≤ big by rw [cellsRow_len]; exact hb)]
end
end Mi
namespace Mi
open PySem
section
variable {P : Nat → Option FI} {n : Nat} {h r : MH}
def clR (r : MH) : Prop := clH (r.length + 1) r = true
theorem clR.tw (c : clR r) (a b : Int) : clH (tw a b :: r).length (tw a b :: r) = true := by
  show (clO (r.length + 1) (Mi.tw a b) && clH (r.length + 1) r) = true
  rw [show clO (r.length + 1) (Mi.tw a b) = true from rfl, c]
  rfl
theorem mem_atI {xs : List D} {d : Int} (h0 : 0 ≤ d) (h1 : d < xs.length) : ∃ x, atI xs d = some x ∧ x ∈ xs := by
  have hl : d.toNat < xs.length := by omega
  exact ⟨xs[d.toNat], atI_int xs d _ h0 (List.getElem?_eq_getElem hl), List.getElem_mem hl⟩
theorem pick_spec (h117 : P 117 = some fi_law_draw) (h118 : P 118 = some fi_law_pick) (ns : List Int) (a b : Int) (xs : List D) (ha : 0 ≤ a) (hb : 0 ≤ b) (hx : 0 < xs.length) (hx2 : xs.length < 2 ^ 60) : ∃ x a' b', x ∈ xs ∧ 0 ≤ a' ∧ 0 ≤ b' ∧
    ∀ r : MH, callN P (n + 2) 118 [.scr ns, .ref 0, .lst xs] (tw a b :: r) = .ok x (tw a' b' :: r) := by
  obtain ⟨d, a', b', d0, d1, a0, b0, e⟩ := draw_spec (n := n) h117 ns a b (xs.length : Int) ha hb (by omega) (by omega)
  obtain ⟨x, e1, m⟩ := mem_atI d0 d1
  refine ⟨x, a', b', m, a0, b0, fun r => ?_⟩
  rw [callN_run h118 (n + 1) _ _ rfl]
  simp [fi_law_pick, e r, idx_lst _ _ _ e1]
/-- rows of whole numbers -/
def rowD (ys : List Int) : D := .tup (ys.map D.int)
def tabD (rows : List (List Int)) : D := .tup (rows.map rowD)
def RowIn (C : Nat) (top : Int) (ys : List Int) : Prop := ys.length = C ∧ ∀ y ∈ ys, 0 ≤ y ∧ y < top
structure TabIn (R C : Nat) (top : Int) (rows : List (List Int)) : Prop where
  len : rows.length = R
  row : ∀ ys ∈ rows, RowIn C top ys
theorem ints_of {top : Int} : ∀ {xs : List D}, (∀ x ∈ xs, ∃ i : Int, x = .int i ∧ 0 ≤ i ∧ i < top) → ∃ ys : List Int, xs = ys.map D.int ∧ ∀ y ∈ ys, 0 ≤ y ∧ y < top
  | [], _ => ⟨[], rfl, fun _ h => nomatch h⟩
  | x :: xs, k => by
    obtain ⟨i, rfl, h0, h1⟩ := k x (List.mem_cons_self ..)
    obtain ⟨ys, rfl, q⟩ := ints_of fun y hy => k y (List.mem_cons_of_mem _ hy)
    exact ⟨i :: ys, rfl, fun y hy => by
      rcases List.mem_cons.mp hy with z | z
      · rw [z]; exact ⟨h0, h1⟩
      · exact q y z⟩
theorem rows_of {C : Nat} {top : Int} : ∀ {xs : List D}, (∀ x ∈ xs, ∃ ys, x = rowD ys ∧ RowIn C top ys) → ∃ rows : List (List Int), xs = rows.map rowD ∧ ∀ y ∈ rows, RowIn C top y
  | [], _ => ⟨[], rfl, fun _ h => nomatch h⟩
  | x :: xs, k => by
    obtain ⟨i, rfl, h0⟩ := k x (List.mem_cons_self ..)
    obtain ⟨ys, rfl, q⟩ := rows_of fun y hy => k y (List.mem_cons_of_mem _ hy)
    exact ⟨i :: ys, rfl, fun y hy => by
      rcases List.mem_cons.mp hy with z | z
      · rw [z]; exact h0
      · exact q y z⟩
theorem row_cl (b : Nat) (ys : List Int) : cl b (rowD ys) = true := clL_of fun x hx => by
  obtain ⟨i, _, rfl⟩ := List.mem_map.mp hx
  rfl
theorem tab_cl (b : Nat) (rows : List (List Int)) : cl b (tabD rows) = true := clL_of fun x hx => by
  obtain ⟨i, _, rfl⟩ := List.mem_map.mp hx
  exact row_cl b i
theorem sized_spec (h117 : P 117 = some fi_law_draw) (h120 : P 120 = some fi_law_sized) (ns : List Int) (a b : Int) (R C : Nat) (top : Int) (ha : 0 ≤ a) (hb : 0 ≤ b) (hR : R ≤ 100) (hC : C ≤ 100) (ht : 0 < top) (ht2 : top < 2 ^ 60) (hc : clR r) :
    ∃ rows a' b', TabIn R C top rows ∧ 0 ≤ a' ∧ 0 ≤ b' ∧ callN P (n + 2) 120 [.scr ns, .ref 0, .int R, .int C, .int top] (tw a b :: r) = .ok (tabD rows) (tw a' b' :: r) := by
  rw [callN_run h120 (n + 1) _ _ rfl]
  simp [fi_law_sized, rngM_nat _ (show R ≤ 10000 by omega)]
  have go := forL_go (t := .nm 6) (b := exS (callN P (n + 1)) WF
    (.cons (.ex (.meth (.var 5) .append (.cons (.prim .tuple (.cons (.lc false (.nm 7) (.rng1 (.var 3)) (.bl true) (.call 117 (.cons (.var 0) (.cons (.var 1) (.cons (.var 4) .nil)))) [((Str.ofString "_law_to"), 7)]) .nil)) .nil))) .nil))
    (E := fun (s : Int × Int × List D × Option D) => [some (.scr ns), some (.ref 0), some (.int R), some (.int C), some (.int top), some (.ref (r.length + 1)), s.2.2.2, none])
    (M := fun s => tw s.1 s.2.1 :: (r ++ [.lst s.2.2.1]))
    (J := fun ds s => 0 ≤ s.1 ∧ 0 ≤ s.2.1 ∧ s.2.2.1.length + ds.length = R ∧ ∀ x ∈ s.2.2.1, ∃ ys, x = rowD ys ∧ RowIn C top ys)
    (fun d ds s j => ?_) (xs := rngL R) (a := (a, b, [], none)) ⟨ha, hb, by simp, fun _ h => nomatch h⟩
  · obtain ⟨⟨a', b', acc, o⟩, e, j1, j2, j3, j4⟩ := go
    simp only at e j1 j2 j3 j4
    obtain ⟨rows, rfl, hrow⟩ := rows_of j4
    have l : rows.length = R := by simpa using j3
    refine ⟨rows, ⟨l, hrow⟩, a', j1, b', j2, ?_⟩
    rw [e]
    have tl := tuple_last (h := tw a' b' :: r) (xs := rows.map rowD)
    simp only [List.length_cons, List.cons_append] at tl
    simp [tl]
    exact fin_val (h := tw a' b' :: r) (t := [.lst (rows.map rowD)]) (tab_cl _ _) (hc.tw a' b')
  · obtain ⟨a1, b1, acc, o⟩ := s
    obtain ⟨j1, j2, j3, j4⟩ := j
    simp only at j1 j2 j3 j4
    obtain ⟨ys, ⟨a2, b2⟩, e, ⟨i1, i2⟩, l, q⟩ := lcL_inv (mkH := fun p : Int × Int => tw p.1 p.2 :: (r ++ [.lst acc])) (I := fun p => 0 ≤ p.1 ∧ 0 ≤ p.2) (Q := fun x => ∃ i : Int, x = .int i ∧ 0 ≤ i ∧ i < top)
      (f := lcB (.nm 7) (evE (callN P (n + 1)) (.bl true)) (evE (callN P (n + 1)) (.call 117 (.cons (.var 0) (.cons (.var 1) (.cons (.var 4) .nil))))) [some (.scr ns), some (.ref 0), some (.int R), some (.int C), some (.int top), some (.ref (r.length + 1)), some d, none]) (xs := rngL C) (a := (a1, b1))
      (fun d' hd p ip => by
        obtain ⟨x, a', b', x0, x1, a0, b0, e⟩ := draw_spec (n := n) h117 ns p.1 p.2 top ip.1 ip.2 ht ht2
        refine ⟨.int x, (a', b'), ?_, ⟨a0, b0⟩, x, rfl, x0, x1⟩
        rw [lcB_eq]
        simp only [setT_nm]
        show lcK (fun h => .ok (.bl true) h) _ _ = _
        rw [lcK_true]
        simp [e]) ⟨j1, j2⟩
    obtain ⟨zs, rfl, hz⟩ := ints_of q
    refine ⟨_, (a2, b2, acc ++ [rowD zs], some d), rfl, .inl ?_, i1, i2, ?_, ?_⟩
    · have tn := tn_last (h := tw a1 b1 :: r) (xs := acc)
      have ap := app_last (h := tw a2 b2 :: r) (xs := acc) (d := rowD zs) (by unfold big; simp at j3; omega)
      simp only [List.length_cons, List.cons_append] at tn ap
      simp only at e
      simp [tn, recvT, rngM_nat _ (show C ≤ 10000 by omega), lcR, e]
      exact by rw [show D.tup (zs.map D.int) = rowD zs from rfl, ap]; rfl
    · simp at j3 ⊢
      omega
    · intro x hx
      rcases List.mem_append.mp hx with hx | hx
      · exact j4 x hx
      · rw [List.mem_singleton.mp hx]
        exact ⟨zs, rfl, by simpa using l, hz⟩
end
end Mi
namespace Mi
open PySem
/-! ### tables as data -/
theorem row_pl (ys : List Int) : pl (rowD ys) = true := plL_of fun x hx => by
  obtain ⟨i, _, rfl⟩ := List.mem_map.mp hx
  rfl
theorem tab_pl (rows : List (List Int)) : pl (tabD rows) = true := plL_of fun x hx => by
  obtain ⟨i, _, rfl⟩ := List.mem_map.mp hx
  exact row_pl i
theorem intT_map (ys : List Int) : (ys.map D.int).map intT = ys := by
  rw [List.map_map]
  exact List.map_id' _ |>.symm ▸ by
    induction ys with
    | nil => rfl
    | cons y ys ih => simp [intT, ih]
theorem sumT_row (ys : List Int) : sumT (rowD ys) = ys.sum := by
  show ((ys.map D.int).map intT).sum = _
  rw [intT_map]
theorem sum_le {top : Int} : ∀ {ys : List Int}, (∀ y ∈ ys, 0 ≤ y ∧ y < top) → 0 ≤ ys.sum ∧ ys.sum ≤ ys.length * (top - 1)
  | [], _ => by simp
  | y :: ys, k => by
    obtain ⟨a, b⟩ := sum_le fun z hz => k z (List.mem_cons_of_mem _ hz)
    obtain ⟨c, d⟩ := k y (List.mem_cons_self ..)
    simp only [List.sum_cons, List.length_cons]
    refine ⟨by omega, ?_⟩
    have : ((ys.length + 1 : Nat) : Int) * (top - 1) = ys.length * (top - 1) + (top - 1) := by
      rw [Int.natCast_add, Int.add_mul]
      simp
    omega
theorem rows_le {C : Nat} {top : Int} : ∀ {rows : List (List Int)}, (∀ ys ∈ rows, RowIn C top ys) → 0 ≤ (rows.map List.sum).sum ∧ (rows.map List.sum).sum ≤ rows.length * (C * (top - 1))
  | [], _ => by simp
  | y :: ys, k => by
    obtain ⟨a, b⟩ := rows_le fun z hz => k z (List.mem_cons_of_mem _ hz)
    obtain ⟨c, d⟩ := k y (List.mem_cons_self ..)
    obtain ⟨e, f⟩ := sum_le d
    rw [c] at f
    simp only [List.map_cons, List.sum_cons, List.length_cons]
    refine ⟨by omega, ?_⟩
    have : ((ys.length + 1 : Nat) : Int) * (C * (top - 1)) = ys.length * (C * (top - 1)) + C * (top - 1) := by
      rw [Int.natCast_add, Int.add_mul]
      simp
    omega
theorem tab_tableS {R C : Nat} {top : Int} {rows : List (List Int)} (t : TabIn R C top rows) (hR : 1 ≤ R) (hR2 : R ≤ 5) (hC : 1 ≤ C) (hC2 : C ≤ 5) (ht : top ≤ 10000) (hs : (rows.map List.sum).sum ≤ 9999) : tableB (tabD rows) = true := by
  have hl := t.len
  have hf : fst0 (rows.map rowD) = rowD (rows.headD []) := by
    cases rows with
    | nil => simp at hl; omega
    | cons a b => rfl
  have hfl : (rows.headD []).length = C := by
    cases rows with
    | nil => simp at hl; omega
    | cons a b => exact (t.row a (List.mem_cons_self ..)).1
  have lr : ∀ ys : List Int, lenT (rowD ys) = ys.length := fun ys => by show (ys.map D.int).length = _; simp
  have sh : shapeB (tabD rows) = true := by
    unfold shapeB
    show (isTu (.tup (rows.map rowD)) && (decide (1 ≤ lenT (.tup (rows.map rowD))) && decide (lenT (.tup (rows.map rowD)) ≤ 5)) && allB rowB (rows.map rowD) && allB (fun r => decide (lenT r = lenT (fst0 (rows.map rowD)))) (rows.map rowD)) = true
    simp only [isTu, lenT_tup, List.length_map, hl, hR, hR2, decide_true, Bool.true_and, Bool.and_true, allB, List.all_map, Bool.and_eq_true, List.all_eq_true, Function.comp_apply, decide_eq_true_eq, hf, lr, hfl]
    refine ⟨fun ys hy => ?_, fun ys hy => (t.row ys hy).1⟩
    have := (t.row ys hy).1
    simp [rowB, lr, this, hC, hC2]
    rfl
  unfold tableB
  rw [sh]
  show (true && allB (fun r => allB (fun x => whole x 0 9999) (itemsT r)) (rows.map rowD) && decide (((rows.map rowD).map sumT).sum ≤ 9999)) = true
  have e : (rows.map rowD).map sumT = rows.map List.sum := by
    rw [List.map_map]
    exact List.map_congr_left fun ys _ => sumT_row ys
  rw [e]
  simp only [Bool.true_and, Bool.and_eq_true, decide_eq_true_eq, allB, List.all_map, List.all_eq_true, Function.comp_apply]
  refine ⟨fun ys hy x hx => ?_, by omega⟩
  have hx : x ∈ ys.map D.int := hx
  obtain ⟨i, hi, rfl⟩ := List.mem_map.mp hx
  obtain ⟨i0, i1⟩ := (t.row ys hy).2 i hi
  simp only [whole, Bool.and_eq_true, decide_eq_true_eq]
  omega
theorem tab_sum {R C : Nat} {top : Int} {rows : List (List Int)} (t : TabIn R C top rows) (hs : (R : Int) * (C * (top - 1)) ≤ 9999) : (rows.map List.sum).sum ≤ 9999 := by
  obtain ⟨s0, s1⟩ := rows_le t.row
  rw [t.len] at s1
  omega
theorem tab_table {R C : Nat} {top : Int} {rows : List (List Int)} (t : TabIn R C top rows) (hR : 1 ≤ R) (hR2 : R ≤ 5) (hC : 1 ≤ C) (hC2 : C ≤ 5) (ht : top ≤ 10000) (hs : (R : Int) * (C * (top - 1)) ≤ 9999) : tableB (tabD rows) = true := tab_tableS t hR hR2 hC hC2 ht (tab_sum t hs)
/-- a cell's number -/
def ent (rows : List (List Int)) : D → Int
  | .tup [.int i, .int j] => (rows.getD i.toNat []).getD j.toNat 0
  | _ => 0
section
variable {h : MH}
theorem cell_of {R C : Nat} {c : D} (hc : c ∈ cellsD R C) : ∃ i j : Nat, i < R ∧ j < C ∧ c = .tup [.int i, .int j] := by
  unfold cellsD cellsRow at hc
  simp only [List.mem_flatMap, List.mem_map] at hc
  obtain ⟨d, hd, j, hj, rfl⟩ := hc
  obtain ⟨i, hi, rfl⟩ := rngL_mem hd
  obtain ⟨j', hj', rfl⟩ := rngL_mem hj
  exact ⟨i, j', hi, hj', rfl⟩
theorem ent_idx {R C : Nat} {top : Int} {rows : List (List Int)} (t : TabIn R C top rows) {i j : Nat} (hi : i < R) (hj : j < C) : ∃ ys : List Int, idxM (tabD rows) (.int (i : Int)) h = .ok (rowD ys) h ∧ idxM (rowD ys) (.int (j : Int)) h = .ok (.int (ent rows (.tup [.int i, .int j]))) h := by
  have hi' : i < rows.length := by rw [t.len]; exact hi
  have hr := (t.row rows[i] (List.getElem_mem hi')).1
  refine ⟨rows[i], idx_tup _ _ _ (atI_nat _ i _ ?_), idx_tup _ _ _ (atI_nat _ j _ ?_)⟩
  · rw [List.getElem?_map, List.getElem?_eq_getElem hi']
    rfl
  · rw [List.getElem?_map, List.getElem?_eq_getElem (by rw [hr]; exact hj)]
    show some (D.int (rows[i][j]'(by rw [hr]; exact hj))) = some (D.int ((rows.getD (i : Int).toNat []).getD (j : Int).toNat 0))
    simp [List.getD, hi', hr, hj]
/-- how far two tables are apart -/
def dist (a b : List (List Int)) (cs : List D) : Int := (cs.map fun c => if ent a c - ent b c < 0 then -(ent a c - ent b c) else ent a c - ent b c).sum
variable {P : Nat → Option FI} {n : Nat}
theorem need_table_ok (h0 : P 0 = some fi_is_whole) (h1 : P 1 = some fi_is_shape) (h2 : P 2 = some fi_is_table) (h3 : P 3 = some fi_need_table) (d : D) (p : pl d = true) (t : tableB d = true) : callN P (n + 3) 3 [d] h = .ok .non h := by
  rw [callN_run h3 (n + 2) _ _ rfl]
  simp [fi_need_table, is_table_spec h0 h1 h2 d p, t]
theorem need_table_no (h0 : P 0 = some fi_is_whole) (h1 : P 1 = some fi_is_shape) (h2 : P 2 = some fi_is_table) (h3 : P 3 = some fi_need_table) (d : D) (p : pl d = true) (t : tableB d = false) : callN P (n + 3) 3 [d] h = .exn 0 none h := by
  rw [callN_run h3 (n + 2) _ _ rfl]
  simp [fi_need_table, is_table_spec h0 h1 h2 d p, t]
/-- a table's first row -/
theorem tab_first {R C : Nat} {top : Int} {rows : List (List Int)} (t : TabIn R C top rows) (hR : 1 ≤ R) : ∃ ys : List Int, fst0 (rows.map rowD) = rowD ys ∧ ys.length = C ∧ atI (rows.map rowD) 0 = some (rowD ys) := by
  have hl := t.len
  cases rows with
  | nil => simp at hl; omega
  | cons a b => exact ⟨a, rfl, (t.row a (List.mem_cons_self ..)).1, rfl⟩
theorem cells15 (h15 : P 15 = some fi_all_cells) {R C : Nat} {top : Int} {rows : List (List Int)} (t : TabIn R C top rows) (hR : 1 ≤ R) (hR2 : R ≤ 100) (hC2 : C ≤ 100) (hc : clH h.length h = true) : callN P (n + 1) 15 [tabD rows] h = .ok (.lst (cellsD R C)) h := by
  obtain ⟨ys, e1, e2, _⟩ := tab_first t hR
  have l : (rows.map rowD).length = R := by rw [List.length_map, t.len]
  have := cells_run (n := n) (h := h) 15 _ h15 rfl rfl rfl (Str.ofString "to") rfl (tabD rows) (rows.map rowD) (ys.map D.int) rfl (by rw [l]; exact hR2) (by rw [l]; exact hR) e1 (by simp [e2, hC2]) hc
  rw [l] at this
  simpa [e2] using this
theorem cells119 (h119 : P 119 = some fi_law_cells) {R C : Nat} {top : Int} {rows : List (List Int)} (t : TabIn R C top rows) (hR : 1 ≤ R) (hR2 : R ≤ 100) (hC2 : C ≤ 100) (hc : clH h.length h = true) : callN P (n + 1) 119 [tabD rows] h = .ok (.lst (cellsD R C)) h := by
  obtain ⟨ys, e1, e2, _⟩ := tab_first t hR
  have l : (rows.map rowD).length = R := by rw [List.length_map, t.len]
  have := cells_run (n := n) (h := h) 119 _ h119 rfl rfl rfl (Str.ofString "_law_to") rfl (tabD rows) (rows.map rowD) (ys.map D.int) rfl (by rw [l]; exact hR2) (by rw [l]; exact hR) e1 (by simp [e2, hC2]) hc
  rw [l] at this
  simpa [e2] using this
theorem dist_lc {ft : FT} {u v x y : Nat} {e : Ev} {R C : Nat} {ta tb : Int} {a b : List (List Int)} (A : TabIn R C ta a) (B : TabIn R C tb b)
    (k : ∀ i j : Int, ∃ e1, setL [x, y] [.int i, .int j] e = some e1 ∧ vget e1 u = some (tabD a) ∧ vget e1 v = some (tabD b) ∧ vget e1 x = some (.int i) ∧ vget e1 y = some (.int j)) :
    lcR false (lcB (.tp [x, y]) (evE ft (.bl true)) (evE ft (.prim .abs (.cons (.bin false .sub (.idx (.idx (.var u) (.var x)) (.var y)) (.idx (.idx (.var v) (.var x)) (.var y))) .nil))) e) (.its (cellsD R C)) h
      = .ok (.lst ((cellsD R C).map fun c => .int (if ent a c - ent b c < 0 then -(ent a c - ent b c) else ent a c - ent b c))) h := by
  rw [lc_tp (fun c => .int (if ent a c - ent b c < 0 then -(ent a c - ent b c) else ent a c - ent b c)) fun c hc => ?_]
  · rfl
  · obtain ⟨i, j, hi, hj, rfl⟩ := cell_of hc
    obtain ⟨e1, z, g1, g2, g3, g4⟩ := k i j
    obtain ⟨ys, a1, a2⟩ := ent_idx (h := h) A hi hj
    obtain ⟨zs, b1, b2⟩ := ent_idx (h := h) B hi hj
    exact ⟨e1, z, by simp [g1, g2, g3, g4, a1, a2, b1, b2]⟩
theorem apart_spec (h0 : P 0 = some fi_is_whole) (h1 : P 1 = some fi_is_shape) (h2 : P 2 = some fi_is_table) (h3 : P 3 = some fi_need_table) (h15 : P 15 = some fi_all_cells) (h65 : P 65 = some fi_same_size) (h66 : P 66 = some fi_apart) {R C : Nat} {ta tb : Int} {a b : List (List Int)} (A : TabIn R C ta a) (B : TabIn R C tb b)
    (hR : 1 ≤ R) (hR2 : R ≤ 100) (hC2 : C ≤ 100) (pa : tableB (tabD a) = true) (pb : tableB (tabD b) = true) (hc : clH h.length h = true) : callN P (n + 4) 66 [tabD a, tabD b] h = .ok (.int (dist a b (cellsD R C))) h := by
  obtain ⟨ya, _, la, za⟩ := tab_first A hR
  obtain ⟨yb, _, lb, zb⟩ := tab_first B hR
  have ss : callN P (n + 3) 65 [tabD a, tabD b] h = .ok (.bl true) h := by
    rw [callN_run h65 (n + 2) _ _ rfl]
    have e1 : idxM (tabD a) (.int 0) h = .ok (rowD ya) h := idx_tup _ _ _ za
    have e2 : idxM (tabD b) (.int 0) h = .ok (rowD yb) h := idx_tup _ _ _ zb
    have l1 : prim1 .len (tabD a) h = .ok (.int R) h := by rw [← A.len]; simp [tabD]
    have l2 : prim1 .len (tabD b) h = .ok (.int R) h := by rw [← B.len]; simp [tabD]
    have l3 : prim1 .len (rowD ya) h = .ok (.int C) h := by rw [← la]; simp [rowD]
    have l4 : prim1 .len (rowD yb) h = .ok (.int C) h := by rw [← lb]; simp [rowD]
    simp [fi_same_size, e1, e2, l1, l2, l3, l4]
  rw [callN_run h66 (n + 3) _ _ rfl]
  simp [fi_apart, need_table_ok h0 h1 h2 h3 _ (tab_pl a) pa, need_table_ok h0 h1 h2 h3 _ (tab_pl b) pb, ss, cells15 h15 A hR hR2 hC2 hc]
  rw [dist_lc A B fun i j => ⟨_, rfl, rfl, rfl, rfl, rfl⟩]
  simp [dist]
end
end Mi
namespace Mi
open PySem
/-! ### the law of apart -/
theorem abs_eq (x y : Int) : (if x - y < 0 then -(x - y) else x - y) = (x - y).natAbs := by omega
theorem dist_comm (a b : List (List Int)) : ∀ cs : List D, dist a b cs = dist b a cs
  | [] => rfl
  | c :: cs => by
    have := dist_comm a b cs
    unfold dist at *
    simp only [List.map_cons, List.sum_cons]
    omega
theorem dist_self (a : List (List Int)) : ∀ cs : List D, dist a a cs = 0
  | [] => rfl
  | c :: cs => by
    have := dist_self a cs
    unfold dist at *
    simp only [List.map_cons, List.sum_cons]
    omega
theorem dist_tri (a b c : List (List Int)) : ∀ cs : List D, dist a b cs ≤ dist a c cs + dist c b cs
  | [] => by simp [dist]
  | x :: cs => by
    have := dist_tri a b c cs
    unfold dist at *
    simp only [List.map_cons, List.sum_cons]
    omega
theorem dist_nn (a b : List (List Int)) : ∀ cs : List D, 0 ≤ dist a b cs
  | [] => by simp [dist]
  | x :: cs => by
    have := dist_nn a b cs
    unfold dist at *
    simp only [List.map_cons, List.sum_cons]
    omega
theorem dist_zero (a b : List (List Int)) : ∀ cs : List D, dist a b cs = 0 → ∀ c ∈ cs, ent a c = ent b c
  | [], _, _, h => nomatch h
  | x :: cs, z, c, h => by
    have h1 := dist_nn a b cs
    have h2 := dist_zero a b cs
    unfold dist at *
    simp only [List.map_cons, List.sum_cons] at z
    rcases List.mem_cons.mp h with e | e
    · rw [e]; omega
    · exact h2 (by omega) c e
theorem cell_in {R C i j : Nat} (hi : i < R) (hj : j < C) : (D.tup [.int (i : Int), .int (j : Int)]) ∈ cellsD R C := by
  unfold cellsD cellsRow rngL
  simp only [List.mem_flatMap, List.mem_map, List.mem_range]
  exact ⟨_, ⟨i, hi, rfl⟩, _, ⟨j, hj, rfl⟩, rfl⟩
theorem ent_ij {R C : Nat} {top : Int} {rows : List (List Int)} (t : TabIn R C top rows) {i j : Nat} (hi : i < rows.length) (hj : j < rows[i].length) : ent rows (.tup [.int (i : Int), .int (j : Int)]) = rows[i][j] := by
  show (rows.getD (i : Int).toNat []).getD (j : Int).toNat 0 = _
  simp [List.getD, hi, hj]
theorem tab_ext {R C : Nat} {ta tb : Int} {a b : List (List Int)} (A : TabIn R C ta a) (B : TabIn R C tb b) (k : ∀ c ∈ cellsD R C, ent a c = ent b c) : a = b := by
  have la := A.len
  have lb := B.len
  apply List.ext_getElem (by omega)
  intro i h1 h2
  have ra := (A.row a[i] (List.getElem_mem h1)).1
  have rb := (B.row b[i] (List.getElem_mem h2)).1
  apply List.ext_getElem (by omega)
  intro j h3 h4
  have := k _ (cell_in (i := i) (j := j) (by omega) (by omega))
  rw [ent_ij A h1 h3, ent_ij B h2 h4] at this
  exact this
/-- equal tables -/
theorem res_row (h : MH) (n : Nat) (ys : List Int) : res h (n + 1) (rowD ys) = rowD ys := by
  show D.tup ((ys.map D.int).map (res h n)) = _
  rw [List.map_map]
  congr 1
  apply List.map_congr_left
  intro i _
  cases n <;> rfl
theorem res_tab (h : MH) (n : Nat) (rows : List (List Int)) : res h (n + 2) (tabD rows) = tabD rows := by
  show D.tup ((rows.map rowD).map (res h (n + 1))) = _
  rw [List.map_map]
  congr 1
  apply List.map_congr_left
  intro i _
  exact res_row h n i
theorem ok_row (n : Nat) (ys : List Int) : okD (n + 1) (rowD ys) = true := by
  show (ys.map D.int).all (okD n) = true
  rw [List.all_map, List.all_eq_true]
  intro i _
  cases n <;> rfl
theorem ok_tab (n : Nat) (rows : List (List Int)) : okD (n + 2) (tabD rows) = true := by
  show (rows.map rowD).all (okD (n + 1)) = true
  rw [List.all_map, List.all_eq_true]
  intro i _
  exact ok_row n i
theorem eqL_ints : ∀ xs ys : List Int, eqL (xs.map D.int) (ys.map D.int) = decide (xs = ys)
  | [], [] => rfl
  | [], y :: ys => rfl
  | x :: xs, [] => rfl
  | x :: xs, y :: ys => by
    show (decide (x = y) && eqL (xs.map D.int) (ys.map D.int)) = _
    rw [eqL_ints xs ys]
    simp
theorem eqL_rows : ∀ xs ys : List (List Int), eqL (xs.map rowD) (ys.map rowD) = decide (xs = ys)
  | [], [] => rfl
  | [], y :: ys => rfl
  | x :: xs, [] => rfl
  | x :: xs, y :: ys => by
    show (eqL (x.map D.int) (y.map D.int) && eqL (xs.map rowD) (ys.map rowD)) = _
    rw [eqL_rows xs ys, eqL_ints]
    simp
theorem tab_eq (a b : List (List Int)) (h : MH) : cmpM .eq (tabD a) (tabD b) h = .ok (.bl (decide (a = b))) h := by
  have e : eqq h (tabD a) (tabD b) = some (decide (a = b)) := by
    unfold eqq
    rw [res_tab h 6, res_tab h 6, ok_tab 6, ok_tab 6]
    show some (eqL (a.map rowD) (b.map rowD)) = _
    rw [eqL_rows]
  unfold cmpM
  show (match eqq h (tabD a) (tabD b) with
    | some k => R.ok (D.bl k) h
    | none => .stuck) = _
  rw [e]
theorem bl_eq (x y : Bool) (h : MH) : cmpM .eq (.bl x) (.bl y) h = .ok (.bl (x == y)) h := rfl
theorem fin_top {d : D} {t : MH} (c : cl 0 d = true) : fin none 0 d t = .ok d [] := fin_val (h := []) (t := t) c rfl
theorem tw_fold : MO.lst [.int 0, .int 0] = tw 0 0 := rfl
end Mi
namespace Mi
open PySem
/-! ### tables as lists of the heap -/
abbrev Tab := List (List Int)
def gridH (rows : Tab) : MH := rows.map fun ys => MO.lst (ys.map D.int)
def refs (b k : Nat) : List D := (List.range' b k).map D.ref
@[simp] theorem gridH_len (rows : Tab) : (gridH rows).length = rows.length := by simp [gridH]
@[simp] theorem refs_len (b k : Nat) : (refs b k).length = k := by simp [refs]
theorem grid_mkL {f : D → MH → R (Option D)} (k : ∀ ys H, f (rowD ys) H = .ok (some (.ref H.length)) (H ++ [.lst (ys.map D.int)])) : ∀ (rows : Tab) (H : MH), lcL f (rows.map rowD) H = .ok (refs H.length rows.length) (H ++ gridH rows)
  | [], H => by
    show R.ok [] H = .ok [] (H ++ [])
    rw [List.append_nil]
  | ys :: rows, H => by
    show (match f (rowD ys) H with
      | .ok none h1 => lcL f (rows.map rowD) h1
      | .ok (some x) h1 => (match lcL f (rows.map rowD) h1 with
        | .ok xs h2 => .ok (x :: xs) h2
        | _ => .stuck)
      | _ => .stuck) = _
    rw [k ys H]
    simp only
    rw [grid_mkL k rows]
    simp [refs, gridH, List.range'_succ]
theorem grid_mk {ft : FT} {i : Nat} {e : Ev} {h : MH} (hi : i < e.length) (rows : Tab) : lcR false (lcB (.nm i) (evE ft (.bl true)) (evE ft (.prim (.list true) (.cons (.var i) .nil))) e) (.its (rows.map rowD)) h = .ok (.lst (refs h.length rows.length)) (h ++ gridH rows) := by
  have := grid_mkL (f := lcB (.nm i) (evE ft (.bl true)) (evE ft (.prim (.list true) (.cons (.var i) .nil))) e) (fun ys H => by
    rw [lcB_eq]
    simp only [setT_nm]
    show lcK (fun h => .ok (.bl true) h) _ _ = _
    rw [lcK_true]
    have : vget (e.set i (some (rowD ys))) i = some (rowD ys) := by
      unfold vget
      simp [hi]
    simp [this]
    rfl) rows h
  unfold lcR
  simp only [this]
  rfl
theorem refs_get (b k i : Nat) (hi : i < k) : (refs b k)[i]? = some (.ref (b + i)) := by
  simp [refs, hi]
theorem refs_idx {H : MH} (b k i : Nat) (hi : i < k) : idxM (.lst (refs b k)) (.int (i : Int)) H = .ok (.ref (b + i)) H := idx_lst _ _ _ (atI_nat _ i _ (refs_get b k i hi))
def addAt (rows : Tab) (i j : Nat) (v : Int) : Tab := rows.set i ((rows.getD i []).set j ((rows.getD i []).getD j 0 + v))
theorem grid_at {h t : MH} {rows : Tab} {i : Nat} (hi : i < rows.length) : (h ++ (gridH rows ++ t))[h.length + i]? = some (.lst (rows[i].map D.int)) := by
  rw [List.getElem?_append_right (by omega), Nat.add_sub_cancel_left, List.getElem?_append_left (by simpa using hi)]
  simp [gridH, hi]
theorem augI_of {H : MH} {n : Nat} {xs : List D} {i x : Int} (e : H[n]? = some (.lst xs)) (a : atI xs i = some (.int x)) : augI (.ref n) (.int i) H = some x := by
  unfold augI idxD
  simp only [isRef, if_true, e, idxI, Option.bind, a, isInt]
theorem ixN_nat {n j : Nat} (h : j < n) : ixN n (j : Int) = some j := by
  unfold ixN
  split <;> (try omega)
  all_goals (simp; try omega)
theorem subD_of {H : MH} {n : Nat} {xs : List D} {j : Nat} {v : D} (e : H[n]? = some (.lst xs)) (hj : j < xs.length) : subD (.ref n) (.int (j : Int)) v H = some (H.set n (.lst (xs.set j v))) := by
  unfold subD subL
  simp only [e, ixN_nat hj, Option.map]
theorem grid_set {h t : MH} {rows : Tab} {i : Nat} (ys : List Int) (hi : i < rows.length) : (h ++ (gridH rows ++ t)).set (h.length + i) (.lst (ys.map D.int)) = h ++ (gridH (rows.set i ys) ++ t) := by
  rw [List.set_append_right (h := by omega), Nat.add_sub_cancel_left, List.set_append_left (h := by simpa using hi)]
  simp [gridH, List.map_set]
theorem addAt_eq {rows : Tab} {i j : Nat} {v : Int} (hi : i < rows.length) (hj : j < rows[i].length) : addAt rows i j v = rows.set i (rows[i].set j (rows[i][j] + v)) := by
  unfold addAt
  simp [List.getD, hi, hj]
theorem grid_add {h t : MH} {rows : Tab} {i j : Nat} {v : Int} {e : Ev} (hi : i < rows.length) (hj : j < rows[i].length) : augW .add rows[i][j] (.ref (h.length + i)) (.int (j : Int)) (.int v) e (h ++ (gridH rows ++ t)) = .nx e (h ++ (gridH (addAt rows i j v) ++ t)) := by
  unfold augW augO
  simp only [isInt, bop_add, subD_of (grid_at hi) (show j < (rows[i].map D.int).length by simpa using hj)]
  rw [show (rows[i].map D.int).set j (.int (rows[i][j] + v)) = (rows[i].set j (rows[i][j] + v)).map D.int by rw [List.map_set], grid_set _ hi, addAt_eq hi hj]
theorem grid_sub {h t : MH} {rows : Tab} {i j : Nat} {v : Int} {e : Ev} (hi : i < rows.length) (hj : j < rows[i].length) : augW .sub rows[i][j] (.ref (h.length + i)) (.int (j : Int)) (.int v) e (h ++ (gridH rows ++ t)) = .nx e (h ++ (gridH (addAt rows i j (-v)) ++ t)) := by
  unfold augW augO
  simp only [isInt, bop_sub, subD_of (grid_at hi) (show j < (rows[i].map D.int).length by simpa using hj)]
  rw [show (rows[i].map D.int).set j (.int (rows[i][j] - v)) = (rows[i].set j (rows[i][j] - v)).map D.int by rw [List.map_set], grid_set _ hi, addAt_eq hi hj, Int.sub_eq_add_neg]
theorem grid_augI {h t : MH} {rows : Tab} {i j : Nat} (hi : i < rows.length) (hj : j < rows[i].length) : augI (.ref (h.length + i)) (.int (j : Int)) (h ++ (gridH rows ++ t)) = some (rows[i][j]) := augI_of (grid_at hi) (atI_nat _ j _ (by simp [hj]))
theorem grid_tup {h t : MH} {rows : Tab} {ft : FT} {i : Nat} {e : Ev} (hi : i < e.length) : lcR false (lcB (.nm i) (evE ft (.bl true)) (evE ft (.prim .tuple (.cons (.var i) .nil))) e) (.its (refs h.length rows.length)) (h ++ (gridH rows ++ t)) = .ok (.lst (rows.map rowD)) (h ++ (gridH rows ++ t)) := by
  have k : ∀ (as bs : Tab), rows = as ++ bs → lcL (lcB (.nm i) (evE ft (.bl true)) (evE ft (.prim .tuple (.cons (.var i) .nil))) e) (refs (h.length + as.length) bs.length) (h ++ (gridH rows ++ t)) = .ok (bs.map rowD) (h ++ (gridH rows ++ t)) := by
    intro as bs
    induction bs generalizing as with
    | nil => intro _; rfl
    | cons y bs ih =>
      intro q
      have l : as.length < rows.length := by rw [q]; simp
      have g := grid_at (h := h) (t := t) l
      have gy : rows[as.length] = y := by simp [q]
      rw [gy] at g
      have one : lcB (.nm i) (evE ft (.bl true)) (evE ft (.prim .tuple (.cons (.var i) .nil))) e (.ref (h.length + as.length)) (h ++ (gridH rows ++ t)) = .ok (some (rowD y)) (h ++ (gridH rows ++ t)) := by
        rw [lcB_eq]
        simp only [setT_nm]
        show lcK (fun h => .ok (.bl true) h) _ _ = _
        rw [lcK_true]
        have : vget (e.set i (some (D.ref (h.length + as.length)))) i = some (D.ref (h.length + as.length)) := by
          unfold vget
          simp [hi]
        simp [this]
        have z : prim1 .tuple (.ref (h.length + as.length)) (h ++ (gridH rows ++ t)) = .ok (rowD y) (h ++ (gridH rows ++ t)) := by
          show tupleD _ _ = _
          unfold tupleD items
          simp only [g]
          rfl
        rw [z]
        rfl
      have r : refs (h.length + as.length) (y :: bs).length = .ref (h.length + as.length) :: refs (h.length + (as ++ [y]).length) bs.length := by
        simp [refs, List.range'_succ, Nat.add_assoc]
      rw [r]
      show (match lcB _ _ _ _ _ _ with
        | .ok none h1 => _
        | .ok (some x) h1 => _
        | _ => _) = _
      rw [one]
      simp only
      rw [ih (as ++ [y]) (by simp [q])]
      rfl
  have := k [] rows rfl
  unfold lcR
  simp only [List.length_nil, Nat.add_zero] at this
  simp only [this]
  rfl
end Mi
namespace Mi
open PySem
/-! ### moves -/
@[simp] theorem evE_sl {ft : FT} {e : Ev} {h : MH} (m : Bool) (a lo hi : E) : evE ft (.sl m a lo hi) e h = (evE ft a e h).bind fun x h => (evA ft lo e h).bind fun l h => match partI l with
    | some lo => (evA ft hi e h).bind fun u h => (match partI u with
      | some hi => slD m x lo hi h
      | none => .stuck)
    | none => .stuck := rfl
section
variable {P : Nat → Option FI} {n : Nat} {h : MH}
/-- what a move that can be done does -/
def mv (rows : Tab) (r s c d : Nat) (m : Int) : Tab := addAt (addAt (addAt (addAt rows r c m) s d m) r d (-m)) s c (-m)
def mvD (r s c d : Nat) (m : Int) : D := .tup [.int r, .int s, .int c, .int d, .int m]
theorem addAt_len (rows : Tab) (i j : Nat) (v : Int) : (addAt rows i j v).length = rows.length := by simp [addAt]
theorem addAt_row {rows : Tab} {i j k : Nat} {v : Int} (hk : k < rows.length) : ((addAt rows i j v)[k]'(by rw [addAt_len]; exact hk)).length = rows[k].length := by
  unfold addAt
  rw [List.getElem_set]
  split
  · next e => subst e; simp [List.getD, hk]
  · rfl
theorem do_move_spec (h63 : P 63 = some fi_do_move) {R C : Nat} {rows : Tab} {r s c d : Nat} {m : Int} (lr : rows.length = R) (lc : ∀ ys ∈ rows, ys.length = C) (hr : r < R) (hs : s < R) (hc : c < C) (hd : d < C) :
    callN P (n + 1) 63 [.lst (refs h.length rows.length), mvD r s c d m] (h ++ gridH rows) = .ok .non (h ++ gridH (mv rows r s c d m)) := by
  rw [callN_run h63 n _ _ rfl]
  subst lr
  have L : ∀ {k : Nat} (hk : k < rows.length), rows[k].length = C := fun hk => lc _ (List.getElem_mem hk)
  have z : ∀ (rs : Tab), rs.length = rows.length → (∀ k (hk : k < rs.length), rs[k].length = C) → ∀ (i j : Nat) (v : Int), (addAt rs i j v).length = rows.length ∧ ∀ k (hk : k < (addAt rs i j v).length), (addAt rs i j v)[k].length = C := fun rs l q i j v => ⟨by rw [addAt_len]; exact l, fun k hk => by
    rw [addAt_len] at hk
    rw [addAt_row hk]
    exact q k hk⟩
  have st : ∀ (rs : Tab), rs.length = rows.length → (∀ k (hk : k < rs.length), rs[k].length = C) → ∀ (i j : Nat) (v : Int) (e : Ev), i < rows.length → j < C → ∃ u, augI (.ref (h.length + i)) (.int (j : Int)) (h ++ gridH rs) = some u ∧ augW .add u (.ref (h.length + i)) (.int (j : Int)) (.int v) e (h ++ gridH rs) = .nx e (h ++ gridH (addAt rs i j v)) ∧ augW .sub u (.ref (h.length + i)) (.int (j : Int)) (.int v) e (h ++ gridH rs) = .nx e (h ++ gridH (addAt rs i j (-v))) := fun rs l q i j v e hi hj => by
    have hi' : i < rs.length := by omega
    have hj' : j < rs[i].length := by rw [q i hi']; exact hj
    have a1 := grid_augI (h := h) (t := []) hi' hj'
    have a2 := grid_add (h := h) (t := []) (v := v) (e := e) hi' hj'
    have a3 := grid_sub (h := h) (t := []) (v := v) (e := e) hi' hj'
    rw [List.append_nil] at a1 a2 a3
    rw [List.append_nil] at a2 a3
    exact ⟨_, a1, a2, a3⟩
  have q0 : ∀ k (hk : k < rows.length), rows[k].length = C := fun k hk => L hk
  have z1 := z rows rfl q0 r c m
  have z2 := z _ z1.1 z1.2 s d m
  have z3 := z _ z2.1 z2.2 r d (-m)
  let e : Ev := [some (.lst (refs h.length rows.length)), some (mvD r s c d m), some (.int r), some (.int s), some (.int c), some (.int d), some (.int m)]
  obtain ⟨u1, a1, b1, _⟩ := st rows rfl q0 r c m e hr hc
  obtain ⟨u2, a2, b2, _⟩ := st _ z1.1 z1.2 s d m e hs hd
  obtain ⟨u3, a3, _, b3⟩ := st _ z2.1 z2.2 r d m e hr hd
  obtain ⟨u4, a4, _, b4⟩ := st _ z3.1 z3.2 s c m e hs hc
  have i1 : ∀ H, idxM (.lst (refs h.length rows.length)) (.int (r : Int)) H = .ok (.ref (h.length + r)) H := fun H => refs_idx _ _ _ hr
  have i2 : ∀ H, idxM (.lst (refs h.length rows.length)) (.int (s : Int)) H = .ok (.ref (h.length + s)) H := fun H => refs_idx _ _ _ hs
  simp [fi_do_move, mvD, i1, i2, a1]
  simp only [e, mvD] at b1 b2 b3 b4
  simp [b1, a2, b2, a3, b3, a4, b4, mv, i1, i2]
  unfold fin
  simp [addAt_len]
theorem getD_row {rows : Tab} {i : Nat} (hi : i < rows.length) : rows.getD i [] = rows[i] := by simp [List.getD, hi]
theorem idx_tab {rows : Tab} {i : Nat} (hi : i < rows.length) : idxM (tabD rows) (.int (i : Int)) h = .ok (rowD rows[i]) h := idx_tup _ _ _ (atI_nat _ i _ (by simp [hi]))
theorem idx_row {ys : List Int} {j : Nat} (hj : j < ys.length) : idxM (rowD ys) (.int (j : Int)) h = .ok (.int ys[j]) h := idx_tup _ _ _ (atI_nat _ j _ (by simp [hj]))
theorem is_move_spec (h0 : P 0 = some fi_is_whole) (h62 : P 62 = some fi_is_move) {C : Nat} {rows : Tab} {r s c d : Nat} {m : Int} (lc : ∀ ys ∈ rows, ys.length = C) (hr : r < rows.length) (hs : s < rows.length) (hc : c < C) (hd : d < C) (rs : r ≠ s) (cd : c ≠ d) (m0 : 1 ≤ m) (m1 : m ≤ 9999)
    (e1 : m ≤ (rows.getD r []).getD d 0) (e2 : m ≤ (rows.getD s []).getD c 0) : callN P (n + 2) 62 [tabD rows, mvD r s c d m] h = .ok (.bl true) h := by
  rw [callN_run h62 (n + 1) _ _ rfl]
  have L : ∀ {k : Nat} (hk : k < rows.length), rows[k].length = C := fun hk => lc _ (List.getElem_mem hk)
  have w : ∀ (i a b : Int), callN P (n + 1) 0 [.int i, .int a, .int b] h = .ok (.bl (decide (a ≤ i) && decide (i ≤ b))) h := fun i a b => is_whole_spec h0 (.int i) a b rfl
  have c1 : cutL [D.int (r : Int), .int s, .int c, .int d, .int m] none (some 2) = [.int (r : Int), .int s] := rfl
  have c2 : cutL [D.int (r : Int), .int s, .int c, .int d, .int m] (some 2) (some 4) = [.int (c : Int), .int d] := rfl
  have l0 : prim1 .len (tabD rows) h = .ok (.int rows.length) h := by simp [tabD]
  have l1 : prim1 .len (rowD rows[0]) h = .ok (.int C) h := by rw [← L (show 0 < rows.length by omega)]; simp [rowD]
  have x0 : idxM (tabD rows) (.int 0) h = .ok (rowD rows[0]) h := idx_tab (i := 0) (by omega)
  have x1 := idx_tab (h := h) hr
  have x2 := idx_tab (h := h) hs
  have y1 := idx_row (h := h) (ys := rows[r]) (j := d) (by rw [L hr]; exact hd)
  have y2 := idx_row (h := h) (ys := rows[s]) (j := c) (by rw [L hs]; exact hc)
  have v1 : m ≤ rows[r][d]'(by rw [L hr]; exact hd) := by simpa [List.getD, hr, L hr, hd] using e1
  have v2 : m ≤ rows[s][c]'(by rw [L hs]; exact hc) := by simpa [List.getD, hs, L hs, hc] using e2
  have im : isM .tuple (.tup [D.int (r : Int), .int s, .int c, .int d, .int m]) h = .ok (.bl true) h := rfl
  have al : ∀ a b : Bool, prim1 .all (.lst [.bl a, .bl b]) h = .ok (.bl (a && b)) h := fun a b => by cases a <;> cases b <;> rfl
  have w1 : (decide ((0 : Int) ≤ r) && decide ((r : Int) ≤ (rows.length : Int) - 1)) = true := by simp; omega
  have w2 : (decide ((0 : Int) ≤ s) && decide ((s : Int) ≤ (rows.length : Int) - 1)) = true := by simp; omega
  have w3 : (decide ((0 : Int) ≤ c) && decide ((c : Int) ≤ (C : Int) - 1)) = true := by simp; omega
  have w4 : (decide ((0 : Int) ≤ d) && decide ((d : Int) ≤ (C : Int) - 1)) = true := by simp; omega
  have w5 : (decide (1 ≤ m) && decide (m ≤ 9999)) = true := by simp; omega
  have p5 : idxM (.tup [D.int (r : Int), .int s, .int c, .int d, .int m]) (.int 4) h = .ok (.int m) h := rfl
  have rs' : ¬ ((r : Int) = s) := by omega
  have cd' : ¬ ((c : Int) = d) := by omega
  simp [fi_is_move, mvD, im, partI, slD, c1, c2, l0, l1, x0, lcR, lcL, lcB_eq, lcK, w, w1, w2, w3, w4, w5, al, p5, rs', cd', x1, x2, y1, y2, v1, v2]
  rw [if_neg (by omega), if_neg (by omega)]
theorem moved_spec (h0 : P 0 = some fi_is_whole) (h1 : P 1 = some fi_is_shape) (h2 : P 2 = some fi_is_table) (h3 : P 3 = some fi_need_table) (h62 : P 62 = some fi_is_move) (h63 : P 63 = some fi_do_move) (h64 : P 64 = some fi_moved)
    {C : Nat} {rows : Tab} {r s c d : Nat} {m : Int} (lc : ∀ ys ∈ rows, ys.length = C) (hr : r < rows.length) (hs : s < rows.length) (hc : c < C) (hd : d < C) (rs : r ≠ s) (cd : c ≠ d) (m0 : 1 ≤ m) (m1 : m ≤ 9999)
    (e1 : m ≤ (rows.getD r []).getD d 0) (e2 : m ≤ (rows.getD s []).getD c 0) (tb : tableB (tabD rows) = true) (hcl : clH h.length h = true) : callN P (n + 4) 64 [tabD rows, mvD r s c d m] h = .ok (tabD (mv rows r s c d m)) h := by
  rw [callN_run h64 (n + 3) _ _ rfl]
  have g := fun (ft : FT) (e : Ev) (he : 3 < e.length) => grid_mk (ft := ft) (h := h) he rows
  have lm : (mv rows r s c d m).length = rows.length := by simp [mv, addAt_len]
  have it : itOf h (tabD rows) = some (.its (rows.map rowD)) := rfl
  have dm := do_move_spec (n := n + 2) (h := h) (m := m) h63 rfl lc hr hs hc hd
  have gt := fun (ft : FT) (e : Ev) (he : 3 < e.length) => grid_tup (ft := ft) (h := h) (t := []) (rows := mv rows r s c d m) he
  simp only [lm, List.append_nil] at gt
  simp [fi_moved, need_table_ok h0 h1 h2 h3 _ (tab_pl rows) tb, is_move_spec (n := n + 1) h0 h62 lc hr hs hc hd rs cd m0 m1 e1 e2, it, g, dm, gt]
  exact fin_val (h := h) (t := gridH (mv rows r s c d m)) (tab_cl _ _) hcl
end
end Mi
namespace Mi
open PySem
/-! ### sums over cells -/
def rs1 (k : Nat) (f : Nat → Int) : Int := ((List.range k).map f).sum
theorem rs1_succ (k : Nat) (f : Nat → Int) : rs1 (k + 1) f = rs1 k f + f k := by
  unfold rs1
  rw [List.range_succ]
  simp
theorem rs1_congr {k : Nat} {f g : Nat → Int} (e : ∀ i < k, f i = g i) : rs1 k f = rs1 k g := by
  induction k with
  | zero => rfl
  | succ k ih => rw [rs1_succ, rs1_succ, ih fun i h => e i (by omega), e k (by omega)]
theorem rs1_add (k : Nat) (f g : Nat → Int) : rs1 k (fun i => f i + g i) = rs1 k f + rs1 k g := by
  induction k with
  | zero => rfl
  | succ k ih => rw [rs1_succ, rs1_succ, rs1_succ, ih]; omega
theorem rs1_mul (k : Nat) (c : Int) (f : Nat → Int) : rs1 k (fun i => c * f i) = c * rs1 k f := by
  induction k with
  | zero => simp [rs1]
  | succ k ih => rw [rs1_succ, rs1_succ, ih, Int.mul_add]
theorem rs1_one {k r : Nat} (h : r < k) : rs1 k (fun i => if i = r then 1 else 0) = 1 := by
  have z : ∀ k, rs1 k (fun i => if i = r then (1 : Int) else 0) = if r < k then 1 else 0 := by
    intro k
    induction k with
    | zero => rfl
    | succ k ih =>
      rw [rs1_succ, ih]
      by_cases a : r < k
      · simp [a, show ¬ k = r by omega, show r < k + 1 by omega]
      · by_cases b : k = r
        · simp [b]
        · simp [a, b, show ¬ r < k + 1 by omega]
  rw [z, if_pos h]
theorem flat_sum (g : D → Int) (C : Nat) : ∀ ds : List D, ((ds.flatMap (cellsRow C)).map g).sum = (ds.map fun d => ((cellsRow C d).map g).sum).sum
  | [] => rfl
  | d :: ds => by
    rw [List.flatMap_cons, List.map_append, List.sum_append, flat_sum g C ds]
    rfl
theorem cells_sum (g : D → Int) (R C : Nat) : ((cellsD R C).map g).sum = rs1 R fun i => rs1 C fun j => g (.tup [.int (i : Int), .int (j : Int)]) := by
  unfold cellsD
  rw [flat_sum]
  unfold rngL cellsRow rngL rs1
  simp only [List.map_map]
  rfl
/-! ### what a move changes -/
def at2 (rows : Tab) (i j : Nat) : Int := (rows.getD i []).getD j 0
theorem at2_add {rows : Tab} {i j : Nat} {v : Int} (hi : i < rows.length) (hj : j < (rows.getD i []).length) (a b : Nat) : at2 (addAt rows i j v) a b = at2 rows a b + if a = i ∧ b = j then v else 0 := by
  unfold at2 addAt
  by_cases e : a = i
  · subst e
    by_cases f : b = j
    · subst f
      simp [List.getD, hi] at hj ⊢
      simp [hj]
    · simp [List.getD, hi, f, List.getElem?_set, Ne.symm f]
  · simp [List.getD, e, List.getElem?_set, show ¬ i = a from fun q => e q.symm]
def i1 (a b : Nat) : Int := if a = b then 1 else 0
theorem addAt_rows {C : Nat} {rows : Tab} (lc : ∀ k < rows.length, (rows.getD k []).length = C) (i j : Nat) (v : Int) : ∀ k < (addAt rows i j v).length, ((addAt rows i j v).getD k []).length = C := by
  intro k hk
  rw [addAt_len] at hk
  have := lc k hk
  unfold addAt
  by_cases e : k = i
  · subst e
    simp [List.getD, hk] at this ⊢
    exact this
  · simp [List.getD, List.getElem?_set, show ¬ i = k from fun q => e q.symm] at this ⊢
    exact this
theorem at2_mv {C : Nat} {rows : Tab} {r s c d : Nat} {m : Int} (lc : ∀ k < rows.length, (rows.getD k []).length = C) (hr : r < rows.length) (hs : s < rows.length) (hc : c < C) (hd : d < C) (rs : r ≠ s) (cd : c ≠ d) (a b : Nat) :
    at2 (mv rows r s c d m) a b = at2 rows a b + m * ((i1 a r - i1 a s) * (i1 b c - i1 b d)) := by
  unfold mv
  have z1 := addAt_rows lc r c m
  have z2 := addAt_rows z1 s d m
  have z3 := addAt_rows z2 r d (-m)
  rw [at2_add (by simpa [addAt_len] using hs) (by rw [z3 s (by simpa [addAt_len] using hs)]; exact hc), at2_add (by simpa [addAt_len] using hr) (by rw [z2 r (by simpa [addAt_len] using hr)]; exact hd),
    at2_add (by simpa [addAt_len] using hs) (by rw [z1 s (by simpa [addAt_len] using hs)]; exact hd), at2_add hr (by rw [lc r hr]; exact hc)]
  unfold i1
  by_cases q1 : a = r
  · subst q1
    by_cases q2 : b = c
    · subst q2; simp [rs, cd]
    · by_cases q3 : b = d
      · subst q3; simp [rs, q2]
      · simp [rs, q2, q3]
  · by_cases q1' : a = s
    · subst q1'
      by_cases q2 : b = c
      · subst q2; simp [q1, cd]
      · by_cases q3 : b = d
        · subst q3; simp [q1, q2]
        · simp [q1, q2, q3]
    · simp [q1, q1']
theorem dist_mv {C : Nat} {rows : Tab} {r s c d : Nat} {m : Int} (lc : ∀ k < rows.length, (rows.getD k []).length = C) (hr : r < rows.length) (hs : s < rows.length) (hc : c < C) (hd : d < C) (rs : r ≠ s) (cd : c ≠ d) (m0 : 0 ≤ m) :
    dist rows (mv rows r s c d m) (cellsD rows.length C) = 4 * m := by
  unfold dist
  rw [cells_sum]
  have e : ∀ i j : Nat, (if ent rows (.tup [.int (i : Int), .int (j : Int)]) - ent (mv rows r s c d m) (.tup [.int (i : Int), .int (j : Int)]) < 0 then -(ent rows (.tup [.int (i : Int), .int (j : Int)]) - ent (mv rows r s c d m) (.tup [.int (i : Int), .int (j : Int)])) else ent rows (.tup [.int (i : Int), .int (j : Int)]) - ent (mv rows r s c d m) (.tup [.int (i : Int), .int (j : Int)])) = (m * (i1 i r + i1 i s)) * (i1 j c + i1 j d) := by
    intro i j
    have := at2_mv (m := m) lc hr hs hc hd rs cd i j
    show (if at2 rows i j - at2 (mv rows r s c d m) i j < 0 then -(at2 rows i j - at2 (mv rows r s c d m) i j) else at2 rows i j - at2 (mv rows r s c d m) i j) = _
    rw [this]
    unfold i1
    by_cases q1 : i = r
    · subst q1
      by_cases q2 : j = c
      · subst q2; simp [rs, cd]; omega
      · by_cases q3 : j = d
        · subst q3; simp [rs, q2]; omega
        · simp [rs, q2, q3]
    · by_cases q1' : i = s
      · subst q1'
        by_cases q2 : j = c
        · subst q2; simp [q1, cd]; omega
        · by_cases q3 : j = d
          · subst q3; simp [q1, q2]; omega
          · simp [q1, q2, q3]
      · simp [q1, q1']
  have e1 : ∀ i : Nat, (rs1 C fun j => (if ent rows (.tup [.int (i : Int), .int (j : Int)]) - ent (mv rows r s c d m) (.tup [.int (i : Int), .int (j : Int)]) < 0 then -(ent rows (.tup [.int (i : Int), .int (j : Int)]) - ent (mv rows r s c d m) (.tup [.int (i : Int), .int (j : Int)])) else ent rows (.tup [.int (i : Int), .int (j : Int)]) - ent (mv rows r s c d m) (.tup [.int (i : Int), .int (j : Int)]))) = 2 * (m * (i1 i r + i1 i s)) := fun i => by
    rw [rs1_congr fun j _ => e i j, rs1_mul, rs1_add]
    have a : rs1 C (fun j => i1 j c) = 1 := rs1_one hc
    have b : rs1 C (fun j => i1 j d) = 1 := rs1_one hd
    rw [a, b]
    omega
  rw [rs1_congr fun i _ => e1 i, rs1_mul, rs1_mul, rs1_add]
  have a : rs1 rows.length (fun j => i1 j r) = 1 := rs1_one hr
  have b : rs1 rows.length (fun j => i1 j s) = 1 := rs1_one hs
  rw [a, b]
  omega
theorem sum_rs1 (xs : List Int) : xs.sum = rs1 xs.length fun j => xs.getD j 0 := by
  unfold rs1
  have : (List.range xs.length).map (fun j => xs.getD j 0) = xs := by
    apply List.ext_getElem
    · simp
    · intro i h1 h2
      simp [List.getD, h2]
  rw [this]
theorem tot_rs1 {C : Nat} {rows : Tab} (lc : ∀ k < rows.length, (rows.getD k []).length = C) : (rows.map List.sum).sum = rs1 rows.length fun i => rs1 C fun j => at2 rows i j := by
  rw [sum_rs1, List.length_map]
  apply rs1_congr
  intro i hi
  have := lc i hi
  rw [show (rows.map List.sum).getD i 0 = (rows.getD i []).sum by simp [List.getD, hi], sum_rs1, this]
  rfl
theorem i1_nn (a b : Nat) : 0 ≤ i1 a b := by unfold i1; split <;> decide
theorem tot_mv {C : Nat} {rows : Tab} {r s c d : Nat} {m : Int} (lc : ∀ k < rows.length, (rows.getD k []).length = C) (hr : r < rows.length) (hs : s < rows.length) (hc : c < C) (hd : d < C) (rs : r ≠ s) (cd : c ≠ d) : ((mv rows r s c d m).map List.sum).sum = (rows.map List.sum).sum := by
  have lm : (mv rows r s c d m).length = rows.length := by simp [mv, addAt_len]
  have z1 := addAt_rows lc r c m
  have z2 := addAt_rows z1 s d m
  have z3 := addAt_rows z2 r d (-m)
  have z4 := addAt_rows z3 s c (-m)
  rw [tot_rs1 lc, tot_rs1 (rows := mv rows r s c d m) z4, lm]
  apply rs1_congr
  intro i _
  rw [rs1_congr fun j _ => at2_mv lc hr hs hc hd rs cd i j, rs1_add]
  have : rs1 C (fun j => m * ((i1 i r - i1 i s) * (i1 j c - i1 j d))) = 0 := by
    rw [rs1_mul, rs1_mul]
    have a : rs1 C (fun j => i1 j c) = 1 := rs1_one hc
    have b : rs1 C (fun j => i1 j d) = 1 := rs1_one hd
    have e : rs1 C (fun j => i1 j c - i1 j d) = 0 := by
      have := rs1_add C (fun j => i1 j c - i1 j d) (fun j => i1 j d)
      rw [rs1_congr (g := fun j => i1 j c) fun j _ => by omega, a, b] at this
      omega
    rw [e]
    simp
  rw [this, Int.add_zero]
theorem rs1_nn {k : Nat} {f : Nat → Int} (h : ∀ i < k, 0 ≤ f i) : 0 ≤ rs1 k f := by
  induction k with
  | zero => exact Int.le_refl _
  | succ k ih => rw [rs1_succ]; have := ih fun i hi => h i (by omega); have := h k (by omega); omega
theorem rs1_le {k j : Nat} {f : Nat → Int} (h : ∀ i < k, 0 ≤ f i) (hj : j < k) : f j ≤ rs1 k f := by
  induction k with
  | zero => omega
  | succ k ih =>
    rw [rs1_succ]
    have h' : ∀ i < k, 0 ≤ f i := fun i hi => h i (by omega)
    have := rs1_nn h'
    by_cases q : j = k
    · subst q; omega
    · have := ih h' (by omega); have := h k (by omega); omega
/-- a table by its cells -/
theorem tabIn_of {R C : Nat} {rows : Tab} (hR : rows.length = R) (lc : ∀ k < rows.length, (rows.getD k []).length = C) (nn : ∀ i < R, ∀ j < C, 0 ≤ at2 rows i j) (ts : (rows.map List.sum).sum ≤ 9999) : TabIn R C 10000 rows := by
  refine ⟨hR, fun ys hy => ?_⟩
  obtain ⟨i, hi, rfl⟩ := List.getElem_of_mem hy
  have li := lc i hi
  rw [show rows.getD i [] = rows[i] by simp [List.getD, hi]] at li
  refine ⟨li, fun y hy => ?_⟩
  obtain ⟨j, hj, rfl⟩ := List.getElem_of_mem hy
  have e : at2 rows i j = rows[i][j] := by simp [at2, List.getD, hi, hj]
  have a := nn i (by omega) j (by omega)
  rw [e] at a
  rw [tot_rs1 lc, hR] at ts
  have b : (rs1 C fun j => at2 rows i j) ≤ rs1 R (fun i => rs1 C fun j => at2 rows i j) := rs1_le (f := fun i => rs1 C fun j => at2 rows i j) (fun i hi => rs1_nn fun j hj => nn i hi j hj) (show i < R by omega)
  have c : at2 rows i j ≤ rs1 C (fun j => at2 rows i j) := rs1_le (f := fun j => at2 rows i j) (fun j hj => nn i (by omega) j hj) (show j < C by omega)
  omega
theorem tabIn_at {R C : Nat} {top : Int} {rows : Tab} (t : TabIn R C top rows) : rows.length = R ∧ (∀ k < rows.length, (rows.getD k []).length = C) ∧ ∀ i < R, ∀ j < C, 0 ≤ at2 rows i j := by
  have lr := t.len
  have lc : ∀ k < rows.length, (rows.getD k []).length = C := fun k hk => by
    rw [show rows.getD k [] = rows[k] by simp [List.getD, hk]]
    exact (t.row _ (List.getElem_mem hk)).1
  refine ⟨lr, lc, fun i hi j hj => ?_⟩
  have hi' : i < rows.length := by omega
  have l := lc i hi'
  rw [show rows.getD i [] = rows[i] by simp [List.getD, hi']] at l
  have e : at2 rows i j = rows[i][j]'(by omega) := by simp [at2, List.getD, hi', l, hj]
  rw [e]
  exact ((t.row _ (List.getElem_mem hi')).2 _ (List.getElem_mem _)).1
end Mi
namespace Mi
open PySem
theorem tab_ne (a b : Tab) (h : MH) : cmpM .ne (tabD a) (tabD b) h = .ok (.bl (!decide (a = b))) h := by
  have e : eqq h (tabD a) (tabD b) = some (decide (a = b)) := by
    unfold eqq
    rw [res_tab h 6, res_tab h 6, ok_tab 6, ok_tab 6]
    show some (eqL (a.map rowD) (b.map rowD)) = _
    rw [eqL_rows]
  unfold cmpM
  show (match (eqq h (tabD a) (tabD b)).map (!·) with
    | some k => R.ok (D.bl k) h
    | none => .stuck) = _
  rw [e]
  rfl
theorem clH_grid {b : Nat} {h : MH} (c : clH b h = true) (rows : Tab) : clH b (h ++ gridH rows) = true := by
  unfold clH at *
  rw [List.all_append, c, Bool.true_and, List.all_eq_true]
  intro o ho
  obtain ⟨ys, _, rfl⟩ := List.mem_map.mp ho
  exact row_cl b ys
/-- one step into a table of the heap -/
theorem grid_st {C : Nat} {h : MH} {rs : Tab} (q : ∀ k < rs.length, (rs.getD k []).length = C) {i j : Nat} {v : Int} {e : Ev} (hi : i < rs.length) (hj : j < C) : augI (.ref (h.length + i)) (.int (j : Int)) (h ++ gridH rs) = some (at2 rs i j) ∧ augW .add (at2 rs i j) (.ref (h.length + i)) (.int (j : Int)) (.int v) e (h ++ gridH rs) = .nx e (h ++ gridH (addAt rs i j v)) ∧ augW .sub (at2 rs i j) (.ref (h.length + i)) (.int (j : Int)) (.int v) e (h ++ gridH rs) = .nx e (h ++ gridH (addAt rs i j (-v))) := by
  have l := q i hi
  rw [show rs.getD i [] = rs[i] by simp [List.getD, hi]] at l
  have hj' : j < rs[i].length := by omega
  have e2 : at2 rs i j = rs[i][j] := by simp [at2, List.getD, hi, hj']
  have a1 := grid_augI (h := h) (t := []) hi hj'
  have a2 := grid_add (h := h) (t := []) (v := v) (e := e) hi hj'
  have a3 := grid_sub (h := h) (t := []) (v := v) (e := e) hi hj'
  rw [List.append_nil] at a1 a2 a3
  rw [List.append_nil] at a2 a3
  rw [e2]
  exact ⟨a1, a2, a3⟩
theorem mv_back {R C : Nat} {top : Int} {rows : Tab} (t : TabIn R C top rows) {r s c d : Nat} {m : Int} (hr : r < R) (hs : s < R) (hc : c < C) (hd : d < C) (rs : r ≠ s) (cd : c ≠ d) (e1 : m ≤ at2 rows r d) (e2 : m ≤ at2 rows s c) (m0 : 0 ≤ m) (ts : (rows.map List.sum).sum ≤ 9999) :
    TabIn R C 10000 (mv rows r s c d m) ∧ ((mv rows r s c d m).map List.sum).sum ≤ 9999 ∧ at2 (mv rows r s c d m) s d = at2 rows s d + m ∧ at2 (mv rows r s c d m) r c = at2 rows r c + m ∧ mv (mv rows r s c d m) s r c d m = rows := by
  obtain ⟨lr, lc, nn⟩ := tabIn_at t
  subst lr
  have lm : (mv rows r s c d m).length = rows.length := by simp [mv, addAt_len]
  have lcm : ∀ k < (mv rows r s c d m).length, ((mv rows r s c d m).getD k []).length = C := addAt_rows (addAt_rows (addAt_rows (addAt_rows lc r c m) s d m) r d (-m)) s c (-m)
  have A := fun a b => at2_mv (m := m) lc hr hs hc hd rs cd a b
  have tm : ((mv rows r s c d m).map List.sum).sum ≤ 9999 := by rw [tot_mv lc hr hs hc hd rs cd]; exact ts
  have T : TabIn rows.length C 10000 (mv rows r s c d m) := by
    refine tabIn_of lm lcm (fun i hi j hj => ?_) tm
    rw [A]
    have := nn i hi j hj
    unfold i1
    by_cases q1 : i = r
    · subst q1
      by_cases q2 : j = c
      · subst q2; simp [rs, cd]; omega
      · by_cases q3 : j = d
        · subst q3; simp [rs, q2]; omega
        · simp [rs, q2, q3]; omega
    · by_cases q1' : i = s
      · subst q1'
        by_cases q2 : j = c
        · subst q2; simp [q1, cd]; omega
        · by_cases q3 : j = d
          · subst q3; simp [q1, q2]; omega
          · simp [q1, q2, q3]; omega
      · simp [q1, q1']; omega
  refine ⟨T, tm, ?_, ?_, ?_⟩
  · rw [A]; simp [i1, Ne.symm rs, Ne.symm cd]
  · rw [A]; simp [i1, rs, cd]
  · have B := fun a b => at2_mv (m := m) lcm (by rw [lm]; exact hs) (by rw [lm]; exact hr) hc hd (Ne.symm rs) cd a b
    have lb : (mv (mv rows r s c d m) s r c d m).length = rows.length := by simp [mv, addAt_len]
    have lcb : ∀ k < (mv (mv rows r s c d m) s r c d m).length, ((mv (mv rows r s c d m) s r c d m).getD k []).length = C := addAt_rows (addAt_rows (addAt_rows (addAt_rows lcm s c m) r d m) s d (-m)) r c (-m)
    have E : ∀ a b, at2 (mv (mv rows r s c d m) s r c d m) a b = at2 rows a b := fun a b => by
      rw [B, A, show i1 a s - i1 a r = -(i1 a r - i1 a s) by omega, Int.neg_mul, Int.mul_neg]
      omega
    have tb : ((mv (mv rows r s c d m) s r c d m).map List.sum).sum ≤ 9999 := by
      rw [tot_mv lcm (by rw [lm]; exact hs) (by rw [lm]; exact hr) hc hd (Ne.symm rs) cd]; exact tm
    have T2 : TabIn rows.length C 10000 (mv (mv rows r s c d m) s r c d m) := tabIn_of lb lcb (fun i hi j hj => by rw [E]; exact nn i hi j hj) tb
    refine tab_ext T2 t fun x hx => ?_
    obtain ⟨i, j, _, _, rfl⟩ := cell_of hx
    exact E i j
theorem turn_to {R r : Nat} {d : Int} (hr : r < R) (d0 : 0 ≤ d) (d1 : d < (R : Int) - 1) : ∃ s : Nat, s < R ∧ r ≠ s ∧ ((r : Int) + 1 + d) % (R : Int) = (s : Int) := by
  by_cases q : (r : Int) + 1 + d < R
  · refine ⟨((r : Int) + 1 + d).toNat, by omega, by omega, ?_⟩
    rw [Int.emod_eq_of_lt (by omega) q]
    omega
  · refine ⟨((r : Int) + 1 + d - R).toNat, by omega, by omega, ?_⟩
    rw [show (r : Int) + 1 + d = ((r : Int) + 1 + d - R) + R by omega, Int.add_emod_right, Int.emod_eq_of_lt (by omega) (by omega)]
    omega
end Mi
namespace Mi
open PySem
section
variable {P : Nat → Option FI} {n : Nat}
theorem law23 (h0 : P 0 = some fi_is_whole) (h1 : P 1 = some fi_is_shape) (h2 : P 2 = some fi_is_table) (h3 : P 3 = some fi_need_table) (h15 : P 15 = some fi_all_cells) (h62 : P 62 = some fi_is_move) (h63 : P 63 = some fi_do_move) (h64 : P 64 = some fi_moved) (h65 : P 65 = some fi_same_size) (h66 : P 66 = some fi_apart)
    (h117 : P 117 = some fi_law_draw) (h118 : P 118 = some fi_law_pick) (h120 : P 120 = some fi_law_sized) (hl : P 219 = some fi_law_k23) (ns : List Int) : ∃ h', callN P (n + 6) 219 [.scr ns] [] = .ok (.bl true) h' := by
  rw [callN_run hl (n + 5) _ _ rfl]
  obtain ⟨d1, a1, b1, p1, q1, x1, y1, e1⟩ := draw_spec (n := n + 4) h117 ns 0 0 4 (by decide) (by decide) (by decide) (by decide)
  obtain ⟨d2, a2, b2, p2, q2, x2, y2, e2⟩ := draw_spec (n := n + 4) h117 ns a1 b1 4 x1 y1 (by decide) (by decide)
  obtain ⟨R, hR⟩ := Int.eq_ofNat_of_zero_le (show 0 ≤ 2 + d1 by omega)
  obtain ⟨C, hC⟩ := Int.eq_ofNat_of_zero_le (show 0 ≤ 2 + d2 by omega)
  have R1 : 2 ≤ R := by omega
  have R2 : R ≤ 5 := by omega
  have C1 : 2 ≤ C := by omega
  have C2 : C ≤ 5 := by omega
  have RC : (0 : Int) < (R : Int) * C := Int.mul_pos (by omega) (by omega)
  have RC2 : (R : Int) * C ≤ 25 := by
    have : R * C ≤ 5 * 5 := Nat.mul_le_mul R2 C2
    exact_mod_cast this
  obtain ⟨t, a3, b3, mt, x3, y3, e3⟩ := pick_spec (n := n + 3) h117 h118 ns a2 b2 [.int 2, .int 4, .int (9999 / ((R : Int) * C) + 1)] x2 y2 (by simp) (by simp)
  obtain ⟨top, rfl, t0, t1, t2⟩ : ∃ top : Int, t = .int top ∧ 0 < top ∧ top ≤ 10000 ∧ (R : Int) * (C * (top - 1)) ≤ 9999 := by
    have h9 : 9999 / ((R : Int) * C) ≤ 9999 := Int.ediv_le_self _ (by decide)
    have h8 : 0 ≤ 9999 / ((R : Int) * C) := Int.ediv_nonneg (by decide) (by omega)
    have h7 : (R : Int) * C * (9999 / ((R : Int) * C)) ≤ 9999 := Int.mul_ediv_self_le (by omega)
    simp only [List.mem_cons, List.not_mem_nil, or_false] at mt
    rcases mt with rfl | rfl | rfl
    · exact ⟨2, rfl, by decide, by decide, by rw [← Int.mul_assoc]; omega⟩
    · exact ⟨4, rfl, by decide, by decide, by rw [← Int.mul_assoc]; omega⟩
    · refine ⟨_, rfl, by omega, by omega, ?_⟩
      rw [← Int.mul_assoc, Int.add_sub_cancel]
      exact h7
  obtain ⟨A, a4, b4, tA, x4, y4, e4⟩ := sized_spec (n := n + 3) (r := []) h117 h120 ns a3 b3 R C top x3 y3 (by omega) (by omega) t0 (by omega) rfl
  obtain ⟨d5, a5, b5, p5, q5, x5, y5, e5⟩ := draw_spec (n := n + 4) h117 ns a4 b4 R x4 y4 (by omega) (by omega)
  obtain ⟨d6, a6, b6, p6, q6, x6, y6, e6⟩ := draw_spec (n := n + 4) h117 ns a5 b5 C x5 y5 (by omega) (by omega)
  obtain ⟨r, rfl⟩ := Int.eq_ofNat_of_zero_le p5
  obtain ⟨c, rfl⟩ := Int.eq_ofNat_of_zero_le p6
  obtain ⟨d7, a7, b7, p7, q7, x7, y7, e7⟩ := draw_spec (n := n + 4) h117 ns a6 b6 ((R : Int) - 1) x6 y6 (by omega) (by omega)
  obtain ⟨d8, a8, b8, p8, q8, x8, y8, e8⟩ := draw_spec (n := n + 4) h117 ns a7 b7 ((C : Int) - 1) x7 y7 (by omega) (by omega)
  obtain ⟨s, hs, rs, es⟩ := turn_to (show r < R by omega) p7 q7
  obtain ⟨d, hd, cd, ed⟩ := turn_to (show c < C by omega) p8 q8
  have iA := tab_table tA (by omega) R2 (by omega) C2 t1 t2
  have ts := tab_sum tA t2
  have cT : ∀ a b, clH [tw a b].length [tw a b] = true := fun _ _ => rfl
  have Lr := tA.len
  have Lc := (tabIn_at tA).2.1
  have ix : ∀ (T : Tab) (i j : Nat), T.length = R → (∀ k < T.length, (T.getD k []).length = C) → i < R → j < C → ∀ H, ∃ ys, idxM (tabD T) (.int (i : Int)) H = .ok (rowD ys) H ∧ idxM (rowD ys) (.int (j : Int)) H = .ok (.int (at2 T i j)) H := fun T i j l lc hi hj H => by
    have hi' : i < T.length := by omega
    have lj := lc i hi'
    rw [show T.getD i [] = T[i] by simp [List.getD, hi']] at lj
    refine ⟨T[i], idx_tab hi', ?_⟩
    rw [show at2 T i j = T[i][j] by simp [at2, List.getD, hi', lj, hj]]
    exact idx_row (by omega)
  obtain ⟨ya, ia, ja⟩ := ix A r d Lr Lc (by omega) hd [tw a8 b8]
  obtain ⟨yb, ib, jb⟩ := ix A s c Lr Lc hs (by omega) [tw a8 b8]
  refine ⟨[], ?_⟩
  simp [fi_law_k23, tw_fold, e1, e2, hR, hC, e3, bop_mul false (R : Int) C (by simp [small]; omega), bop_fdiv false 9999 ((R : Int) * C) RC (Nat.lt_of_lt_of_le (show ((R : Int) * C).natAbs < 2 ^ 60 by omega) (Nat.pow_le_pow_right (by decide) (by decide))), e4, e5, e6, e7, e8, bop_mod false _ (R : Int) (by omega), bop_mod false _ (C : Int) (by omega), es, ed, ia, ja, ib, jb]
  have nn := (tabIn_at tA).2.2
  obtain ⟨M, hM, M0, M1, M2⟩ : ∃ M : Int, (if at2 A s c < at2 A r d then at2 A s c else at2 A r d) = M ∧ 0 ≤ M ∧ M ≤ at2 A r d ∧ M ≤ at2 A s c := by
    have := nn r (by omega) d hd
    have := nn s hs c (by omega)
    exact ⟨_, rfl, by split <;> omega, by split <;> omega, by split <;> omega⟩
  rw [hM]
  have ap : ∀ {X Y : Tab} {tx ty : Int} {h : MH}, TabIn R C tx X → TabIn R C ty Y → tableB (tabD X) = true → tableB (tabD Y) = true → clH h.length h = true → callN P (n + 5) 66 [tabD X, tabD Y] h = .ok (.int (dist X Y (cellsD R C))) h := fun tX tY iX iY ch => apart_spec (n := n + 1) h0 h1 h2 h3 h15 h65 h66 tX tY (by omega) (by omega) (by omega) iX iY ch
  by_cases z : M = 0
  · simp [z, ap tA tA iA iA (cT a8 b8), dist_self]
    exact fin_top rfl
  · have top9 : at2 A r d ≤ 9999 := by
      have l := Lc r (by omega)
      rw [show A.getD r [] = A[r]'(by omega) by simp [List.getD, show r < A.length by omega]] at l
      have := ((tA.row _ (List.getElem_mem (show r < A.length by omega))).2 ((A[r]'(by omega))[d]'(by omega)) (List.getElem_mem _)).2
      rw [show at2 A r d = (A[r]'(by omega))[d]'(by omega) by simp [at2, List.getD, show r < A.length by omega, l, hd]]
      omega
    obtain ⟨d9, a9, b9, p9, q9, x9, y9, e9⟩ := draw_spec (n := n + 4) h117 ns a8 b8 M x8 y8 (by omega) (by omega)
    have B := mv_back (m := 1 + d9) tA (show r < R by omega) hs (show c < C by omega) hd rs cd (by omega) (by omega) (by omega) ts
    obtain ⟨tB, tsB, eB1, eB2, bk⟩ := B
    have lcA : ∀ ys ∈ A, ys.length = C := fun ys hy => (tA.row ys hy).1
    have lcB : ∀ ys ∈ mv A r s c d (1 + d9), ys.length = C := fun ys hy => (tB.row ys hy).1
    have lB := tB.len
    have iB := tab_tableS tB (by omega) R2 (by omega) C2 (by decide) tsB
    have m1 := moved_spec (n := n + 1) (h := [tw a9 b9]) (m := 1 + d9) h0 h1 h2 h3 h62 h63 h64 lcA (show r < A.length by omega) (show s < A.length by omega) (show c < C by omega) hd rs cd (by omega) (by omega) (show 1 + d9 ≤ at2 A r d by omega) (show 1 + d9 ≤ at2 A s c by omega) iA (cT a9 b9)
    have cG : clH ([tw a9 b9] ++ gridH (mv A r s c d (1 + d9))).length ([tw a9 b9] ++ gridH (mv A r s c d (1 + d9))) = true := clH_grid (by rfl) _
    have nB := (tabIn_at tA).2.2
    have m2 := moved_spec (n := n + 1) (h := [tw a9 b9] ++ gridH (mv A r s c d (1 + d9))) (m := 1 + d9) h0 h1 h2 h3 h62 h63 h64 lcB (show s < _ by omega) (show r < _ by omega) (show c < C by omega) hd (Ne.symm rs) cd (by omega) (by omega) (show 1 + d9 ≤ at2 (mv A r s c d (1 + d9)) s d by have := nB s hs d hd; omega) (show 1 + d9 ≤ at2 (mv A r s c d (1 + d9)) r c by have := nB r (by omega) c (by omega); omega) iB cG
    rw [bk] at m2
    unfold mvD at m1 m2
    have z1 := addAt_rows Lc r c (1 + d9)
    have z2 := addAt_rows z1 s d (1 + d9)
    have z3 := addAt_rows z2 r d (-(1 + d9))
    have s1 := fun e => grid_st (h := [tw a9 b9]) (v := 1 + d9) (e := e) Lc (show r < A.length by omega) (show c < C by omega)
    have s2 := fun e => grid_st (h := [tw a9 b9]) (v := 1 + d9) (e := e) z1 (show s < _ by simp [addAt_len]; omega) hd
    have s3 := fun e => grid_st (h := [tw a9 b9]) (v := 1 + d9) (e := e) z2 (show r < _ by simp [addAt_len]; omega) hd
    have s4 := fun e => grid_st (h := [tw a9 b9]) (v := 1 + d9) (e := e) z3 (show s < _ by simp [addAt_len]; omega) (show c < C by omega)
    have g := fun (ft : FT) (e : Ev) (he : 14 < e.length) => grid_mk (ft := ft) (h := [tw a9 b9]) he A
    have gt := fun (ft : FT) (e : Ev) (he : 14 < e.length) => grid_tup (ft := ft) (h := [tw a9 b9]) (t := []) (rows := mv A r s c d (1 + d9)) he
    have i1 : ∀ H, idxM (.lst (refs 1 A.length)) (.int (r : Int)) H = .ok (.ref (1 + r)) H := fun H => refs_idx _ _ _ (by omega)
    have i2 : ∀ H, idxM (.lst (refs 1 A.length)) (.int (s : Int)) H = .ok (.ref (1 + s)) H := fun H => refs_idx _ _ _ (by omega)
    have it : ∀ H, itOf H (tabD A) = some (.its (A.map rowD)) := fun _ => rfl
    have dm := dist_mv (m := 1 + d9) Lc (show r < A.length by omega) (show s < A.length by omega) (show c < C by omega) hd rs cd (by omega)
    rw [Lr] at dm
    simp only [lB, ← Lr, List.append_nil, List.length_cons, List.length_nil, List.singleton_append, Nat.zero_add] at s1 s2 s3 s4 g gt m1 m2 cG
    have t1' : ∀ e, augW .add (at2 A r c) (.ref (1 + r)) (.int (c : Int)) (.int (1 + d9)) e (tw a9 b9 :: gridH A) = .nx e (tw a9 b9 :: gridH (addAt A r c (1 + d9))) := fun e => (s1 e).2.1
    simp [z, e9, m1, g, it, i1, i2, (s1 []).1, fun e => (s1 e).2.1, (s2 []).1, fun e => (s2 e).2.1, (s3 []).1, fun e => (s3 e).2.2, (s4 []).1, fun e => (s4 e).2.2]
    rw [show addAt (addAt (addAt (addAt A r c (1 + d9)) s d (1 + d9)) r d (-(1 + d9))) s c (-(1 + d9)) = mv A r s c d (1 + d9) from rfl]
    have ft : ∀ T : Tab, D.tup (T.map rowD) = tabD T := fun _ => rfl
    have cG' : clH (tw a9 b9 :: gridH (mv A r s c d (1 + d9))).length (tw a9 b9 :: gridH (mv A r s c d (1 + d9))) = true := clH_grid (h := [tw a9 b9]) (by rfl) _
    simp [gt, ft, tab_ne, tab_eq, m2, ap tA tB iA iB cG', ap tB tA iB iA cG', dm, dist_comm (mv A r s c d (1 + d9)) A, bop_mul false 4 (1 + d9) (by simp [small])]
    exact fin_top rfl
end
end Mi
namespace K23
open PySem PySem.Spec PyProof.Rows L2 Mi
abbrev prog := PySem.Challenge.pw_shutcells_k23_whole_moved
def top (i : Nat) : Stmt := prog.main.body.getD i (.Pass ⟨0, 0, 0, 0⟩)
def t_0 : FnT := ⟨((Str.ofString "is_whole"), none), (Str.ofString "is_whole"), (Str.ofString "is_whole"), defArgs (top 7), defBody (top 7), defScope (top 7), [(Str.ofString "thing"), (Str.ofString "least"), (Str.ofString "most")], [(Str.ofString "thing"), (Str.ofString "least"), (Str.ofString "most")], []⟩
theorem b_0 : BindsOk t_0 := .one rfl fun _ _ _ _ _ _ us hl => match us, hl with | [_, _, _], _ => rfl
def t_1 : FnT := ⟨((Str.ofString "is_shape"), none), (Str.ofString "is_shape"), (Str.ofString "is_shape"), defArgs (top 8), defBody (top 8), defScope (top 8), [(Str.ofString "thing")], [(Str.ofString "thing"), (Str.ofString "row")], []⟩
theorem b_1 : BindsOk t_1 := .one rfl fun _ _ _ _ _ _ us hl => match us, hl with | [_], _ => rfl
def t_2 : FnT := ⟨((Str.ofString "is_table"), none), (Str.ofString "is_table"), (Str.ofString "is_table"), defArgs (top 9), defBody (top 9), defScope (top 9), [(Str.ofString "thing")], [(Str.ofString "thing"), (Str.ofString "row"), (Str.ofString "one")], []⟩
theorem b_2 : BindsOk t_2 := .one rfl fun _ _ _ _ _ _ us hl => match us, hl with | [_], _ => rfl
def t_3 : FnT := ⟨((Str.ofString "need_table"), none), (Str.ofString "need_table"), (Str.ofString "need_table"), defArgs (top 10), defBody (top 10), defScope (top 10), [(Str.ofString "thing")], [(Str.ofString "thing")], []⟩
theorem b_3 : BindsOk t_3 := .one rfl fun _ _ _ _ _ _ us hl => match us, hl with | [_], _ => rfl
def t_15 : FnT := ⟨((Str.ofString "all_cells"), none), (Str.ofString "all_cells"), (Str.ofString "all_cells"), defArgs (top 11), defBody (top 11), defScope (top 11), [(Str.ofString "rows")], [(Str.ofString "rows"), (Str.ofString "cells"), (Str.ofString "at"), (Str.ofString "to")], []⟩
theorem b_15 : BindsOk t_15 := .one rfl fun _ _ _ _ _ _ us hl => match us, hl with | [_], _ => rfl
def t_62 : FnT := ⟨((Str.ofString "is_move"), none), (Str.ofString "is_move"), (Str.ofString "is_move"), defArgs (top 13), defBody (top 13), defScope (top 13), [(Str.ofString "table"), (Str.ofString "thing")], [(Str.ofString "table"), (Str.ofString "thing"), (Str.ofString "row"), (Str.ofString "other_row"), (Str.ofString "column"), (Str.ofString "other_column"), (Str.ofString "many"), (Str.ofString "one")], []⟩
theorem b_62 : BindsOk t_62 := .one rfl fun _ _ _ _ _ _ us hl => match us, hl with | [_, _], _ => rfl
def t_63 : FnT := ⟨((Str.ofString "do_move"), none), (Str.ofString "do_move"), (Str.ofString "do_move"), defArgs (top 14), defBody (top 14), defScope (top 14), [(Str.ofString "rows"), (Str.ofString "move")], [(Str.ofString "rows"), (Str.ofString "move"), (Str.ofString "row"), (Str.ofString "other_row"), (Str.ofString "column"), (Str.ofString "other_column"), (Str.ofString "many")], []⟩
theorem b_63 : BindsOk t_63 := .one rfl fun _ _ _ _ _ _ us hl => match us, hl with | [_, _], _ => rfl
def t_64 : FnT := ⟨((Str.ofString "moved"), none), (Str.ofString "moved"), (Str.ofString "moved"), defArgs (top 15), defBody (top 15), defScope (top 15), [(Str.ofString "table"), (Str.ofString "move")], [(Str.ofString "table"), (Str.ofString "move"), (Str.ofString "rows"), (Str.ofString "row")], []⟩
theorem b_64 : BindsOk t_64 := .one rfl fun _ _ _ _ _ _ us hl => match us, hl with | [_, _], _ => rfl
def t_65 : FnT := ⟨((Str.ofString "same_size"), none), (Str.ofString "same_size"), (Str.ofString "same_size"), defArgs (top 16), defBody (top 16), defScope (top 16), [(Str.ofString "one"), (Str.ofString "other")], [(Str.ofString "one"), (Str.ofString "other")], []⟩
theorem b_65 : BindsOk t_65 := .one rfl fun _ _ _ _ _ _ us hl => match us, hl with | [_, _], _ => rfl
def t_66 : FnT := ⟨((Str.ofString "apart"), none), (Str.ofString "apart"), (Str.ofString "apart"), defArgs (top 17), defBody (top 17), defScope (top 17), [(Str.ofString "one"), (Str.ofString "other")], [(Str.ofString "one"), (Str.ofString "other"), (Str.ofString "at"), (Str.ofString "to")], []⟩
theorem b_66 : BindsOk t_66 := .one rfl fun _ _ _ _ _ _ us hl => match us, hl with | [_, _], _ => rfl
def t_117 : FnT := ⟨((Str.ofString "_law_draw"), none), (Str.ofString "_law_draw"), (Str.ofString "_law_draw"), defArgs (top 19), defBody (top 19), defScope (top 19), [(Str.ofString "_law_script"), (Str.ofString "_law_town"), (Str.ofString "_law_many")], [(Str.ofString "_law_script"), (Str.ofString "_law_town"), (Str.ofString "_law_many"), (Str.ofString "_law_at"), (Str.ofString "_law_mixed"), (Str.ofString "_law_one")], []⟩
theorem b_117 : BindsOk t_117 := .one rfl fun _ _ _ _ _ _ us hl => match us, hl with | [_, _, _], _ => rfl
def t_118 : FnT := ⟨((Str.ofString "_law_pick"), none), (Str.ofString "_law_pick"), (Str.ofString "_law_pick"), defArgs (top 20), defBody (top 20), defScope (top 20), [(Str.ofString "_law_script"), (Str.ofString "_law_town"), (Str.ofString "_law_some")], [(Str.ofString "_law_script"), (Str.ofString "_law_town"), (Str.ofString "_law_some")], []⟩
theorem b_118 : BindsOk t_118 := .one rfl fun _ _ _ _ _ _ us hl => match us, hl with | [_, _, _], _ => rfl
def t_119 : FnT := ⟨((Str.ofString "_law_cells"), none), (Str.ofString "_law_cells"), (Str.ofString "_law_cells"), defArgs (top 21), defBody (top 21), defScope (top 21), [(Str.ofString "_law_table_here")], [(Str.ofString "_law_table_here"), (Str.ofString "_law_found"), (Str.ofString "_law_at"), (Str.ofString "_law_to")], []⟩
theorem b_119 : BindsOk t_119 := .one rfl fun _ _ _ _ _ _ us hl => match us, hl with | [_], _ => rfl
def t_120 : FnT := ⟨((Str.ofString "_law_sized"), none), (Str.ofString "_law_sized"), (Str.ofString "_law_sized"), defArgs (top 22), defBody (top 22), defScope (top 22), [(Str.ofString "_law_script"), (Str.ofString "_law_town"), (Str.ofString "_law_many"), (Str.ofString "_law_across"), (Str.ofString "_law_top")], [(Str.ofString "_law_script"), (Str.ofString "_law_town"), (Str.ofString "_law_many"), (Str.ofString "_law_across"), (Str.ofString "_law_top"), (Str.ofString "_law_rows"), (Str.ofString "_law_at"), (Str.ofString "_law_to")], []⟩
theorem b_120 : BindsOk t_120 := .one rfl fun _ _ _ _ _ _ us hl => match us, hl with | [_, _, _, _, _], _ => rfl
def t_121 : FnT := ⟨((Str.ofString "_law_table"), none), (Str.ofString "_law_table"), (Str.ofString "_law_table"), defArgs (top 23), defBody (top 23), defScope (top 23), [(Str.ofString "_law_script"), (Str.ofString "_law_town"), (Str.ofString "_law_rows"), (Str.ofString "_law_columns")], [(Str.ofString "_law_script"), (Str.ofString "_law_town"), (Str.ofString "_law_rows"), (Str.ofString "_law_columns"), (Str.ofString "_law_many"), (Str.ofString "_law_across")], []⟩
theorem b_121 : BindsOk t_121 := .one rfl fun _ _ _ _ _ _ us hl => match us, hl with | [_, _, _, _], _ => rfl
def t_122 : FnT := ⟨((Str.ofString "_law_shut"), none), (Str.ofString "_law_shut"), (Str.ofString "_law_shut"), defArgs (top 24), defBody (top 24), defScope (top 24), [(Str.ofString "_law_script"), (Str.ofString "_law_town"), (Str.ofString "_law_table_here")], [(Str.ofString "_law_script"), (Str.ofString "_law_town"), (Str.ofString "_law_table_here"), (Str.ofString "_law_part"), (Str.ofString "_law_cell")], []⟩
theorem b_122 : BindsOk t_122 := .one rfl fun _ _ _ _ _ _ us hl => match us, hl with | [_, _, _], _ => rfl
def t_125 : FnT := ⟨((Str.ofString "_law_rights"), none), (Str.ofString "_law_rights"), (Str.ofString "_law_rights"), defArgs (top 25), defBody (top 25), defScope (top 25), [(Str.ofString "_law_rows")], [(Str.ofString "_law_rows"), (Str.ofString "_law_row")], []⟩
theorem b_125 : BindsOk t_125 := .one rfl fun _ _ _ _ _ _ us hl => match us, hl with | [_], _ => rfl
def t_126 : FnT := ⟨((Str.ofString "_law_belows"), none), (Str.ofString "_law_belows"), (Str.ofString "_law_belows"), defArgs (top 26), defBody (top 26), defScope (top 26), [(Str.ofString "_law_rows")], [(Str.ofString "_law_rows"), (Str.ofString "_law_to"), (Str.ofString "_law_row")], []⟩
theorem b_126 : BindsOk t_126 := .one rfl fun _ _ _ _ _ _ us hl => match us, hl with | [_], _ => rfl
def t_127 : FnT := ⟨((Str.ofString "_law_sheet"), none), (Str.ofString "_law_sheet"), (Str.ofString "_law_sheet"), defArgs (top 27), defBody (top 27), defScope (top 27), [(Str.ofString "_law_table_here"), (Str.ofString "_law_shut_here")], [(Str.ofString "_law_table_here"), (Str.ofString "_law_shut_here"), (Str.ofString "_law_rows"), (Str.ofString "_law_at"), (Str.ofString "_law_to")], []⟩
theorem b_127 : BindsOk t_127 := .one rfl fun _ _ _ _ _ _ us hl => match us, hl with | [_, _], _ => rfl
def t_128 : FnT := ⟨((Str.ofString "_law_left"), none), (Str.ofString "_law_left"), (Str.ofString "_law_left"), defArgs (top 28), defBody (top 28), defScope (top 28), [(Str.ofString "_law_sheet_here")], [(Str.ofString "_law_sheet_here"), (Str.ofString "_law_rows"), (Str.ofString "_law_right"), (Str.ofString "_law_row"), (Str.ofString "_law_whole"), (Str.ofString "_law_part"), (Str.ofString "_law_one")], []⟩
theorem b_128 : BindsOk t_128 := .one rfl fun _ _ _ _ _ _ us hl => match us, hl with | [_], _ => rfl
def t_219 : FnT := ⟨((Str.ofString "law"), none), (Str.ofString "law"), (Str.ofString "law"), defArgs (top 29), defBody (top 29), defScope (top 29), [(Str.ofString "_law_script")], [(Str.ofString "_law_script"), (Str.ofString "_law_town"), (Str.ofString "_law_many"), (Str.ofString "_law_across"), (Str.ofString "_law_table_here"), (Str.ofString "_law_row"), (Str.ofString "_law_column"), (Str.ofString "_law_lower"), (Str.ofString "_law_right"), (Str.ofString "_law_there"), (Str.ofString "_law_much"), (Str.ofString "_law_made"), (Str.ofString "_law_rows"), (Str.ofString "_law_back"), (Str.ofString "_law_one")], []⟩
theorem b_219 : BindsOk t_219 := .one rfl fun _ _ _ _ _ _ us hl => match us, hl with | [_], _ => rfl
def xname : Nat → Str := fun n => [(Str.ofString "NoTable"), (Str.ofString "NoShut"), (Str.ofString "NoSheet"), (Str.ofString "NoCell"), (Str.ofString "NoNumber"), (Str.ofString "NoWidth"), (Str.ofString "NoBase"), (Str.ofString "NoMove"), (Str.ofString "NoWay"), (Str.ofString "NoNumbers"), (Str.ofString "NoAsk"), (Str.ofString "NoText"), (Str.ofString "Full"), (Str.ofString "TooMany"), (Str.ofString "Tells"), (Str.ofString "TableError")].getD n Str.empty
def L : LD := ⟨[(0, t_0, fi_is_whole),
  (1, t_1, fi_is_shape),
  (2, t_2, fi_is_table),
  (3, t_3, fi_need_table),
  (15, t_15, fi_all_cells),
  (62, t_62, fi_is_move),
  (63, t_63, fi_do_move),
  (64, t_64, fi_moved),
  (65, t_65, fi_same_size),
  (66, t_66, fi_apart),
  (117, t_117, fi_law_draw),
  (118, t_118, fi_law_pick),
  (119, t_119, fi_law_cells),
  (120, t_120, fi_law_sized),
  (121, t_121, fi_law_table),
  (122, t_122, fi_law_shut),
  (125, t_125, fi_law_rights),
  (126, t_126, fi_law_belows),
  (127, t_127, fi_law_sheet),
  (128, t_128, fi_law_left),
  (219, t_219, fi_law_k23)],
 [((Str.ofString "is_whole"), .fn 0 3 []),
  ((Str.ofString "is_shape"), .fn 1 1 []),
  ((Str.ofString "is_table"), .fn 2 1 []),
  ((Str.ofString "need_table"), .fn 3 1 []),
  ((Str.ofString "all_cells"), .fn 15 1 []),
  ((Str.ofString "is_move"), .fn 62 2 []),
  ((Str.ofString "do_move"), .fn 63 2 []),
  ((Str.ofString "moved"), .fn 64 2 []),
  ((Str.ofString "same_size"), .fn 65 2 []),
  ((Str.ofString "apart"), .fn 66 2 []),
  ((Str.ofString "_law_draw"), .fn 117 3 []),
  ((Str.ofString "_law_pick"), .fn 118 3 []),
  ((Str.ofString "_law_cells"), .fn 119 1 []),
  ((Str.ofString "_law_sized"), .fn 120 5 []),
  ((Str.ofString "_law_table"), .fn 121 4 []),
  ((Str.ofString "_law_shut"), .fn 122 3 []),
  ((Str.ofString "_law_rights"), .fn 125 1 []),
  ((Str.ofString "_law_belows"), .fn 126 1 []),
  ((Str.ofString "_law_sheet"), .fn 127 2 []),
  ((Str.ofString "_law_left"), .fn 128 1 []),
  ((Str.ofString "law"), .fn 219 1 []),
  ((Str.ofString "TableError"), .exc 15),
  ((Str.ofString "NoTable"), .exc 0),
  ((Str.ofString "NoMove"), .exc 7),
  ((Str.ofString "NoWay"), .exc 8),
  ((Str.ofString "MOST"), .int 9999),
  ((Str.ofString "abs"), .free),
  ((Str.ofString "all"), .free),
  ((Str.ofString "bool"), .free),
  ((Str.ofString "int"), .free),
  ((Str.ofString "isinstance"), .free),
  ((Str.ofString "len"), .free),
  ((Str.ofString "list"), .free),
  ((Str.ofString "min"), .free),
  ((Str.ofString "range"), .free),
  ((Str.ofString "sum"), .free),
  ((Str.ofString "tuple"), .free),
  ((Str.ofString "zip"), .free)], xname⟩
theorem binds : BindsAll L.fns := ⟨b_0, b_1, b_2, b_3, b_15, b_62, b_63, b_64, b_65, b_66, b_117, b_118, b_119, b_120, b_121, b_122, b_125, b_126, b_127, b_128, b_219, True.intro⟩
theorem chk : (L.fns.all fun p => chkF L.G p.2.1 p.2.2) = true := by decide +kernel
theorem gl : gB L = true := by decide +kernel
def loose : List PySem.Str := (["MOST", "NoMove", "NoTable", "NoWay", "TableError", "_law_belows", "_law_cells", "_law_draw", "_law_left", "_law_pick", "_law_rights", "_law_sheet"] : List PySem.Str) ++ (["_law_shut", "_law_sized", "_law_table", "all_cells", "apart", "do_move", "is_move", "is_shape", "is_table", "is_whole", "moved", "need_table"] : List PySem.Str) ++ (["same_size"] : List PySem.Str)
abbrev Rw : PySem.W.OpenRow := PySem.W.OpenLaw.row PySem.Challenge.rw_shutcells_k23_whole_moved
abbrev hk : PySem.W.Hook := He.hookD 5 L.facts L.defs
def ob (s : PySem.W.SharedT) : He.AlD := He.obsDG 5 L.facts L.defs (HandSHeadRun.getT s)
theorem ob_eq (s : PySem.W.SharedT) : ob s = hk.obs s.abs := He.obsDG_eq (HandSHeadRun.getT_eq s)
theorem run (w : World) : HandSHeadRun.RunEq Rw (PySem.W.view Rw.prog [29]) hk ob 100000 loose w := by
  intro os
  kernel_rfl
end K23
namespace K23
open PySem PySem.Spec PyProof.Rows L2 Mi
theorem spec (ns : List Int) (_ : ns.length ≤ 63) : ∃ h', callN L.P 30 219 [.scr ns] [] = .ok (.bl true) h' := law23 (n := 24) rfl rfl rfl rfl rfl rfl rfl rfl rfl rfl rfl rfl rfl rfl ns
end K23
open PySem PySem.W PySem.Calls PyProof.Rows
theorem PySem.Challenge.cw_shutcells_k23_whole_moved_holds : PySem.Challenge.rw_shutcells_k23_whole_moved.Holds := by
  w_on; o_law
  refine HandSHeadRun.head_any (r := OpenLaw.row PySem.Challenge.rw_shutcells_k23_whole_moved) (q := view (OpenLaw.row PySem.Challenge.rw_shutcells_k23_whole_moved).prog [29]) (H := K23.hk) (ob := K23.ob) (M := 100000) (loose := K23.loose) (d := HandSHeadRun.topDef (OpenLaw.row PySem.Challenge.rw_shutcells_k23_whole_moved).prog 29) (kwd := []) K23.ob_eq
    (by kernel_rfl) (fun s => by kernel_rfl) K23.run (by kernel_rfl) (by kernel_rfl) (by kernel_rfl) (by rfl) (by first | assumption | decide +kernel) (by decide +kernel) ⟨rfl, rfl, rfl, rfl, rfl, by decide +kernel⟩ ?hw ?hc
  case hw => w_witness2
  case hc =>
    refine L2.walk_ofE (l := PySem.Challenge.rw_shutcells_k23_whole_moved) (n := 63) (k := 30) (x := "_law_script") (CX := Mi.CXE (PySem.Challenge.rw_shutcells_k23_whole_moved).prog) rfl (by decide) (by kernel_rfl) ⟨rfl, by decide, by decide⟩ ?F Mi.cxe_no
    intro w mg fa h Y Gh hmg0
    obtain ⟨K, KX, c⟩ := Y
    have hmg : mg ("law" : PySem.Str) = some (.ref fa) := by
      have e : (HandSHeadRun.topDef (OpenLaw.row PySem.Challenge.rw_shutcells_k23_whole_moved).prog 29).name = ("law" : PySem.Str) := by kernel_rfl
      rw [← e]
      exact hmg0
    obtain ⟨K', fd, sp, a1, a2, a3, a4⟩ := Mi.LD.law (L := K23.L) (f := 219) (n := 30) KX Gh c K23.chk K23.gl K23.binds rfl rfl rfl rfl hmg K23.spec
    exact ⟨K', fd, sp, a1, a2, a3, a4⟩
