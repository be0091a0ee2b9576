import PyProof.Rows.All
import Wide.All
import OpenK.AllK
import Wide.FinOn
import KE.KStateDown
import HandS.ForMost
import HandS.Exc
import HandS.ExcOwn
import HandS.ExcCtx
import HandS.TryOnly
import HandS.CallSlots
import HandS.Wide
import HandS.Deep
import HandS.TupAny
import HandS.TupMul
import HandS.TupLe
import HandS.Zip
import PyProof.P3Statements
import HandS.Text
import HandS.IsInst
import HandS.Style
import KE.KTupSum
import KE.GoesEnum
import KE.GoesZip
import KE.GoesMore
import HandS.SetFor
import HandS.Small
import HandS.Defaults
import HandS.MakeKw
import PyProof.ExcBaseAll.ValueError
import HandS.HeadHook1
import HandS.HeadHook2
import HandS.SortInts
import HandS.SortRule
import HandS.HotCalls
import KE.KExcIs
import KE.KIsAll
import KE.KDictPairs
import KE.KDictZip
import PyProof.ListNew
import HandS.DictTup
import HandS.Iter
import HandS.ExcField
import HandS.Head0
import HandS.Head1
import HandS.Head2
import HandS.HeadHook4
import HandS.HeadEnd
import PySem.Challenge.RW_shutcells_k04_whole_is_sheet
set_option Elab.async false
set_option linter.all false
set_option maxRecDepth 100000
set_option maxHeartbeats 0
set_option autoImplicit false
namespace Mi
open PySem
abbrev Ky := Sum Int Str

inductive D where
  | non | bl (b : Bool) | int (i : Int) | str (x : Str)
  | tup (xs : List D) | lst (xs : List D)
  | dK (kvs : List (Ky × D)) | dT (kvs : List (List Ky × D))
  | ref (n : Nat) | scr (ns : List Int) | fn (f : Nat) (dl : List Int) | xv (c : Nat)

inductive MO where
  | lst (xs : List D)
  | dK (l : Bool) (kvs : List (Ky × D)) | dT (l : Bool) (kvs : List (List Ky × D))
  | ins (c : Nat) (fs : List (Nat × D))
abbrev MH := List MO
abbrev Ev := List (Option D)

inductive R (α : Type) where
  | ok (a : α) (h : MH) | exn (c : Nat) (p : Option D) (h : MH) | stuck
def R.bind {α β : Type} (r : R α) (f : α → MH → R β) : R β := match r with
  | .ok a h => f a h
  | .exn c p h => .exn c p h
  | .stuck => .stuck

inductive Bo where | add | sub | mul | fdiv | mod | pow | band | shr
  deriving DecidableEq
inductive Co where | eq | ne | lt | le | gt | ge | is | isn | inn | nin
  deriving DecidableEq
inductive Ty where | int | bool | tuple | str | list | cls (c : Nat)
  deriving DecidableEq
inductive Pr where
  | len | all | any | sum | list (m : Bool) | tuple | dict (m : Bool) | sorted (m : Bool) | min1 | max1 | min2 | max2 | abs | str | int
  | sortset (m : Bool) | lenset | keys (m : Bool) | dzip (m : Bool)
  deriving DecidableEq
inductive Mt where
  | append | extend | join | split (m : Bool) | endswith | get | count | index | pop
  deriving DecidableEq
inductive Tg where
  | nm (i : Nat) | tp (is : List Nat) | tq (i : Nat) (is : List Nat)
  deriving DecidableEq

inductive E where
  | var (i : Nat) | non | bl (b : Bool) | int (i : Int) | str (x : Str) | gI (x : Str) (i : Int) | gS (x : Str) (s : Str) | gF (x : Str) (f : Nat) (dl : List Int)
  | nil | cons (a r : E)
  | tup (es : E) | lst (m : Bool) (es : E)
  | bin (m : Bool) (o : Bo) (a b : E) | neg (a : E)
  | cmp (o : Co) (a b : E) | chain (o p : Co) (a b c : E)
  | and (a b : E) | or (a b : E) | not (a : E) | ifx (c a b : E)
  | idx (a i : E) | sl (m : Bool) (a lo hi : E) | rev (m : Bool) (a : E)
  | call (f : Nat) (es : E) | prim (p : Pr) (es : E) | isI (a : E) (t : Ty)
  | meth (o : E) (m : Mt) (es : E) | omet (o : E) (x : Str) (c f : Nat) (es : E) | fld (o : E) (x : Str) (c f : Nat)
  | callV (fs : List Nat) (a es : E) | mkI (c f : Nat) (es : E) | lenO (o : E) (x : Str) (c f : Nat) | eqO (n : Bool) (a b : E) (x : Str) (c f : Nat) | isX (a : E) (c : Nat)
  | lc (m : Bool) (t : Tg) (it : E) (c e : E) (own : List (Str × Nat))
  | zipL (m : Bool) (a b : E) | dnew (t : Bool)
  | gen (a : E) | rng1 (a : E) | rng2 (a b : E) | enum (a : E) | zip (a b : E)   -- what is walked

inductive S where
  | nil | cons (a b : S)
  | asg (t : Tg) (e : E) | sub (o i e : E) | fld (o : E) (x : Str) (c f : Nat) (e : E)
  | aug (i : Nat) (o : Bo) (e : E) | augS (o i : E) (p : Bo) (e : E)
  | ex (e : E) | ret (e : E) | retN | ifS (c : E) (a b : S) | whl (c : E) (b : S) | forS (t : Tg) (it : E) (b : S) | forD (t : Tg) (i : Nat) (b : S)
  | brk | cnt | pass | raise (c : Nat) (e : E) | tryS (k i f : Nat) (x : Str) (b : S)

def kyD : Ky → D
  | .inl i => .int i
  | .inr x => .str x
def kOf : D → Option Ky
  | .int i => some (.inl i)
  | .str x => some (.inr x)
  | _ => none
def ksOf : List D → Option (List Ky)
  | [] => some []
  | d :: ds => match kOf d, ksOf ds with
    | some k, some ks => some (k :: ks)
    | _, _ => none
def res (h : MH) : Nat → D → D
  | 0, d => d
  | n + 1, d => match d with
    | .ref k => (match h[k]? with
      | some (.lst xs) => .lst (xs.map (res h n))
      | _ => .ref k)
    | .tup xs => .tup (xs.map (res h n))
    | .lst xs => .lst (xs.map (res h n))
    | d => d
def okD : Nat → D → Bool
  | 0, d => (match d with
    | .non => true
    | .bl _ => true
    | .int _ => true
    | .scr _ => true
    | .str x => PyData.strOk x
    | _ => false)
  | n + 1, d => (match d with
    | .non => true
    | .bl _ => true
    | .int _ => true
    | .scr _ => true
    | .str x => PyData.strOk x
    | .tup xs => xs.all (okD n)
    | .lst xs => xs.all (okD n)
    | _ => false)
def ktup : D → Option (List Ky)
  | .tup ks => ksOf ks
  | _ => none
def isNon : D → Bool
  | .non => true
  | _ => false
def eqI : List Int → List D → Bool
  | [], [] => true
  | i :: is, .int j :: ds => decide (i = j) && eqI is ds
  | i :: is, .bl b :: ds => decide (i = if b then 1 else 0) && eqI is ds
  | _, _ => false
mutual
def eqD : D → D → Bool
  | .non, .non => true
  | .bl a, .bl b => a == b
  | .bl a, .int j => decide ((if a then 1 else 0) = j)
  | .int i, .bl b => decide (i = if b then 1 else 0)
  | .int i, .int j => decide (i = j)
  | .str x, .str y => decide (x = y)
  | .tup xs, .tup ys => eqL xs ys
  | .lst xs, .lst ys => eqL xs ys
  | .scr ns, .lst ys => eqI ns ys
  | .lst ys, .scr ns => eqI ns ys
  | .scr ns, .scr ms => decide (ns = ms)
  | _, _ => false
def eqL : List D → List D → Bool
  | [], [] => true
  | x :: xs, y :: ys => eqD x y && eqL xs ys
  | _, _ => false
end
def items (h : MH) : D → Option (List D)
  | .tup xs => some xs
  | .lst xs => some xs
  | .scr ns => some (ns.map .int)
  | .ref n => match h[n]? with
    | some (.lst xs) => some xs
    | _ => none
  | _ => none
def lits (h : MH) : D → Option (List D)
  | .lst xs => some xs
  | .ref n => match h[n]? with
    | some (.lst xs) => some xs
    | _ => none
  | _ => none
def intsD : List D → Option (List Int)
  | [] => some []
  | .int i :: r => match intsD r with
    | some is => some (i :: is)
    | none => none
  | _ => none
def blsD : List D → Option (List Bool)
  | [] => some []
  | .bl i :: r => match blsD r with
    | some is => some (i :: is)
    | none => none
  | _ => none
def ixN (n : Nat) (i : Int) : Option Nat :=
  if 0 ≤ i then if i.toNat < n then some i.toNat else none
  else if 0 ≤ i + n then some (i + n).toNat else none
def atI {α : Type} (xs : List α) (i : Int) : Option α := match ixN xs.length i with
  | some j => xs[j]?
  | none => none
def mk (m : Bool) (xs : List D) (h : MH) : R D := if m then .ok (.ref h.length) (h ++ [.lst xs]) else .ok (.lst xs) h
def big : Nat := 1000000
def small (i : Int) : Bool := decide (i.natAbs < 2 ^ 64)
def lookK {α κ : Type} [DecidableEq κ] : List (κ × α) → κ → Option α
  | [], _ => none
  | (k, v) :: r, q => if k = q then some v else lookK r q
def putK {α κ : Type} [DecidableEq κ] (kvs : List (κ × α)) (q : κ) (v : α) : List (κ × α) :=
  if kvs.any (fun kv => decide (kv.1 = q)) = true then kvs.map fun kv => if kv.1 = q then (kv.1, v) else kv else kvs ++ [(q, v)]
def dget (h : MH) (d k : D) : Option (Option D) := match d with
  | .dK kvs => (kOf k).map fun q => lookK kvs q
  | .dT kvs => (ktup k).map fun q => lookK kvs q
  | .ref n => match h[n]? with
    | some (.dK _ kvs) => (kOf k).map fun q => lookK kvs q
    | some (.dT _ kvs) => (ktup k).map fun q => lookK kvs q
    | _ => none
  | _ => none
def dput (h : MH) (d k v : D) : Option MH := match d with
  | .ref n => match h[n]? with
    | some (.dK false kvs) => if kvs.length < big then (kOf k).map fun q => h.set n (.dK false (putK kvs q v)) else none
    | some (.dT false kvs) => if kvs.length < big then (ktup k).map fun q => h.set n (.dT false (putK kvs q v)) else none
    | _ => none
  | _ => none
def lexLt : List Int → List Int → Bool
  | [], [] => false
  | [], _ :: _ => true
  | _ :: _, [] => false
  | x :: xs, y :: ys => if x = y then lexLt xs ys else decide (x < y)

def int2 (f : Int → Int → R D) (a b : D) : R D := match a with
  | .int i => (match b with
    | .int j => f i j
    | _ => .stuck)
  | _ => .stuck
def addD (m : Bool) (a b : D) (h : MH) : R D := match a with
  | .int i => (match b with
    | .int j => .ok (.int (i + j)) h
    | _ => .stuck)
  | .str x => (match b with
    | .str y => if x.length + y.length ≤ big then .ok (.str (x ++ y)) h else .stuck
    | _ => .stuck)
  | .tup xs => (match b with
    | .tup ys => if xs.length + ys.length ≤ big then .ok (.tup (xs ++ ys)) h else .stuck
    | _ => .stuck)
  | a => (match lits h a with
    | some xs => (match lits h b with
      | some ys => if xs.length + ys.length ≤ big then mk m (xs ++ ys) h else .stuck
      | none => .stuck)
    | none => .stuck)
def mulD (m : Bool) (a b : D) (h : MH) : R D := match b with
  | .int j => (match a with
    | .int i => if small i || small j || (decide (i.natAbs < 2 ^ 4000) && decide (j.natAbs < 2 ^ 4000)) then .ok (.int (i * j)) h else .stuck
    | .tup xs => if !xs.isEmpty && decide (1 ≤ j) && decide (j ≤ 1000) && decide (xs.length ≤ 1000) then .ok (.tup (List.replicate j.toNat xs).flatten) h else .stuck
    | a => (match lits h a with
      | some xs => if decide (j < 2 ^ 60) && decide (-(2 ^ 60) < j) && decide (xs.length * j.toNat ≤ big) then mk m (List.replicate j.toNat xs).flatten h else .stuck
      | none => .stuck))
  | _ => .stuck
def bop (m : Bool) (o : Bo) (a b : D) (h : MH) : R D := match o with
  | .add => addD m a b h
  | .sub => int2 (fun i j => .ok (.int (i - j)) h) a b
  | .mul => mulD m a b h
  | .fdiv => int2 (fun i j => if decide (0 < j) && decide (j.natAbs < 2 ^ 8000) then .ok (.int (i / j)) h else if decide (j ≠ 0) && decide (j.natAbs < 2 ^ 8000) then .ok (.int (i.fdiv j)) h else .stuck) a b
  | .mod => int2 (fun i j => if 0 < j then .ok (.int (i % j)) h else if j ≠ 0 then .ok (.int (i.fmod j)) h else .stuck) a b
  | .pow => int2 (fun i j => if decide (0 ≤ j) && decide (j ≤ 1000000) && small i then .ok (.int (i ^ j.toNat)) h else .stuck) a b
  | .band => int2 (fun i j => if decide (0 ≤ i) && decide (j = 1) then .ok (.int (i % 2)) h else .stuck) a b
  | .shr => int2 (fun i j => if 0 ≤ j then .ok (.int (i / 2 ^ j.toNat)) h else .stuck) a b

def cmpI (o : Co) (i j : Int) : Option Bool := match o with
  | .eq => some (decide (i = j))
  | .ne => some (!decide (i = j))
  | .lt => some (decide (i < j))
  | .le => some (decide (i ≤ j))
  | .gt => some (decide (j < i))
  | .ge => some (decide (j ≤ i))
  | _ => none
def inL (h : MH) (a : D) (xs : List D) : Option Bool := if okD 8 (res h 8 a) && (xs.map (res h 8)).all (okD 8) then some ((xs.map (res h 8)).any fun x => eqD x (res h 8 a)) else none
def inD (h : MH) (a b : D) : Option Bool := match b with
  | .tup xs => inL h a xs
  | .lst xs => inL h a xs
  | .ref n => (match h[n]? with
    | some (.lst xs) => inL h a xs
    | _ => (dget h b a).map Option.isSome)
  | .str y => (match a with
    | .str x => if x.length = 1 then some (y.cps.toList.any fun c => decide (some c = x.cps.toList.head?)) else none
    | _ => none)
  | b => (dget h b a).map Option.isSome
def eqq (h : MH) (a b : D) : Option Bool := if okD 8 (res h 8 a) && okD 8 (res h 8 b) then some (eqD (res h 8 a) (res h 8 b)) else none
def ordD (o : Co) (a b : D) : Option Bool := match a with
  | .int i => (match b with
    | .int j => cmpI o i j
    | _ => none)
  | .tup xs => (match b with
    | .tup ys => (match o with
      | .lt => (match intsD xs with
        | some is => (match intsD ys with
          | some js => some (lexLt is js)
          | none => none)
        | none => none)
      | _ => none)
    | _ => none)
  | _ => none
def isD (a b : D) : Option Bool := match b with
  | .non => some (isNon a)
  | .bl y => (match a with
    | .bl x => some (decide (x = y))
    | _ => none)
  | _ => none
def cop (o : Co) (a b : D) (h : MH) : Option Bool := match o with
  | .eq => eqq h a b
  | .ne => (eqq h a b).map not
  | .lt => ordD .lt a b
  | .le => ordD .le a b
  | .gt => ordD .gt a b
  | .ge => ordD .ge a b
  | .is => isD a b
  | .isn => (isD a b).map not
  | .inn => inD h a b
  | .nin => (inD h a b).map not
def idxI (xs : Option (List D)) (i : D) : Option D := match i with
  | .int k => xs.bind fun xs => atI xs k
  | _ => none
def idxS (x : Str) (i : D) : Option D := match i with
  | .int k => if x.length ≤ big then (atI x.cps.toList k).map fun c => .str ⟨#[c]⟩ else none
  | _ => none
def idxD (a i : D) (h : MH) : Option D := match a with
  | .str x => idxS x i
  | .dK _ => (dget h a i).bind id
  | .dT _ => (dget h a i).bind id
  | .ref n => (match h[n]? with
    | some (.lst xs) => idxI (some xs) i
    | _ => (dget h a i).bind id)
  | a => idxI (items h a) i
def cutI (n d : Nat) : Option Int → Nat
  | none => d
  | some v => min (if v < 0 then v + (n : Int) else v).toNat n
def cutL {α : Type} (xs : List α) (lo hi : Option Int) : List α := (xs.drop (cutI xs.length 0 lo)).take (cutI xs.length xs.length hi - cutI xs.length 0 lo)
def slD (m : Bool) (a : D) (lo hi : Option Int) (h : MH) : R D := match a with
  | .tup xs => .ok (.tup (cutL xs lo hi)) h
  | .str x => if x.length ≤ big then .ok (.str ⟨(cutL x.cps.toList lo hi).toArray⟩) h else .stuck
  | a => match lits h a with
    | some xs => mk m (cutL xs lo hi) h
    | none => .stuck
def revD (m : Bool) (a : D) (h : MH) : R D := match a with
  | .tup xs => .ok (.tup xs.reverse) h
  | a => match lits h a with
    | some xs => mk m xs.reverse h
    | none => .stuck
def cmpM (o : Co) (a b : D) (h : MH) : R D := match cop o a b h with
  | some k => .ok (.bl k) h
  | none => .stuck
def idxM (a i : D) (h : MH) : R D := match idxD a i h with
  | some d => .ok d h
  | none => .stuck
inductive Tn where | non | bool | int | str | tuple | list | dict
  deriving DecidableEq
def tnOf (h : MH) : D → Option Tn
  | .non => some .non
  | .bl _ => some .bool
  | .int _ => some .int
  | .str _ => some .str
  | .tup _ => some .tuple
  | .lst _ => some .list
  | .dK _ => some .dict
  | .dT _ => some .dict
  | .ref n => (match h[n]? with
    | some (.lst _) => some .list
    | some (.dK false _) => some .dict
    | some (.dT false _) => some .dict
    | _ => none)
  | _ => none
def tnIs : Tn → Ty → Option Bool
  | a, .int => some (decide (a = .int) || decide (a = .bool))
  | a, .bool => some (decide (a = .bool))
  | a, .str => some (decide (a = .str))
  | a, .tuple => some (decide (a = .tuple))
  | a, .list => some (decide (a = .list))
  | _, .cls _ => none
def isTy (h : MH) (a : D) (t : Ty) : Option Bool := match tnOf h a with
  | some n => tnIs n t
  | none => (match a with
    | .ref n => (match h[n]? with
      | some (.ins c' _) => (match t with
        | .cls c => some (decide (c = c'))
        | _ => none)
      | _ => none)
    | _ => none)
def isM (t : Ty) (a : D) (h : MH) : R D := match isTy h a t with
  | some k => .ok (.bl k) h
  | none => .stuck
def minI : Int → List Int → Int
  | i, [] => i
  | i, j :: r => minI (if j < i then j else i) r
def maxI : Int → List Int → Int
  | i, [] => i
  | i, j :: r => maxI (if j > i then j else i) r
def prsT : List D → Option (List (List Ky × D))
  | [] => some []
  | .tup [.tup k, v] :: r => match ksOf k, prsT r with
    | some q, some ps => some ((q, v) :: ps)
    | _, _ => none
  | _ => none
def merge {α κ : Type} [DecidableEq κ] (kvs : List (κ × α)) : List (κ × α) → List (κ × α)
  | [] => kvs
  | (k, v) :: r => merge (putK kvs k v) r
def lenD (a : D) (h : MH) : R D := match a with
  | .str x => if x.length ≤ big then .ok (.int x.length) h else .stuck
  | a => match items h a with
    | some xs => .ok (.int xs.length) h
    | none => .stuck
def blsOf (f : List Bool → Bool) (a : D) (h : MH) : R D := match (lits h a).bind blsD with
  | some bs => .ok (.bl (f bs)) h
  | none => .stuck
def sumD (a : D) (h : MH) : R D := match (items h a).bind intsD with
  | some is => .ok (.int is.sum) h
  | none => .stuck
def listD (m : Bool) (a : D) (h : MH) : R D := match items h a with
  | some xs => mk m xs h
  | none => .stuck
def tupleD (a : D) (h : MH) : R D := match items h a with
  | some xs => .ok (.tup xs) h
  | none => .stuck
def dictD (m : Bool) (a : D) (h : MH) : R D := match (lits h a).bind prsT with
  | some ps => if m then .ok (.ref h.length) (h ++ [.dT false (merge [] ps)]) else .ok (.dT (merge [] ps)) h
  | none => .stuck
def bestD (f : Int → List Int → Int) (a : D) (h : MH) : R D := match (lits h a).bind intsD with
  | some (i :: is) => .ok (.int (f i is)) h
  | _ => .stuck
def absD (a : D) (h : MH) : R D := match a with
  | .int i => .ok (.int (if i < 0 then -i else i)) h
  | _ => .stuck
def prI : List D → Option (List (Int × Int))
  | [] => some []
  | .tup [.int i, .int j] :: r => match prI r with
    | some ps => some ((i, j) :: ps)
    | none => none
  | _ => none
def leP (a b : Int × Int) : Bool := decide (a.1 < b.1) || (decide (a.1 = b.1) && decide (a.2 ≤ b.2))
def prDD (p : Int × Int) : D := .tup [.int p.1, .int p.2]
def sortI (is : List Int) : List Int := is.mergeSort fun a b => decide (a ≤ b)
def sortP (ps : List (Int × Int)) : List (Int × Int) := ps.mergeSort leP
def sortL (xs : List D) : Option (List D) := match intsD xs with
  | some is => some ((sortI is).map .int)
  | none => (prI xs).map fun ps => (sortP ps).map prDD
def sortedD (m : Bool) (a : D) (h : MH) : R D := match (lits h a).bind sortL with
  | some ys => if ys.length ≤ 4000 then mk m ys h else .stuck
  | none => .stuck
def setL0 (xs : List D) : Option (List D) := match intsD xs with
  | some is => some (is.eraseDups.map .int)
  | none => (prI xs).map fun ps => ps.eraseDups.map prDD
def sortsetD (m : Bool) (a : D) (h : MH) : R D := match (items h a).bind setL0 with
  | some zs => (match sortL zs with
    | some ys => if ys.length ≤ 60 then mk m ys h else .stuck
    | none => .stuck)
  | none => .stuck
def lensetD (a : D) (h : MH) : R D := match (items h a).bind setL0 with
  | some zs => if zs.length ≤ 60 then .ok (.int zs.length) h else .stuck
  | none => .stuck
def keyI : List (Ky × D) → Option (List Int)
  | [] => some []
  | (.inl i, _) :: r => match keyI r with
    | some is => some (i :: is)
    | none => none
  | _ => none
def dictK (h : MH) : D → Option (List (Ky × D))
  | .dK kvs => some kvs
  | .ref n => match h[n]? with
    | some (.dK false kvs) => some kvs
    | _ => none
  | _ => none
def keysD (m : Bool) (a : D) (h : MH) : R D := match (dictK h a).bind keyI with
  | some is => if is.length ≤ 60 then mk m ((sortI is).map .int) h else .stuck
  | none => .stuck
def prim1 (p : Pr) (a : D) (h : MH) : R D := match p with
  | .len => lenD a h
  | .all => blsOf (fun bs => bs.all id) a h
  | .any => blsOf (fun bs => bs.any id) a h
  | .sum => sumD a h
  | .list m => listD m a h
  | .tuple => tupleD a h
  | .dict m => dictD m a h
  | .min1 => bestD minI a h
  | .max1 => bestD maxI a h
  | .abs => absD a h
  | .sorted m => sortedD m a h
  | .sortset m => sortsetD m a h
  | .lenset => lensetD a h
  | .keys m => keysD m a h
  | _ => .stuck
def zipD : List D → List D → List D
  | x :: xs, y :: ys => .tup [x, y] :: zipD xs ys
  | _, _ => []
def dzipD (m : Bool) (a b : D) (h : MH) : R D := match lits h a with
  | some xs => (match lits h b with
    | some ys => dictD m (.lst (zipD xs ys)) h
    | none => .stuck)
  | none => .stuck
def prim2 (p : Pr) (a b : D) (h : MH) : R D := match p with
  | .min2 => int2 (fun i j => .ok (.int (if j < i then j else i)) h) a b
  | .max2 => int2 (fun i j => .ok (.int (if j > i then j else i)) h) a b
  | .dzip m => dzipD m a b h
  | _ => .stuck
def prim (p : Pr) (as : List D) (h : MH) : R D := match as with
  | [a] => prim1 p a h
  | [a, b] => prim2 p a b h
  | _ => .stuck
def appD (n : Nat) (x : D) (h : MH) : R D := match h[n]? with
  | some (.lst xs) => if xs.length < big then .ok .non (h.set n (.lst (xs ++ [x]))) else .stuck
  | _ => .stuck
def extD (n : Nat) (a : D) (h : MH) : R D := match h[n]? with
  | some (.lst xs) => (match lits h a with
    | some ys => if xs.length + ys.length ≤ big then .ok .non (h.set n (.lst (xs ++ ys))) else .stuck
    | none => .stuck)
  | _ => .stuck
def getD1 (d k : D) (h : MH) : R D := match dget h d k with
  | some o => .ok (o.getD .non) h
  | none => .stuck
def getD2 (d k x : D) (h : MH) : R D := match dget h d k with
  | some o => .ok (o.getD x) h
  | none => .stuck
def countD (o a : D) (h : MH) : R D := match lits h o with
  | some xs => (match a with
    | .bl b => (match blsD xs with
      | some bs => .ok (.int (bs.count b : Nat)) h
      | none => .stuck)
    | .int i => (match intsD xs with
      | some is => .ok (.int (is.count i : Nat)) h
      | none => .stuck)
    | _ => .stuck)
  | none => .stuck
def whereD (a : D) : List D → Option Nat
  | [] => none
  | x :: xs => if eqD x a = true then some 0 else (whereD a xs).map (· + 1)
def indexD (o a : D) (h : MH) : R D := match lits h o with
  | some xs => if okD 7 (res h 7 a) && (xs.map (res h 7)).all (okD 7) then (match whereD (res h 7 a) (xs.map (res h 7)) with
    | some j => .ok (.int (j : Nat)) h
    | none => .stuck) else .stuck
  | none => .stuck
def popD (n : Nat) (a : D) (h : MH) : R D := match h[n]? with
  | some (.lst xs) => (match a with
    | .int i => (match ixN xs.length i with
      | some j => (match xs[j]? with
        | some d => .ok d (h.set n (.lst (xs.eraseIdx j)))
        | none => .stuck)
      | none => .stuck)
    | _ => .stuck)
  | _ => .stuck
def met1 (m : Mt) (o a : D) (h : MH) : R D := match m with
  | .append => (match o with
    | .ref n => appD n a h
    | _ => .stuck)
  | .extend => (match o with
    | .ref n => extD n a h
    | _ => .stuck)
  | .get => getD1 o a h
  | .count => countD o a h
  | .index => indexD o a h
  | .pop => (match o with
    | .ref n => popD n a h
    | _ => .stuck)
  | _ => .stuck
def met2 (m : Mt) (o a b : D) (h : MH) : R D := match m with
  | .get => getD2 o a b h
  | _ => .stuck
def negM (x : D) (h : MH) : R D := match x with
  | .int i => .ok (.int (-i)) h
  | _ => .stuck
def fldM (f : Nat) (x : D) (h : MH) : R D := match x with
  | .ref n => (match h[n]? with
    | some (.ins _ fs) => (match lookK fs f with
      | some d => .ok d h
      | none => .stuck)
    | _ => .stuck)
  | _ => .stuck
def recvT : Mt → Tn
  | .append => .list
  | .extend => .list
  | .pop => .list
  | .count => .list
  | .index => .list
  | .join => .str
  | .split _ => .str
  | .endswith => .str
  | .get => .dict
def metD (m : Mt) (o : D) (as : List D) (h : MH) : R D := match as with
  | [a] => met1 m o a h
  | [a, b] => met2 m o a b h
  | _ => .stuck
abbrev FT := Nat → List D → MH → R D
def insC (h : MH) : D → Option Nat
  | .ref n => match h[n]? with
    | some (.ins c _) => some c
    | _ => none
  | _ => none
def fnOf (fs : List Nat) : D → Option (Nat × List Int)
  | .fn f dl => if fs.contains f = true then some (f, dl) else none
  | _ => none
def mkN (ft : FT) (c f : Nat) (ds : List D) (h : MH) : R D := (ft f (.ref h.length :: ds) (h ++ [.ins c []])).bind fun d h1 => if isNon d = true then .ok (.ref h.length) h1 else .stuck
def lenR (d : D) (h : MH) : R D := match d with
  | .int j => if decide (0 ≤ j) && decide (j ≤ (big : Int)) then .ok (.int j) h else .stuck
  | _ => .stuck
def eqR (n : Bool) (d : D) (h : MH) : R D := match d with
  | .bl k => .ok (.bl (if n = true then !k else k)) h
  | _ => .stuck
def isXM (c : Nat) (x : D) (h : MH) : R D := match x with
  | .xv c' => .ok (.bl (decide (c = 100) || decide (c = c'))) h
  | _ => .stuck
inductive It where | its (xs : List D) | hp (n : Nat) (e : Bool)
def wrapI (e : Bool) (i : Nat) (d : D) : D := if e = true then .tup [.int (i : Nat), d] else d
inductive Fl where
  | nx (e : Ev) (h : MH) | ret (d : D) (h : MH) | brk (e : Ev) (h : MH) | cnt (e : Ev) (h : MH) | exn (c : Nat) (p : Option D) (h : MH) | stuck

def vget (e : Ev) (i : Nat) : Option D := match e[i]? with
  | some (some d) => some d
  | _ => none
def setL : List Nat → List D → Ev → Option Ev
  | [], [], e => some e
  | i :: is, d :: ds, e => setL is ds (e.set i (some d))
  | _, _, _ => none
def setT (t : Tg) (d : D) (e : Ev) : Option Ev := match t with
  | .nm i => some (e.set i (some d))
  | .tp is => (match d with
    | .tup ds => setL is ds e
    | _ => none)
  | .tq i is => (match d with
    | .tup [a, .tup ds] => setL is ds (e.set i (some a))
    | _ => none)
def wipeE (e : Ev) : List Nat → Ev
  | [] => e
  | v :: vs => (wipeE e vs).set v none
def itOf (h : MH) (d : D) : Option It := match d with
  | .ref n => match h[n]? with
    | some (.lst _) => some (.hp n false)
    | _ => none
  | .tup xs => some (.its xs)
  | .lst xs => some (.its xs)
  | _ => none
def plainIts (d : D) : Option (List D) := match d with
  | .tup xs => some xs
  | .lst xs => some xs
  | _ => none
def enumL : Nat → List D → List D
  | _, [] => []
  | i, x :: xs => .tup [.int i, x] :: enumL (i + 1) xs
def zipM (ds : List D) (h : MH) : R D := match ds with
  | [x, y] => (match lits h x, lits h y with
    | some xs, some ys => .ok (.lst (zipD xs ys)) h
    | _, _ => .stuck)
  | _ => .stuck
def enumOf (h : MH) (d : D) : Option It := match d with
  | .ref n => match h[n]? with
    | some (.lst _) => some (.hp n true)
    | _ => none
  | .tup xs => some (.its (enumL 0 xs))
  | .lst xs => some (.its (enumL 0 xs))
  | _ => none
def partI : List D → Option (Option Int)
  | [] => some none
  | [.int i] => some (some i)
  | _ => none
def lcL (f : D → MH → R (Option D)) : List D → MH → R (List D)
  | [], h => .ok [] h
  | d :: ds, h => match f d h with
    | .ok none h1 => lcL f ds h1
    | .ok (some x) h1 => match lcL f ds h1 with
      | .ok xs h2 => .ok (x :: xs) h2
      | _ => .stuck
    | _ => .stuck
def lcH (f : D → MH → R (Option D)) (n : Nat) (e : Bool) : Nat → Nat → MH → R (List D)
  | 0, i, h => match h[n]? with
    | some (.lst xs) => if xs.length ≤ i then .ok [] h else .stuck
    | _ => .stuck
  | k + 1, i, h => match h[n]? with
    | some (.lst xs) => match xs[i]? with
      | none => .ok [] h
      | some d => match f (wrapI e i d) h with
        | .ok none h1 => lcH f n e k (i + 1) h1
        | .ok (some x) h1 => match lcH f n e k (i + 1) h1 with
          | .ok xs h2 => .ok (x :: xs) h2
          | _ => .stuck
        | _ => .stuck
    | _ => .stuck
def lenH (h : MH) (n : Nat) : Nat := match h[n]? with
  | some (.lst xs) => xs.length
  | _ => 0
def lcB (t : Tg) (c el : Ev → MH → R D) (w0 : Ev) (d : D) (h : MH) : R (Option D) := match setT t d w0 with
  | some e1 => (c e1 h).bind fun k h => (match k with
    | .bl b => if b = true then (el e1 h).bind fun x h => .ok (some x) h else .ok none h
    | _ => .stuck)
  | none => .stuck
def lcR (m : Bool) (f : D → MH → R (Option D)) (w : It) (h : MH) : R D := match w with
  | .its xs => (match lcL f xs h with
    | .ok ys h => mk m ys h
    | _ => .stuck)
  | .hp n e => (match lcH f n e (lenH h n) 0 h with
    | .ok ys h => mk m ys h
    | _ => .stuck)
section
variable (ft : FT)
mutual
def evE : E → Ev → MH → R D
  | .var i, e, h => match vget e i with
    | some d => .ok d h
    | none => .stuck
  | .non, _, h => .ok .non h
  | .bl b, _, h => .ok (.bl b) h
  | .int i, _, h => .ok (.int i) h
  | .str x, _, h => .ok (.str x) h
  | .gI _ i, _, h => .ok (.int i) h
  | .gS _ x, _, h => .ok (.str x) h
  | .gF _ f dl, _, h => .ok (.fn f dl) h
  | .nil, _, _ => .stuck
  | .cons _ _, _, _ => .stuck
  | .tup es, e, h => (evA es e h).bind fun ds h => .ok (.tup ds) h
  | .lst m es, e, h => (evA es e h).bind fun ds h => mk m ds h
  | .bin m o a b, e, h => (evE a e h).bind fun x h => (evE b e h).bind fun y h => bop m o x y h
  | .neg a, e, h => (evE a e h).bind fun x h => negM x h
  | .cmp o a b, e, h => (evE a e h).bind fun x h => (evE b e h).bind fun y h => cmpM o x y h
  | .chain o p a b c, e, h => (evE a e h).bind fun x h => (evE b e h).bind fun y h => (cmpM o x y h).bind fun k h => match k with
    | .bl k => if k = true then (evE c e h).bind fun z h => cmpM p y z h else .ok (.bl false) h
    | _ => .stuck
  | .and a b, e, h => (evE a e h).bind fun x h => match x with
    | .bl k => if k = true then evE b e h else .ok (.bl false) h
    | _ => .stuck
  | .or a b, e, h => (evE a e h).bind fun x h => match x with
    | .bl k => if k = true then .ok (.bl true) h else evE b e h
    | _ => .stuck
  | .not a, e, h => (evE a e h).bind fun x h => match x with
    | .bl k => .ok (.bl (!k)) h
    | _ => .stuck
  | .ifx c a b, e, h => (evE c e h).bind fun x h => match x with
    | .bl k => if k = true then evE a e h else evE b e h
    | _ => .stuck
  | .idx a i, e, h => (evE a e h).bind fun x h => (evE i e h).bind fun y h => idxM x y h
  | .sl m a lo hi, e, h => (evE a e h).bind fun x h => (evA lo e h).bind fun l h => match partI l with
    | some lo => (evA hi e h).bind fun u h => (match partI u with
      | some hi => slD m x lo hi h
      | none => .stuck)
    | none => .stuck
  | .rev m a, e, h => (evE a e h).bind fun x h => revD m x h
  | .call f es, e, h => (evA es e h).bind fun ds h => ft f ds h
  | .prim p es, e, h => (evA es e h).bind fun ds h => prim p ds h
  | .isI a t, e, h => (evE a e h).bind fun x h => isM t x h
  | .meth o m es, e, h => (evE o e h).bind fun x h => if tnOf h x = some (recvT m) then (evA es e h).bind fun ds h => metD m x ds h else .stuck
  | .omet o _ c f es, e, h => (evE o e h).bind fun x h => if insC h x = some c then (evA es e h).bind fun ds h => ft f (x :: ds) h else .stuck
  | .fld o _ c f, e, h => (evE o e h).bind fun x h => if insC h x = some c then fldM f x h else .stuck
  | .callV fs a es, e, h => (evE a e h).bind fun x h => match fnOf fs x with
    | some p => (evA es e h).bind fun ds h => ft p.1 (ds ++ p.2.map .int) h
    | none => .stuck
  | .mkI c f es, e, h => (evA es e h).bind fun ds h => mkN ft c f ds h
  | .lenO o _ c f, e, h => (evE o e h).bind fun x h => if insC h x = some c then (ft f [x] h).bind lenR else .stuck
  | .eqO n a b _ c f, e, h => (evE a e h).bind fun x h => (evE b e h).bind fun y h => if insC h x = some c ∧ insC h y = some c then (ft f [x, y] h).bind (eqR n) else .stuck
  | .isX a c, e, h => (evE a e h).bind fun x h => isXM c x h
  | .lc m t it c el own, e, h => (evI it e h).bind fun w h => lcR m (lcB t (evE c) (evE el) (wipeE e (own.map (·.2)))) w h
  | .zipL m a b, e, h => (evE a e h).bind fun x h => (evE b e h).bind fun y h => if m then .stuck else zipM [x, y] h
  | .dnew t, _, h => .ok (.ref h.length) (h ++ [if t then .dT false [] else .dK false []])
  | .gen _, _, _ => .stuck
  | .rng1 _, _, _ => .stuck
  | .rng2 _ _, _, _ => .stuck
  | .enum _, _, _ => .stuck
  | .zip _ _, _, _ => .stuck
def evA : E → Ev → MH → R (List D)
  | .nil, _, h => .ok [] h
  | .cons a r, e, h => (evE a e h).bind fun x h => (evA r e h).bind fun xs h => .ok (x :: xs) h
  | _, _, _ => .stuck
def evI : E → Ev → MH → R It
  | .rng1 a, e, h => (evE a e h).bind fun x h => match x with
    | .int j => if decide (j ≤ (big : Int)) && decide (-(2 ^ 60) < j) then .ok (.its ((List.range j.toNat).map fun i => .int (i : Nat))) h else .stuck
    | _ => .stuck
  | .rng2 a b, e, h => (evE a e h).bind fun x h => (evE b e h).bind fun y h => match x, y with
    | .int i, .int j => if decide (j ≤ (big : Int)) && decide (-(2 ^ 60) < j) && decide (0 ≤ i) && decide (i ≤ (big : Int)) then .ok (.its ((List.range (j - i).toNat).map fun k => .int (i + (k : Nat)))) h else .stuck
    | _, _ => .stuck
  | .enum a, e, h => (evE a e h).bind fun x h => match enumOf h x with
    | some w => .ok w h
    | none => .stuck
  | .zip a b, e, h => (evE a e h).bind fun x h => (evE b e h).bind fun y h => match plainIts x, plainIts y with
    | some xs, some ys => .ok (.its (zipD xs ys)) h
    | _, _ => .stuck
  | .gen a, e, h => (evE a e h).bind fun d h => match itOf h d with
    | some w => .ok w h
    | none => .stuck
  | _, _, _ => .stuck
end
end

def whL (c : Ev → MH → R D) (b : Ev → MH → Fl) : Nat → Ev → MH → Fl
  | 0, _, _ => .stuck
  | n + 1, e, h => match c e h with
    | .ok (.bl k) h1 => if k = true then (match b e h1 with
      | .nx e2 h2 => whL c b n e2 h2
      | .cnt e2 h2 => whL c b n e2 h2
      | .brk e2 h2 => .nx e2 h2
      | r => r) else .nx e h1
    | .exn k p h1 => .exn k p h1
    | _ => .stuck
def forL (t : Tg) (b : Ev → MH → Fl) : List D → Ev → MH → Fl
  | [], e, h => .nx e h
  | d :: ds, e, h => match setT t d e with
    | none => .stuck
    | some e1 => match b e1 h with
      | .nx e2 h2 => forL t b ds e2 h2
      | .cnt e2 h2 => forL t b ds e2 h2
      | .brk e2 h2 => .nx e2 h2
      | r => r
def forH (t : Tg) (b : Ev → MH → Fl) (n : Nat) (w : Bool) : Nat → Nat → Ev → MH → Fl
  | 0, i, e, h => match h[n]? with
    | some (.lst xs) => if xs.length ≤ i then .nx e h else .stuck
    | _ => .stuck
  | k + 1, i, e, h => match h[n]? with
    | some (.lst xs) => match xs[i]? with
      | none => .nx e h
      | some d => match setT t (wrapI w i d) e with
        | none => .stuck
        | some e1 => match b e1 h with
          | .nx e2 h2 => forH t b n w k (i + 1) e2 h2
          | .cnt e2 h2 => forH t b n w k (i + 1) e2 h2
          | .brk e2 h2 => .nx e2 h2
          | r => r
    | _ => .stuck
def keysH (h : MH) (n : Nat) : Option (List D × MH) := match h[n]? with
  | some (.dT false kvs) => some (kvs.map fun p => .tup (p.1.map kyD), h.set n (.dT true kvs))
  | some (.dK false kvs) => some (kvs.map fun p => kyD p.1, h.set n (.dK true kvs))
  | _ => none
def unlock (h : MH) (n : Nat) : Option MH := match h[n]? with
  | some (.dT true kvs) => some (h.set n (.dT false kvs))
  | some (.dK true kvs) => some (h.set n (.dK false kvs))
  | _ => none
def subL (n : Nat) (xs : List D) (i v : D) (h : MH) : Option MH := match i with
  | .int k => (ixN xs.length k).map fun j => h.set n (.lst (xs.set j v))
  | _ => none
def subD (o i v : D) (h : MH) : Option MH := match o with
  | .ref n => match h[n]? with
    | some (.lst xs) => subL n xs i v h
    | _ => dput h o i v
  | _ => none
def evS {α : Type} (r : R α) (k : α → MH → Fl) : Fl := match r with
  | .ok d h1 => k d h1
  | .exn c p h1 => .exn c p h1
  | .stuck => .stuck
def isRef : D → Bool
  | .ref _ => true
  | _ => false
def isInt : D → Option Int
  | .int i => some i
  | _ => none
def isStr : D → Option Str
  | .str i => some i
  | _ => none
def augO (o : Bo) (a b : D) (h : MH) : R D := match isInt a with
  | some i => (match isInt b with
    | some j => bop false o (.int i) (.int j) h
    | none => .stuck)
  | none => (match isStr a with
    | some x => (match isStr b with
      | some y => bop false o (.str x) (.str y) h
      | none => .stuck)
    | none => .stuck)
def augI (x k : D) (h : MH) : Option Int := if isRef x = true then (idxD x k h).bind isInt else none
def augW (b : Bo) (u : Int) (x k w : D) (e : Ev) (h : MH) : Fl := match isInt w with
  | some w => (match augO b (.int u) (.int w) h with
    | .ok v h4 => (match subD x k v h4 with
      | some h5 => .nx e h5
      | none => .stuck)
    | _ => .stuck)
  | none => .stuck
def fldW (f : Nat) (x v : D) (h : MH) : Option MH := match x with
  | .ref n => (match h[n]? with
    | some (.ins c fs) => if fs.length < 500 then some (h.set n (.ins c (putK fs f v))) else none
    | _ => none)
  | _ => none
def setM (t : Tg) (d : D) (e : Ev) (h : MH) : Fl := match setT t d e with
  | some e1 => .nx e1 h
  | none => .stuck
def subM (x k v : D) (e : Ev) (h : MH) : Fl := match subD x k v h with
  | some h4 => .nx e h4
  | none => .stuck
def augM (o : Bo) (i : Nat) (a b : D) (e : Ev) (h : MH) : Fl := match augO o a b h with
  | .ok v h2 => .nx (e.set i (some v)) h2
  | _ => .stuck
def ifK (d : D) (a b : MH → Fl) (h : MH) : Fl := match d with
  | .bl k => if k = true then a h else b h
  | _ => .stuck
def fldS (c f : Nat) (a v : D) (e : Ev) (h : MH) : Fl := if insC h a = some c then (match fldW f a v h with
    | some h => .nx e h
    | none => .stuck) else .stuck
def tryM (ft : FT) (k f : Nat) (x : Str) (r : Fl) : Fl := match r with
  | .exn c p h1 => (match k with
    | 0 => if c < 15 then (match ft f [.xv c] [] with
      | .ok (.tup [.str s, .int i]) _ => .ret (.tup [.str s, .int i]) h1
      | _ => .stuck) else .stuck
    | 1 => if c = 14 then .ret .non h1 else .stuck
    | _ => if c = 14 then (match p with
      | some d => .ret (.tup [.str x, d]) h1
      | none => .stuck) else .stuck)
  | r => r
def raiseM (c : Nat) (ds : List D) (h : MH) : Fl := match ds with
  | [] => .exn c none h
  | [d] => .exn c (some d) h
  | _ => .stuck
section
variable (ft : FT) (W : Nat)
def exS : S → Ev → MH → Fl
  | .nil, e, h => .nx e h
  | .cons a b, e, h => match exS a e h with
    | .nx e1 h1 => exS b e1 h1
    | r => r
  | .asg t x, e, h => evS (evE ft x e h) fun d h => setM t d e h
  | .sub o i x, e, h => evS (evE ft x e h) fun v h => evS (evE ft o e h) fun a h => evS (evE ft i e h) fun k h => subM a k v e h
  | .fld o _ c f x, e, h => evS (evE ft x e h) fun v h => evS (evE ft o e h) fun a h => fldS c f a v e h
  | .aug i o x, e, h => match vget e i with
    | some a => evS (evE ft x e h) fun b h => augM o i a b e h
    | none => .stuck
  | .augS o i p x, e, h => evS (evE ft o e h) fun a h => evS (evE ft i e h) fun k h => match augI a k h with
    | some u => evS (evE ft x e h) fun w h => augW p u a k w e h
    | none => .stuck
  | .ex x, e, h => evS (evE ft x e h) fun _ h => .nx e h
  | .ret x, e, h => evS (evE ft x e h) fun d h => .ret d h
  | .retN, _, h => .ret .non h
  | .ifS c a b, e, h => evS (evE ft c e h) fun d h => ifK d (exS a e) (exS b e) h
  | .whl c b, e, h => whL (evE ft c) (exS b) W e h
  | .forS t it b, e, h => match evI ft it e h with
    | .ok (.its xs) h1 => forL t (exS b) xs e h1
    | .ok (.hp n w) h1 => forH t (exS b) n w (lenH h1 n) 0 e h1
    | .exn c p h1 => .exn c p h1
    | .stuck => .stuck
  | .forD t i b, e, h => match vget e i with
    | some (.ref n) => (match keysH h n with
      | some (xs, h2) => (match forL t (exS b) xs e h2 with
        | .nx e3 h3 => (match unlock h3 n with
          | some h4 => .nx e3 h4
          | none => .stuck)
        | _ => .stuck)
      | none => .stuck)
    | _ => .stuck
  | .brk, e, h => .brk e h
  | .cnt, e, h => .cnt e h
  | .pass, e, h => .nx e h
  | .raise c x, e, h => evS (evA ft x e h) fun ds h => raiseM c ds h
  | .tryS k _ f x b, e, h => tryM ft k f x (exS b e h)
end
mutual
/-- no ref from b on -/
def cl (b : Nat) : D → Bool
  | .ref n => decide (n < b)
  | .tup xs => clL b xs
  | .lst xs => clL b xs
  | .dK kvs => clK b kvs
  | .dT kvs => clT b kvs
  | _ => true
def clL (b : Nat) : List D → Bool
  | [] => true
  | x :: xs => cl b x && clL b xs
def clK (b : Nat) : List (Ky × D) → Bool
  | [] => true
  | (_, x) :: xs => cl b x && clK b xs
def clT (b : Nat) : List (List Ky × D) → Bool
  | [] => true
  | (_, x) :: xs => cl b x && clT b xs
end
def clO (b : Nat) : MO → Bool
  | .lst xs => clL b xs
  | .dK _ kvs => clK b kvs
  | .dT _ kvs => clT b kvs
  | .ins _ fs => fs.all fun p => cl b p.2
def clH (b : Nat) (h : MH) : Bool := h.all (clO b)
def mapO {α β : Type} (f : α → Option β) : List α → Option (List β)
  | [] => some []
  | x :: xs => match f x with
    | some y => (match mapO f xs with
      | some ys => some (y :: ys)
      | none => none)
    | none => none
def fz (h : MH) (b : Nat) : Nat → D → Option D
  | 0, _ => none
  | n + 1, d => if cl b d then some d else match d with
    | .ref k => (match h[k]? with
      | some (.lst xs) => (mapO (fz h b n) xs).map .lst
      | some (.dK false kvs) => if clK b kvs then some (.dK kvs) else none
      | some (.dT false kvs) => if clT b kvs then some (.dT kvs) else none
      | _ => none)
    | .tup xs => (mapO (fz h b n) xs).map .tup
    | .lst xs => (mapO (fz h b n) xs).map .lst
    | _ => none
def fin (keep : Option Nat) (b : Nat) (d : D) (h : MH) : R D := match keep with
  | none => if h.length ≤ b then .ok d h else match fz h b 5 d with
    | some d1 => if clH b (h.take b) then .ok d1 (h.take b) else .stuck
    | none => .stuck
  | some k => if h.length ≤ b + k then .ok d h else if cl (b + k) d && clH (b + k) (h.take (b + k)) then .ok d (h.take (b + k)) else .stuck
def finX (keep : Option Nat) (b c : Nat) (p : Option D) (h : MH) : R D := match p with
  | none => (match fin keep b .non h with
    | .ok _ h1 => .exn c none h1
    | _ => .stuck)
  | some d => (match fin keep b d h with
    | .ok d1 h1 => .exn c (some d1) h1
    | _ => .stuck)
structure FI where
  np : Nat
  nn : Nat
  keep : Option Nat
  body : S
def WF : Nat := 100000
def callN (P : Nat → Option FI) : Nat → Nat → List D → MH → R D
  | 0, _, _, _ => .stuck
  | n + 1, f, as, h => match P f with
    | none => .stuck
    | some i => if as.length = i.np then (match exS (callN P n) WF i.body (as.map some ++ List.replicate (i.nn - as.length) none) h with
      | .nx _ h1 => fin i.keep h.length .non h1
      | .ret d h1 => fin i.keep h.length d h1
      | .exn c p h1 => finX i.keep h.length c p h1
      | _ => .stuck) else .stuck
end Mi
namespace Mi
open PySem PySem.Spec PyProof.Rows L2
abbrev St := L2.St
structure Tx where
  K : PySem.W.Frag
  ca : Nat → Addr
  xa : Nat → Addr
  fa : Nat → Addr
  fnm : Nat → Str
  okf : Nat → List Int → Prop
  xv : Nat → Option (Addr × Option Addr)
structure Gr where
  phi : List Addr
  fz : Addr → Prop
section
variable (T : Tx) (H : Hp) (g : Gr)
mutual
def RepV : D → V → Prop
  | .non, v => v = .non
  | .bl b, v => v = .bl b
  | .int i, v => v = .int i
  | .str x, v => v = .str x
  | .tup ds, v => ∃ a vs, v = .ref a ∧ H a = some (.tup vs) ∧ RepL ds vs
  | .lst ds, v => ∃ a vs, v = .ref a ∧ g.fz a ∧ H a = some (.lst vs) ∧ RepL ds vs
  | .dK kvs, v => ∃ a kk, v = .ref a ∧ g.fz a ∧ H a = some (.dK kk) ∧ RepK kvs kk
  | .dT kvs, v => ∃ a kk, v = .ref a ∧ g.fz a ∧ H a = some (.dT kk) ∧ RepT kvs kk
  | .ref n, v => ∃ a, v = .ref a ∧ g.phi[n]? = some a
  | .scr ns, v => ∃ a, v = .ref a ∧ ((∃ o, H a = some (.frz o (.lst (ns.map V.int))) ∧ a ∉ g.phi) ∨ (∀ H', SqL T.K H' a (ns.map V.int)))
  | .fn f dl, v => v = .ref (T.fa f) ∧ T.okf f dl
  | .xv c, v => ∃ a od, T.xv c = some (a, od) ∧ v = .ref a ∧ ∀ dd, od = some dd → ∃ fs, H dd = some (.xd fs) ∧ dd ∉ g.phi
def RepL : List D → List V → Prop
  | [], [] => True
  | d :: ds, v :: vs => RepV d v ∧ RepL ds vs
  | _, _ => False
def RepK : List (Ky × D) → List (L2.Key × V) → Prop
  | [], [] => True
  | (k, d) :: r, (q, v) :: s => k = q ∧ RepV d v ∧ RepK r s
  | _, _ => False
def RepT : List (List Ky × D) → List (List L2.Key × V) → Prop
  | [], [] => True
  | (k, d) :: r, (q, v) :: s => k = q ∧ RepV d v ∧ RepT r s
  | _, _ => False
end
def RepF : List (Nat × D) → List (Str × V) → Prop
  | [], [] => True
  | (k, d) :: r, (q, v) :: s => q = T.fnm k ∧ RepV T H g d v ∧ RepF r s
  | _, _ => False
def RepO : MO → Addr → Prop
  | .lst ds, a => ∃ vs, H a = some (.lst vs) ∧ RepL T H g ds vs
  | .dK l kvs, a => ∃ kk, RepK T H g kvs kk ∧ if l = true then ∃ o, H a = some (.frz o (.dK kk)) else H a = some (.dK kk)
  | .dT l kvs, a => ∃ kk, RepT T H g kvs kk ∧ if l = true then ∃ o, H a = some (.frz o (.dT kk)) else H a = some (.dT kk)
  | .ins c fs, a => ∃ dx vs, H a = some (.ins (T.ca c) dx vs) ∧ RepF T H g fs vs
structure Rel (h : MH) : Prop where
  len : g.phi.length = h.length
  nd : g.phi.Nodup
  dis : ∀ a ∈ g.phi, ¬ g.fz a
  trk : ∀ a, g.fz a → ∃ o, H a = some o
  obj : ∀ (n : Nat) (o : MO) (a : Addr), h[n]? = some o → g.phi[n]? = some a → RepO T H g o a
def RepS (e : Ev) (σ : St) : Prop := e.length = σ.length ∧ ∀ (i : Nat) (d : D), e[i]? = some (some d) → ∃ v, σ[i]? = some (some v) ∧ RepV T H g d v
end
structure Ext (g : Gr) (H : Hp) (g' : Gr) (H' : Hp) : Prop where
  fr : ∀ a o, H a = some o → a ∉ g.phi → H' a = some o
  fzs : ∀ a, g.fz a → g'.fz a
  phi : ∃ t, g'.phi = g.phi ++ t ∧ ∀ a ∈ t, H a = none
  fzn : ∀ a, g'.fz a → g.fz a ∨ H a = none
  lk : ∀ a o u, H a = some (.frz o u) → H' a = some (.frz o u)
theorem Ext.refl (g : Gr) (H : Hp) : Ext g H g H := ⟨fun _ _ h _ => h, fun _ h => h, ⟨[], by simp, fun _ h => nomatch h⟩, fun _ h => .inl h, fun _ _ _ h => h⟩
section
variable {T : Tx} {H H1 H2 : Hp} {g g1 g2 : Gr} {h h1 : MH}
theorem Rel.there (r : Rel T H g h) {a : Addr} (ha : a ∈ g.phi) : ∃ o, H a = some o ∧ (∀ vs, o ≠ .tup vs) ∧ ∀ ob xs, o ≠ .frz ob (.lst xs) := by
  obtain ⟨n, hn, e⟩ := List.getElem_of_mem ha
  have hn' : n < h.length := by rw [← r.len]; exact hn
  have q := r.obj n h[n] a (by simp [hn']) (by rw [← e]; simp [hn])
  revert q
  cases h[n] with
  | lst ds => rintro ⟨vs, q, _⟩; exact ⟨_, q, fun _ z => (nomatch z), fun _ _ z => (nomatch z)⟩
  | dK l kvs =>
    rintro ⟨kk, _, q⟩
    cases l with
    | true => obtain ⟨o, q⟩ := q; exact ⟨_, q, fun _ z => (nomatch z), fun _ _ z => (by injection z with _ z; cases z)⟩
    | false => exact ⟨_, q, fun _ z => (nomatch z), fun _ _ z => (nomatch z)⟩
  | dT l kvs =>
    rintro ⟨kk, _, q⟩
    cases l with
    | true => obtain ⟨o, q⟩ := q; exact ⟨_, q, fun _ z => (nomatch z), fun _ _ z => (by injection z with _ z; cases z)⟩
    | false => exact ⟨_, q, fun _ z => (nomatch z), fun _ _ z => (nomatch z)⟩
  | ins c fs => rintro ⟨dx, vs, q, _⟩; exact ⟨_, q, fun _ z => (nomatch z), fun _ _ z => (nomatch z)⟩
theorem Ext.keep (x : Ext g H g1 H1) (r : Rel T H g h) {a : Addr} {o : HO} (e : H a = some o) (n : a ∉ g.phi) : H1 a = some o ∧ a ∉ g1.phi := by
  refine ⟨x.fr a o e n, fun z => ?_⟩
  obtain ⟨t, e1, e2⟩ := x.phi
  rw [e1] at z
  rcases List.mem_append.mp z with z | z
  · exact n z
  · rw [e2 a z] at e; cases e
structure Ext0 (g : Gr) (H : Hp) (g' : Gr) (H' : Hp) : Prop where
  fr : ∀ a o, H a = some o → a ∉ g.phi → (g.fz a ∨ (∃ vs, o = .tup vs) ∨ (∃ ob xs, o = .frz ob (.lst xs)) ∨ ∃ fs, o = .xd fs) → H' a = some o
  np : ∀ a o, H a = some o → ((∃ ob xs, o = .frz ob (.lst xs)) ∨ ∃ fs, o = .xd fs) → a ∉ g.phi → a ∉ g'.phi
  fzs : ∀ a, g.fz a → g'.fz a
  phi : ∃ t, g'.phi = g.phi ++ t
theorem Ext.to0 (x : Ext g H g1 H1) (r : Rel T H g h) : Ext0 g H g1 H1 := ⟨fun a o e n _ => x.fr a o e n, fun a o e _ n => (x.keep r e n).2, x.fzs, let ⟨t, e, _⟩ := x.phi; ⟨t, e⟩⟩
mutual
theorem RepV.mono0 (x : Ext0 g H g1 H1) (r : Rel T H g h) : ∀ (d : D) (v : V), RepV T H g d v → RepV T H1 g1 d v
  | .non, v, q => q
  | .bl _, v, q => q
  | .int _, v, q => q
  | .str _, v, q => q
  | .tup ds, v, q => by
    obtain ⟨a, vs, e, e1, e2⟩ := q
    refine ⟨a, vs, e, x.fr a _ e1 (fun z => ?_) (.inr (.inl ⟨_, rfl⟩)), RepL.mono0 x r ds vs e2⟩
    obtain ⟨o, q1, q2, _⟩ := r.there z
    rw [e1] at q1; cases q1; exact q2 _ rfl
  | .lst ds, v, q => by
    obtain ⟨a, vs, e, f, e1, e2⟩ := q
    exact ⟨a, vs, e, x.fzs a f, x.fr a _ e1 (fun z => r.dis a z f) (.inl f), RepL.mono0 x r ds vs e2⟩
  | .dK kvs, v, q => by
    obtain ⟨a, kk, e, f, e1, e2⟩ := q
    exact ⟨a, kk, e, x.fzs a f, x.fr a _ e1 (fun z => r.dis a z f) (.inl f), RepK.mono0 x r kvs kk e2⟩
  | .dT kvs, v, q => by
    obtain ⟨a, kk, e, f, e1, e2⟩ := q
    exact ⟨a, kk, e, x.fzs a f, x.fr a _ e1 (fun z => r.dis a z f) (.inl f), RepT.mono0 x r kvs kk e2⟩
  | .ref n, v, q => by
    obtain ⟨a, e, e1⟩ := q
    obtain ⟨t, e2⟩ := x.phi
    refine ⟨a, e, ?_⟩
    rw [e2, List.getElem?_append_left (List.getElem?_eq_some_iff.mp e1).1]
    exact e1
  | .scr ns, v, q => by
    obtain ⟨a, e, q | q⟩ := q
    · obtain ⟨o, q, n⟩ := q
      exact ⟨a, e, .inl ⟨o, x.fr a _ q n (.inr (.inr (.inl ⟨_, _, rfl⟩))), x.np a _ q (.inl ⟨_, _, rfl⟩) n⟩⟩
    · exact ⟨a, e, .inr q⟩
  | .fn _ _, v, q => q
  | .xv _, v, q => by
    obtain ⟨a, od, e1, e2, e3⟩ := q
    refine ⟨a, od, e1, e2, fun dd e => ?_⟩
    obtain ⟨fs, q, n⟩ := e3 dd e
    exact ⟨fs, x.fr dd _ q n (.inr (.inr (.inr ⟨_, rfl⟩))), x.np dd _ q (.inr ⟨_, rfl⟩) n⟩
theorem RepL.mono0 (x : Ext0 g H g1 H1) (r : Rel T H g h) : ∀ (ds : List D) (vs : List V), RepL T H g ds vs → RepL T H1 g1 ds vs
  | [], [], _ => True.intro
  | d :: ds, v :: vs, q => ⟨RepV.mono0 x r d v q.1, RepL.mono0 x r ds vs q.2⟩
  | [], _ :: _, q => q.elim
  | _ :: _, [], q => q.elim
theorem RepK.mono0 (x : Ext0 g H g1 H1) (r : Rel T H g h) : ∀ (ds : List (Ky × D)) (vs : List (L2.Key × V)), RepK T H g ds vs → RepK T H1 g1 ds vs
  | [], [], _ => True.intro
  | (k, d) :: ds, (q, v) :: vs, z => ⟨z.1, RepV.mono0 x r d v z.2.1, RepK.mono0 x r ds vs z.2.2⟩
  | [], _ :: _, q => q.elim
  | _ :: _, [], q => q.elim
theorem RepT.mono0 (x : Ext0 g H g1 H1) (r : Rel T H g h) : ∀ (ds : List (List Ky × D)) (vs : List (List L2.Key × V)), RepT T H g ds vs → RepT T H1 g1 ds vs
  | [], [], _ => True.intro
  | (k, d) :: ds, (q, v) :: vs, z => ⟨z.1, RepV.mono0 x r d v z.2.1, RepT.mono0 x r ds vs z.2.2⟩
  | [], _ :: _, q => q.elim
  | _ :: _, [], q => q.elim
end
theorem RepF.mono0 (x : Ext0 g H g1 H1) (r : Rel T H g h) : ∀ (ds : List (Nat × D)) (vs : List (Str × V)), RepF T H g ds vs → RepF T H1 g1 ds vs
  | [], [], _ => True.intro
  | (k, d) :: ds, (q, v) :: vs, z => ⟨z.1, RepV.mono0 x r d v z.2.1, RepF.mono0 x r ds vs z.2.2⟩
  | [], _ :: _, q => q.elim
  | _ :: _, [], q => q.elim
theorem RepV.mono (x : Ext g H g1 H1) (r : Rel T H g h) (d : D) (v : V) (q : RepV T H g d v) : RepV T H1 g1 d v := RepV.mono0 (x.to0 r) r d v q
theorem RepL.mono (x : Ext g H g1 H1) (r : Rel T H g h) (d : List D) (v : List V) (q : RepL T H g d v) : RepL T H1 g1 d v := RepL.mono0 (x.to0 r) r d v q
theorem RepK.mono (x : Ext g H g1 H1) (r : Rel T H g h) (d : List (Ky × D)) (v : List (L2.Key × V)) (q : RepK T H g d v) : RepK T H1 g1 d v := RepK.mono0 (x.to0 r) r d v q
theorem RepT.mono (x : Ext g H g1 H1) (r : Rel T H g h) (d : List (List Ky × D)) (v : List (List L2.Key × V)) (q : RepT T H g d v) : RepT T H1 g1 d v := RepT.mono0 (x.to0 r) r d v q
theorem RepF.mono (x : Ext g H g1 H1) (r : Rel T H g h) (d : List (Nat × D)) (v : List (Str × V)) (q : RepF T H g d v) : RepF T H1 g1 d v := RepF.mono0 (x.to0 r) r d v q
theorem RepS.mono {e : Ev} {σ : St} (x : Ext g H g1 H1) (r : Rel T H g h) (s : RepS T H g e σ) : RepS T H1 g1 e σ :=
  ⟨s.1, fun i d q => let ⟨v, a, b⟩ := s.2 i d q; ⟨v, a, RepV.mono x r d v b⟩⟩
theorem Ext.trans (x : Ext g H g1 H1) (r : Rel T H g h) (r1 : Rel T H1 g1 h1) (y : Ext g1 H1 g2 H2) : Ext g H g2 H2 := by
  obtain ⟨t, e1, e2⟩ := x.phi
  obtain ⟨u, f1, f2⟩ := y.phi
  have back : ∀ a, H1 a = none → H a = none := fun a z => by
    cases q : H a with
    | none => rfl
    | some o =>
      by_cases m : a ∈ g.phi
      · obtain ⟨o', q', _⟩ := r1.there (a := a) (by rw [e1]; exact List.mem_append_left _ m)
        rw [z] at q'; cases q'
      · rw [x.fr a o q m] at z; cases z
  refine ⟨fun a o q m => ?_, fun a z => y.fzs a (x.fzs a z), ⟨t ++ u, by rw [f1, e1, List.append_assoc], fun a z => ?_⟩, fun a z => ?_, fun a o u q => y.lk a o u (x.lk a o u q)⟩
  · obtain ⟨k1, k2⟩ := x.keep r q m
    exact y.fr a o k1 k2
  · rcases List.mem_append.mp z with z | z
    · exact e2 a z
    · exact back a (f2 a z)
  · rcases y.fzn a z with z | z
    · exact x.fzn a z
    · exact .inr (back a z)
def RepX (T : Tx) (H : Hp) (g : Gr) : Option D → Option Addr → Prop
  | none, dx => dx = none
  | some d, dx => ∃ a v, dx = some a ∧ H a = some (.xd [(Str.ofString "told", v)]) ∧ RepV T H g d v
abbrev XW := Value → Option Addr → Hp → Prop
def Out (T : Tx) (g : Gr) (H : Hp) (r : R D) (Q : VK) (W : XW) : Prop := match r with
  | .ok d h1 => ∀ v H1 g1, Rel T H1 g1 h1 → Ext g H g1 H1 → RepV T H1 g1 d v → Q v H1
  | .exn c p h1 => ∀ dx H1 g1, Rel T H1 g1 h1 → Ext g H g1 H1 → RepX T H1 g1 p dx → W (.ref (T.xa c)) dx H1
  | .stuck => False
def OutA (T : Tx) (g : Gr) (H : Hp) (r : R (List D)) (Q : List V → Hp → Prop) (W : XW) : Prop := match r with
  | .ok ds h1 => ∀ vs H1 g1, Rel T H1 g1 h1 → Ext g H g1 H1 → RepL T H1 g1 ds vs → Q vs H1
  | .exn c p h1 => ∀ dx H1 g1, Rel T H1 g1 h1 → Ext g H g1 H1 → RepX T H1 g1 p dx → W (.ref (T.xa c)) dx H1
  | .stuck => False
theorem Out.ext {r : R D} {Q : VK} {W : XW} (x : Ext g H g1 H1) (rl : Rel T H g h) (rl1 : Rel T H1 g1 h1) (o : Out T g H r Q W) : Out T g1 H1 r Q W := by
  cases r with
  | ok d h2 => exact fun v H2 g2 a b c => o v H2 g2 a (x.trans rl rl1 b) c
  | exn c p h2 => exact fun dx H2 g2 a b e => o dx H2 g2 a (x.trans rl rl1 b) e
  | stuck => exact o
theorem OutA.ext {r : R (List D)} {Q : List V → Hp → Prop} {W : XW} (x : Ext g H g1 H1) (rl : Rel T H g h) (rl1 : Rel T H1 g1 h1) (o : OutA T g H r Q W) : OutA T g1 H1 r Q W := by
  cases r with
  | ok d h2 => exact fun v H2 g2 a b c => o v H2 g2 a (x.trans rl rl1 b) c
  | exn c p h2 => exact fun dx H2 g2 a b e => o dx H2 g2 a (x.trans rl rl1 b) e
  | stuck => exact o
def tE (T : Tx) (W : WX) (m : Ev → MH → R D) : TE := fun σ H Q => ∃ g h e, Rel T H g h ∧ RepS T H g e σ ∧ Out T g H (m e h) Q (fun c d H' => W c d σ H')
def tA (T : Tx) (W : WX) (m : Ev → MH → R (List D)) : TA := fun σ H Q => ∃ g h e, Rel T H g h ∧ RepS T H g e σ ∧ OutA T g H (m e h) Q (fun c d H' => W c d σ H')
theorem Out.here {d : D} {v : V} {Q : VK} {W : XW} (r : Rel T H g h) (o : Out T g H (.ok d h) Q W) (q : RepV T H g d v) : Q v H := o v H g r (.refl _ _) q
theorem tE.bind {W : WX} {m : Ev → MH → R D} {f : D → Ev → MH → R D} {σ : St} {e : Ev} {Q : VK} {Q' : VK} (r : Rel T H g h) (s : RepS T H g e σ) (o : Out T g H ((m e h).bind fun d h => f d e h) Q (fun c d H' => W c d σ H'))
    (k : ∀ d v h1 H1 g1, m e h = .ok d h1 → Rel T H1 g1 h1 → RepS T H1 g1 e σ → RepV T H1 g1 d v → Ext g H g1 H1 → Out T g1 H1 (f d e h1) Q (fun c d H' => W c d σ H') → Q' v H1) : tE T W m σ H Q' := by
  refine ⟨g, h, e, r, s, ?_⟩
  revert k o
  cases m e h with
  | ok d h1 => exact fun o k v H1 g1 a b c => k d v h1 H1 g1 rfl a (s.mono b r) c b (o.ext b r a)
  | exn c p h1 => exact fun o _ => o
  | stuck => exact fun o _ => o
theorem tA.bind {W : WX} {m : Ev → MH → R (List D)} {f : List D → Ev → MH → R D} {σ : St} {e : Ev} {Q : VK} {Q' : List V → Hp → Prop} (r : Rel T H g h) (s : RepS T H g e σ) (o : Out T g H ((m e h).bind fun d h => f d e h) Q (fun c d H' => W c d σ H'))
    (k : ∀ ds vs h1 H1 g1, m e h = .ok ds h1 → Rel T H1 g1 h1 → RepS T H1 g1 e σ → RepL T H1 g1 ds vs → Ext g H g1 H1 → Out T g1 H1 (f ds e h1) Q (fun c d H' => W c d σ H') → Q' vs H1) : tA T W m σ H Q' := by
  refine ⟨g, h, e, r, s, ?_⟩
  revert k o
  cases m e h with
  | ok d h1 => exact fun o k v H1 g1 a b c => k d v h1 H1 g1 rfl a (s.mono b r) c b (o.ext b r a)
  | exn c p h1 => exact fun o _ => o
  | stuck => exact fun o _ => o
end
end Mi
namespace Mi
open PySem PySem.Spec PyProof.Rows L2
theorem PE.imp {X : Cx} {e : Expr} {t t' : TE} (h : PE X e t) (k : ∀ σ H Q, t' σ H Q → t σ H Q) : PE X e t' := ⟨fun pins s σ H Q I q => h.run pins s σ H Q I (k σ H Q q)⟩
theorem PA.imp {X : Cx} {e : List Expr} {t t' : TA} (h : PA X e t) (k : ∀ σ H Q, t' σ H Q → t σ H Q) : PA X e t' := ⟨fun pos pins s σ H Q I q => h.run pos pins s σ H Q I (k σ H Q q)⟩
structure SzH (H : Hp) : Prop where
  lst : ∀ a xs, H a = some (.lst xs) → xs.length ≤ sizeLine
  tup : ∀ a xs, H a = some (.tup xs) → xs.length ≤ sizeLine
theorem inv_sz {X : Cx} {pins : List (Addr × Obj)} {σ : St} {H : Hp} {s : Shared} (I : Inv X pins σ H s) : SzH H :=
  ⟨fun a xs e => (show ObjOk X.prog X.w H s.heap a (.lst xs) from I.hok a _ e).1, fun a xs e => (show ObjOk X.prog X.w H s.heap a (.tup xs) from I.hok a _ e).1⟩
theorem PE.sz {X : Cx} {e : Expr} {t : TE} (h : PE X e t) : PE X e (fun σ H Q => t σ H fun v H' => SzH H' → Q v H') :=
  ⟨fun pins s σ H Q I q => thn (h.run pins s σ H _ I q) fun u s1 ⟨v, H1, I1, r, q1⟩ => ⟨v, H1, I1, r, q1 (inv_sz I1)⟩⟩
section
variable {T : Tx} {H H1 H2 : Hp} {g g1 g2 : Gr} {h h1 : MH}
theorem Ext.new {a : Addr} {o : HO} (hn : H a = none) (f : Bool) : Ext g H { phi := g.phi, fz := fun b => g.fz b ∨ (f = true ∧ b = a) } (upd H a o) :=
  ⟨fun b u e _ => by rw [upd_ne (ne_of_none e hn)]; exact e, fun _ z => .inl z, ⟨[], by simp, fun _ z => nomatch z⟩, fun b z => by
    rcases z with z | ⟨_, z⟩
    · exact .inl z
    · rw [z]; exact .inr hn, fun b o u e => by rw [upd_ne (ne_of_none e hn)]; exact e⟩
theorem Rel.ne {a : Addr} (r : Rel T H g h) (hn : H a = none) : a ∉ g.phi := fun z => by
  obtain ⟨o, q, _⟩ := r.there z
  rw [hn] at q; cases q
theorem RepO.mono (x : Ext g H g1 H1) (r : Rel T H g h) {o : MO} {a : Addr} (k : ∀ u, H a = some u → H1 a = some u) (q : RepO T H g o a) : RepO T H1 g1 o a := by
  cases o with
  | lst ds => obtain ⟨vs, e, z⟩ := q; exact ⟨vs, k _ e, RepL.mono x r _ _ z⟩
  | dK l kvs =>
    obtain ⟨kk, z, e⟩ := q
    refine ⟨kk, RepK.mono x r _ _ z, ?_⟩
    cases l with
    | true => obtain ⟨o, e⟩ := e; exact ⟨o, k _ e⟩
    | false => exact k _ e
  | dT l kvs =>
    obtain ⟨kk, z, e⟩ := q
    refine ⟨kk, RepT.mono x r _ _ z, ?_⟩
    cases l with
    | true => obtain ⟨o, e⟩ := e; exact ⟨o, k _ e⟩
    | false => exact k _ e
  | ins c fs => obtain ⟨dx, vs, e, z⟩ := q; exact ⟨dx, vs, k _ e, RepF.mono x r _ _ z⟩
theorem Rel.new {a : Addr} {o : HO} (r : Rel T H g h) (hn : H a = none) (f : Bool) : Rel T (upd H a o) { phi := g.phi, fz := fun b => g.fz b ∨ (f = true ∧ b = a) } h := by
  refine ⟨r.len, r.nd, fun b hb z => ?_, fun b z => ?_, fun n ob b e1 e2 => ?_⟩
  · rcases z with z | ⟨_, z⟩
    · exact r.dis b hb z
    · rw [z] at hb; exact r.ne hn hb
  · rcases z with z | ⟨_, z⟩
    · obtain ⟨u, e⟩ := r.trk b z
      exact ⟨u, by rw [upd_ne (ne_of_none e hn)]; exact e⟩
    · exact ⟨o, by rw [z]; exact upd_same⟩
  · have hb : b ∈ g.phi := List.mem_of_getElem? e2
    refine RepO.mono (Ext.new hn f) r (fun u e => ?_) (r.obj n ob b e1 e2)
    rw [upd_ne (ne_of_none e hn)]; exact e
theorem Ext.newM {a : Addr} {o : HO} (hn : H a = none) : Ext g H { phi := g.phi ++ [a], fz := g.fz } (upd H a o) :=
  ⟨fun b u e _ => by rw [upd_ne (ne_of_none e hn)]; exact e, fun _ z => z, ⟨[a], rfl, fun b z => by rw [List.mem_singleton.mp z]; exact hn⟩, fun b z => .inl z, fun b o u e => by rw [upd_ne (ne_of_none e hn)]; exact e⟩
theorem Rel.newM {a : Addr} {o : HO} {ob : MO} (r : Rel T H g h) (hn : H a = none) (q : RepO T (upd H a o) { phi := g.phi ++ [a], fz := g.fz } ob a) : Rel T (upd H a o) { phi := g.phi ++ [a], fz := g.fz } (h ++ [ob]) := by
  have ha := r.ne hn
  have hf : ¬ g.fz a := fun z => by
    obtain ⟨u, e⟩ := r.trk a z
    rw [hn] at e; cases e
  refine ⟨by simp [r.len], ?_, fun b hb z => ?_, fun b z => ?_, fun n u b e1 e2 => ?_⟩
  · rw [List.nodup_append]
    refine ⟨r.nd, by simp, fun x hx y hy e => ?_⟩
    rw [List.mem_singleton.mp hy] at e
    rw [e] at hx
    exact ha hx
  · rcases List.mem_append.mp hb with hb | hb
    · exact r.dis b hb z
    · rw [List.mem_singleton.mp hb] at z; exact hf z
  · obtain ⟨u, e⟩ := r.trk b z
    exact ⟨u, by rw [upd_ne (ne_of_none e hn)]; exact e⟩
  · by_cases hl : n < h.length
    · rw [List.getElem?_append_left hl] at e1
      rw [List.getElem?_append_left (by rw [r.len]; exact hl)] at e2
      refine RepO.mono (Ext.newM hn) r (fun w e => ?_) (r.obj n u b e1 e2)
      rw [upd_ne (ne_of_none e hn)]; exact e
    · rw [List.getElem?_append_right (by omega)] at e1
      rw [List.getElem?_append_right (by rw [r.len]; omega), r.len] at e2
      by_cases hz : n - h.length = 0
      · rw [hz] at e1 e2
        simp at e1 e2
        subst e1 e2
        exact q
      · have : ([ob] : List MO)[n - h.length]? = none := by rw [List.getElem?_eq_none]; simp; omega
        rw [this] at e1; cases e1
theorem RepL.length : ∀ {ds : List D} {vs : List V}, RepL T H g ds vs → ds.length = vs.length
  | [], [], _ => rfl
  | d :: ds, v :: vs, q => by simp [RepL.length q.2]
  | [], _ :: _, q => q.elim
  | _ :: _, [], q => q.elim
theorem RepL.get : ∀ {ds : List D} {vs : List V} {i : Nat} {d : D}, RepL T H g ds vs → ds[i]? = some d → ∃ v, vs[i]? = some v ∧ RepV T H g d v
  | d :: ds, v :: vs, 0, _, q, e => by simp at e; subst e; exact ⟨v, rfl, q.1⟩
  | d :: ds, v :: vs, i + 1, _, q, e => by
    obtain ⟨w, a, b⟩ := RepL.get (i := i) q.2 (by simpa using e)
    exact ⟨w, by simpa using a, b⟩
  | [], [], _, _, _, e => by simp at e
  | [], _ :: _, _, _, q, _ => q.elim
  | _ :: _, [], _, _, q, _ => q.elim
theorem RepL.append : ∀ {ds es : List D} {vs us : List V}, RepL T H g ds vs → RepL T H g es us → RepL T H g (ds ++ es) (vs ++ us)
  | [], _, [], _, _, q => q
  | d :: ds, _, v :: vs, _, p, q => ⟨p.1, RepL.append p.2 q⟩
  | [], _, _ :: _, _, p, _ => p.elim
  | _ :: _, _, [], _, p, _ => p.elim
theorem RepL.set : ∀ {ds : List D} {vs : List V} {i : Nat} {d : D} {v : V}, RepL T H g ds vs → RepV T H g d v → RepL T H g (ds.set i d) (vs.set i v)
  | [], [], _, _, _, q, _ => q
  | d :: ds, v :: vs, 0, _, _, q, p => ⟨p, q.2⟩
  | d :: ds, v :: vs, i + 1, _, _, q, p => ⟨q.1, RepL.set q.2 p⟩
  | [], _ :: _, _, _, _, q, _ => q.elim
  | _ :: _, [], _, _, _, q, _ => q.elim
theorem RepL.take : ∀ {ds : List D} {vs : List V} (i : Nat), RepL T H g ds vs → RepL T H g (ds.take i) (vs.take i)
  | [], [], _, q => by simp; exact q
  | d :: ds, v :: vs, 0, q => True.intro
  | d :: ds, v :: vs, i + 1, q => ⟨q.1, RepL.take i q.2⟩
  | [], _ :: _, _, q => q.elim
  | _ :: _, [], _, q => q.elim
theorem RepL.drop : ∀ {ds : List D} {vs : List V} (i : Nat), RepL T H g ds vs → RepL T H g (ds.drop i) (vs.drop i)
  | [], [], _, q => by simp; exact q
  | d :: ds, v :: vs, 0, q => q
  | d :: ds, v :: vs, i + 1, q => RepL.drop i q.2
  | [], _ :: _, _, q => q.elim
  | _ :: _, [], _, q => q.elim
theorem RepL.rep {ds : List D} {vs : List V} (q : RepL T H g ds vs) : ∀ k : Nat, RepL T H g (List.replicate k ds).flatten (List.replicate k vs).flatten
  | 0 => True.intro
  | k + 1 => by rw [List.replicate_succ, List.replicate_succ, List.flatten_cons, List.flatten_cons]; exact q.append (RepL.rep q k)
theorem RepL.ints : ∀ (ns : List Int), RepL T H g (ns.map D.int) (ns.map V.int)
  | [] => True.intro
  | n :: ns => ⟨rfl, RepL.ints ns⟩
theorem RepL.ofInts : ∀ {ds : List D} {vs : List V} {is : List Int}, RepL T H g ds vs → Mi.intsD ds = some is → vs = is.map V.int
  | [], [], is, _, e => by simp [Mi.intsD] at e; subst e; rfl
  | .int i :: ds, v :: vs, is, q, e => by
    simp only [Mi.intsD] at e
    cases z : Mi.intsD ds with
    | none => rw [z] at e; cases e
    | some js =>
      rw [z] at e; cases e
      have e1 : v = .int i := q.1
      rw [RepL.ofInts q.2 z, e1]; rfl
  | [], _ :: _, _, q, _ => q.elim
  | _ :: _, [], _, q, _ => q.elim
  | .non :: _, _ :: _, _, _, e => by simp [Mi.intsD] at e
  | .bl _ :: _, _ :: _, _, _, e => by simp [Mi.intsD] at e
  | .str _ :: _, _ :: _, _, _, e => by simp [Mi.intsD] at e
  | .tup _ :: _, _ :: _, _, _, e => by simp [Mi.intsD] at e
  | .lst _ :: _, _ :: _, _, _, e => by simp [Mi.intsD] at e
  | .dK _ :: _, _ :: _, _, _, e => by simp [Mi.intsD] at e
  | .dT _ :: _, _ :: _, _, _, e => by simp [Mi.intsD] at e
  | .ref _ :: _, _ :: _, _, _, e => by simp [Mi.intsD] at e
  | .scr _ :: _, _ :: _, _, _, e => by simp [Mi.intsD] at e
  | .fn _ _ :: _, _ :: _, _, _, e => by simp [Mi.intsD] at e
  | .xv _ :: _, _ :: _, _, _, e => by simp [Mi.intsD] at e
theorem RepL.ofBls : ∀ {ds : List D} {vs : List V} {is : List Bool}, RepL T H g ds vs → Mi.blsD ds = some is → vs = is.map V.bl
  | [], [], is, _, e => by simp [Mi.blsD] at e; subst e; rfl
  | .bl i :: ds, v :: vs, is, q, e => by
    simp only [Mi.blsD] at e
    cases z : Mi.blsD ds with
    | none => rw [z] at e; cases e
    | some js =>
      rw [z] at e; cases e
      have e1 : v = .bl i := q.1
      rw [RepL.ofBls q.2 z, e1]; rfl
  | [], _ :: _, _, q, _ => q.elim
  | _ :: _, [], _, q, _ => q.elim
  | .non :: _, _ :: _, _, _, e => by simp [Mi.blsD] at e
  | .int _ :: _, _ :: _, _, _, e => by simp [Mi.blsD] at e
  | .str _ :: _, _ :: _, _, _, e => by simp [Mi.blsD] at e
  | .tup _ :: _, _ :: _, _, _, e => by simp [Mi.blsD] at e
  | .lst _ :: _, _ :: _, _, _, e => by simp [Mi.blsD] at e
  | .dK _ :: _, _ :: _, _, _, e => by simp [Mi.blsD] at e
  | .dT _ :: _, _ :: _, _, _, e => by simp [Mi.blsD] at e
  | .ref _ :: _, _ :: _, _, _, e => by simp [Mi.blsD] at e
  | .scr _ :: _, _ :: _, _, _, e => by simp [Mi.blsD] at e
  | .fn _ _ :: _, _ :: _, _, _, e => by simp [Mi.blsD] at e
  | .xv _ :: _, _ :: _, _, _, e => by simp [Mi.blsD] at e
theorem items_at {a : D} {x : V} {xs : List D} (r : Rel T H g h) (q : RepV T H g a x) (e : items h a = some xs) : ∃ p vs, x = .ref p ∧ (SqL T.K H p vs ∨ SqT T.K H p vs) ∧ RepL T H g xs vs := by
  cases a with
  | tup ds => cases e; obtain ⟨p, vs, e, e1, e2⟩ := q; exact ⟨p, vs, e, .inr (SqT.of e1), e2⟩
  | lst ds => cases e; obtain ⟨p, vs, e, _, e1, e2⟩ := q; exact ⟨p, vs, e, .inl (SqL.of e1), e2⟩
  | scr ns =>
    cases e
    obtain ⟨p, e, q⟩ := q
    refine ⟨p, ns.map V.int, e, .inl ?_, RepL.ints ns⟩
    rcases q with ⟨o, q, _⟩ | q
    · exact .inl (.inr ⟨o, q⟩)
    · exact q H
  | ref n =>
    obtain ⟨p, e1, e2⟩ := q
    simp only [items] at e
    cases z : h[n]? with
    | none => rw [z] at e; cases e
    | some o =>
      rw [z] at e
      cases o with
      | lst ds => cases e; obtain ⟨vs, q1, q2⟩ := r.obj n _ p z e2; exact ⟨p, vs, e1, .inl (SqL.of q1), q2⟩
      | dK _ _ => cases e
      | dT _ _ => cases e
      | ins _ _ => cases e
  | non => cases e
  | bl _ => cases e
  | int _ => cases e
  | str _ => cases e
  | dK _ => cases e
  | dT _ => cases e
  | fn _ _ => cases e
  | xv _ => cases e
theorem items_at2 {a : D} {x : V} {xs : List D} (r : Rel T H g h) (q : RepV T H g a x) (e : items h a = some xs) : ∃ p vs, x = .ref p ∧ (SqL T.K H p vs ∨ (SqT T.K H p vs ∧ a = .tup xs)) ∧ RepL T H g xs vs := by
  cases a with
  | tup ds => cases e; obtain ⟨p, vs, e, e1, e2⟩ := q; exact ⟨p, vs, e, .inr ⟨SqT.of e1, rfl⟩, e2⟩
  | lst ds => cases e; obtain ⟨p, vs, e, _, e1, e2⟩ := q; exact ⟨p, vs, e, .inl (SqL.of e1), e2⟩
  | scr ns =>
    cases e
    obtain ⟨p, e, q⟩ := q
    refine ⟨p, ns.map V.int, e, .inl ?_, RepL.ints ns⟩
    rcases q with ⟨o, q, _⟩ | q
    · exact .inl (.inr ⟨o, q⟩)
    · exact q H
  | ref n =>
    obtain ⟨p, e1, e2⟩ := q
    simp only [items] at e
    cases z : h[n]? with
    | none => rw [z] at e; cases e
    | some o =>
      rw [z] at e
      cases o with
      | lst ds => cases e; obtain ⟨vs, q1, q2⟩ := r.obj n _ p z e2; exact ⟨p, vs, e1, .inl (SqL.of q1), q2⟩
      | dK _ _ => cases e
      | dT _ _ => cases e
      | ins _ _ => cases e
  | non => cases e
  | bl _ => cases e
  | int _ => cases e
  | str _ => cases e
  | dK _ => cases e
  | dT _ => cases e
  | fn _ _ => cases e
  | xv _ => cases e
theorem lits_at {a : D} {x : V} {xs : List D} (r : Rel T H g h) (q : RepV T H g a x) (e : lits h a = some xs) : ∃ p vs, x = .ref p ∧ H p = some (.lst vs) ∧ RepL T H g xs vs := by
  cases a with
  | lst ds => cases e; obtain ⟨p, vs, e, _, e1, e2⟩ := q; exact ⟨p, vs, e, e1, e2⟩
  | ref n =>
    obtain ⟨p, e1, e2⟩ := q
    simp only [lits] at e
    cases z : h[n]? with
    | none => rw [z] at e; cases e
    | some o =>
      rw [z] at e
      cases o with
      | lst ds => cases e; obtain ⟨vs, q1, q2⟩ := r.obj n _ p z e2; exact ⟨p, vs, e1, q1, q2⟩
      | dK _ _ => cases e
      | dT _ _ => cases e
      | ins _ _ => cases e
  | tup ds => cases e
  | scr ns => cases e
  | non => cases e
  | bl _ => cases e
  | int _ => cases e
  | str _ => cases e
  | dK _ => cases e
  | dT _ => cases e
  | fn _ _ => cases e
  | xv _ => cases e
theorem Out.mk {m : Bool} {xs : List D} {vs : List V} {Q : VK} {W : XW} {p : Addr} (r : Rel T H g h) (hn : H p = none) (q : RepL T H g xs vs) (o : Out T g H (mk m xs h) Q W) : Q (.ref p) (upd H p (.lst vs)) := by
  cases m with
  | false =>
    refine o (.ref p) _ { phi := g.phi, fz := fun b => g.fz b ∨ (true = true ∧ b = p) } (r.new hn true) (Ext.new hn true) ?_
    exact ⟨p, vs, rfl, .inr ⟨rfl, rfl⟩, upd_same, RepL.mono (Ext.new hn true) r _ _ q⟩
  | true =>
    refine o (.ref p) _ { phi := g.phi ++ [p], fz := g.fz } (r.newM hn ⟨vs, upd_same, RepL.mono (Ext.newM hn) r _ _ q⟩) (Ext.newM hn) ?_
    exact ⟨p, rfl, by rw [← r.len]; simp⟩
end
end Mi
namespace Mi
open PySem PySem.Spec PyProof.Rows L2
theorem tuple_mul1 (l : Addr) (items : Array Value) (n : Nat) (sl : Array (Option Value)) (dd : Option Addr) (u : Tok) :
    Meets (Builtin.«tuple.__mul__» ⟨[.ref l, .int 1 u], []⟩) (fun _ R s => s.heap.get? l = some { cls := .type "tuple", dict := dd, data := .seq items n, slots := sl } ∧ R (.ok (.ret (Value.ref l))) s) :=
  .of_wp fun prog w A R s h => by
    obtain ⟨hp, g, d, tk, os⟩ := s
    obtain ⟨hl, h⟩ := h
    have f1 := AutoSeq1.idx_int
    have c1 : (items.isEmpty || (1 : Int) == 1) = true := by simp
    wp_walk using wpAny_loadPart' hl
    repeat (first
      | (refine wpAny_ite_false (decide_eq_false (by decide)) ?_; wp_walk using wpAny_loadPart' hl)
      | (refine wpAny_ite_true (decide_eq_true (by rw [c1])) ?_; wp_walk using wpAny_loadPart' hl))
    exact ⟨_, rfl, h⟩
def rRep1 (K : PySem.W.Frag) : R2 := fun x y H Q => ∃ l xs, x = .ref l ∧ y = .int 1 ∧ SqT K H l xs ∧ Q (.ref l) H
section
variable {X : Cx}
theorem op_rep1 : OpR X (binaryOp .Mult) (rRep1 X.K) := by
  intro pins s σ H x y v u Q I rx ry h
  obtain ⟨l, xs, rfl, rfl, hT, q⟩ := h
  cases rx
  obtain ⟨t, rfl⟩ := ry
  obtain ⟨its, r, ⟨⟨cls, dd, data, sl⟩, ho, hc, n, hd⟩, hs⟩ := I.tuple hT
  simp only at hc hd
  subst hc hd
  refine wpAny_binaryOp_repeat_ref (T := "tuple") (U := "int") (by decide) ⟨_, ho, rfl⟩ (fun s' => typeIs_int s' 1 t) noFill_tuple_mul F.fills_int_mul F.slot_int_rmul repeat_tuple F.slot_int_index.lookup
    (call_meets F.slot_int_rmul (typeIs_int s 1 t) F.entry_int_rmul (F.args_int_rmul_2 _ _) (int_rmul_tuple 1 t l its.toArray n dd sl)
      ⟨ho, rfl, ⟨_, ho, rfl⟩, call_meets F.slot_tuple_mul ⟨_, ho, rfl⟩ F.entry_tuple_mul (F.args_tuple_mul_2 _ _) (tuple_mul1 l its.toArray n sl dd t) ⟨ho, ?_⟩⟩)
  exact ⟨.ref l, H, I, rfl, q⟩
end
end Mi
namespace Mi
open PySem PySem.Spec PyProof.Rows L2
def R2m (T : Tx) (W : XW) (m : D → D → MH → R D) : R2 := fun x y H Q => SzH H → ∃ g h a b, Rel T H g h ∧ RepV T H g a x ∧ RepV T H g b y ∧ Out T g H (m a b h) Q W
def OpM (T : Tx) (X : Cx) (f : Value → Value → Sem Value) (m : D → D → MH → R D) : Prop := ∀ W, OpR X f (R2m T W m)
section
variable {T : Tx} {X : Cx} {W : XW}
theorem OpM.of {f : Value → Value → Sem Value} {m : D → D → MH → R D}
    (k : ∀ (W : XW) (pins : List (Addr × Obj)) (s : Shared) (σ : St) (H : Hp) (x y : V) (v u : Value) (Q : VK) (g : Gr) (h : MH) (a b : D), Inv X pins σ H s → RelV x v → RelV y u → SzH H → Rel T H g h → RepV T H g a x → RepV T H g b y → Out T g H (m a b h) Q W →
      wpAny (model X.prog X.w) X.A (f v u) (EP X pins σ Q) X.xe s) : OpM T X f m := by
  intro W pins s σ H x y v u Q I rx ry q
  obtain ⟨g, h, a, b, r, ra, rb, o⟩ := q (inv_sz I)
  exact k W pins s σ H x y v u Q g h a b I rx ry (inv_sz I) r ra rb o
theorem big_size {n : Nat} (h : n ≤ big) : n ≤ sizeLine := by
  rw [sizeLine_eq]; unfold big at h; omega
theorem int2_m {f : Value → Value → Sem Value} {k : Int → Int → MH → R D}
    (hk : ∀ (W : XW) (pins : List (Addr × Obj)) (s : Shared) (σ : St) (H : Hp) (i j : Int) (v u : Value) (Q : VK) (g : Gr) (h : MH), Inv X pins σ H s → RelV (.int i) v → RelV (.int j) u → Rel T H g h → Out T g H (k i j h) Q W →
      wpAny (model X.prog X.w) X.A (f v u) (EP X pins σ Q) X.xe s) : OpM T X f (fun a b h => int2 (fun i j => k i j h) a b) := by
  refine OpM.of fun W pins s σ H x y v u Q g h a b I rx ry sz r ra rb o => ?_
  cases a with
  | int i =>
    cases b with
    | int j =>
      have e1 : x = .int i := ra
      have e2 : y = .int j := rb
      subst e1 e2
      exact hk W pins s σ H i j v u Q g h I rx ry r o
    | _ => exact False.elim o
  | _ => exact False.elim o
theorem sub_m : OpM T X (binaryOp .Sub) (fun a b h => bop false .sub a b h) := int2_m fun W pins s σ H i j v u Q g h I rx ry r o =>
  op_sub pins s σ H _ _ v u Q I rx ry ⟨i, j, rfl, rfl, o.here r rfl⟩
theorem op_fdivZ : OpR X (binaryOp .FloorDiv) (rI (fun _ j => j ≠ 0 ∧ j.natAbs.log2 < 9000) fun i j => .int (i.fdiv j)) := opI fun i j _ _ _ _ _ hc q => floordiv_int hc.1 q (.inl (PyProof.noPylong_of_log2 hc.2))
theorem fdiv_m : OpM T X (binaryOp .FloorDiv) (fun a b h => bop false .fdiv a b h) := int2_m fun W pins s σ H i j v u Q g h I rx ry r o => by
  by_cases c : (decide (0 < j) && decide (j.natAbs < 2 ^ 8000)) = true
  · rw [if_pos c] at o
    rw [Bool.and_eq_true] at c
    exact op_fdivW pins s σ H _ _ v u Q I rx ry ⟨i, j, rfl, rfl, wide_div (of_decide_eq_true c.1) (of_decide_eq_true c.2) (by omega) (by omega), o.here r rfl⟩
  · rw [if_neg c] at o
    by_cases c2 : (decide (j ≠ 0) && decide (j.natAbs < 2 ^ 8000)) = true
    · rw [if_pos c2] at o
      rw [Bool.and_eq_true] at c2
      exact op_fdivZ pins s σ H _ _ v u Q I rx ry ⟨i, j, rfl, rfl, ⟨of_decide_eq_true c2.1, Nat.lt_of_lt_of_le (PySem.Flt.log2_lt_of (by omega) (of_decide_eq_true c2.2)) (by omega)⟩, o.here r rfl⟩
    · rw [if_neg c2] at o; exact False.elim o
theorem mod_m : OpM T X (binaryOp .Mod) (fun a b h => bop false .mod a b h) := int2_m fun W pins s σ H i j v u Q g h I rx ry r o => by
  by_cases c : 0 < j
  · rw [if_pos c] at o
    exact op_mod pins s σ H _ _ v u Q I rx ry ⟨i, j, rfl, rfl, c, o.here r rfl⟩
  · rw [if_neg c] at o
    by_cases c2 : j ≠ 0
    · rw [if_pos c2] at o
      exact op_modN pins s σ H _ _ v u Q I rx ry ⟨i, j, rfl, rfl, c2, o.here r rfl⟩
    · rw [if_neg c2] at o; exact False.elim o
theorem pow_m : OpM T X (binaryOp .Pow) (fun a b h => bop false .pow a b h) := int2_m fun W pins s σ H i j v u Q g h I rx ry r o => by
  by_cases c : (decide (0 ≤ j) && decide (j ≤ 1000000) && small i) = true
  · rw [if_pos c] at o
    simp only [Bool.and_eq_true] at c
    exact op_pow pins s σ H _ _ v u Q I rx ry ⟨i, j, rfl, rfl, ⟨of_decide_eq_true c.1.1, of_decide_eq_true c.1.2, of_decide_eq_true c.2⟩, o.here r rfl⟩
  · rw [if_neg c] at o; exact False.elim o
theorem shr_m : OpM T X (binaryOp .RShift) (fun a b h => bop false .shr a b h) := int2_m fun W pins s σ H i j v u Q g h I rx ry r o => by
  by_cases c : 0 ≤ j
  · rw [if_pos c] at o
    exact op_shr pins s σ H _ _ v u Q I rx ry ⟨i, j, rfl, rfl, c, o.here r rfl⟩
  · rw [if_neg c] at o; exact False.elim o
theorem band_m : OpM T X (binaryOp .BitAnd) (fun a b h => bop false .band a b h) := int2_m fun W pins s σ H i j v u Q g h I rx ry r o => by
  by_cases c : (decide (0 ≤ i) && decide (j = 1)) = true
  · rw [if_pos c] at o
    rw [Bool.and_eq_true] at c
    have hj := of_decide_eq_true c.2
    subst hj
    exact op_and pins s σ H _ _ v u Q I rx ry ⟨i, 1, rfl, rfl, o.here r (bitAnd_m1 i ▸ rfl)⟩
  · rw [if_neg c] at o; exact False.elim o
theorem Out.tup {xs : List D} {vs : List V} {Q : VK} {H : Hp} {g : Gr} {h : MH} {p : Addr} (r : Rel T H g h) (hn : H p = none) (q : RepL T H g xs vs) (o : Out T g H (.ok (.tup xs) h) Q W) : Q (.ref p) (upd H p (.tup vs)) := by
  refine o (.ref p) _ { phi := g.phi, fz := fun b => g.fz b ∨ (true = true ∧ b = p) } (r.new hn true) (Ext.new hn true) ?_
  exact ⟨p, vs, rfl, upd_same, RepL.mono (Ext.new hn true) r _ _ q⟩
def addL (m : Bool) (a b : D) (h : MH) : R D := match lits h a with
  | some xs => (match lits h b with
    | some ys => if xs.length + ys.length ≤ big then mk m (xs ++ ys) h else .stuck
    | none => .stuck)
  | none => .stuck
theorem addL_m {m : Bool} : OpM T X (binaryOp .Add) (fun a b h => addL m a b h) := by
  refine OpM.of fun W pins s σ H x y v u Q g h a b I rx ry sz r ra rb o => ?_
  unfold addL at o
  cases e1 : lits h a with
  | none => rw [e1] at o; exact False.elim o
  | some xs =>
    rw [e1] at o
    cases e2 : lits h b with
    | none => rw [e2] at o; exact False.elim o
    | some ys =>
      rw [e2] at o
      by_cases c : xs.length + ys.length ≤ big
      · simp only [if_pos c] at o
        obtain ⟨p, vs, ep, hp, q1⟩ := lits_at r ra e1
        obtain ⟨p2, us, ep2, hp2, q2⟩ := lits_at r rb e2
        exact op_cat pins s σ H x y v u Q I rx ry ⟨p, p2, vs, us, ep, ep2, hp, hp2, big_size (by rw [← q1.length, ← q2.length]; exact c), fun pn hn => Out.mk r hn (q1.append q2) o⟩
      · simp only [if_neg c] at o; exact False.elim o
theorem add_m {m : Bool} (hK : X.K = T.K) : OpM T X (binaryOp .Add) (fun a b h => bop m .add a b h) := by
  refine OpM.of fun W pins s σ H x y v u Q g h a b I rx ry sz r ra rb o => ?_
  have o : Out T g H (addD m a b h) Q W := o
  have go : addD m a b h = addL m a b h → wpAny (model X.prog X.w) X.A (binaryOp .Add v u) (EP X pins σ Q) X.xe s := fun e =>
    addL_m (T := T) (m := m) W pins s σ H x y v u Q I rx ry fun _ => ⟨g, h, a, b, r, ra, rb, by show Out T g H (addL m a b h) Q W; rw [← e]; exact o⟩
  cases a with
  | int i =>
    cases b with
    | int j =>
      have e1 : x = .int i := ra
      have e2 : y = .int j := rb
      exact op_add pins s σ H _ _ v u Q I rx ry ⟨i, j, e1, e2, o.here r rfl⟩
    | _ => exact False.elim o
  | str i =>
    cases b with
    | str j =>
      have e1 : x = .str i := ra
      have e2 : y = .str j := rb
      simp only [addD] at o
      by_cases c : i.length + j.length ≤ big
      · rw [if_pos c] at o
        exact op_add_str pins s σ H _ _ v u Q I rx ry ⟨i, j, e1, e2, big_size c, o.here r rfl⟩
      · rw [if_neg c] at o; exact False.elim o
    | _ => exact False.elim o
  | tup xs =>
    cases b with
    | tup ys =>
      simp only [addD] at o
      obtain ⟨p, vs, ep, hp, q1⟩ := ra
      obtain ⟨p2, us, ep2, hp2, q2⟩ := rb
      by_cases c : xs.length + ys.length ≤ big
      · rw [if_pos c] at o
        have o : Out T g H (.ok (.tup (xs ++ ys)) h) Q W := o
        subst ep ep2
        refine op_catA pins s σ H _ _ v u Q I rx ry ⟨p, p2, vs, us, rfl, rfl, by rw [hK]; exact SqT.of hp, by rw [hK]; exact SqT.of hp2, big_size (by rw [← q1.length, ← q2.length]; exact c), fun e => ?_, fun _ e => ?_, fun _ _ pn hn => Out.tup r hn (q1.append q2) o⟩
        · refine o.here r ⟨p2, us, rfl, hp2, ?_⟩
          subst e
          have l := q1.length
          cases xs with
          | nil => exact q2
          | cons _ _ => cases l
        · refine o.here r ⟨p, vs, rfl, hp, ?_⟩
          subst e
          have l := q2.length
          cases ys with
          | nil => rw [List.append_nil]; exact q1
          | cons _ _ => cases l
      · rw [if_neg c] at o; exact False.elim o
    | _ => exact False.elim o
  | lst ds => exact go rfl
  | ref n => exact go rfl
  | scr ns => exact go rfl
  | non => exact go rfl
  | bl _ => exact go rfl
  | dK _ => exact go rfl
  | dT _ => exact go rfl
  | fn _ _ => exact go rfl
  | xv _ => exact go rfl
def mulL (m : Bool) (a b : D) (h : MH) : R D := match b with
  | .int j => (match lits h a with
    | some xs => if decide (j < 2 ^ 60) && decide (-(2 ^ 60) < j) && decide (xs.length * j.toNat ≤ big) then mk m (List.replicate j.toNat xs).flatten h else .stuck
    | none => .stuck)
  | _ => .stuck
theorem mulL_m {m : Bool} : OpM T X (binaryOp .Mult) (fun a b h => mulL m a b h) := by
  refine OpM.of fun W pins s σ H x y v u Q g h a b I rx ry sz r ra rb o => ?_
  cases b with
  | int j =>
    have o : Out T g H (match lits h a with
      | some xs => if decide (j < 2 ^ 60) && decide (-(2 ^ 60) < j) && decide (xs.length * j.toNat ≤ big) then mk m (List.replicate j.toNat xs).flatten h else .stuck
      | none => .stuck) Q W := o
    cases e1 : lits h a with
    | none => rw [e1] at o; exact False.elim o
    | some xs =>
      rw [e1] at o
      by_cases c : (decide (j < 2 ^ 60) && decide (-(2 ^ 60) < j) && decide (xs.length * j.toNat ≤ big)) = true
      · simp only [if_pos c] at o
        simp only [Bool.and_eq_true, decide_eq_true_eq] at c
        obtain ⟨p, vs, ep, hp, q1⟩ := lits_at r ra e1
        have e2 : y = .int j := rb
        exact op_rep pins s σ H x y v u Q I rx ry ⟨p, j, vs, ep, e2, hp, by omega, by omega, big_size (by rw [← q1.length]; exact c.2), fun pn hn => Out.mk r hn (q1.rep _) o⟩
      · simp only [if_neg c] at o; exact False.elim o
  | _ => exact False.elim o
theorem mul_m {m : Bool} (hK : X.K = T.K) : OpM T X (binaryOp .Mult) (fun a b h => bop m .mul a b h) := by
  refine OpM.of fun W pins s σ H x y v u Q g h a b I rx ry sz r ra rb o => ?_
  have o : Out T g H (mulD m a b h) Q W := o
  have go : mulD m a b h = mulL m a b h → wpAny (model X.prog X.w) X.A (binaryOp .Mult v u) (EP X pins σ Q) X.xe s := fun e =>
    mulL_m (T := T) (m := m) W pins s σ H x y v u Q I rx ry fun _ => ⟨g, h, a, b, r, ra, rb, by show Out T g H (mulL m a b h) Q W; rw [← e]; exact o⟩
  cases b with
  | int j =>
    have e2 : y = .int j := rb
    cases a with
    | int i =>
      have e1 : x = .int i := ra
      simp only [mulD] at o
      by_cases c : (small i || small j || (decide (i.natAbs < 2 ^ 4000) && decide (j.natAbs < 2 ^ 4000))) = true
      · rw [if_pos c] at o
        have q := o.here r rfl
        simp only [Bool.or_eq_true, Bool.and_eq_true, decide_eq_true_eq] at c
        rcases c with (c | c) | c
        · have c : decide (i.natAbs < 2 ^ 64) = true := c
          have c := of_decide_eq_true c
          exact op_mul pins s σ H _ _ v u Q I rx ry ⟨i, j, e1, e2, .inl ⟨by omega, by omega⟩, q⟩
        · have c : decide (j.natAbs < 2 ^ 64) = true := c
          have c := of_decide_eq_true c
          exact op_mul pins s σ H _ _ v u Q I rx ry ⟨i, j, e1, e2, .inr ⟨by omega, by omega⟩, q⟩
        · exact op_mulW pins s σ H _ _ v u Q I rx ry ⟨i, j, e1, e2, wide_mul c.1 c.2 (by omega) (by omega) (by omega), q⟩
      · rw [if_neg c] at o; exact False.elim o
    | tup xs =>
      simp only [mulD] at o
      by_cases c : (!xs.isEmpty && decide (1 ≤ j) && decide (j ≤ 1000) && decide (xs.length ≤ 1000)) = true
      · rw [if_pos c] at o
        simp only [Bool.and_eq_true, decide_eq_true_eq] at c
        have ra0 := ra
        obtain ⟨p, vs, ep, hp, q1⟩ := ra
        have l := q1.length
        by_cases j1 : j = 1
        · subst j1
          have o1 : Out T g H (.ok (.tup xs) h) Q W := by
            have e : (List.replicate (1 : Int).toNat xs).flatten = xs := by show (List.replicate 1 xs).flatten = xs; simp
            rw [e] at o; exact o
          exact op_rep1 pins s σ H x y v u Q I rx ry ⟨p, vs, ep, e2, by rw [hK]; exact SqT.of hp, by rw [← ep]; exact Out.here (d := .tup xs) r o1 ra0⟩
        refine op_repT pins s σ H x y v u Q I rx ry ⟨p, j, vs, ep, e2, by rw [hK]; exact SqT.of hp, fun z => ?_, (by have := c.1.1.2; omega), c.1.2, by rw [← l]; exact c.2, fun pn hn => Out.tup r hn (q1.rep _) o⟩
        rw [z] at l
        have : xs = [] := List.length_eq_zero_iff.mp l
        rw [this] at c
        exact absurd c.1.1.1 (by decide)
      · rw [if_neg c] at o; exact False.elim o
    | lst ds => exact go rfl
    | ref n => exact go rfl
    | scr ns => exact go rfl
    | non => exact go rfl
    | bl _ => exact go rfl
    | str _ => exact go rfl
    | dK _ => exact go rfl
    | dT _ => exact go rfl
    | fn _ _ => exact go rfl
    | xv _ => exact go rfl
  | _ => exact False.elim o
def boOf : Bo → Operator
  | .add => .Add | .sub => .Sub | .mul => .Mult | .fdiv => .FloorDiv | .mod => .Mod | .pow => .Pow | .band => .BitAnd | .shr => .RShift
theorem bop_m {m : Bool} {o : Bo} (hK : X.K = T.K) : OpM T X (binaryOp (boOf o)) (fun a b h => bop m o a b h) := by
  cases o with
  | add => exact add_m hK
  | sub => exact sub_m
  | mul => exact mul_m hK
  | fdiv => exact fdiv_m
  | mod => exact mod_m
  | pow => exact pow_m
  | band => exact band_m
  | shr => exact shr_m
theorem cmpM_some {o : Co} {a b : D} {h : MH} {g : Gr} {H : Hp} {Q : VK} (r : Rel T H g h) (z : Out T g H (cmpM o a b h) Q W) : ∃ k, cop o a b h = some k ∧ Q (.bl k) H := by
  unfold cmpM at z
  cases e : cop o a b h with
  | none => rw [e] at z; exact False.elim z
  | some k => rw [e] at z; exact ⟨k, rfl, z.here r rfl⟩
def coOf : Co → CmpOp
  | .eq => .Eq | .ne => .NotEq | .lt => .Lt | .le => .LtE | .gt => .Gt | .ge => .GtE | .is => .Is | .isn => .IsNot | .inn => .In | .nin => .NotIn
mutual
def toP : D → PyData
  | .non => .none
  | .bl b => .bool b
  | .int i => .int i
  | .str x => .str x
  | .tup xs => .tuple (toPL xs)
  | .lst xs => .list (toPL xs)
  | .scr ns => .list (ns.map .int)
  | _ => .none
def toPL : List D → List PyData
  | [] => []
  | x :: xs => toP x :: toPL xs
end
theorem dp_ints {K : PySem.W.Frag} {H : Hp} : ∀ ns : List Int, DpAll K H (ns.map V.int) (ns.map .int)
  | [] => .nil
  | n :: ns => .cons (.int n) (dp_ints ns)
section
variable {H : Hp} {g : Gr} {h : MH}
theorem dp_of (r : Rel T H g h) : ∀ (n : Nat) (d : D) (v : V), RepV T H g d v → okD n (res h n d) = true → Dp T.K H v (toP (res h n d)) := by
  intro n
  induction n with
  | zero =>
    intro d v q k
    cases d with
    | non => have e : v = .non := q; subst e; exact .non
    | bl b => have e : v = .bl b := q; subst e; exact .bl b
    | int i => have e : v = .int i := q; subst e; exact .int i
    | str x => have e : v = .str x := q; subst e; exact .str x
    | scr ns =>
      obtain ⟨a, e, q⟩ := q
      subst e
      refine .lst (xs := ns.map V.int) ?_ (dp_ints ns)
      rcases q with ⟨o, q, _⟩ | q
      · exact .inl (.inr ⟨o, q⟩)
      · exact q H
    | _ => simp [res, okD] at k
  | succ n ih =>
    have all : ∀ (ds : List D) (vs : List V), RepL T H g ds vs → (ds.map (res h n)).all (okD n) = true → DpAll T.K H vs (toPL (ds.map (res h n))) := by
      intro ds
      induction ds with
      | nil =>
        intro vs q _
        cases vs with
        | nil => exact .nil
        | cons _ _ => exact q.elim
      | cons d ds ihd =>
        intro vs q k
        cases vs with
        | nil => exact q.elim
        | cons v vs =>
          simp only [List.map_cons, List.all_cons, Bool.and_eq_true] at k
          exact .cons (ih d v q.1 k.1) (ihd vs q.2 k.2)
    intro d v q k
    cases d with
    | non => have e : v = .non := q; subst e; exact .non
    | bl b => have e : v = .bl b := q; subst e; exact .bl b
    | int i => have e : v = .int i := q; subst e; exact .int i
    | str x => have e : v = .str x := q; subst e; exact .str x
    | scr ns =>
      obtain ⟨a, e, q⟩ := q
      subst e
      refine .lst (xs := ns.map V.int) ?_ (dp_ints ns)
      rcases q with ⟨o, q, _⟩ | q
      · exact .inl (.inr ⟨o, q⟩)
      · exact q H
    | tup ds =>
      obtain ⟨a, vs, e, e1, e2⟩ := q
      subst e
      exact .tup (SqT.of e1) (all ds vs e2 k)
    | lst ds =>
      obtain ⟨a, vs, e, _, e1, e2⟩ := q
      subst e
      exact .lst (SqL.of e1) (all ds vs e2 k)
    | ref m =>
      obtain ⟨a, e, e1⟩ := q
      subst e
      simp only [res] at k ⊢
      cases w : h[m]? with
      | none => rw [w] at k; simp [okD] at k
      | some o =>
        rw [w] at k
        cases o with
        | lst ds =>
          obtain ⟨vs, q1, q2⟩ := r.obj m _ a w e1
          exact .lst (SqL.of q1) (all ds vs q2 k)
        | dK _ _ => simp [okD] at k
        | dT _ _ => simp [okD] at k
        | ins _ _ => simp [okD] at k
    | _ => simp [res, okD] at k
end
end
end Mi
namespace Mi
open PySem PySem.Spec PyProof.Rows L2
theorem lay_ints : ∀ ns : List Int, PyData.canLayAll0 (ns.map .int) = true
  | [] => rfl
  | n :: ns => by simp [PyData.canLayAll0, PyData.canLay0, lay_ints ns]
theorem depth_ints : ∀ ns : List Int, PyData.depthAll (ns.map .int) = 0
  | [] => rfl
  | n :: ns => by simp [PyData.depthAll, PyData.depth, depth_ints ns]
theorem lay_of : ∀ (n : Nat) (d : D), okD n d = true → (toP d).canLay0 = true ∧ (toP d).depth ≤ n + 1 := by
  intro n
  induction n with
  | zero =>
    intro d k
    cases d with
    | scr ns => exact ⟨by simp only [toP, PyData.canLay0]; exact lay_ints ns, by simp only [toP, PyData.depth, depth_ints]; omega⟩
    | str x => exact ⟨k, by simp [toP, PyData.depth]⟩
    | non => exact ⟨rfl, by simp [toP, PyData.depth]⟩
    | bl b => exact ⟨rfl, by simp [toP, PyData.depth]⟩
    | int i => exact ⟨rfl, by simp [toP, PyData.depth]⟩
    | _ => simp [okD] at k
  | succ n ih =>
    have all : ∀ ds : List D, ds.all (okD n) = true → PyData.canLayAll0 (toPL ds) = true ∧ PyData.depthAll (toPL ds) ≤ n + 1 := by
      intro ds
      induction ds with
      | nil => intro _; exact ⟨rfl, by simp [toPL, PyData.depthAll]⟩
      | cons d ds ihd =>
        intro k
        simp only [List.all_cons, Bool.and_eq_true] at k
        obtain ⟨a, b⟩ := ih d k.1
        obtain ⟨c, e⟩ := ihd k.2
        refine ⟨by simp only [toPL, PyData.canLayAll0, a, c, Bool.and_self], ?_⟩
        simp only [toPL, PyData.depthAll]
        omega
    intro d k
    cases d with
    | scr ns => exact ⟨by simp only [toP, PyData.canLay0]; exact lay_ints ns, by simp only [toP, PyData.depth, depth_ints]; omega⟩
    | str x => exact ⟨k, by simp [toP, PyData.depth]⟩
    | non => exact ⟨rfl, by simp [toP, PyData.depth]⟩
    | bl b => exact ⟨rfl, by simp [toP, PyData.depth]⟩
    | int i => exact ⟨rfl, by simp [toP, PyData.depth]⟩
    | tup xs =>
      obtain ⟨a, b⟩ := all xs k
      exact ⟨by simp only [toP, PyData.canLay0]; exact a, by simp only [toP, PyData.depth]; omega⟩
    | lst xs =>
      obtain ⟨a, b⟩ := all xs k
      exact ⟨by simp only [toP, PyData.canLay0]; exact a, by simp only [toP, PyData.depth]; omega⟩
    | _ => simp [okD] at k
theorem shaped_of {d : D} (k : okD 8 d = true) : SeqAt.shaped (toP d) = true := by
  obtain ⟨a, b⟩ := lay_of 8 d k
  show ((toP d).canLay0 && decide ((toP d).depth ≤ 64)) = true
  rw [a, Bool.true_and, decide_eq_true_eq]
  omega
theorem eqv_ints : ∀ ns ms : List Int, PyData.eqvAll (ns.map .int) (ms.map .int) = decide (ns = ms)
  | [], [] => rfl
  | [], _ :: _ => by simp [PyData.eqvAll]
  | _ :: _, [] => by simp [PyData.eqvAll]
  | n :: ns, m :: ms => by
    simp only [List.map_cons, PyData.eqvAll, PyData.eqv, eqv_ints ns ms]
    by_cases c : n = m <;> by_cases c2 : ns = ms <;> simp [c, c2]
theorem beq_dec (a b : Int) : (a == b) = decide (a = b) := by
  by_cases h : a = b <;> simp [h]
theorem beq_decS (a b : Str) : (a == b) = decide (a = b) := by
  by_cases h : a = b <;> simp [h]
theorem eqI_ok : ∀ (n : Nat) (ns : List Int) (ds : List D), ds.all (okD n) = true → eqI ns ds = PyData.eqvAll (ns.map .int) (toPL ds) ∧ eqI ns ds = PyData.eqvAll (toPL ds) (ns.map .int)
  | n, [], [], _ => ⟨rfl, rfl⟩
  | n, [], d :: ds, _ => by simp [eqI, toPL, PyData.eqvAll]
  | n, i :: is, [], _ => by simp [eqI, toPL, PyData.eqvAll]
  | n, i :: is, d :: ds, k => by
    simp only [List.all_cons, Bool.and_eq_true] at k
    obtain ⟨a, b⟩ := eqI_ok n is ds k.2
    cases d with
    | int j =>
      simp only [eqI, List.map_cons, toPL, toP, PyData.eqvAll, PyData.eqv, ← a, ← b, beq_dec]
      refine ⟨trivial, ?_⟩
      by_cases c : i = j
      · simp [c]
      · have c' : ¬ j = i := fun e => c e.symm
        simp [c, c']
    | bl j =>
      simp only [eqI, List.map_cons, toPL, toP, PyData.eqvAll, PyData.eqv, ← a, ← b, beq_dec]
      refine ⟨trivial, ?_⟩
      by_cases c : i = if j = true then 1 else 0
      · simp [← c]
      · have c' : ¬ (if j = true then (1 : Int) else 0) = i := fun e => c e.symm
        simp [c, c']
    | non => simp [eqI, toPL, toP, PyData.eqvAll, PyData.eqv]
    | str x => simp [eqI, toPL, toP, PyData.eqvAll, PyData.eqv]
    | tup x => simp [eqI, toPL, toP, PyData.eqvAll, PyData.eqv]
    | lst x => simp [eqI, toPL, toP, PyData.eqvAll, PyData.eqv]
    | scr x => simp [eqI, toPL, toP, PyData.eqvAll, PyData.eqv]
    | dK _ => cases n <;> simp [okD] at k
    | dT _ => cases n <;> simp [okD] at k
    | ref _ => cases n <;> simp [okD] at k
    | fn _ _ => cases n <;> simp [okD] at k
    | xv _ => cases n <;> simp [okD] at k
theorem eqL_of (n : Nat) (ih : ∀ (d e : D), okD n d = true → okD n e = true → eqD d e = PyData.eqv (toP d) (toP e)) : ∀ (ds es : List D), ds.all (okD n) = true → es.all (okD n) = true → eqL ds es = PyData.eqvAll (toPL ds) (toPL es)
  | [], [], _, _ => rfl
  | [], _ :: _, _, _ => by simp [eqL, toPL, PyData.eqvAll]
  | _ :: _, [], _, _ => by simp [eqL, toPL, PyData.eqvAll]
  | d :: ds, e :: es, k, l => by
    simp only [List.all_cons, Bool.and_eq_true] at k l
    simp only [eqL, toPL, PyData.eqvAll, ih d e k.1 l.1, eqL_of n ih ds es k.2 l.2]
theorem eqD_ok : ∀ (n : Nat) (d e : D), okD n d = true → okD n e = true → eqD d e = PyData.eqv (toP d) (toP e) := by
  intro n
  induction n with
  | zero =>
    intro d e k l
    cases d <;> first
      | (simp [okD] at k; done)
      | (cases e <;> first
        | (simp [okD] at l; done)
        | (simp [eqD, toP, PyData.eqv, beq_dec, beq_decS, eqv_ints]; done))
  | succ n ih =>
    intro d e k l
    cases d <;> first
      | (simp [okD] at k; done)
      | (cases e <;> first
        | (simp [okD] at l; done)
        | (simp [eqD, toP, PyData.eqv, beq_dec, beq_decS, eqv_ints]; done)
        | (simp only [eqD, toP, PyData.eqv]; exact eqL_of n ih _ _ k l)
        | (simp only [eqD, toP, PyData.eqv]; exact (eqI_ok n _ _ l).1)
        | (simp only [eqD, toP, PyData.eqv]; exact (eqI_ok n _ _ k).2))
theorem toPL_any {n : Nat} {d : D} (k : okD n d = true) : ∀ {ds : List D}, ds.all (okD n) = true → (ds.any fun x => eqD x d) = (toPL ds).any fun z => PyData.eqv z (toP d)
  | [], _ => rfl
  | x :: xs, l => by
    simp only [List.all_cons, Bool.and_eq_true] at l
    simp only [List.any_cons, toPL, eqD_ok n x d l.1 k, toPL_any k l.2]
end Mi
namespace Mi
open PySem PySem.Spec PyProof.Rows L2
section
variable {T : Tx} {X : Cx} {W : XW} {H : Hp} {g : Gr} {h : MH}
theorem kV_of {d : D} {v : V} {k : Ky} (q : RepV T H g d v) (e : kOf d = some k) : v = kV k := by
  cases d with
  | int i => cases e; exact q
  | str x => cases e; exact q
  | _ => cases e
theorem kVs_of : ∀ {ds : List D} {vs : List V} {ks : List Ky}, RepL T H g ds vs → ksOf ds = some ks → vs = ks.map kV
  | [], [], ks, _, e => by simp [ksOf] at e; subst e; rfl
  | d :: ds, v :: vs, ks, q, e => by
    simp only [ksOf] at e
    cases e1 : kOf d with
    | none => rw [e1] at e; cases e
    | some k =>
      cases e2 : ksOf ds with
      | none => rw [e1, e2] at e; cases e
      | some r =>
        rw [e1, e2] at e; cases e
        rw [List.map_cons, kV_of q.1 e1, kVs_of q.2 e2]
  | [], _ :: _, _, q, _ => q.elim
  | _ :: _, [], _, q, _ => q.elim
def RepOp (T : Tx) (H : Hp) (g : Gr) : Option D → Option V → Prop
  | none, none => True
  | some d, some v => RepV T H g d v
  | _, _ => False
theorem RepK.look : ∀ {kvs : List (Ky × D)} {kk : List (L2.Key × V)} (k : Ky), RepK T H g kvs kk → RepOp T H g (lookK kvs k) (valV kk k)
  | [], [], _, _ => True.intro
  | (q, d) :: r, (q', v) :: s, k, z => by
    obtain ⟨e, a, b⟩ := z
    subst e
    by_cases c : q = k
    · rw [valV_pos (p := (q, v)) c]; simp only [lookK, if_pos c]; exact a
    · rw [valV_neg (p := (q, v)) c]; simp only [lookK, if_neg c]; exact RepK.look k b
  | [], _ :: _, _, q => q.elim
  | _ :: _, [], _, q => q.elim
theorem RepT.look : ∀ {kvs : List (List Ky × D)} {kk : List (List L2.Key × V)} (k : List Ky), RepT T H g kvs kk → RepOp T H g (lookK kvs k) (valV kk k)
  | [], [], _, _ => True.intro
  | (q, d) :: r, (q', v) :: s, k, z => by
    obtain ⟨e, a, b⟩ := z
    subst e
    by_cases c : q = k
    · rw [valV_pos (p := (q, v)) c]; simp only [lookK, if_pos c]; exact a
    · rw [valV_neg (p := (q, v)) c]; simp only [lookK, if_neg c]; exact RepT.look k b
  | [], _ :: _, _, q => q.elim
  | _ :: _, [], _, q => q.elim
theorem dget_at {d k : D} {x y : V} {o : Option D} (r : Rel T H g h) (qd : RepV T H g d x) (qk : RepV T H g k y) (e : dget h d k = some o) : ∃ a ov, x = .ref a ∧ DGet H a y ov ∧ RepOp T H g o ov := by
  have doK : ∀ {kvs : List (Ky × D)} {kk : List (L2.Key × V)} {a : Addr}, Rd H a (.dK kk) → RepK T H g kvs kk → (kOf k).map (fun q => lookK kvs q) = some o → ∃ ov, DGet H a y ov ∧ RepOp T H g o ov := fun {kvs kk a} e1 e2 e3 => by
    cases e4 : kOf k with
    | none => rw [e4] at e3; cases e3
    | some q => rw [e4] at e3; cases e3; exact ⟨_, .inl ⟨kk, q, e1, kV_of qk e4, rfl⟩, e2.look q⟩
  have doT : ∀ {kvs : List (List Ky × D)} {kk : List (List L2.Key × V)} {a : Addr}, Rd H a (.dT kk) → RepT T H g kvs kk → (ktup k).map (fun q => lookK kvs q) = some o → ∃ ov, DGet H a y ov ∧ RepOp T H g o ov := fun {kvs kk a} e1 e2 e3 => by
    cases k with
    | tup ks =>
      have e3 : (ksOf ks).map (fun q => lookK kvs q) = some o := e3
      cases e4 : ksOf ks with
      | none => rw [e4] at e3; cases e3
      | some q =>
        rw [e4] at e3; cases e3
        obtain ⟨b, vs, eb, hb, q2⟩ := qk
        exact ⟨_, .inr ⟨kk, q, b, e1, eb, by rw [hb, kVs_of q2 e4], rfl⟩, e2.look q⟩
    | _ => cases e3
  cases d with
  | dK kvs =>
    obtain ⟨a, kk, e1, _, e2, e3⟩ := qd
    obtain ⟨ov, p, q⟩ := doK (.inl e2) e3 e
    exact ⟨a, ov, e1, p, q⟩
  | dT kvs =>
    obtain ⟨a, kk, e1, _, e2, e3⟩ := qd
    obtain ⟨ov, p, q⟩ := doT (.inl e2) e3 e
    exact ⟨a, ov, e1, p, q⟩
  | ref n =>
    obtain ⟨a, e1, e2⟩ := qd
    simp only [dget] at e
    cases z : h[n]? with
    | none => rw [z] at e; cases e
    | some ob =>
      rw [z] at e
      have w := r.obj n ob a z e2
      cases ob with
      | lst ds => cases e
      | ins c fs => cases e
      | dK l kvs =>
        obtain ⟨kk, w1, w2⟩ := w
        have rd : Rd H a (.dK kk) := by
          cases l with
          | true => exact .inr w2
          | false => exact .inl w2
        obtain ⟨ov, p, q⟩ := doK rd w1 e
        exact ⟨a, ov, e1, p, q⟩
      | dT l kvs =>
        obtain ⟨kk, w1, w2⟩ := w
        have rd : Rd H a (.dT kk) := by
          cases l with
          | true => exact .inr w2
          | false => exact .inl w2
        obtain ⟨ov, p, q⟩ := doT rd w1 e
        exact ⟨a, ov, e1, p, q⟩
  | _ => cases e
theorem RepOp.isSome {o : Option D} {ov : Option V} (q : RepOp T H g o ov) : o.isSome = ov.isSome := by
  cases o with
  | none => cases ov with
    | none => rfl
    | some _ => exact q.elim
  | some _ => cases ov with
    | none => exact q.elim
    | some _ => rfl
theorem lexLt_eq : ∀ a b : List Int, Mi.lexLt a b = HT.lexLt a b
  | [], [] => rfl
  | [], _ :: _ => rfl
  | _ :: _, [] => rfl
  | x :: xs, y :: ys => by
    rw [HT.lexLt_cons]
    simp only [Mi.lexLt, lexLt_eq xs ys]
theorem eqq_m (hK : X.K = T.K) (hu : X.A.units + 64 < cLine) : OpM T X (compareOp .Eq) (fun a b h => cmpM .eq a b h) := by
  refine OpM.of fun W pins s σ H x y v u Q g h a b I rx ry sz r ra rb o => ?_
  obtain ⟨k, e, q⟩ := cmpM_some r o
  have e : eqq h a b = some k := e
  unfold eqq at e
  by_cases c : (okD 8 (res h 8 a) && okD 8 (res h 8 b)) = true
  · rw [if_pos c] at e; cases e
    rw [Bool.and_eq_true] at c
    refine op_eqD hu pins s σ H x y v u Q I rx ry ⟨_, _, by rw [hK]; exact dp_of r 8 a x ra c.1, by rw [hK]; exact dp_of r 8 b y rb c.2, shaped_of c.1, shaped_of c.2, ?_⟩
    rw [← eqD_ok 8 _ _ c.1 c.2]
    exact q
  · rw [if_neg c] at e; cases e
theorem neq_m (hK : X.K = T.K) (hu : X.A.units + 64 < cLine) : OpM T X (compareOp .NotEq) (fun a b h => cmpM .ne a b h) := by
  refine OpM.of fun W pins s σ H x y v u Q g h a b I rx ry sz r ra rb o => ?_
  obtain ⟨k, e, q⟩ := cmpM_some r o
  have e : (eqq h a b).map not = some k := e
  unfold eqq at e
  by_cases c : (okD 8 (res h 8 a) && okD 8 (res h 8 b)) = true
  · rw [if_pos c] at e; cases e
    rw [Bool.and_eq_true] at c
    refine op_neD hu pins s σ H x y v u Q I rx ry ⟨_, _, by rw [hK]; exact dp_of r 8 a x ra c.1, by rw [hK]; exact dp_of r 8 b y rb c.2, shaped_of c.1, shaped_of c.2, ?_⟩
    rw [← eqD_ok 8 _ _ c.1 c.2]
    exact q
  · rw [if_neg c] at e; cases e
theorem ord_int {o : Co} {a b : D} {x y : V} {k : Bool} {H : Hp} {g : Gr} (ra : RepV T H g a x) (rb : RepV T H g b y) (ho : o ≠ .lt) (e : ordD o a b = some k) : ∃ i j, x = .int i ∧ y = .int j ∧ cmpI o i j = some k := by
  cases a with
  | int i =>
    cases b with
    | int j => exact ⟨i, j, ra, rb, e⟩
    | _ => cases e
  | tup xs =>
    cases b with
    | tup ys => cases o <;> first | cases e | exact absurd rfl ho
    | _ => cases e
  | _ => cases e
theorem lt_m (hK : X.K = T.K) (hu : X.A.units < cLine) : OpM T X (compareOp .Lt) (fun a b h => cmpM .lt a b h) := by
  refine OpM.of fun W pins s σ H x y v u Q g h a b I rx ry sz r ra rb o => ?_
  obtain ⟨k, e, q⟩ := cmpM_some r o
  have e : ordD .lt a b = some k := e
  cases a with
  | int i =>
    cases b with
    | int j =>
      cases e
      exact op_lt pins s σ H _ _ v u Q I rx ry ⟨i, j, ra, rb, q⟩
    | _ => cases e
  | tup xs =>
    cases b with
    | tup ys =>
      simp only [ordD] at e
      cases e1 : intsD xs with
      | none => rw [e1] at e; cases e
      | some is =>
        cases e2 : intsD ys with
        | none => rw [e1, e2] at e; cases e
        | some js =>
          rw [e1, e2] at e; cases e
          obtain ⟨p, vs, ep, hp, q1⟩ := ra
          obtain ⟨p2, us, ep2, hp2, q2⟩ := rb
          refine op_ltT hu pins s σ H x y v u Q I rx ry ⟨p, p2, is, js, ep, ep2, by rw [hK]; exact SqT.of (by rw [hp, q1.ofInts e1]), by rw [hK]; exact SqT.of (by rw [hp2, q2.ofInts e2]), ?_⟩
          rw [← lexLt_eq]; exact q
    | _ => cases e
  | _ => cases e
theorem le_m : OpM T X (compareOp .LtE) (fun a b h => cmpM .le a b h) := by
  refine OpM.of fun W pins s σ H x y v u Q g h a b I rx ry sz r ra rb o => ?_
  obtain ⟨k, e, q⟩ := cmpM_some r o
  obtain ⟨i, j, e1, e2, e3⟩ := ord_int ra rb (by decide) (show ordD .le a b = some k from e)
  cases e3
  exact op_le pins s σ H _ _ v u Q I rx ry ⟨i, j, e1, e2, q⟩
theorem gt_m : OpM T X (compareOp .Gt) (fun a b h => cmpM .gt a b h) := by
  refine OpM.of fun W pins s σ H x y v u Q g h a b I rx ry sz r ra rb o => ?_
  obtain ⟨k, e, q⟩ := cmpM_some r o
  obtain ⟨i, j, e1, e2, e3⟩ := ord_int ra rb (by decide) (show ordD .gt a b = some k from e)
  cases e3
  exact op_gt pins s σ H _ _ v u Q I rx ry ⟨i, j, e1, e2, q⟩
theorem ge_m : OpM T X (compareOp .GtE) (fun a b h => cmpM .ge a b h) := by
  refine OpM.of fun W pins s σ H x y v u Q g h a b I rx ry sz r ra rb o => ?_
  obtain ⟨k, e, q⟩ := cmpM_some r o
  obtain ⟨i, j, e1, e2, e3⟩ := ord_int ra rb (by decide) (show ordD .ge a b = some k from e)
  cases e3
  exact op_ge pins s σ H _ _ v u Q I rx ry ⟨i, j, e1, e2, q⟩
theorem isD_non {a : D} {x : V} {H : Hp} {g : Gr} (ra : RepV T H g a x) : isNon a = decide (x = .non) := by
  cases a with
  | non => have e : x = .non := ra; subst e; rfl
  | bl b => have e : x = .bl b := ra; subst e; rfl
  | int b => have e : x = .int b := ra; subst e; rfl
  | str b => have e : x = .str b := ra; subst e; rfl
  | tup _ => obtain ⟨_, _, e, _⟩ := ra; subst e; rfl
  | lst _ => obtain ⟨_, _, e, _⟩ := ra; subst e; rfl
  | dK _ => obtain ⟨_, _, e, _⟩ := ra; subst e; rfl
  | dT _ => obtain ⟨_, _, e, _⟩ := ra; subst e; rfl
  | ref _ => obtain ⟨_, e, _⟩ := ra; subst e; rfl
  | scr _ => obtain ⟨_, e, _⟩ := ra; subst e; rfl
  | fn _ _ => have e : x = .ref _ := ra.1; subst e; rfl
  | xv _ => obtain ⟨a, _, _, e, _⟩ := ra; subst e; rfl
theorem is_m : OpM T X (compareOp .Is) (fun a b h => cmpM .is a b h) := by
  refine OpM.of fun W pins s σ H x y v u Q g h a b I rx ry sz r ra rb o => ?_
  obtain ⟨k, e, q⟩ := cmpM_some r o
  have e : isD a b = some k := e
  cases b with
  | non =>
    simp only [isD] at e
    cases e
    rw [isD_non ra] at q
    exact op_isN pins s σ H x y v u Q I rx ry ⟨rb, q⟩
  | bl j =>
    cases a with
    | bl i => cases e; exact op_is_bl pins s σ H x y v u Q I rx ry ⟨i, j, ra, rb, q⟩
    | _ => cases e
  | _ => cases e
theorem isn_m : OpM T X (compareOp .IsNot) (fun a b h => cmpM .isn a b h) := by
  refine OpM.of fun W pins s σ H x y v u Q g h a b I rx ry sz r ra rb o => ?_
  obtain ⟨k, e, q⟩ := cmpM_some r o
  have e : (isD a b).map not = some k := e
  cases b with
  | non =>
    simp only [isD, Option.map_some, Option.some.injEq] at e
    subst e
    rw [isD_non ra] at q
    exact op_notN pins s σ H x y v u Q I rx ry ⟨rb, q⟩
  | bl j =>
    cases a with
    | bl i => cases e; exact op_isnot_bl pins s σ H x y v u Q I rx ry ⟨i, j, ra, rb, q⟩
    | _ => cases e
  | _ => cases e
theorem canLay_all {n : Nat} : ∀ {ds : List D}, ds.all (okD n) = true → PyData.canLayAll0 (toPL ds) = true
  | [], _ => rfl
  | d :: ds, k => by
    simp only [List.all_cons, Bool.and_eq_true] at k
    simp only [toPL, PyData.canLayAll0, (lay_of n d k.1).1, canLay_all k.2, Bool.and_self]
theorem dpAll_of (r : Rel T H g h) (n : Nat) : ∀ {ds : List D} {vs : List V}, RepL T H g ds vs → (ds.map (res h n)).all (okD n) = true → DpAll T.K H vs (toPL (ds.map (res h n)))
  | [], [], _, _ => .nil
  | d :: ds, v :: vs, q, k => by
    simp only [List.map_cons, List.all_cons, Bool.and_eq_true] at k
    exact .cons (dp_of r n d v q.1 k.1) (dpAll_of r n q.2 k.2)
  | [], _ :: _, q, _ => q.elim
  | _ :: _, [], q, _ => q.elim
theorem room_at {A : Around} {d : D} {xs : List PyData} (hu : A.units + 200 < cLine) (k : okD 8 d = true) : A.units + 1 + min (PyData.depthAll xs) (toP d).depth < cLine := by
  have := (lay_of 8 d k).2
  have h2 : min (PyData.depthAll xs) (toP d).depth ≤ (toP d).depth := Nat.min_le_right _ _
  omega
theorem inL_at {pins : List (Addr × Obj)} {s : Shared} {σ : St} {x y : V} {v u : Value} {Q : VK} {a : D} {xs : List D} {k : Bool} {p : Addr} {vs : List V} (I : Inv X pins σ H s) (hK : X.K = T.K) (hu : X.A.units + 200 < cLine) (rx : RelV x v) (r : Rel T H g h) (ra : RepV T H g a x)
    (hs : SqL T.K H p vs ∨ SqT T.K H p vs) (q1 : RepL T H g xs vs) (e : inL h a xs = some k) :
    (Q (.bl k) H → wpAny (model X.prog X.w) X.A (compareOp .In v (.ref p)) (EP X pins σ Q) X.xe s) ∧ (Q (.bl (!k)) H → wpAny (model X.prog X.w) X.A (compareOp .NotIn v (.ref p)) (EP X pins σ Q) X.xe s) := by
  unfold inL at e
  by_cases c : (okD 8 (res h 8 a) && (xs.map (res h 8)).all (okD 8)) = true
  · rw [if_pos c, toPL_any (Bool.and_eq_true_iff.mp c).1 (Bool.and_eq_true_iff.mp c).2] at e
    cases e
    rw [Bool.and_eq_true] at c
    obtain ⟨as, r1⟩ := Dp.reads I _ x v (by rw [hK]; exact dp_of r 8 a x ra c.1) rx
    have da := dpAll_of r 8 q1 c.2
    have l1 := canLay_all c.2
    have l2 := (lay_of 8 _ c.1).1
    have rm := room_at (A := X.A) (d := res h 8 a) (xs := toPL (xs.map (res h 8))) hu c.1
    rcases hs with hs | hs
    · obtain ⟨bs, r2⟩ := Dp.reads I (.list (toPL (xs.map (res h 8)))) (.ref p) (.ref p) (by rw [hK]; exact .lst hs da) rfl
      exact ⟨fun q => SeqAt.in_list_reads r2 r1 l1 l2 rm ⟨.bl _, H, I, rfl, q⟩, fun q => SeqAt.notIn_list_reads r2 r1 l1 l2 rm ⟨.bl _, H, I, rfl, q⟩⟩
    · obtain ⟨bs, r2⟩ := Dp.reads I (.tuple (toPL (xs.map (res h 8)))) (.ref p) (.ref p) (by rw [hK]; exact .tup hs da) rfl
      exact ⟨fun q => SeqAt.in_tuple_reads r2 r1 l1 l2 rm ⟨.bl _, H, I, rfl, q⟩, fun q => SeqAt.notIn_tuple_reads r2 r1 l1 l2 rm ⟨.bl _, H, I, rfl, q⟩⟩
  · rw [if_neg c] at e; cases e
theorem sign_of {x : Str} (h : x.length = 1) : ∃ c, x = ⟨#[c]⟩ := by
  obtain ⟨a⟩ := x
  have h : a.size = 1 := h
  obtain ⟨l⟩ := a
  match l, h with
  | [c], _ => exact ⟨c, rfl⟩
theorem any_sign {c : Nat} : ∀ l : List Nat, (l.any fun d => decide (some d = some c)) = decide (c ∈ l)
  | [] => rfl
  | d :: l => by
    rw [List.any_cons, any_sign l]
    by_cases e : d = c
    · subst e; simp
    · have e' : ¬ c = d := fun z => e z.symm
      simp [e, e']
theorem inD_both {pins : List (Addr × Obj)} {s : Shared} {σ : St} {x y : V} {v u : Value} {Q : VK} {a b : D} {k : Bool} (I : Inv X pins σ H s) (hK : X.K = T.K) (hu : X.A.units + 200 < cLine) (rx : RelV x v) (ry : RelV y u) (r : Rel T H g h) (ra : RepV T H g a x) (rb : RepV T H g b y)
    (e : inD h a b = some k) :
    (Q (.bl k) H → wpAny (model X.prog X.w) X.A (compareOp .In v u) (EP X pins σ Q) X.xe s) ∧ (Q (.bl (!k)) H → wpAny (model X.prog X.w) X.A (compareOp .NotIn v u) (EP X pins σ Q) X.xe s) := by
  have dict : (dget h b a).map Option.isSome = some k → (Q (.bl k) H → wpAny (model X.prog X.w) X.A (compareOp .In v u) (EP X pins σ Q) X.xe s) ∧ (Q (.bl (!k)) H → wpAny (model X.prog X.w) X.A (compareOp .NotIn v u) (EP X pins σ Q) X.xe s) := fun e => by
    cases z : dget h b a with
    | none => rw [z] at e; cases e
    | some o =>
      rw [z] at e; cases e
      obtain ⟨p, ov, ep, dg, ro⟩ := dget_at r rb ra z
      subst ep
      cases (show u = Value.ref p from ry)
      refine ⟨fun q => d_in (by omega) I dg rx fun s1 I1 => ⟨.bl _, H, I1, rfl, ?_⟩, fun q => d_notIn (by omega) I dg rx fun s1 I1 => ⟨.bl _, H, I1, rfl, ?_⟩⟩
      · rw [← ro.isSome]; exact q
      · rw [← ro.isSome]; exact q
  cases b with
  | tup xs =>
    obtain ⟨p, vs, ep, hp, q1⟩ := rb
    subst ep
    cases (show u = Value.ref p from ry)
    exact inL_at (y := .non) (u := .none) I hK hu rx r ra (.inr (SqT.of hp)) q1 e
  | lst xs =>
    obtain ⟨p, vs, ep, _, hp, q1⟩ := rb
    subst ep
    cases (show u = Value.ref p from ry)
    exact inL_at (y := .non) (u := .none) I hK hu rx r ra (.inl (SqL.of hp)) q1 e
  | ref n =>
    simp only [inD] at e
    cases z : h[n]? with
    | none => rw [z] at e; exact dict e
    | some ob =>
      rw [z] at e
      cases ob with
      | lst ds =>
        obtain ⟨p, ep, hp⟩ := rb
        subst ep
        cases (show u = Value.ref p from ry)
        obtain ⟨vs, q1, q2⟩ := r.obj n _ p z hp
        exact inL_at (y := .non) (u := .none) I hK hu rx r ra (.inl (SqL.of q1)) q2 e
      | dK _ _ => exact dict e
      | dT _ _ => exact dict e
      | ins _ _ => exact dict e
  | str z =>
    cases a with
    | str w =>
      simp only [inD] at e
      by_cases c : w.length = 1
      · rw [if_pos c] at e
        obtain ⟨cc, rfl⟩ := sign_of c
        have e : some (z.cps.toList.any fun d => decide (some d = some cc)) = some k := e
        rw [any_sign] at e
        cases e
        exact ⟨fun q => op_in_sign pins s σ H x y v u Q I rx ry ⟨cc, z, ra, rb, q⟩, fun q => op_notIn_sign pins s σ H x y v u Q I rx ry ⟨cc, z, ra, rb, q⟩⟩
      · rw [if_neg c] at e; cases e
    | _ => cases e
  | dK _ => exact dict e
  | dT _ => exact dict e
  | non => exact dict e
  | bl _ => exact dict e
  | int _ => exact dict e
  | scr _ => exact dict e
  | fn _ _ => exact dict e
  | xv _ => exact dict e
theorem in_m (hK : X.K = T.K) (hu : X.A.units + 200 < cLine) : OpM T X (compareOp .In) (fun a b h => cmpM .inn a b h) := by
  refine OpM.of fun W pins s σ H x y v u Q g h a b I rx ry sz r ra rb o => ?_
  obtain ⟨k, e, q⟩ := cmpM_some r o
  exact (inD_both I hK hu rx ry r ra rb (show inD h a b = some k from e)).1 q
theorem nin_m (hK : X.K = T.K) (hu : X.A.units + 200 < cLine) : OpM T X (compareOp .NotIn) (fun a b h => cmpM .nin a b h) := by
  refine OpM.of fun W pins s σ H x y v u Q g h a b I rx ry sz r ra rb o => ?_
  obtain ⟨k, e, q⟩ := cmpM_some r o
  have e : (inD h a b).map not = some k := e
  cases z : inD h a b with
  | none => rw [z] at e; cases e
  | some k0 =>
    rw [z] at e; cases e
    exact (inD_both I hK hu rx ry r ra rb z).2 q
theorem cop_m {o : Co} (hK : X.K = T.K) (hu : X.A.units + 200 < cLine) : OpM T X (compareOp (coOf o)) (fun a b h => cmpM o a b h) := by
  cases o with
  | eq => exact eqq_m hK (by omega)
  | ne => exact neq_m hK (by omega)
  | lt => exact lt_m hK (by omega)
  | le => exact le_m
  | gt => exact gt_m
  | ge => exact ge_m
  | is => exact is_m
  | isn => exact isn_m
  | inn => exact in_m hK hu
  | nin => exact nin_m hK hu
end
end Mi
namespace Mi
open PySem PySem.Spec PyProof.Rows L2
section
variable {T : Tx} {X : Cx} {W : XW} {H : Hp} {g : Gr} {h : MH}
theorem ixN_eq (n : Nat) (i : Int) : Mi.ixN n i = L2.ixN n i := by
  unfold Mi.ixN L2.ixN
  by_cases c : 0 ≤ i
  · rw [if_pos c, if_pos c]
    by_cases d : i < n
    · rw [if_pos d, if_pos (by omega)]
    · rw [if_neg d, if_neg (by omega)]
  · rw [if_neg c, if_neg c]
    by_cases d : -(n : Int) ≤ i
    · rw [if_pos d, if_pos (by omega)]
    · rw [if_neg d, if_neg (by omega)]
theorem atI_eq {α : Type} (xs : List α) (i : Int) : Mi.atI xs i = L2.atI xs i := by
  unfold Mi.atI L2.atI
  rw [ixN_eq]
  cases L2.ixN xs.length i <;> rfl
theorem atI_rep {xs : List D} {vs : List V} {i : Int} {d : D} (q : RepL T H g xs vs) (e : Mi.atI xs i = some d) : ∃ v, L2.atI vs i = some v ∧ RepV T H g d v := by
  unfold Mi.atI at e
  cases z : Mi.ixN xs.length i with
  | none => rw [z] at e; cases e
  | some j =>
    rw [z] at e
    obtain ⟨v, a, b⟩ := q.get e
    refine ⟨v, ?_, b⟩
    unfold L2.atI
    rw [← q.length, ← ixN_eq, z]
    exact a
theorem ix_dict (hu : X.A.units + 200 < cLine) : IxR X (fun x y H Q => ∃ a v, x = .ref a ∧ DGet H a y (some v) ∧ Q v H) := by
  intro value slice pins s σ H x y v u Q I rx ry q hs
  obtain ⟨a, z, ex, dg, q⟩ := q
  subst ex
  cases (show v = Value.ref a from rx)
  exact tail_any (dict_typeIs I dg) PySem.F.slot_dict_getitem.lookup (d_getItem (by omega) I dg ry fun w' s3 I3 rw' => ⟨z, H, I3, rw', q⟩) hs
theorem ix_m (hK : X.K = T.K) (hu : X.A.units + 200 < cLine) : IxR X (R2m T W fun a i h => idxM a i h) := by
  intro value slice pins s σ H x y v u Q I rx ry q hs
  obtain ⟨g, h, a, b, r, ra, rb, o⟩ := q (inv_sz I)
  have o : Out T g H (idxM a b h) Q W := o
  unfold idxM at o
  cases e : idxD a b h with
  | none => rw [e] at o; exact False.elim o
  | some d =>
    rw [e] at o
    have o2 : Out T g H (.ok d h) Q W := o
    have seq : ∀ {xs : List D} {k : Int} {p : Addr} {vs : List V}, x = .ref p → (SqL T.K H p vs ∨ SqT T.K H p vs) → RepL T H g xs vs → b = .int k → Mi.atI xs k = some d → wpAny (model X.prog X.w) X.A (subscriptTail value slice v u) (EP X pins σ Q) X.xe s := fun {xs k p vs} e1 e2 e3 e4 e5 => by
      obtain ⟨w, a1, a2⟩ := atI_rep e3 e5
      subst e4
      refine ix_seq value slice pins s σ H x y v u Q I rx ry ?_ hs
      rcases e2 with e2 | e2
      · exact .inl ⟨p, vs, k, w, e1, rb, by rw [hK]; exact e2, a1, o2.here r a2⟩
      · exact .inr (.inl ⟨p, vs, k, w, e1, rb, by rw [hK]; exact e2, a1, o2.here r a2⟩)
    have dict : (dget h a b).bind id = some d → wpAny (model X.prog X.w) X.A (subscriptTail value slice v u) (EP X pins σ Q) X.xe s := fun e => by
      cases z : dget h a b with
      | none => rw [z] at e; cases e
      | some od =>
        rw [z] at e
        have e : od = some d := e
        subst e
        obtain ⟨p, ov, ep, dg, ro⟩ := dget_at r ra rb z
        cases ov with
        | none => exact ro.elim
        | some w => exact ix_dict hu value slice pins s σ H x y v u Q I rx ry ⟨p, w, ep, dg, o2.here r ro⟩ hs
    have ofItems : idxI (items h a) b = some d → wpAny (model X.prog X.w) X.A (subscriptTail value slice v u) (EP X pins σ Q) X.xe s := fun e => by
      cases b with
      | int k =>
        have e : (items h a).bind (fun xs => Mi.atI xs k) = some d := e
        cases z : items h a with
        | none => rw [z] at e; cases e
        | some xs =>
          rw [z] at e
          obtain ⟨p, vs, ep, hp, q1⟩ := items_at r ra z
          exact seq ep hp q1 rfl e
      | _ => cases e
    cases a with
    | str z =>
      cases b with
      | int k =>
        have e : (if z.length ≤ big then (Mi.atI z.cps.toList k).map (fun c => D.str ⟨#[c]⟩) else none) = some d := e
        by_cases hz : z.length ≤ big
        · rw [if_pos hz] at e
          cases w : Mi.atI z.cps.toList k with
          | none => rw [w] at e; cases e
          | some c =>
            rw [w] at e; cases e
            exact ix_seq value slice pins s σ H x y v u Q I rx ry (.inr (.inr ⟨z, k, c, ra, rb, big_size hz, by rw [← atI_eq]; exact w, o2.here r rfl⟩)) hs
        · rw [if_neg hz] at e; cases e
      | _ => cases e
    | dK _ => exact dict e
    | dT _ => exact dict e
    | ref n =>
      simp only [idxD] at e
      cases z : h[n]? with
      | none => rw [z] at e; exact dict e
      | some ob =>
        rw [z] at e
        cases ob with
        | lst ds =>
          cases b with
          | int k =>
            obtain ⟨p, ep, hp⟩ := ra
            obtain ⟨vs, q1, q2⟩ := r.obj n _ p z hp
            exact seq ep (.inl (SqL.of q1)) q2 rfl e
          | _ => cases e
        | dK _ _ => exact dict e
        | dT _ _ => exact dict e
        | ins _ _ => exact dict e
    | tup _ => exact ofItems e
    | lst _ => exact ofItems e
    | scr _ => exact ofItems e
    | non => exact ofItems e
    | bl _ => exact ofItems e
    | int _ => exact ofItems e
    | fn _ _ => exact ofItems e
    | xv _ => exact ofItems e
theorem cutI_eq (n d : Nat) (o : Option Int) : cutI n d o = HT.sIx n d o := by
  cases o with
  | none => rfl
  | some v =>
    show min (if v < 0 then v + (n : Int) else v).toNat n = if v < 0 then (v + (n : Int)).toNat else min v.toNat n
    by_cases c : v < 0
    · rw [if_pos c, if_pos c]; omega
    · rw [if_neg c, if_neg c]
theorem cutL_rep {xs : List D} {vs : List V} (lo hi : Option Int) (q : RepL T H g xs vs) : RepL T H g (cutL xs lo hi) (cutV vs lo hi) := by
  unfold cutL cutV
  rw [cutI_eq, cutI_eq, ← q.length]
  exact (q.drop _).take _
def SlM (T : Tx) (W : XW) (m : Bool) : V → Option Int → Option Int → Hp → VK → Prop := fun x lo hi H Q => SzH H → ∃ g h a, Rel T H g h ∧ RepV T H g a x ∧ Out T g H (slD m a lo hi h) Q W
theorem sl_m {m : Bool} (hK : X.K = T.K) : SlR X (SlM T W m) := by
  intro pins s σ H x v vl vu lo hi sl Q I rx hs pl pu q
  obtain ⟨g, h, a, r, ra, o⟩ := q (inv_sz I)
  have list : ∀ {xs : List D}, lits h a = some xs → Out T g H (mk m (cutL xs lo hi) h) Q W → ∃ T id, typeLookup (.type T) "__getitem__" = pure (some (.builtin id)) ∧ s.TypeIs v T ∧ wpAny (model X.prog X.w) X.A (getItem v (.ref sl)) (EP X pins σ Q) X.xe s := fun {xs} e o => by
    obtain ⟨p, vs, ep, hp, q1⟩ := lits_at r ra e
    exact sl_list pins s σ H x v vl vu lo hi sl Q I rx hs pl pu ⟨p, vs, ep, by rw [hK]; exact SqL.of hp, fun pn hn => Out.mk r hn (cutL_rep lo hi q1) o⟩
  have go : (match lits h a with
      | some xs => mk m (cutL xs lo hi) h
      | none => .stuck) = slD m a lo hi h → ∃ T id, typeLookup (.type T) "__getitem__" = pure (some (.builtin id)) ∧ s.TypeIs v T ∧ wpAny (model X.prog X.w) X.A (getItem v (.ref sl)) (EP X pins σ Q) X.xe s := fun e => by
    rw [← e] at o
    cases z : lits h a with
    | none => rw [z] at o; exact False.elim o
    | some xs => rw [z] at o; exact list z o
  cases a with
  | tup xs =>
    obtain ⟨p, vs, ep, hp, q1⟩ := ra
    have o : Out T g H (.ok (.tup (cutL xs lo hi)) h) Q W := o
    refine sl_tupA pins s σ H x v vl vu lo hi sl Q I rx hs pl pu ⟨p, vs, ep, by rw [hK]; exact SqT.of hp, fun e => ?_, fun _ pn hn => Out.tup r hn (cutL_rep lo hi q1) o⟩
    refine o.here r ⟨p, vs, rfl, hp, ?_⟩
    have z := cutL_rep lo hi q1
    have w : cutV vs lo hi = vs := by
      unfold cutV
      rw [e.1, e.2, List.drop_zero, Nat.sub_zero, List.take_length]
    rw [w] at z
    exact z
  | str z =>
    have o : Out T g H (if z.length ≤ big then .ok (.str ⟨(cutL z.cps.toList lo hi).toArray⟩) h else .stuck) Q W := o
    by_cases hz : z.length ≤ big
    · rw [if_pos hz] at o
      refine sl_str pins s σ H x v vl vu lo hi sl Q I rx hs pl pu ⟨z, ra, big_size hz, ?_⟩
      have e : (⟨(cutL z.cps.toList lo hi).toArray⟩ : Str) = cutS z lo hi := by
        have l : z.cps.toList.length = z.length := by rw [Array.length_toList]; rfl
        unfold cutL cutS
        rw [cutI_eq, cutI_eq, l]
      rw [← e]
      exact o.here r rfl
    · rw [if_neg hz] at o; exact False.elim o
  | lst ds => exact go rfl
  | ref n => exact go rfl
  | scr ns => exact go rfl
  | non => exact go rfl
  | bl _ => exact go rfl
  | int _ => exact go rfl
  | dK _ => exact go rfl
  | dT _ => exact go rfl
  | fn _ _ => exact go rfl
  | xv _ => exact go rfl
end
end Mi
namespace Mi
open PySem PySem.Spec PyProof.Rows L2
def CallM (T : Tx) (X : Cx) (f : Value) (m : List D → MH → R D) : Prop := ∀ W : XW, CallR X f (fun xs H Q => SzH H → ∃ g h ds, Rel T H g h ∧ RepL T H g ds xs ∧ Out T g H (m ds h) Q W)
section
variable {T : Tx} {X : Cx} {W : XW} {H : Hp} {g : Gr} {h : MH}
theorem CallM.of {f : Value} {m : List D → MH → R D}
    (k : ∀ (W : XW) (pins : List (Addr × Obj)) (s : Shared) (σ : St) (H : Hp) (xs : List V) (us : List Value) (Q : VK) (g : Gr) (h : MH) (ds : List D), Inv X pins σ H s → Vals xs us → SzH H → Rel T H g h → RepL T H g ds xs → Out T g H (m ds h) Q W →
      wpAny (model X.prog X.w) X.A (PySem.call f us) (EP X pins σ Q) X.xe s) : CallM T X f m := by
  intro W pins s σ H xs us Q I rs q
  obtain ⟨g, h, ds, r, rd, o⟩ := q (inv_sz I)
  exact k W pins s σ H xs us Q g h ds I rs (inv_sz I) r rd o
theorem rep1 {d : D} {xs : List V} (q : RepL T H g [d] xs) : ∃ x, xs = [x] ∧ RepV T H g d x := by
  cases xs with
  | nil => exact q.elim
  | cons x r =>
    cases r with
    | nil => exact ⟨x, rfl, q.1⟩
    | cons _ _ => exact q.2.elim
theorem rep2 {d e : D} {xs : List V} (q : RepL T H g [d, e] xs) : ∃ x y, xs = [x, y] ∧ RepV T H g d x ∧ RepV T H g e y := by
  cases xs with
  | nil => exact q.elim
  | cons x r =>
    obtain ⟨y, e1, q2⟩ := rep1 q.2
    subst e1
    exact ⟨x, y, rfl, q.1, q2⟩
theorem CallM.one {f : Value} {m : List D → MH → R D} (h0 : ∀ (ds : List D) (h : MH), (∀ d, ds ≠ [d]) → m ds h = .stuck)
    (k : ∀ (W : XW) (pins : List (Addr × Obj)) (s : Shared) (σ : St) (H : Hp) (x : V) (us : List Value) (Q : VK) (g : Gr) (h : MH) (d : D), Inv X pins σ H s → Vals [x] us → SzH H → Rel T H g h → RepV T H g d x → Out T g H (m [d] h) Q W →
      wpAny (model X.prog X.w) X.A (PySem.call f us) (EP X pins σ Q) X.xe s) : CallM T X f m := by
  refine CallM.of fun W pins s σ H xs us Q g h ds I rs sz r rd o => ?_
  match ds, rd, o with
  | [d], rd, o =>
    obtain ⟨x, e, q⟩ := rep1 rd
    subst e
    exact k W pins s σ H x us Q g h d I rs sz r q o
  | [], rd, o => rw [h0 [] h (fun _ z => nomatch z)] at o; exact o.elim
  | a :: b :: r, rd, o => rw [h0 (a :: b :: r) h (fun _ z => nomatch z)] at o; exact o.elim
theorem CallM.two {f : Value} {m : List D → MH → R D} (h0 : ∀ (ds : List D) (h : MH), (∀ d e, ds ≠ [d, e]) → m ds h = .stuck)
    (k : ∀ (W : XW) (pins : List (Addr × Obj)) (s : Shared) (σ : St) (H : Hp) (x y : V) (us : List Value) (Q : VK) (g : Gr) (h : MH) (d e : D), Inv X pins σ H s → Vals [x, y] us → SzH H → Rel T H g h → RepV T H g d x → RepV T H g e y → Out T g H (m [d, e] h) Q W →
      wpAny (model X.prog X.w) X.A (PySem.call f us) (EP X pins σ Q) X.xe s) : CallM T X f m := by
  refine CallM.of fun W pins s σ H xs us Q g h ds I rs sz r rd o => ?_
  match ds, rd, o with
  | [d, e], rd, o =>
    obtain ⟨x, y, z, q1, q2⟩ := rep2 rd
    subst z
    exact k W pins s σ H x y us Q g h d e I rs sz r q1 q2 o
  | [], rd, o => rw [h0 [] h (fun _ _ z => nomatch z)] at o; exact o.elim
  | [a], rd, o => rw [h0 [a] h (fun _ _ z => nomatch z)] at o; exact o.elim
  | a :: b :: c :: r, rd, o => rw [h0 (a :: b :: c :: r) h (fun _ _ z => nomatch z)] at o; exact o.elim
theorem prim_one {p : Pr} {ds : List D} {h : MH} (e : (fun a b => prim2 p a b h) = fun _ _ => .stuck) (k : ∀ d, ds ≠ [d]) : prim p ds h = .stuck := by
  match ds, k with
  | [d], k => exact absurd rfl (k d)
  | [], _ => rfl
  | [a, b], _ => exact congrFun (congrFun e a) b
  | _ :: _ :: _ :: _, _ => rfl
theorem prim_two {p : Pr} {ds : List D} {h : MH} (e : (fun a => prim1 p a h) = fun _ => .stuck) (k : ∀ d e, ds ≠ [d, e]) : prim p ds h = .stuck := by
  match ds, k with
  | [d, e], k => exact absurd rfl (k d e)
  | [], _ => rfl
  | [a], _ => exact congrFun e a
  | _ :: _ :: _ :: _, _ => rfl
theorem len_m (hK : X.K = T.K) : CallM T X (.builtin "len") (prim .len) := by
  refine CallM.one (fun ds h k => ?_) fun W pins s σ H x us Q g h d I rs sz r q o => ?_
  · exact prim_one rfl k
  · have seq : (match items h d with
        | some xs => .ok (.int xs.length) h
        | none => .stuck) = lenD d h → wpAny (model X.prog X.w) X.A (PySem.call (.builtin "len") us) (EP X pins σ Q) X.xe s := fun e => by
      have o : Out T g H (lenD d h) Q W := o
      rw [← e] at o
      cases z : items h d with
      | none => rw [z] at o; exact o.elim
      | some xs =>
        rw [z] at o
        obtain ⟨p, vs, ep, hp, q1⟩ := items_at r q z
        have q2 := Out.here (v := .int xs.length) r o rfl
        rw [q1.length] at q2
        subst ep
        exact call_len_seq pins s σ H _ us Q I rs ⟨p, vs, rfl, by rw [hK]; exact hp, q2⟩
    cases d with
    | str z =>
      have o : Out T g H (if z.length ≤ big then .ok (.int z.length) h else .stuck) Q W := o
      by_cases c : z.length ≤ big
      · rw [if_pos c] at o
        exact call_len_str pins s σ H _ us Q I rs ⟨z, by rw [show x = V.str z from q], big_size c, o.here r rfl⟩
      · rw [if_neg c] at o; exact o.elim
    | _ => exact seq rfl
theorem all_m (hc : X.calm = true) : CallM T X (.builtin "all") (prim .all) := by
  refine CallM.one (fun ds h k => ?_) fun W pins s σ H x us Q g h d I rs sz r q o => ?_
  · exact prim_one rfl k
  · have o : Out T g H (match (lits h d).bind blsD with
      | some bs => .ok (.bl (bs.all id)) h
      | none => .stuck) Q W := o
    cases z : lits h d with
    | none => rw [z] at o; exact o.elim
    | some xs =>
      cases z2 : blsD xs with
      | none => rw [z] at o; simp only [Option.bind_some, z2] at o; exact o.elim
      | some bs =>
        rw [z] at o
        simp only [Option.bind_some, z2] at o
        obtain ⟨p, vs, ep, hp, q1⟩ := lits_at r q z
        rw [q1.ofBls z2] at hp
        subst ep
        exact cr_all hc pins s σ H _ us Q I rs ⟨p, bs, rfl, SqL.of hp, o.here r rfl⟩
theorem any_m (hc : X.calm = true) : CallM T X (.builtin "any") (prim .any) := by
  refine CallM.one (fun ds h k => ?_) fun W pins s σ H x us Q g h d I rs sz r q o => ?_
  · exact prim_one rfl k
  · have o : Out T g H (match (lits h d).bind blsD with
      | some bs => .ok (.bl (bs.any id)) h
      | none => .stuck) Q W := o
    cases z : lits h d with
    | none => rw [z] at o; exact o.elim
    | some xs =>
      cases z2 : blsD xs with
      | none => rw [z] at o; simp only [Option.bind_some, z2] at o; exact o.elim
      | some bs =>
        rw [z] at o
        simp only [Option.bind_some, z2] at o
        obtain ⟨p, vs, ep, hp, q1⟩ := lits_at r q z
        rw [q1.ofBls z2] at hp
        subst ep
        exact cr_any hc pins s σ H _ us Q I rs ⟨p, bs, rfl, SqL.of hp, o.here r rfl⟩
theorem sum_m (hK : X.K = T.K) (hc : X.calm = true) : CallM T X (.builtin "sum") (prim .sum) := by
  refine CallM.one (fun ds h k => ?_) fun W pins s σ H x us Q g h d I rs sz r q o => ?_
  · exact prim_one rfl k
  · have o : Out T g H (match (items h d).bind intsD with
      | some is => .ok (.int is.sum) h
      | none => .stuck) Q W := o
    cases z : items h d with
    | none => rw [z] at o; exact o.elim
    | some xs =>
      cases z2 : intsD xs with
      | none => rw [z] at o; simp only [Option.bind_some, z2] at o; exact o.elim
      | some ns =>
        rw [z] at o
        simp only [Option.bind_some, z2] at o
        obtain ⟨p, vs, ep, hp, q1⟩ := items_at r q z
        have e1 := q1.ofInts z2
        subst e1 ep
        rcases hp with hp | hp
        · exact cr_sum hc pins s σ H _ us Q I rs ⟨p, ns, rfl, by rw [hK]; exact hp, o.here r rfl⟩
        · obtain ⟨its, rv, pt, _⟩ := I.tuple (show SqT X.K H p (ns.map V.int) by rw [hK]; exact hp)
          have e := Vals.ref1 rs
          subst e
          obtain ⟨ys, hx⟩ := rv.ints.allInts.items
          have hn : numsOf its.toArray.toList = ns := by rw [show its.toArray.toList = its from rfl, rv.ints.numsOf]
          rw [hx] at pt hn
          rw [nums_intItems] at hn
          refine PySem.W.ktm_sumG (I.ok.hd hc) pt fun h' tk t' hk => ?_
          rw [preSum_eq, List.take_of_length_le (by simp), hn]
          exact ⟨.int _, H, I.kept hk, ⟨_, rfl⟩, o.here r rfl⟩
theorem list_m {m : Bool} (hK : X.K = T.K) : CallM T X (.type "list") (prim (.list m)) := by
  refine CallM.one (fun ds h k => ?_) fun W pins s σ H x us Q g h d I rs sz r q o => ?_
  · exact prim_one rfl k
  · have o : Out T g H (match items h d with
      | some xs => mk m xs h
      | none => .stuck) Q W := o
    cases z : items h d with
    | none => rw [z] at o; exact o.elim
    | some xs =>
      rw [z] at o
      obtain ⟨p, vs, ep, hp, q1⟩ := items_at r q z
      subst ep
      exact call_list_of pins s σ H _ us Q I rs ⟨p, vs, rfl, by rw [hK]; exact hp, fun l hl => Out.mk r hl q1 o⟩
theorem tuple_m (hK : X.K = T.K) : CallM T X (.type "tuple") (prim .tuple) := by
  refine CallM.one (fun ds h k => ?_) fun W pins s σ H x us Q g h d I rs sz r q o => ?_
  · exact prim_one rfl k
  · have o : Out T g H (match items h d with
      | some xs => .ok (.tup xs) h
      | none => .stuck) Q W := o
    cases z : items h d with
    | none => rw [z] at o; exact o.elim
    | some xs =>
      rw [z] at o
      have o : Out T g H (.ok (.tup xs) h) Q W := o
      obtain ⟨p, vs, ep, hp, q1⟩ := items_at2 r q z
      subst ep
      rcases hp with hp | ⟨hp, ed⟩
      · exact call_tuple_of pins s σ H _ us Q I rs ⟨p, vs, rfl, .inl ⟨by rw [hK]; exact hp, fun l hl => Out.tup r hl q1 o⟩⟩
      · refine call_tuple_of pins s σ H _ us Q I rs ⟨p, vs, rfl, .inr ⟨by rw [hK]; exact hp, ?_⟩⟩
        subst ed
        exact o.here r q
theorem abs_m : CallM T X (.builtin "abs") (prim .abs) := by
  refine CallM.one (fun ds h k => ?_) fun W pins s σ H x us Q g h d I rs sz r q o => ?_
  · exact prim_one rfl k
  · cases d with
    | int i =>
      have o : Out T g H (.ok (.int (if i < 0 then -i else i)) h) Q W := o
      have e : x = .int i := q
      subst e
      exact call_abs pins s σ H _ us Q I rs ⟨i, rfl, o.here r rfl⟩
    | _ => exact o.elim
theorem min2_m (hc : X.calm = true) : CallM T X (.builtin "min") (prim .min2) := by
  refine CallM.two (fun ds h k => ?_) fun W pins s σ H x y us Q g h d e I rs sz r q1 q2 o => ?_
  · exact prim_two rfl k
  · cases d with
    | int i =>
      cases e with
      | int j =>
        have o : Out T g H (.ok (.int (if j < i then j else i)) h) Q W := o
        have e1 : x = .int i := q1
        have e2 : y = .int j := q2
        subst e1 e2
        exact call_min2 hc pins s σ H _ us Q I rs ⟨i, j, rfl, o.here r rfl⟩
      | _ => exact o.elim
    | _ => exact o.elim
theorem max2_m (hc : X.calm = true) : CallM T X (.builtin "max") (prim .max2) := by
  refine CallM.two (fun ds h k => ?_) fun W pins s σ H x y us Q g h d e I rs sz r q1 q2 o => ?_
  · exact prim_two rfl k
  · cases d with
    | int i =>
      cases e with
      | int j =>
        have o : Out T g H (.ok (.int (if j > i then j else i)) h) Q W := o
        have e1 : x = .int i := q1
        have e2 : y = .int j := q2
        subst e1 e2
        exact call_max2 hc pins s σ H _ us Q I rs ⟨i, j, rfl, o.here r rfl⟩
      | _ => exact o.elim
    | _ => exact o.elim
theorem minI_mem : ∀ (ns : List Int) (i : Int), (minI i ns = i ∨ minI i ns ∈ ns) ∧ minI i ns ≤ i ∧ ∀ y ∈ ns, minI i ns ≤ y
  | [], i => ⟨.inl rfl, Int.le_refl _, fun _ z => nomatch z⟩
  | j :: ns, i => by
    simp only [minI]
    obtain ⟨a, b, c⟩ := minI_mem ns (if j < i then j else i)
    refine ⟨?_, ?_, fun y hy => ?_⟩
    · rcases a with a | a
      · rw [a]
        by_cases z : j < i
        · rw [if_pos z]; exact .inr List.mem_cons_self
        · rw [if_neg z]; exact .inl rfl
      · exact .inr (List.mem_cons_of_mem _ a)
    · refine Int.le_trans b ?_
      by_cases z : j < i
      · rw [if_pos z]; omega
      · rw [if_neg z]; omega
    · rcases List.mem_cons.mp hy with e | hy
      · subst e
        refine Int.le_trans b ?_
        by_cases z : y < i
        · rw [if_pos z]; omega
        · rw [if_neg z]; omega
      · exact c y hy
theorem maxI_mem : ∀ (ns : List Int) (i : Int), (maxI i ns = i ∨ maxI i ns ∈ ns) ∧ i ≤ maxI i ns ∧ ∀ y ∈ ns, y ≤ maxI i ns
  | [], i => ⟨.inl rfl, Int.le_refl _, fun _ z => nomatch z⟩
  | j :: ns, i => by
    simp only [maxI]
    obtain ⟨a, b, c⟩ := maxI_mem ns (if j > i then j else i)
    refine ⟨?_, ?_, fun y hy => ?_⟩
    · rcases a with a | a
      · rw [a]
        by_cases z : j > i
        · rw [if_pos z]; exact .inr List.mem_cons_self
        · rw [if_neg z]; exact .inl rfl
      · exact .inr (List.mem_cons_of_mem _ a)
    · refine Int.le_trans ?_ b
      by_cases z : j > i
      · rw [if_pos z]; omega
      · rw [if_neg z]; omega
    · rcases List.mem_cons.mp hy with e | hy
      · subst e
        refine Int.le_trans ?_ b
        by_cases z : y > i
        · rw [if_pos z]; omega
        · rw [if_neg z]; omega
      · exact c y hy
theorem min1_m (hc : X.calm = true) : CallM T X (.builtin "min") (prim .min1) := by
  refine CallM.one (fun ds h k => ?_) fun W pins s σ H x us Q g h d I rs sz r q o => ?_
  · exact prim_one rfl k
  · have o : Out T g H (match (lits h d).bind intsD with
      | some (i :: is) => .ok (.int (minI i is)) h
      | _ => .stuck) Q W := o
    cases z : lits h d with
    | none => rw [z] at o; exact o.elim
    | some xs =>
      cases z2 : intsD xs with
      | none => rw [z] at o; simp only [Option.bind_some, z2] at o; exact o.elim
      | some ns =>
        rw [z] at o
        simp only [Option.bind_some, z2] at o
        cases ns with
        | nil => exact o.elim
        | cons i is =>
          obtain ⟨p, vs, ep, hp, q1⟩ := lits_at r q z
          rw [q1.ofInts z2] at hp
          subst ep
          refine cr_min hc pins s σ H _ us Q I rs ⟨p, i :: is, rfl, SqL.of hp, Nat.succ_pos _, fun k hk hle => ?_⟩
          obtain ⟨a, b, c⟩ := minI_mem is i
          have e1 : minI i is ≤ k := by
            rcases List.mem_cons.mp hk with e | hk
            · rw [e]; exact b
            · exact c k hk
          have e2 : k ≤ minI i is := by
            rcases a with a | a
            · rw [a]; exact hle i List.mem_cons_self
            · exact hle _ (List.mem_cons_of_mem _ a)
          have e : k = minI i is := Int.le_antisymm e2 e1
          rw [e]
          exact Out.here r o rfl
theorem max1_m (hc : X.calm = true) : CallM T X (.builtin "max") (prim .max1) := by
  refine CallM.one (fun ds h k => ?_) fun W pins s σ H x us Q g h d I rs sz r q o => ?_
  · exact prim_one rfl k
  · have o : Out T g H (match (lits h d).bind intsD with
      | some (i :: is) => .ok (.int (maxI i is)) h
      | _ => .stuck) Q W := o
    cases z : lits h d with
    | none => rw [z] at o; exact o.elim
    | some xs =>
      cases z2 : intsD xs with
      | none => rw [z] at o; simp only [Option.bind_some, z2] at o; exact o.elim
      | some ns =>
        rw [z] at o
        simp only [Option.bind_some, z2] at o
        cases ns with
        | nil => exact o.elim
        | cons i is =>
          obtain ⟨p, vs, ep, hp, q1⟩ := lits_at r q z
          rw [q1.ofInts z2] at hp
          subst ep
          refine cr_max hc pins s σ H _ us Q I rs ⟨p, i :: is, rfl, SqL.of hp, Nat.succ_pos _, fun k hk hle => ?_⟩
          obtain ⟨a, b, c⟩ := maxI_mem is i
          have e1 : k ≤ maxI i is := by
            rcases List.mem_cons.mp hk with e | hk
            · rw [e]; exact b
            · exact c k hk
          have e2 : maxI i is ≤ k := by
            rcases a with a | a
            · rw [a]; exact hle i List.mem_cons_self
            · exact hle _ (List.mem_cons_of_mem _ a)
          have e : k = maxI i is := Int.le_antisymm e1 e2
          rw [e]
          exact Out.here r o rfl
end
end Mi
namespace Mi
open PySem PySem.Spec PyProof.Rows L2
section
variable {T : Tx} {X : Cx} {W : WX}
abbrev SE (T : Tx) (X : Cx) (W : WX) (e : Expr) (m : Ev → MH → R D) : Prop := PE X e (tE T W m)
abbrev SA (T : Tx) (X : Cx) (W : WX) (es : List Expr) (m : Ev → MH → R (List D)) : Prop := PA X es (tA T W m)
theorem SE.const {e : Expr} {v : V} {d : D} (p : PE X e (tC v)) (q : ∀ (H : Hp) (g : Gr), RepV T H g d v) : SE T X W e (fun _ h => .ok d h) :=
  PE.imp p fun σ H Q ⟨g, h, ev, r, s, o⟩ => o.here r (q H g)
theorem vget_some {e : Ev} {i : Nat} {d : D} (h : vget e i = some d) : e[i]? = some (some d) := by
  unfold vget at h
  cases z : e[i]? with
  | none => rw [z] at h; cases h
  | some o =>
    rw [z] at h
    cases o with
    | none => cases h
    | some x => cases h; rfl
theorem se_var {i : Nat} {x : Str} {pos : Pos} (hN : X.N[i]? = some x) (hv : Vis X.env.scope x) (hd : (x == ("__debug__" : Str)) = false) (hcd : (x == ("__classdict__" : Str)) = false) : SE T X W (.Name x pos) (fun e h => match vget e i with
    | some d => .ok d h
    | none => .stuck) := by
  refine PE.imp (pe_var hN hv hd hcd) fun σ H Q ⟨g, h, ev, r, s, o⟩ => ?_
  have o : Out T g H (match vget ev i with
    | some d => .ok d h
    | none => .stuck) Q (fun c d H' => W c d σ H') := o
  cases z : vget ev i with
  | none => rw [z] at o; exact o.elim
  | some d =>
    rw [z] at o
    obtain ⟨v, a, b⟩ := s.2 i d (vget_some z)
    exact ⟨v, a, Out.here r o b⟩
theorem tOp_of {ma mb : Ev → MH → R D} {m : D → D → MH → R D} {σ : St} {H : Hp} {Q : VK}
    (q : tE T W (fun e h => (ma e h).bind fun x h => (mb e h).bind fun y h => m x y h) σ H Q) : tOp (R2m T (fun c d H' => W c d σ H') m) (tE T W ma) (tE T W mb) σ H Q := by
  obtain ⟨g, h, ev, r, s, o⟩ := q
  refine tE.bind (f := fun x e h => (mb e h).bind fun y h => m x y h) r s o fun a x h1 H1 g1 _ r1 s1 qa x1 o1 => ?_
  refine tE.bind (f := fun y e h => m a y h) r1 s1 o1 fun b y h2 H2 g2 _ r2 s2 qb x2 o2 => ?_
  exact fun _ => ⟨g2, h2, a, b, r2, qa.mono x2 r1, qb, o2⟩
theorem PE.op {e : Expr} {ta tb : TE} {r : XW → R2} (p : ∀ w, PE X e (tOp (r w) ta tb)) {ma : TE} (k : ∀ σ H Q, ma σ H Q → ∃ w, tOp (r w) ta tb σ H Q) : PE X e ma :=
  ⟨fun pins s σ H Q I q => by obtain ⟨w, z⟩ := k σ H Q q; exact (p w).run pins s σ H Q I z⟩
theorem se_bin {a b : Expr} {pos : Pos} {ma mb : Ev → MH → R D} {m : Bool} {o : Bo} (hK : X.K = T.K) (ha : SE T X W a ma) (hb : SE T X W b mb) : SE T X W (.BinOp a (boOf o) b pos) (fun e h => (ma e h).bind fun x h => (mb e h).bind fun y h => bop m o x y h) :=
  PE.op (r := fun w => R2m T w (bop m o)) (fun w => pe_op (bop_m hK w) ha hb) fun σ H Q q => ⟨_, tOp_of q⟩
theorem se_cmp {a b : Expr} {pos : Pos} {ma mb : Ev → MH → R D} {o : Co} (hK : X.K = T.K) (hu : X.A.units + 200 < cLine) (hm : behindInMarks (coOf o) b = false) (ha : SE T X W a ma) (hb : SE T X W b mb) :
    SE T X W (.Compare a [coOf o] [b] pos) (fun e h => (ma e h).bind fun x h => (mb e h).bind fun y h => cmpM o x y h) :=
  PE.op (r := fun w => R2m T w (cmpM o)) (fun w => pe_cmpR (cop_m hK hu w) ha hb hm) fun σ H Q q => ⟨_, tOp_of q⟩
theorem se_idx {a b : Expr} {pos : Pos} {ma mb : Ev → MH → R D} (hK : X.K = T.K) (hu : X.A.units + 200 < cLine) (hs : PlainIx b) (ha : SE T X W a ma) (hb : SE T X W b mb) :
    SE T X W (.Subscript a b pos) (fun e h => (ma e h).bind fun x h => (mb e h).bind fun y h => idxM x y h) :=
  PE.op (r := fun w => R2m T w idxM) (fun w => pe_ix (ix_m hK hu) ha hb hs) fun σ H Q q => ⟨_, tOp_of q⟩
theorem se_neg {a : Expr} {pos : Pos} {ma : Ev → MH → R D} (ha : SE T X W a ma) : SE T X W (.UnaryOp .USub a pos) (fun e h => (ma e h).bind fun x h => negM x h) := by
  refine PE.imp (pe_un un_neg ha) fun σ H Q ⟨g, h, ev, r, s, o⟩ => ?_
  refine tE.bind (f := fun x e h => negM x h) r s o fun d v h1 H1 g1 _ r1 s1 qa x1 o1 => ?_
  cases d with
  | int i => exact ⟨i, qa, Out.here r1 o1 rfl⟩
  | _ => exact o1.elim
theorem SA.nil : SA T X W [] (fun _ h => .ok [] h) := PA.imp pa_nil fun σ H Q ⟨g, h, ev, r, s, o⟩ => o [] H g r (.refl _ _) True.intro
def noStar : Expr → Bool
  | .Starred _ _ => false
  | _ => true
theorem star_cons {e : Expr} {es : List Expr} {env : Env} (h : noStar e = true) : starEach (e :: es) env = (false, eval e env) :: starEach es env := by
  cases e <;> first | rfl | cases h
theorem star_none : ∀ {es : List Expr} {env : Env} {pos : Pos}, es.all noStar = true → (backTo pos (starEach es env)).any (·.1) = false
  | [], _, _, _ => rfl
  | e :: es, env, pos, h => by
    simp only [List.all_cons, Bool.and_eq_true] at h
    rw [star_cons h.1]
    show (false || (backTo pos (starEach es env)).any (·.1)) = false
    rw [star_none h.2] <;> rfl
theorem SA.cons {e : Expr} {es : List Expr} {ma : Ev → MH → R D} {mr : Ev → MH → R (List D)} (hn : noStar e = true) (ha : SE T X W e ma) (hr : SA T X W es mr) : SA T X W (e :: es) (fun e h => (ma e h).bind fun x h => (mr e h).bind fun xs h => .ok (x :: xs) h) := by
  refine PA.imp (pa_cons ha hr (star_cons hn)) fun σ H Q ⟨g, h, ev, r, s, o⟩ => ?_
  refine ⟨g, h, ev, r, s, ?_⟩
  have o : OutA T g H ((ma ev h).bind fun x h => (mr ev h).bind fun xs h => .ok (x :: xs) h) Q (fun c d H' => W c d σ H') := o
  revert o
  cases hma : ma ev h with
  | stuck => exact fun o => o
  | exn c p h1 => exact fun o => o
  | ok d h1 =>
    intro o v H1 g1 r1 x1 q1
    have o : OutA T g H ((mr ev h1).bind fun xs h => .ok (d :: xs) h) Q (fun c d H' => W c d σ H') := o
    refine ⟨g1, h1, ev, r1, s.mono x1 r, ?_⟩
    have o := o.ext x1 r r1
    revert o
    cases hmr : mr ev h1 with
    | stuck => exact fun o => o
    | exn c p h2 => exact fun o => o
    | ok ds h2 => exact fun o vs H2 g2 r2 x2 q2 => o (v :: vs) H2 g2 r2 x2 ⟨q1.mono x2 r1, q2⟩
theorem SA.then {es : List Expr} {ma : Ev → MH → R (List D)} {σ : St} {H : Hp} {Q : VK} {f : List D → MH → R D} {Q' : List V → Hp → Prop}
    (q : tE T W (fun e h => (ma e h).bind fun ds h => f ds h) σ H Q)
    (k : ∀ ds vs h1 H1 g1, Rel T H1 g1 h1 → RepL T H1 g1 ds vs → Out T g1 H1 (f ds h1) Q (fun c d H' => W c d σ H') → Q' vs H1) : tA T W ma σ H Q' := by
  obtain ⟨g, h, ev, r, s, o⟩ := q
  exact tA.bind (f := fun ds e h => f ds h) r s o fun ds vs h1 H1 g1 _ r1 _ q1 _ o1 => k ds vs h1 H1 g1 r1 q1 o1
theorem se_tup {es : List Expr} {x1 : Nat} {pos : Pos} {ma : Ev → MH → R (List D)} (hz : es.length ≤ 1000) (ha : SA T X W es ma) (hl : ∀ e h ds h1, ma e h = .ok ds h1 → ds.length = es.length) : SE T X W (.Tuple es x1 pos) (fun e h => (ma e h).bind fun ds h => .ok (.tup ds) h) := by
  refine PE.imp (pe_tup ha) fun σ H Q ⟨g, h, ev, r, s, o⟩ => ?_
  refine tA.bind (f := fun ds e h => .ok (.tup ds) h) r s o fun ds vs h1 H1 g1 e r1 _ q1 _ o1 => ?_
  exact ⟨by rw [← q1.length, hl _ _ _ _ e]; rw [sizeLine_eq]; omega, fun p hp => Out.tup r1 hp q1 o1⟩
theorem se_lst {es : List Expr} {m : Bool} {pos : Pos} {ma : Ev → MH → R (List D)} (hz : es.length ≤ 1000) (ha : SA T X W es ma) (hl : ∀ e h ds h1, ma e h = .ok ds h1 → ds.length = es.length) : SE T X W (.List es pos) (fun e h => (ma e h).bind fun ds h => mk m ds h) := by
  refine PE.imp (pe_lst ha) fun σ H Q ⟨g, h, ev, r, s, o⟩ => ?_
  refine tA.bind (f := fun ds e h => mk m ds h) r s o fun ds vs h1 H1 g1 e r1 _ q1 _ o1 => ?_
  exact ⟨by rw [← q1.length, hl _ _ _ _ e]; rw [sizeLine_eq]; omega, fun p hp => Out.mk r1 hp q1 o1⟩
theorem PE.call {e : Expr} {t : TA} {r : XW → List V → Hp → VK → Prop} (p : ∀ w, PE X e (tCB (r w) t)) {ma : TE} (k : ∀ σ H Q, ma σ H Q → ∃ w, tCB (r w) t σ H Q) : PE X e ma :=
  ⟨fun pins s σ H Q I q => by obtain ⟨w, z⟩ := k σ H Q q; exact (p w).run pins s σ H Q I z⟩
theorem se_callB {id : String} {x : Str} {p pos : Pos} {e : Expr} {es : List Expr} {ma : Ev → MH → R (List D)} {f : List D → MH → R D} (hc : CallM T X (.builtin id) f) (hg : Gl X x) (hm : X.mg x = none) (hv : bootBuiltins x = some (.builtin id)) (hn : x ≠ "__name__") (hdb : (x == ("__debug__" : Str)) = false)
    (hst : (e :: es).all noStar = true) (ha : SA T X W (e :: es) ma) : SE T X W (.Call (.Name x p) (e :: es) [] pos) (fun e h => (ma e h).bind fun ds h => f ds h) := by
  have hst' := hst
  simp only [List.all_cons, Bool.and_eq_true] at hst'
  refine PE.call (r := fun w => fun xs H Q => SzH H → ∃ g h ds, Rel T H g h ∧ RepL T H g ds xs ∧ Out T g H (f ds h) Q w) (fun w => pe_callB (hc w) hg hm hv ha hn hdb (star_cons hst'.1) (star_none hst'.2)) fun σ H Q q => ⟨fun c d H' => W c d σ H', ?_⟩
  exact SA.then (es := e :: es) q fun ds vs h1 H1 g1 r1 q1 o1 _ => ⟨g1, h1, ds, r1, q1, o1⟩
theorem se_callTy {id : String} {x : Str} {p pos : Pos} {e : Expr} {es : List Expr} {ma : Ev → MH → R (List D)} {f : List D → MH → R D} (hc : CallM T X (.type id) f) (hg : Gl X x) (hm : X.mg x = none) (hv : bootBuiltins x = some (.type id)) (hn : x ≠ "__name__") (hdb : (x == ("__debug__" : Str)) = false)
    (hst : (e :: es).all noStar = true) (ha : SA T X W (e :: es) ma) : SE T X W (.Call (.Name x p) (e :: es) [] pos) (fun e h => (ma e h).bind fun ds h => f ds h) := by
  have hst' := hst
  simp only [List.all_cons, Bool.and_eq_true] at hst'
  refine PE.call (r := fun w => fun xs H Q => SzH H → ∃ g h ds, Rel T H g h ∧ RepL T H g ds xs ∧ Out T g H (f ds h) Q w) (fun w => pe_callTy (hc w) hg hm hv ha hn hdb (star_cons hst'.1) (star_none hst'.2)) fun σ H Q q => ⟨fun c d H' => W c d σ H', ?_⟩
  exact SA.then (es := e :: es) q fun ds vs h1 H1 g1 r1 q1 o1 _ => ⟨g1, h1, ds, r1, q1, o1⟩
theorem PT.imp {e : Expr} {t t' : TT} (h : PT X e t) (k : ∀ σ H Q, t' σ H Q → t σ H Q) : PT X e t' := ⟨fun pins s σ H Q I q => h.run pins s σ H Q I (k σ H Q q)⟩
theorem PW.imp {e : Expr} {t t' : TT} (h : PW X e t) (k : ∀ σ H Q, t' σ H Q → t σ H Q) : PW X e t' := ⟨fun w pins s σ H Q I q => h.run w pins s σ H Q I (k σ H Q q)⟩
def OutT (T : Tx) (g : Gr) (H : Hp) (r : R D) (Q : Bool → Hp → Prop) (W : XW) : Prop := match r with
  | .ok (.bl k) h1 => ∀ H1 g1, Rel T H1 g1 h1 → Ext g H g1 H1 → Q k H1
  | .exn c p h1 => ∀ dx H1 g1, Rel T H1 g1 h1 → Ext g H g1 H1 → RepX T H1 g1 p dx → W (.ref (T.xa c)) dx H1
  | _ => False
def tT (T : Tx) (W : WX) (m : Ev → MH → R D) : TT := fun σ H Q => ∃ g h e, Rel T H g h ∧ RepS T H g e σ ∧ OutT T g H (m e h) Q (fun c d H' => W c d σ H')
abbrev ST (T : Tx) (X : Cx) (W : WX) (e : Expr) (m : Ev → MH → R D) : Prop := PT X e (tT T W m)
theorem OutT.ext {g g1 : Gr} {H H1 : Hp} {h h1 : MH} {r : R D} {Q : Bool → Hp → Prop} {W : XW} (x : Ext g H g1 H1) (rl : Rel T H g h) (rl1 : Rel T H1 g1 h1) (o : OutT T g H r Q W) : OutT T g1 H1 r Q W := by
  cases r with
  | ok d h2 =>
    cases d with
    | bl k => exact fun H2 g2 a b => o H2 g2 a (x.trans rl rl1 b)
    | _ => exact o.elim
  | exn c p h2 => exact fun dx H2 g2 a b e => o dx H2 g2 a (x.trans rl rl1 b) e
  | stuck => exact o
theorem tT.val {m : Ev → MH → R D} {σ : St} {H : Hp} {Q : Bool → Hp → Prop} (q : tT T W m σ H Q) : tE T W m σ H (fun v H1 => ∃ k, v = .bl k ∧ Q k H1) := by
  obtain ⟨g, h, ev, r, s, o⟩ := q
  refine ⟨g, h, ev, r, s, ?_⟩
  revert o
  cases m ev h with
  | ok d h1 =>
    cases d with
    | bl k => exact fun o v H1 g1 a b c => ⟨k, c, o H1 g1 a b⟩
    | _ => exact fun o => o.elim
  | exn c p h1 => exact fun o => o
  | stuck => exact fun o => o
def valTest : Expr → Bool
  | .UnaryOp .Not _ _ => false
  | .BoolOp _ _ _ => false
  | .IfExp _ _ _ _ => false
  | .Compare _ _ _ _ => false
  | _ => true
theorem st_val {e : Expr} {m : Ev → MH → R D} (hv : valTest e = true) (h : SE T X W e m) : ST T X W e m := by
  refine PT.imp (pt_val h (fun whole => ?_)) fun σ H Q q => tT.val q
  cases e with
  | UnaryOp op a p => cases op <;> first | rfl | cases hv
  | BoolOp _ _ _ => cases hv
  | IfExp _ _ _ _ => cases hv
  | Compare _ _ _ _ => cases hv
  | _ => rfl
theorem st_cmp {a b : Expr} {pos : Pos} {ma mb : Ev → MH → R D} {o : Co} (hK : X.K = T.K) (hu : X.A.units + 200 < cLine) (hm : behindInMarks (coOf o) b = false) (ha : SE T X W a ma) (hb : SE T X W b mb) :
    ST T X W (.Compare a [coOf o] [b] pos) (fun e h => (ma e h).bind fun x h => (mb e h).bind fun y h => cmpM o x y h) := by
  refine ⟨fun pins s σ H Q I q => ?_⟩
  exact (pt_cmpR (cop_m hK hu fun c d H' => W c d σ H') ha hb hm).run pins s σ H Q I (tOp_of (tT.val q))
theorem tT.bind {m : Ev → MH → R D} {f : Bool → Ev → MH → R D} {σ : St} {e : Ev} {g : Gr} {H : Hp} {h : MH} {Q : Bool → Hp → Prop} {Q' : Bool → Hp → Prop} (r : Rel T H g h) (s : RepS T H g e σ) (o : OutT T g H ((m e h).bind fun d h => match d with
      | .bl k => f k e h
      | _ => .stuck) Q (fun c d H' => W c d σ H'))
    (k : ∀ b h1 H1 g1, Rel T H1 g1 h1 → RepS T H1 g1 e σ → Ext g H g1 H1 → OutT T g1 H1 (f b e h1) Q (fun c d H' => W c d σ H') → Q' b H1) : tT T W m σ H Q' := by
  refine ⟨g, h, e, r, s, ?_⟩
  revert k o
  cases m e h with
  | ok d h1 =>
    cases d with
    | bl b => exact fun o k H1 g1 a c => k b h1 H1 g1 a (s.mono c r) c (o.ext c r a)
    | _ => exact fun o _ => o.elim
  | exn c p h1 => exact fun o _ => o
  | stuck => exact fun o _ => o
theorem tT.bindE {m : Ev → MH → R D} {f : Bool → Ev → MH → R D} {σ : St} {e : Ev} {g : Gr} {H : Hp} {h : MH} {Q : VK} {Q' : Bool → Hp → Prop} (r : Rel T H g h) (s : RepS T H g e σ) (o : Out T g H ((m e h).bind fun d h => match d with
      | .bl k => f k e h
      | _ => .stuck) Q (fun c d H' => W c d σ H'))
    (k : ∀ b h1 H1 g1, Rel T H1 g1 h1 → RepS T H1 g1 e σ → Ext g H g1 H1 → Out T g1 H1 (f b e h1) Q (fun c d H' => W c d σ H') → Q' b H1) : tT T W m σ H Q' := by
  refine ⟨g, h, e, r, s, ?_⟩
  revert k o
  cases m e h with
  | ok d h1 =>
    cases d with
    | bl b => exact fun o k H1 g1 a c => k b h1 H1 g1 a (s.mono c r) c (o.ext c r a)
    | _ => exact fun o _ => o.elim
  | exn c p h1 => exact fun o _ => o
  | stuck => exact fun o _ => o
theorem OutT.here {g : Gr} {H : Hp} {h : MH} {k : Bool} {Q : Bool → Hp → Prop} {W : XW} (r : Rel T H g h) (o : OutT T g H (.ok (.bl k) h) Q W) : Q k H := o H g r (.refl _ _)
def notM (ma : Ev → MH → R D) : Ev → MH → R D := fun e h => (ma e h).bind fun d h => match d with
  | .bl k => .ok (.bl (!k)) h
  | _ => .stuck
theorem st_not {a : Expr} {pos : Pos} {ma : Ev → MH → R D} (ha : ST T X W a ma) : ST T X W (.UnaryOp .Not a pos) (notM ma) := by
  refine PT.imp (pt_not ha) fun σ H Q ⟨g, h, ev, r, s, o⟩ => ?_
  exact tT.bind (f := fun k e h => .ok (.bl (!k)) h) r s o fun b h1 H1 g1 r1 s1 x1 o1 => OutT.here r1 o1
theorem se_not {a : Expr} {pos : Pos} {ma : Ev → MH → R D} (ha : SE T X W a ma) : SE T X W (.UnaryOp .Not a pos) (notM ma) := by
  refine PE.imp (pe_not ha) fun σ H Q ⟨g, h, ev, r, s, o⟩ => ?_
  refine tE.bind (f := fun x e h => match x with
    | .bl k => .ok (.bl (!k)) h
    | _ => .stuck) r s o fun d v h1 H1 g1 _ r1 s1 qa x1 o1 => ?_
  cases d with
  | bl k => exact ⟨k, qa, Out.here r1 o1 rfl⟩
  | _ => exact o1.elim
def andM (ma mb : Ev → MH → R D) : Ev → MH → R D := fun e h => (ma e h).bind fun d h => match d with
  | .bl k => if k = true then mb e h else .ok (.bl false) h
  | _ => .stuck
def orM (ma mb : Ev → MH → R D) : Ev → MH → R D := fun e h => (ma e h).bind fun d h => match d with
  | .bl k => if k = true then .ok (.bl true) h else mb e h
  | _ => .stuck
theorem sw_one {op : BoolOp} {a : Expr} {pos : Pos} {ma : Ev → MH → R D} (ha : ST T X W a ma) : PW X (.BoolOp op [a] pos) (tT T W ma) := by
  cases op with
  | And => exact pw_and1 ha
  | Or => exact pw_or1 ha
theorem sw_and {a b : Expr} {rest : List Expr} {pos : Pos} {ma mb : Ev → MH → R D} (ha : ST T X W a ma) (hb : PW X (.BoolOp .And (b :: rest) pos) (tT T W mb)) : PW X (.BoolOp .And (a :: b :: rest) pos) (tT T W (andM ma mb)) := by
  refine PW.imp (pw_and ha hb) fun σ H Q ⟨g, h, ev, r, s, o⟩ => ?_
  refine tT.bind (f := fun k e h => if k = true then mb e h else .ok (.bl false) h) r s o fun b h1 H1 g1 r1 s1 x1 o1 => ?_
  cases b with
  | true => exact ⟨g1, h1, ev, r1, s1, o1⟩
  | false => exact OutT.here r1 o1
theorem sw_or {a b : Expr} {rest : List Expr} {pos : Pos} {ma mb : Ev → MH → R D} (ha : ST T X W a ma) (hb : PW X (.BoolOp .Or (b :: rest) pos) (tT T W mb)) : PW X (.BoolOp .Or (a :: b :: rest) pos) (tT T W (orM ma mb)) := by
  refine PW.imp (pw_or ha hb) fun σ H Q ⟨g, h, ev, r, s, o⟩ => ?_
  refine tT.bind (f := fun k e h => if k = true then .ok (.bl true) h else mb e h) r s o fun b h1 H1 g1 r1 s1 x1 o1 => ?_
  cases b with
  | true => exact OutT.here r1 o1
  | false => exact ⟨g1, h1, ev, r1, s1, o1⟩
theorem se_and {a b : Expr} {rest : List Expr} {pos : Pos} {ma mb : Ev → MH → R D} (ha : SE T X W a ma) (hb : SE T X W (.BoolOp .And (b :: rest) pos) mb) : SE T X W (.BoolOp .And (a :: b :: rest) pos) (andM ma mb) := by
  refine PE.imp (pe_and ha hb) fun σ H Q ⟨g, h, ev, r, s, o⟩ => ?_
  refine tE.bind (f := fun x e h => match x with
    | .bl k => if k = true then mb e h else .ok (.bl false) h
    | _ => .stuck) r s o fun d v h1 H1 g1 _ r1 s1 qa x1 o1 => ?_
  cases d with
  | bl k =>
    refine ⟨k, qa, ?_⟩
    cases k with
    | true => exact ⟨g1, h1, ev, r1, s1, o1⟩
    | false => exact Out.here r1 o1 rfl
  | _ => exact o1.elim
theorem se_or {a b : Expr} {rest : List Expr} {pos : Pos} {ma mb : Ev → MH → R D} (ha : SE T X W a ma) (hb : SE T X W (.BoolOp .Or (b :: rest) pos) mb) : SE T X W (.BoolOp .Or (a :: b :: rest) pos) (orM ma mb) := by
  refine PE.imp (pe_or ha hb) fun σ H Q ⟨g, h, ev, r, s, o⟩ => ?_
  refine tE.bind (f := fun x e h => match x with
    | .bl k => if k = true then .ok (.bl true) h else mb e h
    | _ => .stuck) r s o fun d v h1 H1 g1 _ r1 s1 qa x1 o1 => ?_
  cases d with
  | bl k =>
    refine ⟨k, qa, ?_⟩
    cases k with
    | true => exact Out.here r1 o1 rfl
    | false => exact ⟨g1, h1, ev, r1, s1, o1⟩
  | _ => exact o1.elim
def ifM (mc ma mb : Ev → MH → R D) : Ev → MH → R D := fun e h => (mc e h).bind fun d h => match d with
  | .bl k => if k = true then ma e h else mb e h
  | _ => .stuck
theorem se_if {c a b : Expr} {pos : Pos} {mc ma mb : Ev → MH → R D} (hc : ST T X W c mc) (ha : SE T X W a ma) (hb : SE T X W b mb) : SE T X W (.IfExp c a b pos) (ifM mc ma mb) := by
  refine PE.imp (pe_ifExp hc ha hb) fun σ H Q ⟨g, h, ev, r, s, o⟩ => ?_
  refine tT.bindE (f := fun k e h => if k = true then ma e h else mb e h) r s o fun b h1 H1 g1 r1 s1 x1 o1 => ?_
  cases b with
  | true => exact ⟨g1, h1, ev, r1, s1, o1⟩
  | false => exact ⟨g1, h1, ev, r1, s1, o1⟩
end
end Mi
namespace Mi
open PySem PySem.Spec PyProof.Rows L2
structure WalkI (T : Tx) (J : L2.It) (xs : List D) (C : Gr → Hp → Prop) : Prop where
  mono : ∀ g H g' H' h, C g H → Rel T H g h → Ext0 g H g' H' → C g' H'
  go : ∀ i g H h, C g H → Rel T H g h → i < xs.length → J.go i H
  stop : ∀ g H h, C g H → Rel T H g h → J.stop xs.length H
  yld : ∀ i g H h x H', C g H → Rel T H g h → J.yld i H x H' → i < xs.length → ∃ d g', xs[i]? = some d ∧ Rel T H' g' h ∧ Ext g H g' H' ∧ RepV T H' g' d x
  len : ∀ g H, C g H → SzH H → xs.length ≤ sizeLine
def itH (K : PySem.W.Frag) (e : Bool) (a : Addr) : L2.It := if e = true then Ite K a else Itl K a
def OutI (T : Tx) (g : Gr) (H : Hp) (r : R It) (Rz : L2.It → Hp → Prop) (W : XW) : Prop := match r with
  | .ok (.its xs) h1 => ∀ H1 g1, Rel T H1 g1 h1 → Ext g H g1 H1 → ∀ J C, WalkI T J xs C → C g1 H1 → Rz J H1
  | .ok (.hp n e) h1 => ∀ H1 g1, Rel T H1 g1 h1 → Ext g H g1 H1 → ∀ a, g1.phi[n]? = some a → Rz (itH T.K e a) H1
  | .exn c p h1 => ∀ dx H1 g1, Rel T H1 g1 h1 → Ext g H g1 H1 → RepX T H1 g1 p dx → W (.ref (T.xa c)) dx H1
  | .stuck => False
def tI (T : Tx) (W : WX) (m : Ev → MH → R It) : TI := fun σ H Rz => ∃ g h e, Rel T H g h ∧ RepS T H g e σ ∧ OutI T g H (m e h) Rz (fun c d H' => W c d σ H')
theorem PI.imp {X : Cx} {tg e : Expr} {t t' : TI} (h : PI X tg e t) (k : ∀ σ H Q, t' σ H Q → t σ H Q) : PI X tg e t' := ⟨fun pins s σ H Q I q => h.run pins s σ H Q I (k σ H Q q)⟩
section
variable {T : Tx} {X : Cx} {W : WX} {H H1 : Hp} {g g1 : Gr} {h h1 : MH}
theorem OutI.ext {r : R It} {Q : L2.It → Hp → Prop} {W : XW} (x : Ext g H g1 H1) (rl : Rel T H g h) (rl1 : Rel T H1 g1 h1) (o : OutI T g H r Q W) : OutI T g1 H1 r Q W := by
  cases r with
  | ok w h2 =>
    cases w with
    | its xs => exact fun H2 g2 a b => o H2 g2 a (x.trans rl rl1 b)
    | hp n e => exact fun H2 g2 a b => o H2 g2 a (x.trans rl rl1 b)
  | exn c p h2 => exact fun dx H2 g2 a b e => o dx H2 g2 a (x.trans rl rl1 b) e
  | stuck => exact o
theorem tE.bindI {m : Ev → MH → R D} {f : D → Ev → MH → R It} {σ : St} {e : Ev} {Q : L2.It → Hp → Prop} {Q' : VK} (r : Rel T H g h) (s : RepS T H g e σ) (o : OutI T g H ((m e h).bind fun d h => f d e h) Q (fun c d H' => W c d σ H'))
    (k : ∀ d v h1 H1 g1, Rel T H1 g1 h1 → RepS T H1 g1 e σ → RepV T H1 g1 d v → Ext g H g1 H1 → OutI T g1 H1 (f d e h1) Q (fun c d H' => W c d σ H') → Q' v H1) : tE T W m σ H Q' := by
  refine ⟨g, h, e, r, s, ?_⟩
  revert k o
  cases m e h with
  | ok d h1 => exact fun o k v H1 g1 a b c => k d v h1 H1 g1 a (s.mono b r) c b (o.ext b r a)
  | exn c p h1 => exact fun o _ => o
  | stuck => exact fun o _ => o
end
end Mi
namespace Mi
open PySem PySem.Spec PyProof.Rows L2
def SqB (k : Bool) (K : PySem.W.Frag) (H : Hp) (a : Addr) (xs : List V) : Prop := if k = true then SqT K H a xs else SqL K H a xs
def IterB (k : Bool) (h : Heap) (it a : Addr) (i : Nat) : Prop := if k = true then h.IsTupleIter it a i else h.IsListIter it a i
def HeapB (k : Bool) (h : Heap) (a : Addr) (its : Array Value) : Prop := if k = true then h.IsTuple a its else h.IsList a its
def objB (k : Bool) (a : Addr) : Obj := if k = true then { cls := .type "tuple_iterator", data := .fields #[.ref a, .int 0 0] } else { cls := .type "list_iterator", data := .fields #[.ref a, .int 0 0] }
section
variable {P : Program} {w : World} {K : PySem.W.Frag} {X : Cx} {pins : List (Addr × Obj)} {σ : St} {H : Hp} {s : Shared}
theorem drawsB {A : Around} (k : Bool) (hh : A.handled = none) (it a : Addr) (hne : a ≠ it) (its : Array Value) : Draws P w A it [it, a] its.size (fun i v => its[i]? = some v) (fun i h => IterB k h it a i ∧ HeapB k h a its) := by
  cases k with
  | true => exact Draws.tuple hh it a hne its
  | false => exact Draws.list hh it a hne its
theorem beginsB (k : Bool) (a : Addr) (its : Array Value) : Begins (.ref a) (objB k a) (fun h => HeapB k h a its) := by
  cases k with
  | true => exact begins_tuple a its
  | false => exact begins_list a its
theorem iterB_start (k : Bool) {h : Heap} {it a : Addr} (e : h.get? it = some (objB k a)) : IterB k h it a 0 := by
  cases k with
  | true => exact ⟨_, e, rfl, rfl⟩
  | false => exact ⟨_, e, rfl, rfl⟩
theorem IterB.obj {k : Bool} {h : Heap} {it a : Addr} {i : Nat} (x : IterB k h it a i) : ∃ o, h.get? it = some o ∧ ∀ v, o.data ≠ .cell v := by
  cases k with
  | true => obtain ⟨o, e, _, d⟩ := (show h.IsTupleIter it a i from x); exact ⟨o, e, fun v q => by rw [d] at q; cases q⟩
  | false => obtain ⟨o, e, _, d⟩ := (show h.IsListIter it a i from x); exact ⟨o, e, fun v q => by rw [d] at q; cases q⟩
theorem IterB.keep {k : Bool} {h h' : Heap} {it a : Addr} {i : Nat} (x : IterB k h it a i) (q : ∀ o, h.get? it = some o → h'.get? it = some o) : IterB k h' it a i := by
  cases k with
  | true => obtain ⟨o, e, c, d⟩ := (show h.IsTupleIter it a i from x); exact ⟨o, q o e, c, d⟩
  | false => obtain ⟨o, e, c, d⟩ := (show h.IsListIter it a i from x); exact ⟨o, q o e, c, d⟩
theorem SqB.at {k : Bool} (I : Inv X pins σ H s) {a : Addr} {xs : List V} (q : SqB k X.K H a xs) : ∃ its : List Value, Vals xs its ∧ HeapB k s.heap a its.toArray ∧ a < s.heap.objs.size := by
  cases k with
  | true => obtain ⟨its, r, p, _⟩ := I.tuple q; obtain ⟨o, ho, _⟩ := id p; exact ⟨its, r, p, Heap.lt_size ho⟩
  | false => obtain ⟨its, r, p, _⟩ := I.list q; exact ⟨its, r, p.isList, p.lt⟩
def ItEB (k : Bool) (K : PySem.W.Frag) (a : Addr) (xs : List V) : L2.It :=
  ⟨fun i H => SqB k K H a xs ∧ i < xs.length, fun i H v H' => ∃ t x, v = .ref t ∧ H t = none ∧ H' = upd H t (.tup [.int (i : Nat), x]) ∧ xs[i]? = some x, fun i H => SqB k K H a xs ∧ i = xs.length⟩
def ItZB (k j : Bool) (K : PySem.W.Frag) (a b : Addr) (xs ys : List V) : L2.It :=
  ⟨fun i H => SqB k K H a xs ∧ SqB j K H b ys ∧ i < xs.length ∧ i < ys.length, fun i H v H' => ∃ t x y, v = .ref t ∧ H t = none ∧ H' = upd H t (.tup [x, y]) ∧ xs[i]? = some x ∧ ys[i]? = some y,
    fun i H => SqB k K H a xs ∧ SqB j K H b ys ∧ i = min xs.length ys.length⟩
theorem turn_enumB {elts : List Expr} {kk : Nat} {tpos : Pos} {k : Bool} {a e it : Addr} {xs : List V} (hei : e ≠ it) (hea : a ≠ e) (hia : a ≠ it) :
    Turn P w K (.Tuple elts kk tpos) (ItEB k K a xs) [e, it] e (fun i h => (∃ old, IsEnum h e it ((i : Nat) : Int) old) ∧ IterB k h it a i) where
  mem := by simp
  obj := fun i h st b hb => by
    obtain ⟨⟨old, he⟩, hi⟩ := st
    rcases List.mem_cons.mp hb with z | z
    · rw [z]; exact ⟨_, he, fun v q => nomatch q⟩
    · rw [List.mem_singleton.mp z]; exact hi.obj
  keep := fun i h h' ⟨⟨old, he⟩, hi⟩ q => ⟨⟨old, q e (by simp) _ he⟩, hi.keep fun o => q it (by simp) o⟩
  item := by
    intro X hP hw hK hc i pins s σ H E I hf st hg
    subst hP hw hK
    obtain ⟨⟨old, he⟩, hit⟩ := st
    obtain ⟨hq, hl⟩ := hg
    obtain ⟨its, rv, p, ha⟩ := SqB.at I hq
    obtain ⟨u, hu, ru⟩ := rv.get (List.getElem?_eq_getElem hl)
    have W := WalksT.enumFrom (prog := X.prog) (w := X.w) (A := X.A) 0 (drawsB (A := X.A.in1) k (I.ok.hd hc) it a hia its.toArray) e hei
      (fun z => by
        rcases List.mem_cons.mp z with z | z
        · exact hei z
        · exact hea (List.mem_singleton.mp z).symm) (List.mem_cons_self ..)
    have hn : i < its.toArray.size := by rw [List.size_toArray, ← rv.length]; exact hl
    have e0 : (0 : Int) + (i : Int) = (i : Int) := Int.zero_add _
    refine W.item i s _ _ hn ⟨⟨old, by rw [e0]; exact he⟩, hit, p⟩ fun t vals h' tk hP ht hT hM hk => ?_
    obtain ⟨tt, y, hy, ev⟩ := hP
    rw [e0] at ev
    have ey : y = u := by
      have hu' : its.toArray[i]? = some u := by simpa using hu
      rw [hu'] at hy
      exact (Option.some.inj hy).symm
    subst ey
    subst ev
    refine ⟨_, rfl, W.go elts kk tpos i t { s with heap := h', toks := tk } _ _ hM fun h2 st2 hk2 => ?_⟩
    have tw := W.apart i t h' hM
    have kk2 : ∀ b o, b ∉ [e, it] → s.heap.get? b = some o → h2.get? b = some o := fun b o nb q => hk2 b o nb (hk b o nb q)
    obtain ⟨ot, hot, hct, nt, hdt⟩ := hT
    have new : ObjOk X.prog X.w (upd H t (.tup [.int (i : Nat), xs[i]])) h2 t (.tup [.int (i : Nat), xs[i]]) :=
      ⟨by show 2 ≤ sizeLine; rw [sizeLine_eq]; omega, [.int i tt, y], .cons ⟨_, rfl⟩ (.cons ru .nil), ⟨ot, hk2 t ot tw hot, hct, nt, hdt⟩⟩
    have I1 : Inv X pins σ (upd H t (.tup [.int (i : Nat), xs[i]])) { s with heap := h2, toks := tk } := Inv.turnedNew I (ch := [e, it]) kk2 hf ht new
    obtain ⟨⟨old2, he2⟩, hit2, _⟩ := st2
    refine ⟨.ref t, _, I1, rfl, ⟨t, _, rfl, I.hok.fresh ht, rfl, List.getElem?_eq_getElem hl⟩, ⟨⟨old2, ?_⟩, hit2⟩, fun b hb => ?_⟩
    · have e1 : (0 : Int) + ((i + 1 : Nat) : Int) = ((i + 1 : Nat) : Int) := Int.zero_add _
      rw [e1] at he2
      exact he2
    · have nt : b ≠ t := fun z => by rw [z] at hb; exact tw hb
      rw [upd_ne nt]
      exact (hf b hb).1
  done := by
    intro X hP hw hK hc i pins s σ H E I hf st hg
    subst hP hw hK
    obtain ⟨⟨old, he⟩, hit⟩ := st
    obtain ⟨hq, hl⟩ := hg
    obtain ⟨its, rv, p, ha⟩ := SqB.at I hq
    have D := drawsB (P := X.prog) (w := X.w) (A := X.A.in1) k (I.ok.hd hc) it a hia its.toArray
    have hn : i = its.toArray.size := by rw [List.size_toArray, ← rv.length]; exact hl
    have f := hf it (by simp)
    refine wpAny_pyNext_enum_endD D he (hn ▸ ⟨hit, p⟩) fun h' eb => ⟨rfl, ?_⟩
    exact I.turned (t' := s.toks) (fun b o nb q => eb b o nb q) f.1 f.2.1 f.2.2.2.1 f.2.2.2.2.1 f.2.2.2.2.2
  self := fun A i s Q E st h => by
    obtain ⟨⟨old, he⟩, _⟩ := st
    exact wpAny_pyIter_enum he h
theorem turn_zipB {elts : List Expr} {kk : Nat} {tpos : Pos} {k j : Bool} {a b z TI TO i1 i2 : Addr} {xs ys : List V} (S : ZipSep2 z TI TO i1 i2 [i1, a] [i2, b]) (h1a : a ≠ i1) (h2b : b ≠ i2) :
    Turn P w K (.Tuple elts kk tpos) (ItZB k j K a b xs ys) [z, TI, TO, i1, i2] z (fun i h => IsZip h z TI TO .none ∧ IsTupOf2 h TI (.ref i1) (.ref i2) ∧ (∃ a1 a2, IsTupOf2 h TO a1 a2) ∧ IterB k h i1 a i ∧ IterB j h i2 b i) where
  mem := by simp
  obj := fun i h st c hc => by
    obtain ⟨hz, hTI, ⟨x, y, hTO⟩, h1, h2⟩ := st
    have e' : c = z ∨ c = TI ∨ c = TO ∨ c = i1 ∨ c = i2 := by simpa using hc
    rcases e' with q | q | q | q | q
    · rw [q]; exact ⟨_, hz, fun v q => nomatch q⟩
    · rw [q]; exact ⟨_, hTI, fun v q => nomatch q⟩
    · rw [q]; exact ⟨_, hTO, fun v q => nomatch q⟩
    · rw [q]; exact h1.obj
    · rw [q]; exact h2.obj
  keep := fun i h h' st q => by
    obtain ⟨hz, hTI, ⟨x, y, hTO⟩, h1, h2⟩ := st
    exact ⟨q z (by simp) _ hz, q TI (by simp) _ hTI, ⟨x, y, q TO (by simp) _ hTO⟩, h1.keep fun o => q i1 (by simp) o, h2.keep fun o => q i2 (by simp) o⟩
  item := by
    intro X hP hw hK hc i pins s σ H E I hf st hg
    subst hP hw hK
    obtain ⟨hz, hTI, hTO, h1, h2⟩ := st
    obtain ⟨hqx, hqy, hlx, hly⟩ := hg
    obtain ⟨its, rv, p, ha⟩ := SqB.at I hqx
    obtain ⟨its2, rv2, p2, hb⟩ := SqB.at I hqy
    obtain ⟨u, hu, ru⟩ := rv.get (List.getElem?_eq_getElem hlx)
    obtain ⟨u2, hu2, ru2⟩ := rv2.get (List.getElem?_eq_getElem hly)
    have W := WalksT.zipD2 (prog := X.prog) (w := X.w) (A := X.A) S (drawsB (A := X.A.in1) k (I.ok.hd hc) i1 a h1a its.toArray) (drawsB (A := X.A.in1) j (I.ok.hd hc) i2 b h2b its2.toArray)
    have hn1 : i < its.toArray.size := by rw [List.size_toArray, ← rv.length]; exact hlx
    have hn2 : i < its2.toArray.size := by rw [List.size_toArray, ← rv2.length]; exact hly
    refine W.item i s _ _ (by omega) ⟨hz, hTI, hTO, ⟨h1, p⟩, ⟨h2, p2⟩⟩ fun t vals h' tk hP ht hT hM hk => ?_
    obtain ⟨y1, y2, hy1, hy2, ev⟩ := hP
    have ey1 : y1 = u := by
      have hu' : its.toArray[i]? = some u := by simpa using hu
      rw [hu'] at hy1
      exact (Option.some.inj hy1).symm
    have ey2 : y2 = u2 := by
      have hu' : its2.toArray[i]? = some u2 := by simpa using hu2
      rw [hu'] at hy2
      exact (Option.some.inj hy2).symm
    subst ey1 ey2 ev
    refine ⟨_, rfl, W.go elts kk tpos i t { s with heap := h', toks := tk } _ _ hM fun h3 st3 hk3 => ?_⟩
    have tw := W.apart i t h' hM
    have kk2 : ∀ c o, c ∉ [z, TO, i1, i2] → s.heap.get? c = some o → h3.get? c = some o := fun c o nb q => hk3 c o nb (hk c o nb q)
    obtain ⟨ot, hot, hct, nt, hdt⟩ := hT
    have sub4 : ∀ c ∈ [z, TO, i1, i2], c ∈ [z, TI, TO, i1, i2] := fun c hc => by
      have e' : c = z ∨ c = TO ∨ c = i1 ∨ c = i2 := by simpa using hc
      rcases e' with q | q | q | q <;> simp [q]
    have new : ObjOk X.prog X.w (upd H t (.tup [xs[i], ys[i]])) h3 t (.tup [xs[i], ys[i]]) :=
      ⟨by show 2 ≤ sizeLine; rw [sizeLine_eq]; omega, [y1, y2], .cons ru (.cons ru2 .nil), ⟨ot, hk3 t ot tw hot, hct, nt, hdt⟩⟩
    have I1 : Inv X pins σ (upd H t (.tup [xs[i], ys[i]])) { s with heap := h3, toks := tk } := Inv.turnedNew I (ch := [z, TO, i1, i2]) kk2 (fun c hc => hf c (sub4 c hc)) ht new
    obtain ⟨hz3, hTI3, hTO3, ⟨h13, _⟩, ⟨h23, _⟩⟩ := st3
    refine ⟨.ref t, _, I1, rfl, ⟨t, _, _, rfl, I.hok.fresh ht, rfl, List.getElem?_eq_getElem hlx, List.getElem?_eq_getElem hly⟩, ⟨hz3, hTI3, hTO3, h13, h23⟩, fun c hc => ?_⟩
    have nt : c ≠ t := fun q => by
      have e' : c = z ∨ c = TI ∨ c = TO ∨ c = i1 ∨ c = i2 := by simpa using hc
      rcases e' with r | r | r | r | r
      · exact tw (by rw [← q, r]; simp)
      · have l := Heap.lt_size hTI
        rw [← r, q] at l
        exact absurd ht (Nat.not_le.mpr l)
      · exact tw (by rw [← q, r]; simp)
      · exact tw (by rw [← q, r]; simp)
      · exact tw (by rw [← q, r]; simp)
    rw [upd_ne nt]
    exact (hf c hc).1
  done := by
    intro X hP hw hK hc i pins s σ H E I hf st hg
    subst hP hw hK
    obtain ⟨hz, hTI, ⟨a1, a2, hTO⟩, h1, h2⟩ := st
    obtain ⟨hqx, hqy, hl⟩ := hg
    obtain ⟨its, rv, p, ha⟩ := SqB.at I hqx
    obtain ⟨its2, rv2, p2, hb⟩ := SqB.at I hqy
    have D1 := drawsB (P := X.prog) (w := X.w) (A := X.A.in1) k (I.ok.hd hc) i1 a h1a its.toArray
    have D2 := drawsB (P := X.prog) (w := X.w) (A := X.A.in1) j (I.ok.hd hc) i2 b h2b its2.toArray
    have hn1 : its.toArray.size = xs.length := by rw [List.size_toArray, ← rv.length]
    have hn2 : its2.toArray.size = ys.length := by rw [List.size_toArray, ← rv2.length]
    have sub4 : ∀ c ∈ [z, TO, i1, i2], c ∈ [z, TI, TO, i1, i2] := fun c hc => by
      have e' : c = z ∨ c = TO ∨ c = i1 ∨ c = i2 := by simpa using hc
      rcases e' with q | q | q | q <;> simp [q]
    refine wpAny_pyNext_zipD2_end S D1 D2 hz hTI hTO ⟨h1, p⟩ ⟨h2, p2⟩ (by omega) (by omega) (by omega) fun h' tk hk => ⟨rfl, ?_⟩
    exact I.turnedL (t' := tk) (ch := [z, TO, i1, i2]) (fun c o nb q => hk c o (fun r => nb (by simp [r])) (fun r => nb (by simp [r])) (fun r => nb (by simp [r])) (fun r => nb (by simp [r])) q) (fun c hc => hf c (sub4 c hc))
  self := fun A i s Q E st h => wpAny_pyIter_zip st.1 h
end
set_option maxHeartbeats 1000000 in
theorem meets_enumerate_new1B {v : Value} {o : Obj} {H : Heap → Prop} (B : Begins v o H) :
    Meets (Builtin.«enumerate.__new__» ⟨[.type "enumerate", v], []⟩) (fun _ R s => H s.heap ∧
      R (.ok (.ret (.ref (s.heap.push o).objs.size))) { s with heap := (s.heap.push o).push { cls := .type "enumerate", data := .fields #[.none, .bool false, .ref s.heap.objs.size, rawInt 0, .none, .none] } }) :=
  .of_wp fun prog w A R s h => by
    obtain ⟨hp, g, d, tk, os⟩ := s; obtain ⟨h1, h⟩ := h
    have hsub := sub_enumerate
    have q1 : ∀ {A' : Around} {E : Value → Shared → Prop} {Q : Value → Shared → Prop}, Q (.ref hp.objs.size) ⟨hp.push o, g, d, tk, os⟩ → wpAny (model prog w) A' (pyIter v) Q E ⟨hp, g, d, tk, os⟩ :=
      fun q => B.iter prog w _ _ ⟨hp, g, d, tk, os⟩ _ h1 q
    wp_walk using q1
    refine wpAny_stack_any fun st => wpAny_pure ?_
    split
    · rename_i c _ _ _ _ _
      cases (c == Value.type "enumerate")
      · wp_walk using q1
        exact ⟨_, rfl, h⟩
      · wp_walk using q1
        exact ⟨_, rfl, h⟩
    · wp_walk using q1
      exact ⟨_, rfl, h⟩
theorem enum_begins1 {prog : Program} {w : World} {A : Around} {E : Value → Shared → Prop} {s : Shared} {v : Value} {o : Obj} {H : Heap → Prop} {Q : Value → Shared → Prop} (B : Begins v o H) (h1 : H s.heap)
    (h : ∀ h', IsEnum h' (s.heap.objs.size + 1) s.heap.objs.size 0 .none → h'.get? s.heap.objs.size = some o → h'.objs.size = s.heap.objs.size + 2 →
      (∀ b o, s.heap.get? b = some o → h'.get? b = some o) → Q (.ref (s.heap.objs.size + 1)) { s with heap := h' }) :
    wpAny (model prog w) A (call (.type "enumerate") [v]) Q E s := by
  refine callType_new F.called_enumerate (by decide) (F.typeCall_enumerate_1 _) (F.newCall_enumerate_1 _) (fun obj => F.args_object_init_2 obj _) F.entry_enumerate_new
    (meets_enumerate_new1B B) ⟨h1, ?_⟩
  have hz : (s.heap.push o).objs.size = s.heap.objs.size + 1 := Heap.size_push ..
  show _ ∧ _
  rw [hz]
  have he : IsEnum ((s.heap.push o).push { cls := .type "enumerate", data := .fields #[.none, .bool false, .ref s.heap.objs.size, rawInt 0, .none, .none] }) (s.heap.objs.size + 1) s.heap.objs.size 0 .none := by
    have := Heap.get?_push_size (s.heap.push o) (o := { cls := .type "enumerate", data := .fields #[.none, .bool false, .ref s.heap.objs.size, rawInt 0, .none, .none] }) rfl
    rw [hz] at this; exact this
  refine ⟨⟨_, he, rfl⟩, h _ he (Heap.get?_push_of_some _ (Heap.get?_push_size _ B.free)) (by rw [Heap.size_push, hz]) fun b o x => Heap.get?_push_of_some _ (Heap.get?_push_of_some _ x)⟩
def iZipB (K : PySem.W.Frag) (ta : TA) : TI := fun σ H R => ta σ H fun vs H1 => ∃ k j a b xs ys, vs = [.ref a, .ref b] ∧ SqB k K H1 a xs ∧ SqB j K H1 b ys ∧ R (ItZB k j K a b xs ys) H1
theorem pi_zipB {X : Cx} {e e2 : Expr} {ta : TA} {p pos tpos : Pos} {elts : List Expr} {kk : Nat} (hg : Gl X "zip") (hm : X.mg "zip" = none) (ha : PA X [e, e2] ta)
    (hs : starEach [e, e2] X.env = (false, eval e X.env) :: starEach [e2] X.env) (hpl : (backTo pos (starEach [e2] X.env)).any (·.1) = false) :
    PI X (.Tuple elts kk tpos) (.Call (.Name "zip" p) [e, e2] [] pos) (iZipB X.K ta) := by
  refine ⟨fun pins s σ H R I h => ?_⟩
  refine Call_ (ld_blt I hg hm PyProof.Rows.boot_zip (PyProof.Rows.callWith_type1 (thn (ha.run pos pins s σ H _ I h) fun us s1 ⟨vs, H1, I1, r1, q1⟩ => ?_) hs hpl))
  obtain ⟨k, j, a, b, xs, ys, ex, hqx, hqy, q⟩ := q1
  subst ex
  cases r1 with
  | cons r rr =>
    cases rr with
    | cons r' rr =>
      cases rr
      cases r
      cases r'
      have fresh5 : ∀ c, c ∈ [s1.heap.objs.size + 4, s1.heap.objs.size + 2, s1.heap.objs.size + 3, s1.heap.objs.size, s1.heap.objs.size + 1] → FpOk X pins H1 c := fun c hcm => by
        have e' : c = s1.heap.objs.size + 4 ∨ c = s1.heap.objs.size + 2 ∨ c = s1.heap.objs.size + 3 ∨ c = s1.heap.objs.size ∨ c = s1.heap.objs.size + 1 := by simpa using hcm
        have hle : s1.heap.objs.size ≤ c := by
          rcases e' with z | z | z | z | z
          · rw [z]; exact Nat.le_add_right _ _
          · rw [z]; exact Nat.le_add_right _ _
          · rw [z]; exact Nat.le_add_right _ _
          · rw [z]; exact Nat.le_refl _
          · rw [z]; exact Nat.le_add_right _ _
        exact I1.fpOk hle (I1.hok.fresh hle)
      obtain ⟨its, rv, p1, la⟩ := SqB.at I1 hqx
      obtain ⟨its2, rv2, p2, lb⟩ := SqB.at I1 hqy
      refine zip_begins2 (beginsB k a its.toArray) (beginsB j b its2.toArray) p1 p2 fun h' hz hTI hTO h1 h2 hsz hk => wpAny_pyIter_zip hz ?_
      have I2 : Inv X pins σ H1 { s1 with heap := h' } := I1.kept (t' := s1.toks) hk
      have S : ZipSep2 (s1.heap.objs.size + 4) (s1.heap.objs.size + 2) (s1.heap.objs.size + 3) s1.heap.objs.size (s1.heap.objs.size + 1) [s1.heap.objs.size, a] [s1.heap.objs.size + 1, b] :=
        zip_sep2 (N := s1.heap.objs.size) (fp1 := [a]) (fp2 := [b]) (fun c hc => by rw [List.mem_singleton.mp hc]; exact la) (fun c hc => by rw [List.mem_singleton.mp hc]; exact lb)
      exact ⟨s1.heap.objs.size + 4, [s1.heap.objs.size + 4, s1.heap.objs.size + 2, s1.heap.objs.size + 3, s1.heap.objs.size, s1.heap.objs.size + 1], _, _, H1, rfl, I2, turn_zipB S (Nat.ne_of_lt la) (Nat.ne_of_lt (Nat.lt_succ_of_lt lb)), ⟨hz, hTI, ⟨_, _, hTO⟩, iterB_start k h1, iterB_start j h2⟩, fresh5, q⟩
end Mi
namespace Mi
open PySem PySem.Spec PyProof.Rows L2
def StB (T : Tx) (k : Bool) (a : Addr) (xs : List D) (vs : List V) (g : Gr) (H : Hp) : Prop :=
  RepL T H g xs vs ∧ if k = true then H a = some (.tup vs) else g.fz a ∧ H a = some (.lst vs)
section
variable {T : Tx} {X : Cx} {W : WX} {H H1 : Hp} {g g1 : Gr} {h h1 : MH} {k j : Bool} {a b : Addr} {xs ys : List D} {vs us : List V}
theorem StB.of {d : D} {x : V} (q : RepV T H g d x) (e : plainIts d = some xs) : ∃ k a vs, x = .ref a ∧ StB T k a xs vs g H := by
  cases d with
  | tup ds => cases e; obtain ⟨a, vs, e, e1, e2⟩ := q; exact ⟨true, a, vs, e, e2, e1⟩
  | lst ds => cases e; obtain ⟨a, vs, e, f, e1, e2⟩ := q; exact ⟨false, a, vs, e, e2, f, e1⟩
  | _ => cases e
theorem StB.sq (q : StB T k a xs vs g H) : SqB k T.K H a vs := by
  cases k with
  | true => exact SqT.of q.2
  | false => exact SqL.of q.2.2
theorem StB.mono {g' : Gr} {H' : Hp} (q : StB T k a xs vs g H) (r : Rel T H g h) (x : Ext0 g H g' H') : StB T k a xs vs g' H' := by
  refine ⟨RepL.mono0 x r _ _ q.1, ?_⟩
  cases k with
  | true =>
    refine x.fr a _ q.2 (fun z => ?_) (.inr (.inl ⟨_, rfl⟩))
    obtain ⟨o, q1, q2, _⟩ := r.there z
    have e : H a = some (.tup vs) := q.2
    rw [e] at q1; cases q1; exact q2 _ rfl
  | false => exact ⟨x.fzs a q.2.1, x.fr a _ q.2.2 (fun z => r.dis a z q.2.1) (.inl q.2.1)⟩
theorem StB.len (q : StB T k a xs vs g H) (z : SzH H) : vs.length ≤ sizeLine := by
  cases k with
  | true => exact z.tup a vs q.2
  | false => exact z.lst a vs q.2.2
theorem RepL.at (q : RepL T H g xs vs) {i : Nat} (hi : i < xs.length) : ∃ d v, xs[i]? = some d ∧ vs[i]? = some v ∧ RepV T H g d v := by
  obtain ⟨v, a, b⟩ := q.get (List.getElem?_eq_getElem hi)
  exact ⟨_, v, List.getElem?_eq_getElem hi, a, b⟩
theorem WalkI.seq : WalkI T (if k = true then Itt T.K a else Itl T.K a) xs (StB T k a xs vs) where
  mono := fun _ _ _ _ _ q r x => q.mono r x
  go := fun i g H h q r hi => by
    obtain ⟨d, v, _, e, _⟩ := q.1.at hi
    cases k with
    | true => exact ⟨vs, v, q.sq, e⟩
    | false => exact ⟨vs, v, q.sq, e⟩
  stop := fun g H h q r => by
    cases k with
    | true => exact ⟨vs, q.sq, by rw [q.1.length]; exact Nat.le_refl _⟩
    | false => exact ⟨vs, q.sq, by rw [q.1.length]; exact Nat.le_refl _⟩
  yld := fun i g H h x H' q r y hi => by
    obtain ⟨d, v, e1, e, rv⟩ := q.1.at hi
    have y' : H' = H ∧ vs[i]? = some x := by
      cases k with
      | true => exact ⟨y.1, y.2 vs q.sq⟩
      | false => exact ⟨y.1, y.2 vs q.sq⟩
    obtain ⟨rfl, y2⟩ := y'
    rw [e] at y2; cases y2
    exact ⟨d, g, e1, r, .refl _ _, rv⟩
  len := fun g H q z => by rw [q.1.length]; exact q.len z
theorem WalkI.rng (lo : Int) (n : Nat) (hn : n ≤ big) : WalkI T (Itr lo n) ((List.range n).map fun i => .int (lo + (i : Nat))) (fun _ _ => True) where
  mono := fun _ _ _ _ _ q r x => True.intro
  go := fun i g H h q r hi => by
    show i < n
    simpa using hi
  stop := fun g H h q r => by show n ≤ _; simp
  yld := fun i g H h x H' q r y hi => by
    obtain ⟨rfl, rfl⟩ := y
    have hi : i < n := by simpa using hi
    exact ⟨.int (lo + (i : Nat)), g, by simp [hi], r, .refl _ _, rfl⟩
  len := fun g H q z => by
    rw [sizeLine_eq]
    simp
    unfold big at hn
    omega
theorem enumL_get : ∀ (xs : List D) (n i : Nat) (d : D), xs[i]? = some d → (enumL n xs)[i]? = some (.tup [.int ((n + i : Nat) : Int), d])
  | x :: xs, n, 0, d, e => by simp at e; subst e; rfl
  | x :: xs, n, i + 1, d, e => by
    have := enumL_get xs (n + 1) i d (by simpa using e)
    show (enumL (n + 1) xs)[i]? = _
    rw [this, show n + 1 + i = n + (i + 1) by omega]
theorem enumL_len : ∀ (xs : List D) (n : Nat), (enumL n xs).length = xs.length
  | [], _ => rfl
  | x :: xs, n => by show (enumL (n + 1) xs).length + 1 = _; rw [enumL_len xs (n + 1)]; rfl
theorem zipD_get : ∀ (xs ys : List D) (i : Nat) (d e : D), xs[i]? = some d → ys[i]? = some e → (zipD xs ys)[i]? = some (.tup [d, e])
  | x :: xs, y :: ys, 0, d, e, q, p => by simp at q p; subst q p; rfl
  | x :: xs, y :: ys, i + 1, d, e, q, p => by
    show (zipD xs ys)[i]? = _
    exact zipD_get xs ys i d e (by simpa using q) (by simpa using p)
  | [], _, _, _, _, q, _ => by simp at q
  | _ :: _, [], _, _, _, _, p => by simp at p
theorem zipD_len : ∀ (xs ys : List D), (zipD xs ys).length = min xs.length ys.length
  | [], _ => by simp [zipD]
  | _ :: _, [] => by simp [zipD]
  | x :: xs, y :: ys => by
    show (zipD xs ys).length + 1 = _
    rw [zipD_len xs ys]
    simp only [List.length_cons]
    omega
theorem Rel.newT {a : Addr} {ws : List V} (r : Rel T H g h) (hn : H a = none) : Rel T (upd H a (.tup ws)) { phi := g.phi, fz := fun b => g.fz b ∨ (false = true ∧ b = a) } h := r.new hn false
theorem WalkI.enm : WalkI T (ItEB k T.K a vs) (enumL 0 xs) (StB T k a xs vs) where
  mono := fun _ _ _ _ _ q r x => q.mono r x
  go := fun i g H h q r hi => ⟨q.sq, by rw [← q.1.length]; rwa [enumL_len] at hi⟩
  stop := fun g H h q r => ⟨q.sq, by rw [enumL_len, q.1.length]⟩
  yld := fun i g H h x H' q r y hi => by
    obtain ⟨t, v, rfl, hn, rfl, e⟩ := y
    rw [enumL_len] at hi
    obtain ⟨d, v', e1, e2, rv⟩ := q.1.at hi
    rw [e] at e2; cases e2
    refine ⟨.tup [.int (i : Nat), d], { phi := g.phi, fz := fun b => g.fz b ∨ (false = true ∧ b = t) }, by rw [enumL_get xs 0 i d e1, Nat.zero_add], r.newT hn, Ext.new hn false, t, _, rfl, upd_same, rfl, rv.mono (Ext.new hn false) r, True.intro⟩
  len := fun g H q z => by rw [enumL_len, q.1.length]; exact q.len z
theorem WalkI.zp : WalkI T (ItZB k j T.K a b vs us) (zipD xs ys) (fun g H => StB T k a xs vs g H ∧ StB T j b ys us g H) where
  mono := fun _ _ _ _ _ q r x => ⟨q.1.mono r x, q.2.mono r x⟩
  go := fun i g H h q r hi => by
    rw [zipD_len] at hi
    exact ⟨q.1.sq, q.2.sq, by rw [← q.1.1.length]; omega, by rw [← q.2.1.length]; omega⟩
  stop := fun g H h q r => ⟨q.1.sq, q.2.sq, by rw [zipD_len, q.1.1.length, q.2.1.length]⟩
  yld := fun i g H h x H' q r y hi => by
    obtain ⟨t, v, u, rfl, hn, rfl, e, f⟩ := y
    rw [zipD_len] at hi
    obtain ⟨d, v', e1, e2, rv⟩ := q.1.1.at (i := i) (by omega)
    obtain ⟨c, u', f1, f2, ru⟩ := q.2.1.at (i := i) (by omega)
    rw [e] at e2; cases e2
    rw [f] at f2; cases f2
    exact ⟨.tup [d, c], { phi := g.phi, fz := fun b => g.fz b ∨ (false = true ∧ b = t) }, zipD_get xs ys i d c e1 f1, r.newT hn, Ext.new hn false, t, _, rfl, upd_same, rv.mono (Ext.new hn false) r, ru.mono (Ext.new hn false) r, True.intro⟩
  len := fun g H q z => by
    have := q.1.len z
    rw [zipD_len, q.1.1.length]
    omega
abbrev SI (T : Tx) (X : Cx) (W : WX) (tg e : Expr) (m : Ev → MH → R It) : Prop := PI X tg e (tI T W m)
def iSeq (K : PySem.W.Frag) (tl : TE) : TI := fun σ H R => tl σ H fun x H1 => ∃ (k : Bool) (a : Addr) (vs : List V), x = .ref a ∧ SqB k K H1 a vs ∧ R (if k = true then Itt K a else Itl K a) H1
theorem pi_seq {tg l : Expr} {tl : TE} (hl : PE X l tl) : PI X tg l (iSeq X.K tl) := by
  refine ⟨fun pins s σ H R I h => ?_⟩
  refine thn (hl.run pins s σ H _ I h) fun v s1 ⟨x, H1, I1, r1, q1⟩ => ?_
  obtain ⟨k, a, vs, e, hq, q⟩ := q1
  subst e
  cases r1
  cases k with
  | true =>
    obtain ⟨its, rv, p, hz⟩ := I1.tuple (show SqT X.K H1 a vs from hq)
    refine wpAny_pyIter_tuple (show s1.heap.IsTuple a its.toArray from p) ?_
    refine ⟨s1.heap.objs.size, [s1.heap.objs.size], _, _, H1, rfl, I1.kept (t' := s1.toks) fun b o e => Heap.get?_push_of_some _ e, turn_tuple a _, ⟨_, Heap.get?_push_size _ rfl, rfl, rfl⟩, fun b hb => ?_, q⟩
    have e : b = s1.heap.objs.size := by simpa using hb
    subst e
    exact I1.fpOk (Nat.le_refl _) (I1.hok.fresh (Nat.le_refl _))
  | false =>
    obtain ⟨its, rv, p, hz⟩ := I1.list (show SqL X.K H1 a vs from hq)
    refine wpAny_pyIter_list p.isList ?_
    refine ⟨s1.heap.objs.size, [s1.heap.objs.size], _, _, H1, rfl, I1.kept (t' := s1.toks) fun b o e => Heap.get?_push_of_some _ e, turn_list a _, ⟨_, Heap.get?_push_size _ rfl, rfl, rfl⟩, fun b hb => ?_, q⟩
    have e : b = s1.heap.objs.size := by simpa using hb
    subst e
    exact I1.fpOk (Nat.le_refl _) (I1.hok.fresh (Nat.le_refl _))
theorem OutI.here {w : It} {Q : L2.It → Hp → Prop} {W : XW} {xs : List D} {J : L2.It} {C : Gr → Hp → Prop} (r : Rel T H g h) (o : OutI T g H (.ok (.its xs) h) Q W) (w : WalkI T J xs C) (c : C g H) : Q J H := o H g r (.refl _ _) J C w c
theorem si_gen {tg e : Expr} {ma : Ev → MH → R D} (hK : X.K = T.K) (ha : SE T X W e ma) : SI T X W tg e (fun e h => (ma e h).bind fun d h => match itOf h d with
    | some w => .ok w h
    | none => .stuck) := by
  refine PI.imp (pi_seq ha) fun σ H Q ⟨g, h, ev, r, s, o⟩ => ?_
  refine tE.bindI (f := fun d e h => match itOf h d with
    | some w => .ok w h
    | none => .stuck) r s o fun d v h1 H1 g1 r1 s1 qa x1 o1 => ?_
  rw [hK]
  cases d with
  | tup ds =>
    obtain ⟨a, vs, e, e1, e2⟩ := qa
    have st : StB T true a ds vs g1 H1 := ⟨e2, e1⟩
    exact ⟨true, a, vs, e, st.sq, OutI.here (w := .its ds) r1 o1 WalkI.seq st⟩
  | lst ds =>
    obtain ⟨a, vs, e, f, e1, e2⟩ := qa
    have st : StB T false a ds vs g1 H1 := ⟨e2, f, e1⟩
    exact ⟨false, a, vs, e, st.sq, OutI.here (w := .its ds) r1 o1 WalkI.seq st⟩
  | ref n =>
    obtain ⟨a, e, e1⟩ := qa
    have o1 : OutI T g1 H1 (match (match h1[n]? with
      | some (.lst _) => some (It.hp n false)
      | _ => none) with
      | some w => .ok w h1
      | none => .stuck) Q (fun c d H' => W c d σ H') := o1
    cases z : h1[n]? with
    | none => rw [z] at o1; exact o1.elim
    | some ob =>
      rw [z] at o1
      cases ob with
      | lst ds =>
        obtain ⟨vs, q1, q2⟩ := r1.obj n _ a z e1
        exact ⟨false, a, vs, e, SqL.of q1, o1 H1 g1 r1 (.refl _ _) a e1⟩
      | _ => exact o1.elim
  | _ => exact o1.elim
theorem tA.bindI {m : Ev → MH → R (List D)} {f : List D → Ev → MH → R It} {σ : St} {e : Ev} {Q : L2.It → Hp → Prop} {Q' : List V → Hp → Prop} (r : Rel T H g h) (s : RepS T H g e σ) (o : OutI T g H ((m e h).bind fun d h => f d e h) Q (fun c d H' => W c d σ H'))
    (k : ∀ d v h1 H1 g1, Rel T H1 g1 h1 → RepL T H1 g1 d v → OutI T g1 H1 (f d e h1) Q (fun c d H' => W c d σ H') → Q' v H1) : tA T W m σ H Q' := by
  refine ⟨g, h, e, r, s, ?_⟩
  revert k o
  cases m e h with
  | ok d h1 => exact fun o k v H1 g1 a b c => k d v h1 H1 g1 a c (o.ext b r a)
  | exn c p h1 => exact fun o _ => o
  | stuck => exact fun o _ => o
theorem sa_one {a : Expr} {ma : Ev → MH → R D} (hn : noStar a = true) (ha : SE T X W a ma) : SA T X W [a] (fun e h => (ma e h).bind fun x h => .ok [x] h) := SA.cons hn ha SA.nil
theorem sa_two {a b : Expr} {ma mb : Ev → MH → R D} (hn : noStar a = true) (hm : noStar b = true) (ha : SE T X W a ma) (hb : SE T X W b mb) : SA T X W [a, b] (fun e h => (ma e h).bind fun x h => (mb e h).bind fun y h => .ok [x, y] h) := by
  refine PA.imp (SA.cons hn ha (SA.cons hm hb SA.nil)) fun σ H Q ⟨g, h, ev, r, s, o⟩ => ⟨g, h, ev, r, s, ?_⟩
  have o : OutA T g H ((ma ev h).bind fun x h => (mb ev h).bind fun y h => .ok [x, y] h) Q (fun c d H' => W c d σ H') := o
  show OutA T g H ((ma ev h).bind fun x h => ((mb ev h).bind fun y h => .ok [y] h).bind fun xs h => .ok (x :: xs) h) Q (fun c d H' => W c d σ H')
  revert o
  cases ma ev h with
  | stuck => exact fun o => o
  | exn c p h1 => exact fun o => o
  | ok x h1 =>
    show OutA T g H ((mb ev h1).bind fun y h => .ok [x, y] h) Q _ → OutA T g H (((mb ev h1).bind fun y h => .ok [y] h).bind fun xs h => .ok (x :: xs) h) Q _
    cases mb ev h1 with
    | stuck => exact fun o => o
    | exn c p h1 => exact fun o => o
    | ok y h2 => exact fun o => o
theorem bind_bind {α β γ : Type} (r : R α) (f : α → MH → R β) (k : β → MH → R γ) : (r.bind f).bind k = r.bind fun a h => (f a h).bind k := by cases r <;> rfl
theorem si_rng1 {tg a : Expr} {p pos : Pos} {ma : Ev → MH → R D} (hg : Gl X "range") (hm : X.mg "range" = none) (hn : noStar a = true) (ha : SE T X W a ma) : SI T X W tg (.Call (.Name "range" p) [a] [] pos) (fun e h => (ma e h).bind fun x h => match x with
    | .int j => if decide (j ≤ (big : Int)) && decide (-(2 ^ 60) < j) then .ok (.its ((List.range j.toNat).map fun i => .int (i : Nat))) h else .stuck
    | _ => .stuck) := by
  refine PI.imp (pi_range1 hg hm (sa_one hn ha) (star_cons hn)) fun σ H Q ⟨g, h, ev, r, s, o⟩ => ?_
  refine tA.bindI (f := fun xs e h => match xs with
    | [x] => (match x with
      | .int j => if decide (j ≤ (big : Int)) && decide (-(2 ^ 60) < j) then .ok (.its ((List.range j.toNat).map fun i => .int (i : Nat))) h else .stuck
      | _ => .stuck)
    | _ => .stuck) r s (by rw [bind_bind]; exact o) fun ds vs h1 H1 g1 r1 q1 o1 => ?_
  match ds, vs, q1, o1 with
  | [d], [v], q1, o1 =>
    cases d with
    | int j => ?_
    | _ => exact o1.elim
    have o1 : OutI T g1 H1 (if (decide (j ≤ (big : Int)) && decide (-(2 ^ 60) < j)) = true then .ok (.its ((List.range j.toNat).map fun i => .int (i : Nat))) h1 else .stuck) Q (fun c d H' => W c d σ H') := o1
    by_cases c : (decide (j ≤ (big : Int)) && decide (-(2 ^ 60) < j)) = true
    · rw [if_pos c] at o1
      rw [Bool.and_eq_true] at c
      have c1 := of_decide_eq_true c.1
      have c2 := of_decide_eq_true c.2
      have ev : v = .int j := q1.1
      subst ev
      unfold big at c1
      refine ⟨j, rfl, by omega, by omega, ?_⟩
      have w := WalkI.rng (T := T) 0 j.toNat (by unfold big; omega)
      simp only [Int.zero_add] at w
      exact OutI.here (w := .its []) r1 o1 w True.intro
    · rw [if_neg c] at o1; exact o1.elim
theorem si_rng2 {tg a b : Expr} {p pos : Pos} {ma mb : Ev → MH → R D} (hg : Gl X "range") (hm : X.mg "range" = none) (hn : noStar a = true) (hn2 : noStar b = true) (ha : SE T X W a ma) (hb : SE T X W b mb) : SI T X W tg (.Call (.Name "range" p) [a, b] [] pos) (fun e h => (ma e h).bind fun x h => (mb e h).bind fun y h => match x, y with
    | .int i, .int j => if decide (j ≤ (big : Int)) && decide (-(2 ^ 60) < j) && decide (0 ≤ i) && decide (i ≤ (big : Int)) then .ok (.its ((List.range (j - i).toNat).map fun k => .int (i + (k : Nat)))) h else .stuck
    | _, _ => .stuck) := by
  refine PI.imp (pi_range2 hg hm (sa_two hn hn2 ha hb) (by rw [star_cons hn, star_cons hn2]; rfl) (by rw [star_cons hn2]; rfl)) fun σ H Q ⟨g, h, ev, r, s, o⟩ => ?_
  refine tA.bindI (f := fun xs e h => match xs with
    | [x, y] => (match x, y with
      | .int i, .int j => if decide (j ≤ (big : Int)) && decide (-(2 ^ 60) < j) && decide (0 ≤ i) && decide (i ≤ (big : Int)) then .ok (.its ((List.range (j - i).toNat).map fun k => .int (i + (k : Nat)))) h else .stuck
      | _, _ => .stuck)
    | _ => .stuck) r s (by simp only [bind_bind]; exact o) fun ds vs h1 H1 g1 r1 q1 o1 => ?_
  match ds, vs, q1, o1 with
  | [c, d], [v, u], q1, o1 =>
    cases c with
    | int i => ?_
    | _ => exact o1.elim
    cases d with
    | int j => ?_
    | _ => exact o1.elim
    have o1 : OutI T g1 H1 (if (decide (j ≤ (big : Int)) && decide (-(2 ^ 60) < j) && decide (0 ≤ i) && decide (i ≤ (big : Int))) = true then .ok (.its ((List.range (j - i).toNat).map fun k => .int (i + (k : Nat)))) h1 else .stuck) Q (fun c d H' => W c d σ H') := o1
    by_cases c : (decide (j ≤ (big : Int)) && decide (-(2 ^ 60) < j) && decide (0 ≤ i) && decide (i ≤ (big : Int))) = true
    · rw [if_pos c] at o1
      simp only [Bool.and_eq_true, decide_eq_true_eq] at c
      obtain ⟨⟨⟨c1, c2⟩, c3⟩, c4⟩ := c
      obtain ⟨ev, eu, _⟩ := q1
      have ev : v = .int i := ev
      have eu : u = .int j := eu
      subst ev eu
      unfold big at c1 c4
      refine ⟨i, j, rfl, ⟨by omega, by omega, by omega, by omega⟩, ?_⟩
      exact OutI.here (w := .its []) r1 o1 (WalkI.rng (T := T) i (j - i).toNat (by unfold big; omega)) True.intro
    · rw [if_neg c] at o1; exact o1.elim
theorem hp_go {n i : Nat} {e : Bool} {ds : List D} (r : Rel T H g h) (z : h[n]? = some (.lst ds)) (ha : g.phi[n]? = some a) (hi : i < ds.length) : (itH T.K e a).go i H := by
  obtain ⟨vs, q1, q2⟩ := r.obj n _ a z ha
  obtain ⟨v, ev, _⟩ := q2.get (List.getElem?_eq_getElem hi)
  cases e with
  | true => exact ⟨vs, v, SqL.of q1, ev⟩
  | false => exact ⟨vs, v, SqL.of q1, ev⟩
theorem hp_stop {n i : Nat} {e : Bool} {ds : List D} (r : Rel T H g h) (z : h[n]? = some (.lst ds)) (ha : g.phi[n]? = some a) (hi : ds.length ≤ i) : (itH T.K e a).stop i H := by
  obtain ⟨vs, q1, q2⟩ := r.obj n _ a z ha
  cases e with
  | true => exact ⟨vs, SqL.of q1, by rw [← q2.length]; exact hi⟩
  | false => exact ⟨vs, SqL.of q1, by rw [← q2.length]; exact hi⟩
theorem hp_yld {n i : Nat} {e : Bool} {ds : List D} {d : D} {x : V} {H' : Hp} (r : Rel T H g h) (z : h[n]? = some (.lst ds)) (ha : g.phi[n]? = some a) (hd : ds[i]? = some d) (y : (itH T.K e a).yld i H x H') :
    ∃ g', Rel T H' g' h ∧ Ext g H g' H' ∧ RepV T H' g' (wrapI e i d) x := by
  obtain ⟨vs, q1, q2⟩ := r.obj n _ a z ha
  obtain ⟨v, ev, rv⟩ := q2.get hd
  cases e with
  | false =>
    obtain ⟨rfl, y⟩ := y
    have ex := y vs (SqL.of q1)
    rw [ev] at ex; cases ex
    exact ⟨g, r, .refl _ _, rv⟩
  | true =>
    obtain ⟨t, v', rfl, hn, rfl, y⟩ := y
    have ex := y vs (SqL.of q1)
    rw [ev] at ex; cases ex
    exact ⟨_, r.newT hn, Ext.new hn false, t, _, rfl, upd_same, rfl, rv.mono (Ext.new hn false) r, True.intro⟩
def iEnumC (K : PySem.W.Frag) (ta : TA) : TI := fun σ H R => ta σ H fun vs H1 => (∃ k a xs, vs = [.ref a] ∧ SqB k K H1 a xs ∧ R (ItEB k K a xs) H1) ∨ ∃ a xs, vs = [.ref a] ∧ SqL K H1 a xs ∧ R (Ite K a) H1
theorem pi_enumC {X : Cx} {e : Expr} {ta : TA} {p pos tpos : Pos} {elts : List Expr} {kk : Nat} (hg : Gl X "enumerate") (hm : X.mg "enumerate" = none) (ha : PA X [e] ta) (hs : starEach [e] X.env = [(false, eval e X.env)]) :
    PI X (.Tuple elts kk tpos) (.Call (.Name "enumerate" p) [e] [] pos) (iEnumC X.K ta) := by
  refine ⟨fun pins s σ H R I h => ?_⟩
  refine Call_ (ld_blt I hg hm boot_enumerate (PyProof.Rows.callWith_type1 (thn (ha.run pos pins s σ H _ I h) fun us s1 ⟨vs, H1, I1, r1, q1⟩ => ?_) hs rfl))
  have fin : ∀ b, b ∈ [s1.heap.objs.size + 1, s1.heap.objs.size] → FpOk X pins H1 b := fun b hb => by
    have e' : b = s1.heap.objs.size + 1 ∨ b = s1.heap.objs.size := by simpa using hb
    have hle : s1.heap.objs.size ≤ b := by
      rcases e' with z | z
      · rw [z]; exact Nat.le_add_right _ _
      · rw [z]; exact Nat.le_refl _
    exact I1.fpOk hle (I1.hok.fresh hle)
  rcases q1 with ⟨k, a, xs, ex, hq, q⟩ | ⟨a, xs, ex, hq, q⟩
  · subst ex
    cases r1 with
    | cons r rr =>
      cases rr
      cases r
      obtain ⟨its, rv, p', hz⟩ := SqB.at I1 hq
      refine enum_begins1 (beginsB k a its.toArray) p' fun h' he hit hsz hk => wpAny_pyIter_enum he ?_
      have I2 : Inv X pins σ H1 { s1 with heap := h' } := I1.kept (t' := s1.toks) hk
      exact ⟨s1.heap.objs.size + 1, [s1.heap.objs.size + 1, s1.heap.objs.size], _, _, H1, rfl, I2, turn_enumB (k := k) (a := a) (xs := xs) (e := s1.heap.objs.size + 1) (it := s1.heap.objs.size) (Nat.succ_ne_self _) (Nat.ne_of_lt (Nat.lt_succ_of_lt hz)) (Nat.ne_of_lt hz), ⟨⟨.none, he⟩, iterB_start k hit⟩, fin, q⟩
  · subst ex
    cases r1 with
    | cons r rr =>
      cases rr
      cases r
      obtain ⟨its, rv, p', hz⟩ := I1.list hq
      refine call_enumerate_list p'.isList fun h' he hit hsz hk => wpAny_pyIter_enum he ?_
      have I2 : Inv X pins σ H1 { s1 with heap := h' } := I1.kept (t' := s1.toks) hk
      exact ⟨s1.heap.objs.size + 1, [s1.heap.objs.size + 1, s1.heap.objs.size], _, _, H1, rfl, I2, turn_enum a (s1.heap.objs.size + 1) s1.heap.objs.size, ⟨⟨.none, he⟩, hit, Nat.succ_ne_self _⟩, fin, q⟩
theorem si_enum {elts : List Expr} {kk : Nat} {tpos : Pos} {a : Expr} {p pos : Pos} {ma : Ev → MH → R D} (hK : X.K = T.K) (hg : Gl X "enumerate") (hm : X.mg "enumerate" = none) (hn : noStar a = true) (ha : SE T X W a ma) : SI T X W (.Tuple elts kk tpos) (.Call (.Name "enumerate" p) [a] [] pos) (fun e h => (ma e h).bind fun x h => match enumOf h x with
    | some w => .ok w h
    | none => .stuck) := by
  refine PI.imp (pi_enumC hg hm (sa_one hn ha) (star_cons hn)) fun σ H Q ⟨g, h, ev, r, s, o⟩ => ?_
  refine tA.bindI (f := fun xs e h => match xs with
    | [x] => (match enumOf h x with
      | some w => .ok w h
      | none => .stuck)
    | _ => .stuck) r s (by rw [bind_bind]; exact o) fun ds vs h1 H1 g1 r1 q1 o1 => ?_
  match ds, vs, q1, o1 with
  | [d], [v], q1, o1 =>
    have o1 : OutI T g1 H1 (match enumOf h1 d with
      | some w => .ok w h1
      | none => .stuck) Q (fun c d H' => W c d σ H') := o1
    rw [hK]
    have qa := q1.1
    cases d with
    | tup ds =>
      obtain ⟨a, vs, e, e1, e2⟩ := qa
      subst e
      have st : StB T true a ds vs g1 H1 := ⟨e2, e1⟩
      exact .inl ⟨true, a, vs, rfl, st.sq, OutI.here (w := .its []) r1 o1 WalkI.enm st⟩
    | lst ds =>
      obtain ⟨a, vs, e, f, e1, e2⟩ := qa
      subst e
      have st : StB T false a ds vs g1 H1 := ⟨e2, f, e1⟩
      exact .inl ⟨false, a, vs, rfl, st.sq, OutI.here (w := .its []) r1 o1 WalkI.enm st⟩
    | ref n =>
      obtain ⟨a, e, e1⟩ := qa
      subst e
      have o1 : OutI T g1 H1 (match (match h1[n]? with
        | some (.lst _) => some (It.hp n true)
        | _ => none) with
        | some w => .ok w h1
        | none => .stuck) Q (fun c d H' => W c d σ H') := o1
      cases z : h1[n]? with
      | none => rw [z] at o1; exact o1.elim
      | some ob =>
        rw [z] at o1
        cases ob with
        | lst ds =>
          obtain ⟨vs, q1, q2⟩ := r1.obj n _ a z e1
          exact .inr ⟨a, vs, rfl, SqL.of q1, o1 H1 g1 r1 (.refl _ _) a e1⟩
        | _ => exact o1.elim
    | _ => exact o1.elim
theorem si_zip {elts : List Expr} {kk : Nat} {tpos : Pos} {a b : Expr} {p pos : Pos} {ma mb : Ev → MH → R D} (hK : X.K = T.K) (hg : Gl X "zip") (hm : X.mg "zip" = none) (hn : noStar a = true) (hn2 : noStar b = true) (ha : SE T X W a ma) (hb : SE T X W b mb) :
    SI T X W (.Tuple elts kk tpos) (.Call (.Name "zip" p) [a, b] [] pos) (fun e h => (ma e h).bind fun x h => (mb e h).bind fun y h => match plainIts x, plainIts y with
    | some xs, some ys => .ok (.its (zipD xs ys)) h
    | _, _ => .stuck) := by
  refine PI.imp (pi_zipB hg hm (sa_two hn hn2 ha hb) (star_cons hn) (by rw [star_cons hn2]; rfl)) fun σ H Q ⟨g, h, ev, r, s, o⟩ => ?_
  refine tA.bindI (f := fun xs e h => match xs with
    | [x, y] => (match plainIts x, plainIts y with
      | some xs, some ys => .ok (.its (zipD xs ys)) h
      | _, _ => .stuck)
    | _ => .stuck) r s (by simp only [bind_bind]; exact o) fun ds vs h1 H1 g1 r1 q1 o1 => ?_
  match ds, vs, q1, o1 with
  | [d, c], [v, u], q1, o1 =>
    have o1 : OutI T g1 H1 (match plainIts d, plainIts c with
      | some xs, some ys => .ok (.its (zipD xs ys)) h1
      | _, _ => .stuck) Q (fun c d H' => W c d σ H') := o1
    cases z : plainIts d with
    | none => rw [z] at o1; exact o1.elim
    | some xs =>
      cases y : plainIts c with
      | none => rw [z, y] at o1; exact o1.elim
      | some ys =>
        rw [z, y] at o1
        obtain ⟨k, a, vs, e, st⟩ := StB.of q1.1 z
        obtain ⟨j, b, us, f, su⟩ := StB.of q1.2.1 y
        subst e f
        rw [hK]
        exact ⟨k, j, a, b, vs, us, rfl, st.sq, su.sq, OutI.here (w := .its []) r1 o1 WalkI.zp ⟨st, su⟩⟩
end
end Mi
namespace Mi
open PySem PySem.Spec PyProof.Rows L2
theorem PI.sz {X : Cx} {tg e : Expr} {t : TI} (h : PI X tg e t) : PI X tg e (fun σ H R => t σ H fun J H' => SzH H' → R J H') :=
  ⟨fun pins s σ H R I q => thn (h.run pins s σ H _ I q) fun v s1 q1 => thn q1 fun u s2 ⟨it, fp, tn, J, H', a, I2, b, c, d, r⟩ => ⟨it, fp, tn, J, H', a, I2, b, c, d, r (inv_sz I2)⟩⟩
section
variable {T : Tx} {X : Cx} {W : WX} {H H1 H2 : Hp} {g g1 g2 : Gr} {h h1 : MH}
theorem RepS.set {e : Ev} {σ : St} {i : Nat} {d : D} {v : V} (s : RepS T H g e σ) (q : RepV T H g d v) : RepS T H g (e.set i (some d)) (σ.set i (some v)) := by
  refine ⟨by simp [s.1], fun j d' z => ?_⟩
  by_cases hij : i = j
  · subst hij
    by_cases hl : i < e.length
    · rw [List.getElem?_set_self hl] at z
      cases z
      exact ⟨v, by rw [List.getElem?_set_self (by rw [← s.1]; exact hl)], q⟩
    · rw [List.getElem?_eq_none (by simpa using hl)] at z; cases z
  · rw [List.getElem?_set_ne hij] at z ⊢
    exact s.2 j d' z
theorem RepS.unset {e : Ev} {σ : St} (i : Nat) (s : RepS T H g e σ) : RepS T H g (e.set i none) (σ.set i none) := by
  refine ⟨by simp [s.1], fun j d' z => ?_⟩
  by_cases hij : i = j
  · subst hij
    by_cases hl : i < e.length
    · rw [List.getElem?_set_self hl] at z
      cases z
    · rw [List.getElem?_eq_none (by simpa using hl)] at z; cases z
  · rw [List.getElem?_set_ne hij] at z ⊢
    exact s.2 j d' z
theorem RepS.wipe {e : Ev} {σ : St} (s : RepS T H g e σ) : ∀ vs : List Nat, RepS T H g (wipeE e vs) (L2.wipe σ vs)
  | [] => s
  | v :: vs => (RepS.wipe s vs).unset v
theorem wipe_get (σ : St) : ∀ (vs : List Nat) (k : Nat), (L2.wipe σ vs)[k]? = if k ∈ vs then (σ[k]?).map (fun _ => none) else σ[k]?
  | [], k => by simp [L2.wipe]
  | v :: vs, k => by
    show ((L2.wipe σ vs).set v none)[k]? = _
    rw [List.getElem?_set]
    by_cases hv : v = k
    · subst hv
      simp only [if_true, L2.wipe_length, List.mem_cons, true_or]
      by_cases hl : v < σ.length
      · simp [hl]
      · simp [hl]
    · rw [if_neg hv, wipe_get σ vs k]
      simp only [List.mem_cons]
      by_cases hk : k ∈ vs
      · simp [hk]
      · simp [hk, Ne.symm hv]
theorem wipe_set {σ : St} {vs : List Nat} {i : Nat} {o : Option V} (hi : i ∈ vs) : L2.wipe (σ.set i o) vs = L2.wipe σ vs := by
  apply List.ext_getElem?
  intro k
  rw [wipe_get, wipe_get]
  by_cases hk : k ∈ vs
  · rw [if_pos hk, if_pos hk, List.getElem?_set]
    by_cases hik : i = k
    · subst hik
      by_cases hl : i < σ.length <;> simp [hl]
    · rw [if_neg hik]
  · rw [if_neg hk, if_neg hk, List.getElem?_set_ne (fun e : i = k => hk (by rw [← e]; exact hi))]
theorem wipe_wipe (σ : St) (vs : List Nat) : L2.wipe (L2.wipe σ vs) vs = L2.wipe σ vs := by
  apply List.ext_getElem?
  intro k
  rw [wipe_get, wipe_get]
  by_cases hk : k ∈ vs
  · rw [if_pos hk, if_pos hk]; cases σ[k]? <;> rfl
  · rw [if_neg hk, if_neg hk]
def tgIn (t : Tg) (vs : List Nat) : Prop := match t with
  | .nm i => i ∈ vs
  | .tp is => ∀ i ∈ is, i ∈ vs
  | .tq j is => j ∈ vs ∧ ∀ i ∈ is, i ∈ vs
structure TgOk (T : Tx) (t : Tg) (G : TG) : Prop where
  run : ∀ (σ : St) (H : Hp) (g : Gr) (e e1 : Ev) (d : D) (v : V) (h : MH) (Q : St → Hp → Prop), Rel T H g h → RepS T H g e σ → RepV T H g d v → setT t d e = some e1 →
    (∀ σ1, RepS T H g e1 σ1 → (∀ vs, tgIn t vs → L2.wipe σ1 vs = L2.wipe σ vs) → Q σ1 H) → G v σ H Q
def gNames : List Nat → TGs
  | [] => gNil
  | i :: is => gCons (gName i) (gNames is)
theorem TgOk.nm (i : Nat) : TgOk T (.nm i) (gName i) where
  run := fun σ H g e e1 d v h Q r s q z k => by
    cases z
    exact k _ (s.set q) fun vs hv => wipe_set hv
theorem gNames_run : ∀ (is : List Nat) (σ : St) (H : Hp) (g : Gr) (e e1 : Ev) (ds : List D) (vs : List V) (h : MH) (Q : St → Hp → Prop), Rel T H g h → RepS T H g e σ → RepL T H g ds vs → setL is ds e = some e1 →
    (∀ σ1, RepS T H g e1 σ1 → (∀ us, (∀ i ∈ is, i ∈ us) → L2.wipe σ1 us = L2.wipe σ us) → Q σ1 H) → gNames is vs σ H Q
  | [], σ, H, g, e, e1, [], [], h, Q, r, s, q, z, k => ⟨rfl, by cases z; exact k σ s fun _ _ => rfl⟩
  | i :: is, σ, H, g, e, e1, d :: ds, v :: vs, h, Q, r, s, q, z, k => ⟨v, vs, rfl, gNames_run is _ H g _ e1 ds vs h Q r (s.set q.1) q.2 z fun σ1 s1 w => k σ1 s1 fun us hu => by
      rw [w us fun j hj => hu j (List.mem_cons_of_mem _ hj)]
      exact wipe_set (hu i (List.mem_cons_self ..))⟩
  | [], _, _, _, _, _, _ :: _, _, _, _, _, _, _, z, _ => by cases z
  | _ :: _, _, _, _, _, _, [], _, _, _, _, _, _, z, _ => by cases z
  | [], _, _, _, _, _, [], _ :: _, _, _, _, _, q, _, _ => q.elim
  | _ :: _, _, _, _, _, _, _ :: _, [], _, _, _, _, q, _, _ => q.elim
theorem setL_len : ∀ {is : List Nat} {ds : List D} {e e1 : Ev}, setL is ds e = some e1 → ds.length = is.length
  | [], [], _, _, _ => rfl
  | i :: is, d :: ds, e, e1, z => by simp [setL_len (is := is) (ds := ds) z]
  | [], _ :: _, _, _, z => by cases z
  | _ :: _, [], _, _, z => by cases z
theorem TgOk.tp (is : List Nat) : TgOk T (.tp is) (gTup T.K is.length (gNames is)) where
  run := fun σ H g e e1 d v h Q r s q z k => by
    cases d with
    | tup ds =>
      obtain ⟨a, vs, ev, e2, q2⟩ := q
      have z : setL is ds e = some e1 := z
      exact ⟨a, vs, ev, SqT.of e2, by rw [← q2.length, setL_len z], gNames_run is σ H g e e1 ds vs h Q r s q2 z k⟩
    | _ => cases z
theorem TgOk.tq (i : Nat) (is : List Nat) : TgOk T (.tq i is) (gTup T.K 2 (gCons (gName i) (gCons (gTup T.K is.length (gNames is)) gNil))) where
  run := fun σ H g e e1 d v h Q r s q z k => by
    cases d with
    | tup ds =>
      match ds, q, z with
      | [a, .tup es], q, z =>
        obtain ⟨p, vs, ev, e2, q2⟩ := q
        match vs, q2 with
        | [u, w], q2 =>
          obtain ⟨qu, qw, _⟩ := q2
          obtain ⟨b, us, ew, e3, q3⟩ := qw
          have z : setL is es (e.set i (some a)) = some e1 := z
          refine ⟨p, [u, w], ev, SqT.of e2, rfl, u, [w], rfl, w, [], rfl, b, us, ew, SqT.of e3, by rw [← q3.length, setL_len z], ?_⟩
          exact gNames_run is _ H g _ e1 es us h _ r (s.set qu) q3 z fun σ1 s1 wq => ⟨rfl, k σ1 s1 fun vs hv => by
            rw [wq vs hv.2]
            exact wipe_set hv.1⟩
    | _ => cases z
theorem Ext.off {D0 : Addr} {o : HO} (x : Ext g H g1 H1) (e : H D0 = some o) (n : D0 ∉ g.phi) (f : ¬ g.fz D0) : H1 D0 = some o ∧ D0 ∉ g1.phi ∧ ¬ g1.fz D0 := by
  refine ⟨x.fr _ _ e n, fun z => ?_, fun z => ?_⟩
  · obtain ⟨t, e1, e2⟩ := x.phi
    rw [e1] at z
    rcases List.mem_append.mp z with z | z
    · exact n z
    · rw [e2 _ z] at e; cases e
  · rcases x.fzn _ z with z | z
    · exact f z
    · rw [z] at e; cases e
theorem Ext0.upd {D0 : Addr} {as bs : List V} (e : H D0 = some (.lst as)) (f : ¬ g.fz D0) : Ext0 g H g (upd H D0 (.lst bs)) := by
  refine ⟨fun a o e1 n c => ?_, fun a o e1 _ n => n, fun _ z => z, [], by simp⟩
  by_cases ha : a = D0
  · subst ha
    rw [e] at e1; cases e1
    rcases c with c | ⟨vs, c⟩ | ⟨ob, xs, c⟩ | ⟨fs, c⟩
    · exact absurd c f
    · cases c
    · cases c
    · cases c
  · rw [upd_ne ha]; exact e1
theorem RepO.mono0 (x : Ext0 g H g1 H1) (r : Rel T H g h) {o : MO} {a : Addr} (k : ∀ u, H a = some u → H1 a = some u) (q : RepO T H g o a) : RepO T H1 g1 o a := by
  cases o with
  | lst ds => obtain ⟨vs, e, z⟩ := q; exact ⟨vs, k _ e, RepL.mono0 x r _ _ z⟩
  | dK l kvs =>
    obtain ⟨kk, z, e⟩ := q
    refine ⟨kk, RepK.mono0 x r _ _ z, ?_⟩
    cases l with
    | true => obtain ⟨o, e⟩ := e; exact ⟨o, k _ e⟩
    | false => exact k _ e
  | dT l kvs =>
    obtain ⟨kk, z, e⟩ := q
    refine ⟨kk, RepT.mono0 x r _ _ z, ?_⟩
    cases l with
    | true => obtain ⟨o, e⟩ := e; exact ⟨o, k _ e⟩
    | false => exact k _ e
  | ins c fs => obtain ⟨dx, vs, e, z⟩ := q; exact ⟨dx, vs, k _ e, RepF.mono0 x r _ _ z⟩
theorem Rel.updOff {D0 : Addr} {as bs : List V} (r : Rel T H g h) (e : H D0 = some (.lst as)) (n : D0 ∉ g.phi) (f : ¬ g.fz D0) : Rel T (upd H D0 (.lst bs)) g h := by
  refine ⟨r.len, r.nd, r.dis, fun a z => ?_, fun i o a e1 e2 => ?_⟩
  · obtain ⟨o, q⟩ := r.trk a z
    exact ⟨o, by rw [upd_ne fun c : a = D0 => f (by rw [← c]; exact z)]; exact q⟩
  · refine RepO.mono0 (Ext0.upd e f) r (fun u q => ?_) (r.obj i o a e1 e2)
    rw [upd_ne fun c : a = D0 => n (by rw [← c]; exact List.mem_of_getElem? e2)]
    exact q
theorem Ext.updOff {D0 : Addr} {bs : List V} (x : Ext g H g1 H1) (hn : H D0 = none) : Ext g H g1 (upd H1 D0 (.lst bs)) :=
  ⟨fun a o e n => by rw [upd_ne (ne_of_none e hn)]; exact x.fr a o e n, x.fzs, x.phi, x.fzn, fun a o u e => by rw [upd_ne (ne_of_none e hn)]; exact x.lk a o u e⟩
theorem Rel.fzOff {D0 : Addr} {as : List V} (r : Rel T H g h) (e : H D0 = some (.lst as)) (n : D0 ∉ g.phi) : Rel T H { phi := g.phi, fz := fun b => g.fz b ∨ b = D0 } h ∧ Ext0 g H { phi := g.phi, fz := fun b => g.fz b ∨ b = D0 } H := by
  have x : Ext0 g H { phi := g.phi, fz := fun b => g.fz b ∨ b = D0 } H := ⟨fun _ _ e _ _ => e, fun _ _ _ _ n => n, fun _ z => .inl z, [], by simp⟩
  refine ⟨⟨r.len, r.nd, fun a ha z => ?_, fun a z => ?_, fun i o a e1 e2 => RepO.mono0 x r (fun _ q => q) (r.obj i o a e1 e2)⟩, x⟩
  · rcases z with z | z
    · exact r.dis a ha z
    · exact n (z ▸ ha)
  · rcases z with z | z
    · exact r.trk a z
    · exact ⟨_, z ▸ e⟩
theorem Rel.phiOff {D0 : Addr} {as : List V} {ds : List D} (r : Rel T H g h) (e : H D0 = some (.lst as)) (n : D0 ∉ g.phi) (f : ¬ g.fz D0) (q : RepL T H g ds as) : Rel T H { phi := g.phi ++ [D0], fz := g.fz } (h ++ [.lst ds]) := by
  have x : Ext0 g H { phi := g.phi ++ [D0], fz := g.fz } H := ⟨fun _ _ e _ _ => e, fun a o e1 c n1 z => (List.mem_append.mp z).elim n1 (fun z => by
    rw [List.mem_singleton.mp z, e] at e1
    cases e1
    rcases c with ⟨ob, xs, c⟩ | ⟨fs, c⟩ <;> cases c), fun _ z => z, [D0], rfl⟩
  refine ⟨by simp [r.len], ?_, fun a ha z => ?_, r.trk, fun i o a e1 e2 => ?_⟩
  · rw [List.nodup_append]
    refine ⟨r.nd, by simp, fun p hp y hy c => ?_⟩
    rw [List.mem_singleton.mp hy] at c
    exact n (c ▸ hp)
  · rcases List.mem_append.mp ha with ha | ha
    · exact r.dis a ha z
    · rw [List.mem_singleton.mp ha] at z; exact f z
  · by_cases hl : i < h.length
    · rw [List.getElem?_append_left hl] at e1
      rw [List.getElem?_append_left (by rw [r.len]; exact hl)] at e2
      exact RepO.mono0 x r (fun _ q => q) (r.obj i o a e1 e2)
    · rw [List.getElem?_append_right (by omega)] at e1
      rw [List.getElem?_append_right (by rw [r.len]; omega), r.len] at e2
      by_cases hz : i - h.length = 0
      · rw [hz] at e1 e2
        simp at e1 e2
        subst e1 e2
        exact ⟨as, e, RepL.mono0 x r _ _ q⟩
      · have : ([MO.lst ds] : List MO)[i - h.length]? = none := by rw [List.getElem?_eq_none]; simp; omega
        rw [this] at e1; cases e1
structure Lp (T : Tx) (g1 : Gr) (H1 : Hp) (D0 : Addr) (g : Gr) (H : Hp) (h : MH) (acc : List V) (done : List D) : Prop where
  rel : Rel T H g h
  ext : Ext g1 H1 g H
  at' : H D0 = some (.lst acc)
  np : D0 ∉ g.phi
  nf : ¬ g.fz D0
  rep : RepL T H g done acc
theorem Lp.start {D0 : Addr} (r : Rel T H1 g1 h1) (hn : H1 D0 = none) : Lp T g1 H1 D0 g1 (upd H1 D0 (.lst [])) h1 [] [] := by
  have x := Ext.new (g := g1) (o := .lst []) hn false
  have rr := r.new (o := .lst []) hn false
  have hnp := r.ne hn
  have hnf : ¬ g1.fz D0 := fun z => by
    obtain ⟨o, e⟩ := r.trk _ z
    rw [hn] at e; cases e
  have hg : ({ phi := g1.phi, fz := fun b => g1.fz b ∨ (false = true ∧ b = D0) } : Gr) = g1 := by
    have : (fun b => g1.fz b ∨ (false = true ∧ b = D0)) = g1.fz := by funext b; simp
    rw [this]
  rw [hg] at x rr
  exact ⟨rr, x, upd_same, hnp, hnf, True.intro⟩
theorem Lp.done {D0 : Addr} {hz : MH} {acc : List V} {ds : List D} {m : Bool} {Q : VK} {W : XW} (r1 : Rel T H1 g1 h1) (p : Lp T g1 H1 D0 g H h acc ds) (hn : H1 D0 = none) (o : Out T g1 H1 (Mi.mk m ds h) Q W) : Q (.ref D0) H := by
  cases m with
  | false =>
    obtain ⟨rr, x⟩ := p.rel.fzOff p.at' p.np
    refine o (.ref D0) H _ rr ⟨p.ext.fr, fun a z => .inl (p.ext.fzs a z), p.ext.phi, fun a z => ?_, p.ext.lk⟩ ⟨D0, acc, rfl, .inr rfl, p.at', RepL.mono0 x p.rel _ _ p.rep⟩
    rcases z with z | z
    · exact p.ext.fzn a z
    · exact .inr (z ▸ hn)
  | true =>
    obtain ⟨t, e1, e2⟩ := p.ext.phi
    refine o (.ref D0) H _ (p.rel.phiOff p.at' p.np p.nf p.rep) ⟨p.ext.fr, p.ext.fzs, ⟨t ++ [D0], by show g.phi ++ [D0] = _; rw [e1, List.append_assoc], fun a ha => ?_⟩, p.ext.fzn, p.ext.lk⟩ ⟨D0, rfl, by rw [← p.rel.len]; simp⟩
    rcases List.mem_append.mp ha with ha | ha
    · exact e2 a ha
    · rw [List.mem_singleton.mp ha]; exact hn
def WF0 : WX := fun _ _ _ _ => False
theorem Lp.turn {D0 : Addr} {H' : Hp} {hx : MH} {acc : List V} {done : List D} {t : Tg} {G : TG} {mc mel : Ev → MH → R D} {e : Ev} {σ : St} {vs : List Nat} {d : D} {x : V} {o : Option D} {Nx : Hp → Prop}
    (hG : TgOk T t G) (hv : tgIn t vs) (r1 : Rel T H1 g1 h1) (s1 : RepS T H1 g1 e σ) (hn : H1 D0 = none) (p : Lp T g1 H1 D0 g H h acc done) (r2 : Rel T H' g2 h) (x2 : Ext g H g2 H') (q2 : RepV T H' g2 d x)
    (hf : lcB t mc mel (wipeE e vs) d h = .ok o hx) (hs : acc.length < sizeLine)
    (k : ∀ H5 g5 acc5, Lp T g1 H1 D0 g5 H5 hx acc5 (done ++ o.toList) → Ext0 g2 H' g5 H5 → acc5.length = acc.length + o.toList.length → Nx H5) :
    G x (L2.wipe σ vs) H' fun σ2 H2 => L2.wipe σ2 vs = L2.wipe σ vs ∧ tT T WF0 mc σ2 H2 fun b H3 => if b = true then tE T WF0 mel σ2 H3 fun y H4 => ∃ acc, H4 D0 = some (.lst acc) ∧ acc.length < sizeLine ∧ Nx (upd H4 D0 (.lst (acc ++ [y]))) else Nx H3 := by
  have x12 : Ext g1 H1 g2 H' := p.ext.trans r1 p.rel x2
  have sw : RepS T H' g2 (wipeE e vs) (L2.wipe σ vs) := (s1.mono x12 r1).wipe vs
  unfold lcB at hf
  cases z : setT t d (wipeE e vs) with
  | none => rw [z] at hf; cases hf
  | some e1 =>
    rw [z] at hf
    refine hG.run _ H' g2 _ e1 d x h _ r2 sw q2 z fun σ1 s2 w => ⟨by rw [w vs hv, wipe_wipe], g2, h, e1, r2, s2, ?_⟩
    have hf : ((mc e1 h).bind fun k h => (match k with
      | .bl b => if b = true then (mel e1 h).bind fun x h => .ok (some x) h else .ok none h
      | _ => .stuck)) = .ok o hx := hf
    obtain ⟨a2, np2, nf2⟩ := x2.off p.at' p.np p.nf
    cases mcz : mc e1 h with
    | stuck => rw [mcz] at hf; cases hf
    | exn c p h1 => rw [mcz] at hf; cases hf
    | ok kd hc =>
      rw [mcz] at hf
      cases kd with
      | bl b =>
        have hf : (if b = true then (mel e1 hc).bind fun x h => .ok (some x) h else .ok none hc) = R.ok o hx := hf
        intro H3 g3 r3 x3
        obtain ⟨a3, np3, nf3⟩ := x3.off a2 np2 nf2
        have x13 := x12.trans r1 r2 x3
        cases b with
        | false =>
          rw [if_neg (by decide)] at hf ⊢
          cases hf
          refine k H3 g3 acc ⟨r3, x13, a3, np3, nf3, ?_⟩ (x3.to0 r2) (by simp)
          rw [show (none : Option D).toList = [] from rfl, List.append_nil]
          exact RepL.mono x3 r2 _ _ (RepL.mono x2 p.rel _ _ p.rep)
        | true =>
          rw [if_pos rfl] at hf ⊢
          refine ⟨g3, hc, e1, r3, s2.mono x3 r2, ?_⟩
          cases melz : mel e1 hc with
          | stuck => rw [melz] at hf; cases hf
          | exn c p h1 => rw [melz] at hf; cases hf
          | ok y hy =>
            rw [melz] at hf
            cases hf
            intro v H4 g4 r4 x4 q4
            obtain ⟨a4, np4, nf4⟩ := x4.off a3 np3 nf3
            have x14 := x13.trans r1 r3 x4
            refine ⟨acc, a4, hs, ?_⟩
            have u4 := Ext0.upd (bs := acc ++ [v]) a4 nf4
            refine k _ g4 (acc ++ [v]) ⟨r4.updOff a4 np4 nf4, x14.updOff hn, upd_same, np4, nf4, ?_⟩ ?_ (by simp)
            · refine RepL.mono0 u4 r4 _ _ (RepL.append ?_ ⟨q4, True.intro⟩)
              exact RepL.mono x4 r3 _ _ (RepL.mono x3 r2 _ _ (RepL.mono x2 p.rel _ _ p.rep))
            · have x24 := (x3.trans r2 r3 x4).to0 r2
              refine ⟨fun a o e1 n c => ?_, x24.np, x24.fzs, x24.phi⟩
              have ha : a ≠ D0 := fun q => by
                subst q
                rw [a2] at e1; cases e1
                rcases c with c | ⟨vs, c⟩ | ⟨ob, xs, c⟩ | ⟨fs, c⟩
                · exact nf2 c
                · cases c
                · cases c
                · cases c
              rw [upd_ne ha]
              exact x24.fr a o e1 n c
      | _ => cases hf
theorem tLc_of {t : Tg} {G : TG} {mi : Ev → MH → R It} {mc mel : Ev → MH → R D} {m : Bool} {vs : List Nat} {σ : St} {H : Hp} {Q : VK} (hG : TgOk T t G) (hv : tgIn t vs)
    (q : tE T W (fun e h => (mi e h).bind fun w h => lcR m (lcB t mc mel (wipeE e vs)) w h) σ H Q) : tLc (fun σ H R => tI T W mi σ H fun J H' => SzH H' → R J H') G (tT T WF0 mc) (tE T WF0 mel) vs σ H Q := by
  obtain ⟨g, h, e, r, s, o⟩ := q
  refine ⟨g, h, e, r, s, ?_⟩
  have o : Out T g H ((mi e h).bind fun w h => lcR m (lcB t mc mel (wipeE e vs)) w h) Q (fun c d H' => W c d σ H') := o
  revert o
  cases mi e h with
  | stuck => exact fun o => o
  | exn c p h1 => exact fun o => o
  | ok w h1 =>
    cases w with
    | its xs =>
      intro o H1 g1 r1 x1 J C wk hC sz D0 hD
      have s1 := s.mono x1 r
      have o : Out T g H (match lcL (lcB t mc mel (wipeE e vs)) xs h1 with
        | .ok ys h => mk m ys h
        | _ => .stuck) Q (fun c d H' => W c d σ H') := o
      generalize hys : lcL (lcB t mc mel (wipeE e vs)) xs h1 = rr at o
      cases rr with
      | stuck => exact o.elim
      | exn c p h2 => exact o.elim
      | ok ys hz =>
        have o := o.ext x1 r r1
        refine ⟨fun i n H => ∃ g' h' acc done zs, Lp T g1 H1 D0 g' H h' acc done ∧ C g' H ∧ i ≤ xs.length ∧ acc.length ≤ i ∧ n = xs.length - i ∧ lcL (lcB t mc mel (wipeE e vs)) (xs.drop i) h' = .ok zs hz ∧ ys = done ++ zs,
          ⟨xs.length, g1, h1, [], [], ys, Lp.start r1 hD, ?_, Nat.zero_le _, Nat.le_refl _, rfl, by simpa using hys, rfl⟩, ?_⟩
        · refine wk.mono _ _ _ _ h1 hC r1 ⟨fun a u e n c => ?_, fun _ _ _ _ n => n, fun _ z => z, [], by simp⟩
          rw [upd_ne (ne_of_none e hD)]; exact e
        · rintro i n H5 ⟨g', h', acc, done, zs, p, c5, hi, hl, hm, hz5, hy5⟩
          by_cases hlt : i < xs.length
          · refine .inr ⟨wk.go i g' H5 h' c5 p.rel hlt, fun H6 => ∃ g' h' acc done zs, Lp T g1 H1 D0 g' H6 h' acc done ∧ C g' H6 ∧ i + 1 ≤ xs.length ∧ acc.length ≤ i + 1 ∧ lcL (lcB t mc mel (wipeE e vs)) (xs.drop (i + 1)) h' = .ok zs hz ∧ ys = done ++ zs,
              fun H6 ⟨g', h', acc, done, zs, a1, a2, a3, a4, a5, a6⟩ => ⟨xs.length - (i + 1), by omega, g', h', acc, done, zs, a1, a2, a3, a4, rfl, a5, a6⟩, fun x H' y => ?_⟩
            obtain ⟨d, g2, ed, r2, x2, q2⟩ := wk.yld i g' H5 h' x H' c5 p.rel y hlt
            have hdr : xs.drop i = d :: xs.drop (i + 1) := by
              have := List.getElem?_eq_some_iff.mp ed
              obtain ⟨hl', e'⟩ := this
              rw [← e']
              exact List.drop_eq_getElem_cons hl'
            rw [hdr] at hz5
            have hz5 : (match lcB t mc mel (wipeE e vs) d h' with
              | .ok none h1 => lcL (lcB t mc mel (wipeE e vs)) (xs.drop (i + 1)) h1
              | .ok (some x) h1 => (match lcL (lcB t mc mel (wipeE e vs)) (xs.drop (i + 1)) h1 with
                | .ok xs h2 => .ok (x :: xs) h2
                | _ => .stuck)
              | _ => .stuck) = .ok zs hz := hz5
            have hsz := wk.len g1 H1 hC sz
            cases ht : lcB t mc mel (wipeE e vs) d h' with
            | stuck => rw [ht] at hz5; cases hz5
            | exn c q h2 => rw [ht] at hz5; cases hz5
            | ok o5 hx =>
              refine Lp.turn hG hv r1 s1 hD p r2 x2 q2 ht (by omega) fun H6 g6 acc6 p6 x6 l6 => ?_
              rw [ht] at hz5
              have c6 := wk.mono _ _ _ _ h' (wk.mono _ _ _ _ h' c5 p.rel (x2.to0 p.rel)) r2 x6
              cases o5 with
              | none => exact ⟨g6, hx, acc6, _, zs, p6, c6, hlt, by rw [l6]; simp; omega, hz5, by rw [hy5]; simp⟩
              | some y6 =>
                have hz5 : (match lcL (lcB t mc mel (wipeE e vs)) (xs.drop (i + 1)) hx with
                  | .ok xs h2 => .ok (y6 :: xs) h2
                  | _ => .stuck) = R.ok zs hz := hz5
                cases hr : lcL (lcB t mc mel (wipeE e vs)) (xs.drop (i + 1)) hx with
                | stuck => rw [hr] at hz5; cases hz5
                | exn c q h2 => rw [hr] at hz5; cases hz5
                | ok zs2 h2 =>
                  rw [hr] at hz5
                  cases hz5
                  exact ⟨g6, hx, acc6, _, zs2, p6, c6, hlt, by rw [l6]; simp; omega, hr, by rw [hy5]; simp⟩
          · have e : i = xs.length := by omega
            subst e
            rw [List.drop_length] at hz5
            cases hz5
            rw [List.append_nil] at hy5
            subst hy5
            exact .inl ⟨wk.stop g' H5 _ c5 p.rel, p.done (hz := hz) r1 hD o⟩
    | hp n en =>
      intro o H1 g1 r1 x1 a ha sz D0 hD
      have s1 := s.mono x1 r
      have o : Out T g H (match lcH (lcB t mc mel (wipeE e vs)) n en (lenH h1 n) 0 h1 with
        | .ok ys h => mk m ys h
        | _ => .stuck) Q (fun c d H' => W c d σ H') := o
      generalize hys : lcH (lcB t mc mel (wipeE e vs)) n en (lenH h1 n) 0 h1 = rr at o
      cases rr with
      | stuck => exact o.elim
      | exn c p h2 => exact o.elim
      | ok ys hz =>
        have o := o.ext x1 r r1
        have hsz : lenH h1 n ≤ sizeLine := by
          unfold lenH
          cases z : h1[n]? with
          | none => exact Nat.zero_le _
          | some ob =>
            cases ob with
            | lst ds =>
              obtain ⟨vs, q1, q2⟩ := r1.obj n _ a z ha
              show ds.length ≤ _
              rw [q2.length]
              exact sz.lst a vs q1
            | _ => exact Nat.zero_le _
        refine ⟨fun i k H => ∃ g' h' acc done zs, Lp T g1 H1 D0 g' H h' acc done ∧ i + k = lenH h1 n ∧ acc.length ≤ i ∧ lcH (lcB t mc mel (wipeE e vs)) n en k i h' = .ok zs hz ∧ ys = done ++ zs,
          ⟨lenH h1 n, g1, h1, [], [], ys, Lp.start r1 hD, Nat.zero_add _, Nat.le_refl _, hys, rfl⟩, ?_⟩
        rintro i k H5 ⟨g', h', acc, done, zs, p, hik, hl, hz5, hy5⟩
        have ha' : g'.phi[n]? = some a := by
          obtain ⟨t, e1, _⟩ := p.ext.phi
          rw [e1, List.getElem?_append_left (List.getElem?_eq_some_iff.mp ha).1]
          exact ha
        cases k with
        | zero =>
          have hz5 : (match h'[n]? with
            | some (.lst xs) => if xs.length ≤ i then .ok [] h' else .stuck
            | _ => .stuck) = R.ok zs hz := hz5
          cases z : h'[n]? with
          | none => rw [z] at hz5; cases hz5
          | some ob =>
            rw [z] at hz5
            cases ob with
            | lst ds =>
              have hz5 : (if ds.length ≤ i then R.ok [] h' else .stuck) = R.ok zs hz := hz5
              by_cases hc : ds.length ≤ i
              · rw [if_pos hc] at hz5
                cases hz5
                rw [List.append_nil] at hy5
                subst hy5
                obtain ⟨vs5, q1, q2⟩ := p.rel.obj n _ a z ha'
                exact .inl ⟨hp_stop p.rel z ha' hc, p.done (hz := hz) r1 hD o⟩
              · rw [if_neg hc] at hz5; cases hz5
            | _ => cases hz5
        | succ k =>
          have hz5 : (match h'[n]? with
            | some (.lst xs) => (match xs[i]? with
              | none => .ok [] h'
              | some d => (match lcB t mc mel (wipeE e vs) (wrapI en i d) h' with
                | .ok none h1 => lcH (lcB t mc mel (wipeE e vs)) n en k (i + 1) h1
                | .ok (some x) h1 => (match lcH (lcB t mc mel (wipeE e vs)) n en k (i + 1) h1 with
                  | .ok xs h2 => .ok (x :: xs) h2
                  | _ => .stuck)
                | _ => .stuck))
            | _ => .stuck) = R.ok zs hz := hz5
          cases z : h'[n]? with
          | none => rw [z] at hz5; cases hz5
          | some ob =>
            rw [z] at hz5
            cases ob with
            | lst ds =>
              obtain ⟨vs5, q1, q2⟩ := p.rel.obj n _ a z ha'
              cases hd : ds[i]? with
              | none =>
                have hz5 : (match ds[i]? with
                  | none => R.ok [] h'
                  | some d => (match lcB t mc mel (wipeE e vs) (wrapI en i d) h' with
                    | .ok none h1 => lcH (lcB t mc mel (wipeE e vs)) n en k (i + 1) h1
                    | .ok (some x) h1 => (match lcH (lcB t mc mel (wipeE e vs)) n en k (i + 1) h1 with
                      | .ok xs h2 => .ok (x :: xs) h2
                      | _ => .stuck)
                    | _ => .stuck)) = R.ok zs hz := hz5
                rw [hd] at hz5
                cases hz5
                rw [List.append_nil] at hy5
                subst hy5
                exact .inl ⟨hp_stop p.rel z ha' (List.getElem?_eq_none_iff.mp hd), p.done (hz := hz) r1 hD o⟩
              | some d =>
                have hz5 : (match ds[i]? with
                  | none => R.ok [] h'
                  | some d => (match lcB t mc mel (wipeE e vs) (wrapI en i d) h' with
                    | .ok none h1 => lcH (lcB t mc mel (wipeE e vs)) n en k (i + 1) h1
                    | .ok (some x) h1 => (match lcH (lcB t mc mel (wipeE e vs)) n en k (i + 1) h1 with
                      | .ok xs h2 => .ok (x :: xs) h2
                      | _ => .stuck)
                    | _ => .stuck)) = R.ok zs hz := hz5
                rw [hd] at hz5
                have hz5 : (match lcB t mc mel (wipeE e vs) (wrapI en i d) h' with
                    | .ok none h1 => lcH (lcB t mc mel (wipeE e vs)) n en k (i + 1) h1
                    | .ok (some x) h1 => (match lcH (lcB t mc mel (wipeE e vs)) n en k (i + 1) h1 with
                      | .ok xs h2 => .ok (x :: xs) h2
                      | _ => .stuck)
                    | _ => .stuck) = R.ok zs hz := hz5
                obtain ⟨v5, ev5, rv5⟩ := q2.get hd
                refine .inr ⟨hp_go p.rel z ha' (List.getElem?_eq_some_iff.mp hd).1, fun H6 => ∃ g' h' acc done zs, Lp T g1 H1 D0 g' H6 h' acc done ∧ i + 1 + k = lenH h1 n ∧ acc.length ≤ i + 1 ∧ lcH (lcB t mc mel (wipeE e vs)) n en k (i + 1) h' = .ok zs hz ∧ ys = done ++ zs,
                  fun H6 q => ⟨k, Nat.lt_succ_self _, q⟩, fun x H' y => ?_⟩
                obtain ⟨g2, r2, x2, qd2⟩ := hp_yld p.rel z ha' hd y
                cases ht : lcB t mc mel (wipeE e vs) (wrapI en i d) h' with
                | stuck => rw [ht] at hz5; cases hz5
                | exn c q h2 => rw [ht] at hz5; cases hz5
                | ok o5 hx =>
                  refine Lp.turn hG hv r1 s1 hD p r2 x2 qd2 ht (by omega) fun H6 g6 acc6 p6 x6 l6 => ?_
                  rw [ht] at hz5
                  cases o5 with
                  | none => exact ⟨g6, hx, acc6, _, zs, p6, by omega, by rw [l6]; simp; omega, hz5, by rw [hy5]; simp⟩
                  | some y6 =>
                    have hz5 : (match lcH (lcB t mc mel (wipeE e vs)) n en k (i + 1) hx with
                      | .ok xs h2 => .ok (y6 :: xs) h2
                      | _ => .stuck) = R.ok zs hz := hz5
                    cases hr : lcH (lcB t mc mel (wipeE e vs)) n en k (i + 1) hx with
                    | stuck => rw [hr] at hz5; cases hz5
                    | exn c q h2 => rw [hr] at hz5; cases hz5
                    | ok zs2 h2 =>
                      rw [hr] at hz5
                      cases hz5
                      exact ⟨g6, hx, acc6, _, zs2, p6, by omega, by rw [l6]; simp; omega, hr, by rw [hy5]; simp⟩
            | _ => cases hz5
end
end Mi
namespace Mi
open PySem PySem.Spec PyProof.Rows L2
section
variable {T : Tx} {X : Cx} {W : WX}
theorem tChain_of {ma mb mc : Ev → MH → R D} {m1 m2 : D → D → MH → R D} {σ : St} {H : Hp} {Q : VK} (hm1 : ∀ a b h c p h1, m1 a b h ≠ .exn c p h1)
    (q : tE T W (fun e h => (ma e h).bind fun x h => (mb e h).bind fun y h => (m1 x y h).bind fun k h => match k with
      | .bl k => if k = true then (mc e h).bind fun z h => m2 y z h else .ok (.bl false) h
      | _ => .stuck) σ H Q) : tChain (R2m T (fun c d H' => W c d σ H') m1) (R2m T (fun c d H' => W c d σ H') m2) (tE T W ma) (tE T W mb) (tE T W mc) σ H Q := by
  obtain ⟨g, h, ev, r, s, o⟩ := q
  refine tE.bind (f := fun x e h => (mb e h).bind fun y h => (m1 x y h).bind fun k h => match k with
      | .bl k => if k = true then (mc e h).bind fun z h => m2 y z h else .ok (.bl false) h
      | _ => .stuck) r s o fun a x h1 H1 g1 _ r1 s1 qa x1 o1 => ?_
  refine tE.bind (f := fun y e h => (m1 a y h).bind fun k h => match k with
      | .bl k => if k = true then (mc e h).bind fun z h => m2 y z h else .ok (.bl false) h
      | _ => .stuck) r1 s1 o1 fun b y h2 H2 g2 _ r2 s2 qb x2 o2 => ?_
  intro _
  refine ⟨g2, h2, a, b, r2, qa.mono x2 r1, qb, ?_⟩
  have n := hm1 a b h2
  revert o2 n
  cases m1 a b h2 with
  | stuck => exact fun o _ => o
  | exn c p h3 => exact fun _ n => absurd rfl (n c p h3)
  | ok k h3 =>
    intro o2 _ z H3 g3 r3 x3 q3
    cases k with
    | bl k =>
      refine ⟨k, q3, ?_⟩
      have o3 : Out T g3 H3 (if k = true then (mc ev h3).bind fun z h => m2 b z h else .ok (.bl false) h3) Q (fun c d H' => W c d σ H') := Out.ext x3 r2 r3 o2
      cases k with
      | false => exact Out.here r3 o3 rfl
      | true =>
        rw [if_pos rfl] at o3 ⊢
        refine tE.bind (f := fun z e h => m2 b z h) r3 (s2.mono x3 r2) o3 fun c w h4 H4 g4 _ r4 s4 qc x4 o4 => ?_
        exact fun _ => ⟨g4, h4, b, c, r4, (qb.mono x3 r2).mono x4 r3, qc, o4⟩
    | _ => exact o2.elim
theorem cmpM_ne {o : Co} {a b : D} {h : MH} {c : Nat} {p : Option D} {h1 : MH} : cmpM o a b h ≠ .exn c p h1 := by
  unfold cmpM
  cases cop o a b h <;> exact fun z => nomatch z
def chM (ma mb mc : Ev → MH → R D) (o p : Co) : Ev → MH → R D := fun e h => (ma e h).bind fun x h => (mb e h).bind fun y h => (cmpM o x y h).bind fun k h => match k with
  | .bl k => if k = true then (mc e h).bind fun z h => cmpM p y z h else .ok (.bl false) h
  | _ => .stuck
theorem se_chain {a b c : Expr} {pos : Pos} {ma mb mc : Ev → MH → R D} {o p : Co} (hK : X.K = T.K) (hu : X.A.units + 200 < cLine) (hm : lastMarks [coOf o, coOf p] [b, c] = false) (ha : SE T X W a ma) (hb : SE T X W b mb) (hc : SE T X W c mc) :
    SE T X W (.Compare a [coOf o, coOf p] [b, c] pos) (chM ma mb mc o p) :=
  ⟨fun pins s σ H Q I q => (pe_chain (cop_m hK hu fun c d H' => W c d σ H') (cop_m hK hu fun c d H' => W c d σ H') ha hb hc hm).run pins s σ H Q I (tChain_of (fun _ _ _ _ _ _ => cmpM_ne) q)⟩
theorem st_chain {a b c : Expr} {pos : Pos} {ma mb mc : Ev → MH → R D} {o p : Co} (hK : X.K = T.K) (hu : X.A.units + 200 < cLine) (hm : lastMarks [coOf o, coOf p] [b, c] = false) (ha : SE T X W a ma) (hb : SE T X W b mb) (hc : SE T X W c mc) :
    ST T X W (.Compare a [coOf o, coOf p] [b, c] pos) (chM ma mb mc o p) :=
  ⟨fun pins s σ H Q I q => (pt_chain (cop_m hK hu fun c d H' => W c d σ H') (cop_m hK hu fun c d H' => W c d σ H') ha hb hc hm).run pins s σ H Q I (tChain_of (fun _ _ _ _ _ _ => cmpM_ne) (tT.val q))⟩
def tnN : Tn → String
  | .non => "NoneType"
  | .bool => "bool"
  | .int => "int"
  | .str => "str"
  | .tuple => "tuple"
  | .list => "list"
  | .dict => "dict"
def tyN : Ty → String
  | .int => "int"
  | .bool => "bool"
  | .tuple => "tuple"
  | .str => "str"
  | .list => "list"
  | .cls _ => "?"
theorem tnOf_ty {H : Hp} {g : Gr} {h : MH} {d : D} {x : V} {t : Tn} (r : Rel T H g h) (q : RepV T H g d x) (e : tnOf h d = some t) : TyX T.K H x (.type (tnN t)) := by
  cases d with
  | non => cases e; cases (show x = .non from q); exact .base .non
  | bl b => cases e; cases (show x = .bl b from q); exact .base (.bl b)
  | int i => cases e; cases (show x = .int i from q); exact .base (.int i)
  | str y => cases e; cases (show x = .str y from q); exact .base (.str y)
  | tup ds => cases e; obtain ⟨a, vs, rfl, e1, _⟩ := q; exact .base (.tup e1)
  | lst ds => cases e; obtain ⟨a, vs, rfl, _, e1, _⟩ := q; exact .base (.lst e1)
  | dK kvs => cases e; obtain ⟨a, vs, rfl, _, e1, _⟩ := q; exact .base (.dK e1)
  | dT kvs => cases e; obtain ⟨a, vs, rfl, _, e1, _⟩ := q; exact .base (.dT e1)
  | ref n =>
    obtain ⟨a, rfl, e1⟩ := q
    simp only [tnOf] at e
    cases z : h[n]? with
    | none => rw [z] at e; cases e
    | some o =>
      rw [z] at e
      cases o with
      | lst ds => cases e; obtain ⟨vs, q1, _⟩ := r.obj n _ a z e1; exact .base (.lst q1)
      | dK l kvs =>
        cases l with
        | false => cases e; obtain ⟨kk, _, q1⟩ := r.obj n _ a z e1; exact .base (.dK q1)
        | true => cases e
      | dT l kvs =>
        cases l with
        | false => cases e; obtain ⟨kk, _, q1⟩ := r.obj n _ a z e1; exact .base (.dT q1)
        | true => cases e
      | ins _ _ => cases e
  | scr ns => cases e
  | fn _ _ => cases e
  | xv _ => cases e
theorem kit_tn (t : Tn) (y : Ty) (k : Bool) (e : tnIs t y = some k) : kitB (tnN t) (tyN y) = some k := by
  cases y with
  | cls c => cases t <;> cases e
  | _ => cases t <;> (cases k <;> first | (revert e; decide +kernel))
theorem boot_ty (t : Ty) (h : ∀ c, t ≠ .cls c) : bootBuiltins (Str.ofString (tyN t)) = some (.type (tyN t)) := by
  cases t with
  | cls c => exact absurd rfl (h c)
  | _ => decide +kernel
theorem isTy_bi {h : MH} {d : D} {t : Ty} {k : Bool} (ht : ∀ c, t ≠ .cls c) (z : isTy h d t = some k) : ∃ tn, tnOf h d = some tn ∧ tnIs tn t = some k := by
  unfold isTy at z
  cases y : tnOf h d with
  | some tn => rw [y] at z; exact ⟨tn, rfl, z⟩
  | none =>
    rw [y] at z
    cases d with
    | ref n =>
      simp only at z
      cases u : h[n]? with
      | none => rw [u] at z; cases z
      | some ob =>
        rw [u] at z
        cases ob with
        | ins c' fs =>
          cases t with
          | cls c => exact absurd rfl (ht c)
          | _ => cases z
        | _ => cases z
    | _ => cases z
theorem se_isI {a : Expr} {p p2 pos : Pos} {ma : Ev → MH → R D} {t : Ty} (hK : X.K = T.K) (ht : ∀ c, t ≠ .cls c) (hg : Gl X "isinstance") (hm : X.mg "isinstance" = none) (hg2 : Gl X (Str.ofString (tyN t))) (hm2 : X.mg (Str.ofString (tyN t)) = none) (hn : noStar a = true) (ha : SE T X W a ma) :
    SE T X W (.Call (.Name "isinstance" p) [a, .Name (Str.ofString (tyN t)) p2] [] pos) (fun e h => (ma e h).bind fun x h => isM t x h) := by
  have hty : PE X (.Name (Str.ofString (tyN t)) p2) (tC (.ty (tyN t))) := pe_bltn hg2 hm2 (boot_ty t ht) rfl (by cases t <;> first | decide | exact absurd rfl (ht _)) (by cases t <;> first | decide | exact absurd rfl (ht _))
  refine PE.imp (pe_callB call_isi hg hm boot_isinstance (pa_cons ha (pa_cons hty pa_nil rfl) (star_cons hn)) (he := star_cons hn) (hpl := rfl)) fun σ H Q ⟨g, h, ev, r, s, o⟩ => ?_
  refine tE.bind (f := fun x e h => isM t x h) r s o fun d v h1 H1 g1 _ r1 s1 qa x1 o1 => ?_
  unfold isM at o1
  cases z : isTy h1 d t with
  | none => rw [z] at o1; exact o1.elim
  | some k =>
    rw [z] at o1
    obtain ⟨tn, y, z⟩ := isTy_bi ht z
    exact ⟨v, .ty (tyN t), .type (tnN tn), .type (tyN t), k, rfl, .ty _, by rw [hK]; exact tnOf_ty r1 qa y, kit_ty (kit_tn tn t k z), Out.here r1 o1 rfl⟩
def MetM (T : Tx) (X : Cx) (id : String) (m : D → List D → MH → R D) : Prop := ∀ W : XW, MtR X id (fun x xs H Q => SzH H → ∃ g h d ds, Rel T H g h ∧ RepV T H g d x ∧ RepL T H g ds xs ∧ Out T g H (m d ds h) Q W)
theorem MetM.of {id : String} {m : D → List D → MH → R D}
    (k : ∀ (W : XW) (pins : List (Addr × Obj)) (s : Shared) (σ : St) (H : Hp) (x : V) (xs : List V) (v : Value) (us : List Value) (Q : VK) (g : Gr) (h : MH) (d : D) (ds : List D), Inv X pins σ H s → RelV x v → Vals xs us → SzH H → Rel T H g h → RepV T H g d x → RepL T H g ds xs → Out T g H (m d ds h) Q W →
      wpAny (model X.prog X.w) X.A (PySem.call (.builtin id) (v :: us)) (EP X pins σ Q) X.xe s) : MetM T X id m := by
  intro W pins s σ H x xs v us Q I rx rs q
  obtain ⟨g, h, d, ds, r, rd, rds, o⟩ := q (inv_sz I)
  exact k W pins s σ H x xs v us Q g h d ds I rx rs (inv_sz I) r rd rds o
theorem tyV_of {H : Hp} {g : Gr} {h : MH} {d : D} {x : V} {t : Tn} (r : Rel T H g h) (q : RepV T H g d x) (e : tnOf h d = some t) (ht : t = .list ∨ t = .str ∨ t = .dict) : tyV T.K (tnN t) x H := by
  cases d with
  | str y => cases e; cases (show x = .str y from q); rfl
  | lst ds => cases e; obtain ⟨a, vs, rfl, _, e1, _⟩ := q; exact .inl ⟨rfl, vs, SqL.of e1⟩
  | dK kvs => cases e; obtain ⟨a, vs, rfl, _, e1, _⟩ := q; exact .inr (.inr (.inl ⟨rfl, .inl ⟨_, e1⟩⟩))
  | dT kvs => cases e; obtain ⟨a, vs, rfl, _, e1, _⟩ := q; exact .inr (.inr (.inl ⟨rfl, .inr ⟨_, e1⟩⟩))
  | ref n =>
    obtain ⟨a, rfl, e1⟩ := q
    simp only [tnOf] at e
    cases z : h[n]? with
    | none => rw [z] at e; cases e
    | some o =>
      rw [z] at e
      cases o with
      | lst ds => cases e; obtain ⟨vs, q1, _⟩ := r.obj n _ a z e1; exact .inl ⟨rfl, vs, SqL.of q1⟩
      | dK l kvs =>
        cases l with
        | false => cases e; obtain ⟨kk, _, q1⟩ := r.obj n _ a z e1; exact .inr (.inr (.inl ⟨rfl, .inl ⟨_, q1⟩⟩))
        | true => cases e
      | dT l kvs =>
        cases l with
        | false => cases e; obtain ⟨kk, _, q1⟩ := r.obj n _ a z e1; exact .inr (.inr (.inl ⟨rfl, .inr ⟨_, q1⟩⟩))
        | true => cases e
      | ins _ _ => cases e
  | non => cases e; rcases ht with ht | ht | ht <;> cases ht
  | bl b => cases e; rcases ht with ht | ht | ht <;> cases ht
  | int i => cases e; rcases ht with ht | ht | ht <;> cases ht
  | tup ds => cases e; rcases ht with ht | ht | ht <;> cases ht
  | scr ns => cases e
  | fn _ _ => cases e
  | xv _ => cases e
theorem se_met {o e : Expr} {es : List Expr} {name : Str} {id : String} {apos cpos : Pos} {mo : Ev → MH → R D} {ma : Ev → MH → R (List D)} {t : Tn} {m : D → List D → MH → R D} (hK : X.K = T.K) (ht : t = .list ∨ t = .str ∨ t = .dict) (pa : PlainAttrs (tnN t)) (slot : Slot (tnN t) name id)
    (hty : typeOf (.builtin id) = pure (.type "method_descriptor")) (hm : MetM T X id m) (ho : SE T X W o mo) (hst : (e :: es).all noStar = true) (ha : SA T X W (e :: es) ma) (hbase : attributeBase o name X.env (eval o X.env) = eval o X.env)
    (hfew : (e :: es).length < 25) (hline : (apos.endLine == cpos.line) = true) :
    SE T X W (.Call (.Attribute o name apos) (e :: es) [] cpos) (fun ev h => (mo ev h).bind fun x h => if tnOf h x = some t then (ma ev h).bind fun ds h => m x ds h else .stuck) := by
  have hst' := hst
  simp only [List.all_cons, Bool.and_eq_true] at hst'
  have hs := star_cons (es := es) (env := X.env) hst'.1
  have hp : (backTo cpos (starEach es X.env)).any (·.1) = false := star_none hst'.2
  have hp2 : (backTo cpos (starEach (e :: es) X.env)).any (·.1) = false := star_none hst
  have hall : (backTo cpos (starEach (e :: es) X.env)).all (fun x => !x.1) = true := by
    rw [List.all_eq_true]
    intro x hx
    rw [List.any_eq_false] at hp2
    have := hp2 x hx
    simpa using this
  have hf : ((backTo cpos (starEach (e :: es) X.env)).all (fun x => !x.1) && (backToKw cpos (keywordEach [] X.env)).all (fun x => x.1.isSome)
      && decide ((e :: es).length + ([] : List Keyword).length + (if ([] : List Keyword).isEmpty then 0 else 1) < 30)) = true := by
    rw [hall]
    show (true && true && _) = true
    simp only [Bool.and_true, Bool.true_and, decide_eq_true_eq]
    show (e :: es).length + 0 + 0 < 30
    omega
  refine ⟨fun pins s σ H Q I q => ?_⟩
  refine (pe_bm pa slot hty (hm fun c d H' => W c d σ H') ho ha hbase hf hline hs hp).run pins s σ H Q I ?_
  obtain ⟨g, h, ev, r, s, o⟩ := q
  refine tE.bind (f := fun x ev h => if tnOf h x = some t then (ma ev h).bind fun ds h => m x ds h else .stuck) r s o fun d v h1 H1 g1 _ r1 s1 qd x1 o1 => ?_
  by_cases c : tnOf h1 d = some t
  · rw [if_pos c] at o1
    refine ⟨by rw [hK]; exact tyV_of r1 qd c ht, ?_⟩
    refine tA.bind (f := fun ds ev h => m d ds h) r1 s1 o1 fun ds xs h2 H2 g2 _ r2 _ q2 x2 o2 => ?_
    exact fun _ => ⟨g2, h2, d, ds, r2, qd.mono x2 r1, q2, o2⟩
  · rw [if_neg c] at o1; exact o1.elim
end
end Mi
namespace Mi
open PySem PySem.Spec PyProof.Rows L2
section
variable {T : Tx} {X : Cx} {W : WX} {H H1 : Hp} {g g1 : Gr} {h h1 : MH}
theorem Ext0.write {n : Nat} {a : Addr} {o : HO} (e : g.phi[n]? = some a) : Ext0 g H g (L2.upd H a o) :=
  ⟨fun b u e1 nb _ => by rw [L2.upd_ne (fun z : b = a => nb (by rw [z]; exact List.mem_of_getElem? e))]; exact e1, fun b ob xs e1 nb => nb, fun _ z => z, [], by simp⟩
theorem Ext.write {n : Nat} {a : Addr} {o : HO} (e : g.phi[n]? = some a) (hf : ∀ ob u, H a ≠ some (.frz ob u)) : Ext g H g (upd H a o) :=
  ⟨fun b u e1 nb => by rw [upd_ne (fun z : b = a => nb (by rw [z]; exact List.mem_of_getElem? e))]; exact e1, fun _ z => z, ⟨[], by simp, fun _ z => nomatch z⟩, fun _ z => .inl z, fun b ob u e1 => by rw [upd_ne (fun z : b = a => hf ob u (z ▸ e1))]; exact e1⟩
theorem Rel.write {n : Nat} {a : Addr} {o : HO} {ob : MO} (r : Rel T H g h) (e : g.phi[n]? = some a) (q : RepO T (upd H a o) g ob a) : Rel T (upd H a o) g (h.set n ob) := by
  refine ⟨by rw [List.length_set]; exact r.len, r.nd, r.dis, fun b z => ?_, fun i u b e1 e2 => ?_⟩
  · by_cases hb : b = a
    · exact ⟨o, by rw [hb]; exact upd_same⟩
    · obtain ⟨u, q⟩ := r.trk b z
      exact ⟨u, by rw [upd_ne hb]; exact q⟩
  · by_cases hi : n = i
    · subst hi
      rw [e] at e2; cases e2
      have hl : n < h.length := by rw [← r.len]; exact (List.getElem?_eq_some_iff.mp e).1
      rw [List.getElem?_set_self hl] at e1
      cases e1
      exact q
    · rw [List.getElem?_set_ne hi] at e1
      have hb : b ≠ a := fun z => by
        subst z
        obtain ⟨l1, e1'⟩ := List.getElem?_eq_some_iff.mp e
        obtain ⟨l2, e2'⟩ := List.getElem?_eq_some_iff.mp e2
        exact hi ((List.getElem_inj r.nd).mp (e1'.trans e2'.symm))
      exact RepO.mono0 (Ext0.write e) r (fun u q => by rw [upd_ne hb]; exact q) (r.obj i u b e1 e2)
theorem Rel.lst_at {n : Nat} {ds : List D} (r : Rel T H g h) (e : h[n]? = some (.lst ds)) {a : Addr} (ea : g.phi[n]? = some a) : ∃ vs, H a = some (.lst vs) ∧ RepL T H g ds vs := r.obj n _ a e ea
theorem big_lt {n : Nat} (h : n < big) : n < sizeLine := by
  rw [sizeLine_eq]; unfold big at h; omega
theorem app_m : MetM T X "list.append" (metD .append) := by
  refine MetM.of fun W pins s σ H x xs v us Q g h d ds I rx rs sz r rd rds o => ?_
  match ds, xs, rds, o with
  | [a], [y], rds, o =>
    cases d with
    | ref n =>
      obtain ⟨p, rfl, ep⟩ := rd
      have o : Out T g H (match h[n]? with
        | some (.lst xs) => if xs.length < big then .ok .non (h.set n (.lst (xs ++ [a]))) else .stuck
        | _ => .stuck) Q W := o
      cases z : h[n]? with
      | none => rw [z] at o; exact o.elim
      | some ob =>
        rw [z] at o
        cases ob with
        | lst es =>
          have o : Out T g H (if es.length < big then .ok .non (h.set n (.lst (es ++ [a]))) else .stuck) Q W := o
          by_cases c : es.length < big
          · rw [if_pos c] at o
            obtain ⟨vs, e1, q1⟩ := r.lst_at z ep
            refine mt_append pins s σ H _ _ v us Q I rx rs ⟨p, vs, y, rfl, rfl, e1, by rw [← q1.length]; exact big_lt c, ?_⟩
            have hf : ∀ ob u, H p ≠ some (.frz ob u) := fun ob u z => by rw [e1] at z; cases z
            refine o .non _ g (r.write ep ⟨_, upd_same, ?_⟩) (Ext.write ep hf) rfl
            exact RepL.append (RepL.mono (Ext.write ep hf) r _ _ q1) ⟨rds.1.mono (Ext.write ep hf) r, True.intro⟩
          · rw [if_neg c] at o; exact o.elim
        | _ => exact o.elim
    | _ => exact o.elim
  | [_, _], _, _, o => exact o.elim
theorem ext_m : MetM T X "list.extend" (metD .extend) := by
  refine MetM.of fun W pins s σ H x xs v us Q g h d ds I rx rs sz r rd rds o => ?_
  match ds, xs, rds, o with
  | [a], [y], rds, o =>
    cases d with
    | ref n =>
      obtain ⟨p, rfl, ep⟩ := rd
      have o : Out T g H (match h[n]? with
        | some (.lst xs) => (match lits h a with
          | some ys => if xs.length + ys.length ≤ big then .ok .non (h.set n (.lst (xs ++ ys))) else .stuck
          | none => .stuck)
        | _ => .stuck) Q W := o
      cases z : h[n]? with
      | none => rw [z] at o; exact o.elim
      | some ob =>
        rw [z] at o
        cases ob with
        | lst es =>
          have o : Out T g H (match lits h a with
            | some ys => if es.length + ys.length ≤ big then .ok .non (h.set n (.lst (es ++ ys))) else .stuck
            | none => .stuck) Q W := o
          cases y2 : lits h a with
          | none => rw [y2] at o; exact o.elim
          | some ys =>
            rw [y2] at o
            have o : Out T g H (if es.length + ys.length ≤ big then .ok .non (h.set n (.lst (es ++ ys))) else .stuck) Q W := o
            by_cases c : es.length + ys.length ≤ big
            · rw [if_pos c] at o
              obtain ⟨vs, e1, q1⟩ := r.lst_at z ep
              obtain ⟨b, us2, rfl, e2, q2⟩ := lits_at r rds.1 y2
              refine mt_extend pins s σ H _ _ v us Q I rx rs ⟨p, b, vs, us2, rfl, rfl, e1, e2, by rw [← q1.length, ← q2.length]; exact big_size c, ?_⟩
              have hf : ∀ ob u, H p ≠ some (.frz ob u) := fun ob u z => by rw [e1] at z; cases z
              refine o .non _ g (r.write ep ⟨_, upd_same, ?_⟩) (Ext.write ep hf) rfl
              exact RepL.append (RepL.mono (Ext.write ep hf) r _ _ q1) (RepL.mono (Ext.write ep hf) r _ _ q2)
            · rw [if_neg c] at o; exact o.elim
        | _ => exact o.elim
    | _ => exact o.elim
  | [_, _], _, _, o => exact o.elim
end
end Mi
namespace Mi
open PySem PySem.Spec PyProof.Rows L2
def OutS (T : Tx) (g : Gr) (H : Hp) (r : Fl) (D0 : Ends) (W : WX) : Prop := match r with
  | .nx e1 h1 => ∀ σ1 H1 g1, Rel T H1 g1 h1 → Ext g H g1 H1 → RepS T H1 g1 e1 σ1 → D0.nx σ1 H1
  | .brk e1 h1 => ∀ σ1 H1 g1, Rel T H1 g1 h1 → Ext g H g1 H1 → RepS T H1 g1 e1 σ1 → D0.bk σ1 H1
  | .cnt e1 h1 => ∀ σ1 H1 g1, Rel T H1 g1 h1 → Ext g H g1 H1 → RepS T H1 g1 e1 σ1 → D0.ct σ1 H1
  | .ret d h1 => ∀ v H1 g1, Rel T H1 g1 h1 → Ext g H g1 H1 → RepV T H1 g1 d v → D0.rt v H1
  | .exn c p h1 => ∀ σ1 dx H1 g1, Rel T H1 g1 h1 → Ext g H g1 H1 → RepX T H1 g1 p dx → W (.ref (T.xa c)) dx σ1 H1
  | .stuck => False
def tS (T : Tx) (W : WX) (m : Ev → MH → Fl) : TS := fun D0 σ H => ∃ g h e, Rel T H g h ∧ RepS T H g e σ ∧ OutS T g H (m e h) D0 W
abbrev S1 (T : Tx) (X : Cx) (W : WX) (st : Stmt) (m : Ev → MH → Fl) : Prop := PS X st (tS T W m)
abbrev SS (T : Tx) (X : Cx) (W : WX) (st : List Stmt) (m : Ev → MH → Fl) : Prop := PSs X st (tS T W m)
theorem PS.imp {X : Cx} {e : Stmt} {t t' : TS} (h : PS X e t) (k : ∀ D0 σ H, t' D0 σ H → t D0 σ H) : PS X e t' := ⟨fun pins s σ H D0 I q => h.run pins s σ H D0 I (k D0 σ H q)⟩
theorem PSs.imp {X : Cx} {e : List Stmt} {t t' : TS} (h : PSs X e t) (k : ∀ D0 σ H, t' D0 σ H → t D0 σ H) : PSs X e t' := ⟨fun pins s σ H D0 I q => h.run pins s σ H D0 I (k D0 σ H q)⟩
section
variable {T : Tx} {X : Cx} {W : WX} {H H1 H2 : Hp} {g g1 g2 : Gr} {h h1 : MH}
theorem OutS.ext {r : Fl} {D0 : Ends} (x : Ext g H g1 H1) (rl : Rel T H g h) (rl1 : Rel T H1 g1 h1) (o : OutS T g H r D0 W) : OutS T g1 H1 r D0 W := by
  cases r with
  | nx e1 h2 => exact fun σ1 H2 g2 a b c => o σ1 H2 g2 a (x.trans rl rl1 b) c
  | brk e1 h2 => exact fun σ1 H2 g2 a b c => o σ1 H2 g2 a (x.trans rl rl1 b) c
  | cnt e1 h2 => exact fun σ1 H2 g2 a b c => o σ1 H2 g2 a (x.trans rl rl1 b) c
  | ret d h2 => exact fun v H2 g2 a b c => o v H2 g2 a (x.trans rl rl1 b) c
  | exn c p h2 => exact fun σ1 dx H2 g2 a b e => o σ1 dx H2 g2 a (x.trans rl rl1 b) e
  | stuck => exact o
theorem OutS.nx {e1 : Ev} {σ : St} {D0 : Ends} (r : Rel T H g h) (s : RepS T H g e1 σ) (o : OutS T g H (.nx e1 h) D0 W) : D0.nx σ H := o σ H g r (.refl _ _) s
theorem tE.bindS {m : Ev → MH → R D} {f : D → Ev → MH → Fl} {σ : St} {e : Ev} {D0 : Ends} {Q' : VK} (r : Rel T H g h) (s : RepS T H g e σ) (o : OutS T g H (evS (m e h) fun d h => f d e h) D0 W)
    (k : ∀ d v h1 H1 g1, m e h = .ok d h1 → Rel T H1 g1 h1 → RepS T H1 g1 e σ → RepV T H1 g1 d v → Ext g H g1 H1 → OutS T g1 H1 (f d e h1) D0 W → Q' v H1) : tE T W m σ H Q' := by
  refine ⟨g, h, e, r, s, ?_⟩
  revert k o
  cases m e h with
  | ok d h1 => exact fun o k v H1 g1 a b c => k d v h1 H1 g1 rfl a (s.mono b r) c b (o.ext b r a)
  | exn c p h1 => exact fun o _ dx H1 g1 a b e => o σ dx H1 g1 a b e
  | stuck => exact fun o _ => o
theorem tA.bindS {m : Ev → MH → R (List D)} {f : List D → Ev → MH → Fl} {σ : St} {e : Ev} {D0 : Ends} {Q' : List V → Hp → Prop} (r : Rel T H g h) (s : RepS T H g e σ) (o : OutS T g H (evS (m e h) fun d h => f d e h) D0 W)
    (k : ∀ d v h1 H1 g1, m e h = .ok d h1 → Rel T H1 g1 h1 → RepS T H1 g1 e σ → RepL T H1 g1 d v → Ext g H g1 H1 → OutS T g1 H1 (f d e h1) D0 W → Q' v H1) : tA T W m σ H Q' := by
  refine ⟨g, h, e, r, s, ?_⟩
  revert k o
  cases m e h with
  | ok d h1 => exact fun o k v H1 g1 a b c => k d v h1 H1 g1 rfl a (s.mono b r) c b (o.ext b r a)
  | exn c p h1 => exact fun o _ dx H1 g1 a b e => o σ dx H1 g1 a b e
  | stuck => exact fun o _ => o
theorem ss_nil : SS T X W [] (fun e h => .nx e h) := PSs.imp pss_nil fun D0 σ H ⟨g, h, e, r, s, o⟩ => OutS.nx r s o
def seqM (ma mb : Ev → MH → Fl) : Ev → MH → Fl := fun e h => match ma e h with
  | .nx e1 h1 => mb e1 h1
  | r => r
theorem ss_cons {st : Stmt} {rest : List Stmt} {ma mb : Ev → MH → Fl} (ha : S1 T X W st ma) (hb : SS T X W rest mb) : SS T X W (st :: rest) (seqM ma mb) := by
  refine PSs.imp (pss_cons ha hb) fun D0 σ H ⟨g, h, e, r, s, o⟩ => ⟨g, h, e, r, s, ?_⟩
  have o : OutS T g H (match ma e h with
    | .nx e1 h1 => mb e1 h1
    | r => r) D0 W := o
  revert o
  cases ma e h with
  | nx e1 h1 => exact fun o σ1 H1 g1 a b c => ⟨g1, h1, e1, a, c, OutS.ext b r a o⟩
  | brk e1 h1 => exact fun o => o
  | cnt e1 h1 => exact fun o => o
  | ret d h1 => exact fun o => o
  | exn c p h1 => exact fun o => o
  | stuck => exact fun o => o
theorem s1_pass {pos : Pos} : S1 T X W (.Pass pos) (fun e h => .nx e h) := PS.imp ps_pass fun D0 σ H ⟨g, h, e, r, s, o⟩ => OutS.nx r s o
theorem s1_brk {pos : Pos} : S1 T X W (.Break pos) (fun e h => .brk e h) := PS.imp ps_break fun D0 σ H ⟨g, h, e, r, s, o⟩ => o σ H g r (.refl _ _) s
theorem s1_cnt {pos : Pos} : S1 T X W (.Continue pos) (fun e h => .cnt e h) := PS.imp ps_continue fun D0 σ H ⟨g, h, e, r, s, o⟩ => o σ H g r (.refl _ _) s
theorem s1_expr {x : Expr} {pos : Pos} {ma : Ev → MH → R D} (ha : SE T X W x ma) (hs : swapsWith x none pos.line X.env = pure false) : S1 T X W (.Expr x pos) (fun e h => evS (ma e h) fun _ h => .nx e h) :=
  PS.imp (ps_expr ha hs) fun D0 σ H ⟨g, h, e, r, s, o⟩ => tE.bindS (f := fun _ e h => .nx e h) r s o fun d v h1 H1 g1 _ r1 s1 q1 x1 o1 => OutS.nx r1 s1 o1
theorem s1_ret {x : Expr} {pos : Pos} {ma : Ev → MH → R D} (ha : SE T X W x ma) : S1 T X W (.Return (some x) pos) (fun e h => evS (ma e h) fun d h => .ret d h) :=
  PS.imp (ps_ret ha) fun D0 σ H ⟨g, h, e, r, s, o⟩ => tE.bindS (f := fun d e h => .ret d h) r s o fun d v h1 H1 g1 _ r1 s1 q1 x1 o1 => o1 v H1 g1 r1 (.refl _ _) q1
theorem s1_retN {pos : Pos} : S1 T X W (.Return none pos) (fun e h => .ret .non h) := PS.imp ps_retN fun D0 σ H ⟨g, h, e, r, s, o⟩ => o .non H g r (.refl _ _) rfl
theorem tAsg_of {t : Tg} {G : TG} {ma : Ev → MH → R D} {D0 : Ends} {σ : St} {H : Hp} (hG : TgOk T t G) (q : tS T W (fun e h => evS (ma e h) fun d h => setM t d e h) D0 σ H) : tAsg (tE T W ma) G D0 σ H := by
  obtain ⟨g, h, e, r, s, o⟩ := q
  refine tE.bindS (f := fun d e h => setM t d e h) r s o fun d v h1 H1 g1 _ r1 s1 q1 x1 o1 => ?_
  unfold setM at o1
  cases z : setT t d e with
  | none => rw [z] at o1; exact o1.elim
  | some e1 =>
    rw [z] at o1
    exact hG.run σ H1 g1 e e1 d v h1 _ r1 s1 q1 z fun σ1 s2 _ => OutS.nx r1 s2 o1
theorem s1_set {i : Nat} {x : Str} {a : Expr} {pos pos' : Pos} {ma : Ev → MH → R D} (hN : X.N.Nodup) (hi : X.N[i]? = some x) (hx : Loc X.env.scope x) (hf : X.fn x = true ∨ X.env.scope.names.lookup x = some .local) (ha : SE T X W a ma) (hs : swapsWith a (some (.Name x pos')) pos.line X.env = pure false) :
    S1 T X W (.Assign [.Name x pos'] a pos) (fun e h => evS (ma e h) fun d h => setM (.nm i) d e h) := PS.imp (ps_set hN hi hx ha hs hf) fun D0 σ H q => tAsg_of (TgOk.nm i) q
theorem s1_asg {t : Tg} {G : TG} {tg a : Expr} {pos : Pos} {ma : Ev → MH → R D} (hG : TgOk T t G) (hg : PG X tg G) (ha : SE T X W a ma) (hs : swapsWithSole [tg] a pos.line X.env = pure false) (hw : swappedStores [tg] a X.env = pure none)
    (h1 : (assignEach [tg] X.env).map (·.2) = [assign tg X.env]) : S1 T X W (.Assign [tg] a pos) (fun e h => evS (ma e h) fun d h => setM t d e h) := PS.imp (ps_asg ha hg hs hw h1) fun D0 σ H q => tAsg_of hG q
theorem s1_par {i j : Nat} {x y : Str} {a b : Expr} {ma : Ev → MH → R (List D)} {px py pt pos : Pos} {kt k2 : Nat} {pt2 : Pos} (hc : X.calm = true) (hN : X.N.Nodup) (hi : X.N[i]? = some x) (hj : X.N[j]? = some y) (hij : i ≠ j)
    (hx : X.env.scope.names.lookup x = some .local) (hy : X.env.scope.names.lookup y = some .local) (ha : SA T X W [a, b] ma)
    (hw : swappedStores [.Tuple [.Name x px, .Name y py] kt pt] (.Tuple [a, b] k2 pt2) X.env = pure (some [x, y]))
    (hs : swapsWithSole [.Tuple [.Name x px, .Name y py] kt pt] (.Tuple [a, b] k2 pt2) pos.line X.env = pure false) :
    S1 T X W (.Assign [.Tuple [.Name x px, .Name y py] kt pt] (.Tuple [a, b] k2 pt2) pos) (fun e h => evS ((ma e h).bind fun ds h => .ok (.tup ds) h) fun d h => setM (.tp [i, j]) d e h) := by
  refine PS.imp (ps_par hc hN hi hj hij hx hy ha hw hs) fun D0 σ H ⟨g, h, e, r, s, o⟩ => ?_
  refine tA.bindS (D0 := D0) (f := fun ds e h => setM (.tp [i, j]) (.tup ds) e h) r s ?_ fun ds vs h1 H1 g1 _ r1 s1 q1 x1 o1 => ?_
  · revert o
    show OutS T g H (evS ((ma e h).bind fun ds h => .ok (.tup ds) h) fun d h => setM (.tp [i, j]) d e h) D0 W → _
    cases ma e h with
    | ok ds h1 => exact fun o => o
    | exn c p h1 => exact fun o => o
    | stuck => exact fun o => o
  · match ds, vs, q1, o1 with
    | [d, c], [v, w], q1, o1 => exact ⟨v, w, rfl, OutS.nx (e1 := (e.set i (some d)).set j (some c)) r1 ((s1.set q1.1).set q1.2.1) o1⟩
theorem s1_aug {i : Nat} {x : Str} {a : Expr} {pos pos' : Pos} {ma : Ev → MH → R D} {o : Bo} {op : Operator} (hN : X.N.Nodup) (hi : X.N[i]? = some x) (hx : Loc X.env.scope x) (hf : X.fn x = true ∨ X.env.scope.names.lookup x = some .local) (ha : SE T X W a ma)
    (hp : ∀ w, PIp X op (R2m T w (augO o))) (hb : ∀ a b h c p h1, augO o a b h ≠ .exn c p h1) : S1 T X W (.AugAssign (.Name x pos') op a pos) (fun e h => match vget e i with
    | some a => evS (ma e h) fun b h => augM o i a b e h
    | none => .stuck) := by
  refine ⟨fun pins s σ H D0 I ⟨g, h, e, r, s, o⟩ => (ps_aug hN hi hx ha (hp fun c d H' => W c d σ H') hf).run _ _ σ H D0 I ?_⟩
  cases z : vget e i with
  | none =>
    have o : OutS T g H (match vget e i with
      | some a => evS (ma e h) fun b h => augM _ i a b e h
      | none => .stuck) D0 W := o
    rw [z] at o
    exact o.elim
  | some d0 =>
    have o : OutS T g H (match vget e i with
      | some a => evS (ma e h) fun b h => augM _ i a b e h
      | none => .stuck) D0 W := o
    rw [z] at o
    obtain ⟨v, ev, qv⟩ := s.2 i d0 (vget_some z)
    refine ⟨v, ev, ?_⟩
    refine tE.bindS (f := fun b e h => augM _ i d0 b e h) r s o fun b u h1 H1 g1 _ r1 s1 q1 x1 o1 => ?_
    refine fun _ => ⟨g1, h1, d0, b, r1, qv.mono x1 r, q1, ?_⟩
    have n := hb d0 b h1
    unfold augM at o1
    revert o1 n
    cases augO _ d0 b h1 with
    | ok w h2 => exact fun o1 _ v2 H2 g2 r2 x2 q2 => o1 _ H2 g2 r2 x2 ((s1.mono x2 r1).set q2)
    | exn c p h2 => exact fun o1 _ => o1.elim
    | stuck => exact fun o1 _ => o1.elim
def ifS (mc : Ev → MH → R D) (ma mb : Ev → MH → Fl) : Ev → MH → Fl := fun e h => evS (mc e h) fun d h => ifK d (ma e) (mb e) h
theorem tT.bindS {m : Ev → MH → R D} {f : Bool → Ev → MH → Fl} {σ : St} {e : Ev} {D0 : Ends} {Q' : Bool → Hp → Prop} (r : Rel T H g h) (s : RepS T H g e σ) (o : OutS T g H (evS (m e h) fun d h => ifK d (f true e) (f false e) h) D0 W)
    (k : ∀ b h1 H1 g1, m e h = .ok (.bl b) h1 → Rel T H1 g1 h1 → RepS T H1 g1 e σ → Ext g H g1 H1 → OutS T g1 H1 (f b e h1) D0 W → Q' b H1) : tT T W m σ H Q' := by
  refine ⟨g, h, e, r, s, ?_⟩
  revert k o
  cases m e h with
  | ok d h1 =>
    cases d with
    | bl b => exact fun o k H1 g1 a c => k b h1 H1 g1 rfl a (s.mono c r) c (by cases b <;> exact OutS.ext c r a o)
    | _ => exact fun o _ => o.elim
  | exn c p h1 => exact fun o _ dx H1 g1 a b e => o σ dx H1 g1 a b e
  | stuck => exact fun o _ => o
theorem s1_if {c : Expr} {a b : List Stmt} {pos : Pos} {mc : Ev → MH → R D} {ma mb : Ev → MH → Fl} (hc : ST T X W c mc) (ha : SS T X W a ma) (hb : SS T X W b mb) : S1 T X W (.If c a b pos) (ifS mc ma mb) := by
  refine PS.imp (ps_if hc ha hb) fun D0 σ H ⟨g, h, e, r, s, o⟩ => ?_
  refine tT.bindS (f := fun k e h1 => if k = true then ma e h1 else mb e h1) r s o fun b h1 H1 g1 _ r1 s1 x1 o1 => ?_
  cases b with
  | true => exact ⟨g1, h1, e, r1, s1, o1⟩
  | false => exact ⟨g1, h1, e, r1, s1, o1⟩
theorem s1_whl {c : Expr} {b : List Stmt} {pos : Pos} {n : Nat} {mc : Ev → MH → R D} {mb : Ev → MH → Fl} (hp : PassesOwn (model X.prog X.w) X.A X.env X.xe) (hc : ST T X W c mc) (hb : SS T X W b mb) : S1 T X W (.While c b [] pos) (fun e h => whL mc mb n e h) := by
  refine PS.imp (ps_while hp hc hb) fun D0 σ H q => ?_
  refine ⟨fun m σ H => tS T W (fun e h => whL mc mb m e h) D0 σ H, ⟨n, q⟩, ?_⟩
  rintro m σ H ⟨g, h, e, r, s, o⟩
  cases m with
  | zero => exact o.elim
  | succ m =>
    have o : OutS T g H (match mc e h with
      | .ok (.bl k) h1 => if k = true then (match mb e h1 with
        | .nx e2 h2 => whL mc mb m e2 h2
        | .cnt e2 h2 => whL mc mb m e2 h2
        | .brk e2 h2 => .nx e2 h2
        | r => r) else .nx e h1
      | .exn k p h1 => .exn k p h1
      | _ => .stuck) D0 W := o
    refine tT.bindS (D0 := D0) (f := fun k e h1 => if k = true then (match mb e h1 with
        | .nx e2 h2 => whL mc mb m e2 h2
        | .cnt e2 h2 => whL mc mb m e2 h2
        | .brk e2 h2 => .nx e2 h2
        | r => r) else .nx e h1) r s ?_ fun b h1 H1 g1 _ r1 s1 x1 o1 => ?_
    · revert o
      cases mc e h with
      | ok d h1 => cases d <;> exact fun o => o
      | exn c p h1 => exact fun o => o
      | stuck => exact fun o => o
    · cases b with
      | false => exact OutS.nx r1 s1 o1
      | true =>
        rw [if_pos rfl] at o1 ⊢
        refine ⟨fun σ H => tS T W (fun e h => whL mc mb m e h) D0 σ H, fun σ' H' q => ⟨m, Nat.lt_succ_self _, q⟩, g1, h1, e, r1, s1, ?_⟩
        revert o1
        cases mb e h1 with
        | nx e2 h2 => exact fun o1 σ2 H2 g2 r2 x2 s2 => ⟨g2, h2, e2, r2, s2, OutS.ext x2 r1 r2 o1⟩
        | cnt e2 h2 => exact fun o1 σ2 H2 g2 r2 x2 s2 => ⟨g2, h2, e2, r2, s2, OutS.ext x2 r1 r2 o1⟩
        | brk e2 h2 => exact fun o1 => o1
        | ret d h2 => exact fun o1 => o1
        | exn c p h2 => exact fun o1 => o1
        | stuck => exact fun o1 => o1
def forM (t : Tg) (mi : Ev → MH → R It) (mb : Ev → MH → Fl) : Ev → MH → Fl := fun e h => match mi e h with
  | .ok (.its xs) h1 => forL t mb xs e h1
  | .ok (.hp n w) h1 => forH t mb n w (lenH h1 n) 0 e h1
  | .exn c p h1 => .exn c p h1
  | .stuck => .stuck
theorem s1_for {tg it : Expr} {b : List Stmt} {pos : Pos} {t : Tg} {G : TG} {mi : Ev → MH → R It} {mb : Ev → MH → Fl} (hp : PassesOwn (model X.prog X.w) X.A X.env X.xe) (hc : X.calm = true) (hG : TgOk T t G) (hg : PG X tg G) (hi : SI T X W tg it mi) (hb : SS T X W b mb)
    (hs : ∀ x, foldedSetIterable it X.env x = pure x) : S1 T X W (.For tg it b [] pos) (forM t mi mb) := by
  refine PS.imp (ps_for hp hc hi hg hb hs) fun D0 σ H ⟨g, h, e, r, s, o⟩ => ⟨g, h, e, r, s, ?_⟩
  have o : OutS T g H (match mi e h with
    | .ok (.its xs) h1 => forL t mb xs e h1
    | .ok (.hp n w) h1 => forH t mb n w (lenH h1 n) 0 e h1
    | .exn c p h1 => .exn c p h1
    | .stuck => .stuck) D0 W := o
  revert o
  cases mi e h with
  | stuck => exact fun o => o
  | exn c p h1 => exact fun o dx H1 g1 a b c => o σ dx H1 g1 a b c
  | ok w h1 =>
    cases w with
    | its xs =>
      intro o H1 g1 r1 x1 J C wk hC
      have o : OutS T g1 H1 (forL t mb xs e h1) D0 W := OutS.ext x1 r r1 o
      refine ⟨fun i m σ H => ∃ g' h' e', Rel T H g' h' ∧ RepS T H g' e' σ ∧ C g' H ∧ i ≤ xs.length ∧ m = xs.length - i ∧ OutS T g' H (forL t mb (xs.drop i) e' h') D0 W,
        ⟨xs.length, g1, h1, e, r1, s.mono x1 r, hC, Nat.zero_le _, rfl, by simpa using o⟩, ?_⟩
      rintro i m σ5 H5 ⟨g', h', e', r5, s5, c5, hi, hm, o5⟩
      by_cases hlt : i < xs.length
      · refine .inr ⟨wk.go i g' H5 h' c5 r5 hlt, fun σ6 H6 => ∃ g' h' e', Rel T H6 g' h' ∧ RepS T H6 g' e' σ6 ∧ C g' H6 ∧ i + 1 ≤ xs.length ∧ OutS T g' H6 (forL t mb (xs.drop (i + 1)) e' h') D0 W,
          fun σ6 H6 ⟨g', h', e', a1, a2, a3, a4, a5⟩ => ⟨xs.length - (i + 1), by omega, g', h', e', a1, a2, a3, a4, rfl, a5⟩, fun x H' y => ?_⟩
        obtain ⟨d, g2, ed, r2, x2, q2⟩ := wk.yld i g' H5 h' x H' c5 r5 y hlt
        have hdr : xs.drop i = d :: xs.drop (i + 1) := by
          obtain ⟨hl', e'⟩ := List.getElem?_eq_some_iff.mp ed
          rw [← e']
          exact List.drop_eq_getElem_cons hl'
        rw [hdr] at o5
        have o5 : OutS T g' H5 (match setT t d e' with
          | none => .stuck
          | some e1 => (match mb e1 h' with
            | .nx e2 h2 => forL t mb (xs.drop (i + 1)) e2 h2
            | .cnt e2 h2 => forL t mb (xs.drop (i + 1)) e2 h2
            | .brk e2 h2 => .nx e2 h2
            | r => r)) D0 W := o5
        cases z : setT t d e' with
        | none => rw [z] at o5; exact o5.elim
        | some e1 =>
          rw [z] at o5
          refine hG.run σ5 H' g2 e' e1 d x h' _ r2 (s5.mono x2 r5) q2 z fun σ6 s6 _ => ⟨g2, h', e1, r2, s6, ?_⟩
          have c2 := wk.mono _ _ _ _ h' c5 r5 (x2.to0 r5)
          have o6 : OutS T g2 H' (match mb e1 h' with
            | .nx e2 h2 => forL t mb (xs.drop (i + 1)) e2 h2
            | .cnt e2 h2 => forL t mb (xs.drop (i + 1)) e2 h2
            | .brk e2 h2 => .nx e2 h2
            | r => r) D0 W := OutS.ext x2 r5 r2 o5
          revert o6
          cases mb e1 h' with
          | nx e2 h2 => exact fun o6 σ7 H7 g7 r7 x7 s7 => ⟨g7, h2, e2, r7, s7, wk.mono _ _ _ _ h' c2 r2 (x7.to0 r2), hlt, OutS.ext x7 r2 r7 o6⟩
          | cnt e2 h2 => exact fun o6 σ7 H7 g7 r7 x7 s7 => ⟨g7, h2, e2, r7, s7, wk.mono _ _ _ _ h' c2 r2 (x7.to0 r2), hlt, OutS.ext x7 r2 r7 o6⟩
          | brk e2 h2 => exact fun o6 => o6
          | ret d h2 => exact fun o6 => o6
          | exn c p h2 => exact fun o6 => o6
          | stuck => exact fun o6 => o6
      · have e : i = xs.length := by omega
        subst e
        rw [List.drop_length] at o5
        exact .inl ⟨wk.stop g' H5 h' c5 r5, OutS.nx r5 s5 o5⟩
    | hp n en =>
      intro o H1 g1 r1 x1 a ha
      have o : OutS T g1 H1 (forH t mb n en (lenH h1 n) 0 e h1) D0 W := OutS.ext x1 r r1 o
      refine ⟨fun i k σ H => ∃ g' h' e', Rel T H g' h' ∧ RepS T H g' e' σ ∧ g'.phi[n]? = some a ∧ OutS T g' H (forH t mb n en k i e' h') D0 W,
        ⟨lenH h1 n, g1, h1, e, r1, s.mono x1 r, ha, o⟩, ?_⟩
      rintro i k σ5 H5 ⟨g', h', e', r5, s5, a5, o5⟩
      cases k with
      | zero =>
        have o5 : OutS T g' H5 (match h'[n]? with
          | some (.lst xs) => if xs.length ≤ i then .nx e' h' else .stuck
          | _ => .stuck) D0 W := o5
        cases z : h'[n]? with
        | none => rw [z] at o5; exact o5.elim
        | some ob =>
          rw [z] at o5
          cases ob with
          | lst ds =>
            have o5 : OutS T g' H5 (if ds.length ≤ i then .nx e' h' else .stuck) D0 W := o5
            by_cases hc : ds.length ≤ i
            · rw [if_pos hc] at o5
              obtain ⟨vs5, q1, q2⟩ := r5.lst_at z a5
              exact .inl ⟨hp_stop r5 z a5 hc, OutS.nx r5 s5 o5⟩
            · rw [if_neg hc] at o5; exact o5.elim
          | _ => exact o5.elim
      | succ k =>
        have o5 : OutS T g' H5 (match h'[n]? with
          | some (.lst xs) => (match xs[i]? with
            | none => .nx e' h'
            | some d => (match setT t (wrapI en i d) e' with
              | none => .stuck
              | some e1 => (match mb e1 h' with
                | .nx e2 h2 => forH t mb n en k (i + 1) e2 h2
                | .cnt e2 h2 => forH t mb n en k (i + 1) e2 h2
                | .brk e2 h2 => .nx e2 h2
                | r => r)))
          | _ => .stuck) D0 W := o5
        cases z : h'[n]? with
        | none => rw [z] at o5; exact o5.elim
        | some ob =>
          rw [z] at o5
          cases ob with
          | lst ds =>
            obtain ⟨vs5, q1, q2⟩ := r5.lst_at z a5
            have o5 : OutS T g' H5 (match ds[i]? with
              | none => .nx e' h'
              | some d => (match setT t (wrapI en i d) e' with
                | none => .stuck
                | some e1 => (match mb e1 h' with
                  | .nx e2 h2 => forH t mb n en k (i + 1) e2 h2
                  | .cnt e2 h2 => forH t mb n en k (i + 1) e2 h2
                  | .brk e2 h2 => .nx e2 h2
                  | r => r))) D0 W := o5
            cases hd : ds[i]? with
            | none =>
              rw [hd] at o5
              exact .inl ⟨hp_stop r5 z a5 (List.getElem?_eq_none_iff.mp hd), OutS.nx r5 s5 o5⟩
            | some d =>
              rw [hd] at o5
              obtain ⟨v5, ev5, rv5⟩ := q2.get hd
              have o5 : OutS T g' H5 (match setT t (wrapI en i d) e' with
                | none => .stuck
                | some e1 => (match mb e1 h' with
                  | .nx e2 h2 => forH t mb n en k (i + 1) e2 h2
                  | .cnt e2 h2 => forH t mb n en k (i + 1) e2 h2
                  | .brk e2 h2 => .nx e2 h2
                  | r => r)) D0 W := o5
              cases zt : setT t (wrapI en i d) e' with
              | none => rw [zt] at o5; exact o5.elim
              | some e1 =>
                rw [zt] at o5
                refine .inr ⟨hp_go r5 z a5 (List.getElem?_eq_some_iff.mp hd).1, fun σ H => ∃ g' h' e', Rel T H g' h' ∧ RepS T H g' e' σ ∧ g'.phi[n]? = some a ∧ OutS T g' H (forH t mb n en k (i + 1) e' h') D0 W, fun σ' H' q => ⟨k, Nat.lt_succ_self _, q⟩, fun x H' y => ?_⟩
                obtain ⟨g2, r2, x2, qd2⟩ := hp_yld r5 z a5 hd y
                refine hG.run σ5 H' g2 e' e1 _ x h' _ r2 (s5.mono x2 r5) qd2 zt fun σ6 s6 _ => ⟨g2, h', e1, r2, s6, ?_⟩
                have a2 : g2.phi[n]? = some a := by
                  obtain ⟨t, e1, _⟩ := x2.phi
                  rw [e1, List.getElem?_append_left (List.getElem?_eq_some_iff.mp a5).1]
                  exact a5
                have keep : ∀ {g7 H7}, Ext g2 H' g7 H7 → g7.phi[n]? = some a := fun {g7 H7} x7 => by
                  obtain ⟨t, e1, _⟩ := x7.phi
                  rw [e1, List.getElem?_append_left (List.getElem?_eq_some_iff.mp a2).1]
                  exact a2
                have o6 : OutS T g2 H' (match mb e1 h' with
                  | .nx e2 h2 => forH t mb n en k (i + 1) e2 h2
                  | .cnt e2 h2 => forH t mb n en k (i + 1) e2 h2
                  | .brk e2 h2 => .nx e2 h2
                  | r => r) D0 W := OutS.ext x2 r5 r2 o5
                revert o6
                cases mb e1 h' with
                | nx e2 h2 => exact fun o6 σ7 H7 g7 r7 x7 s7 => ⟨g7, h2, e2, r7, s7, keep x7, OutS.ext x7 r2 r7 o6⟩
                | cnt e2 h2 => exact fun o6 σ7 H7 g7 r7 x7 s7 => ⟨g7, h2, e2, r7, s7, keep x7, OutS.ext x7 r2 r7 o6⟩
                | brk e2 h2 => exact fun o6 => o6
                | ret d h2 => exact fun o6 => o6
                | exn c p h2 => exact fun o6 => o6
                | stuck => exact fun o6 => o6
          | _ => exact o5.elim
end
end Mi
namespace Mi
open PySem PySem.Spec PyProof.Rows L2
section
variable {T : Tx} {X : Cx} {W : WX} {H H1 H2 : Hp} {g g1 g2 : Gr} {h h1 : MH}
theorem RepK.any {kvs : List (Ky × D)} {kk : List (L2.Key × V)} (q : Ky) : ∀ {kvs : List (Ky × D)} {kk : List (L2.Key × V)}, RepK T H g kvs kk → (kvs.any fun kv => decide (kv.1 = q)) = kk.any fun kv => decide (kv.1 = q)
  | [], [], _ => rfl
  | (k, d) :: r, (p, v) :: s, z => by
    have e : k = p := z.1
    subst e
    simp only [List.any_cons]
    rw [RepK.any (kvs := []) (kk := []) q z.2.2]
  | [], _ :: _, z => z.elim
  | _ :: _, [], z => z.elim
theorem RepK.mapSet {q : Ky} {e : D} {u : V} (qv : RepV T H g e u) : ∀ {kvs : List (Ky × D)} {kk : List (L2.Key × V)}, RepK T H g kvs kk → RepK T H g (kvs.map fun kv => if kv.1 = q then (kv.1, e) else kv) (kk.map fun kv => if kv.1 = q then (kv.1, u) else kv)
  | [], [], _ => True.intro
  | (k, d) :: r, (p, v) :: s, z => by
    have e1 : k = p := z.1
    subst e1
    by_cases c : k = q
    · simp only [List.map_cons, c, if_true]
      exact ⟨rfl, qv, RepK.mapSet qv z.2.2⟩
    · simp only [List.map_cons, c, if_false]
      exact ⟨rfl, z.2.1, RepK.mapSet qv z.2.2⟩
  | [], _ :: _, z => z.elim
  | _ :: _, [], z => z.elim
theorem RepK.app {q : Ky} {e : D} {u : V} (qv : RepV T H g e u) : ∀ {kvs : List (Ky × D)} {kk : List (L2.Key × V)}, RepK T H g kvs kk → RepK T H g (kvs ++ [(q, e)]) (kk ++ [(q, u)])
  | [], [], _ => ⟨rfl, qv, True.intro⟩
  | (k, d) :: r, (p, v) :: s, z => ⟨z.1, z.2.1, RepK.app qv z.2.2⟩
  | [], _ :: _, z => z.elim
  | _ :: _, [], z => z.elim
theorem RepK.put {kvs : List (Ky × D)} {kk : List (L2.Key × V)} {q : Ky} {e : D} {u : V} (z : RepK T H g kvs kk) (qv : RepV T H g e u) : RepK T H g (Mi.putK kvs q e) (L2.putK kk q u) := by
  unfold Mi.putK L2.putK
  rw [RepK.any (kvs := kvs) (kk := kk) q z]
  by_cases c : (kk.any fun kv => decide (kv.1 = q)) = true
  · rw [if_pos c, if_pos c]; exact z.mapSet qv
  · rw [if_neg c, if_neg c]; exact z.app qv
theorem RepT.any (q : List Ky) : ∀ {kvs : List (List Ky × D)} {kk : List (List L2.Key × V)}, RepT T H g kvs kk → (kvs.any fun kv => decide (kv.1 = q)) = kk.any fun kv => decide (kv.1 = q)
  | [], [], _ => rfl
  | (k, d) :: r, (p, v) :: s, z => by
    have e : k = p := z.1
    subst e
    simp only [List.any_cons]
    rw [RepT.any q z.2.2]
  | [], _ :: _, z => z.elim
  | _ :: _, [], z => z.elim
theorem RepT.mapSet {q : List Ky} {e : D} {u : V} (qv : RepV T H g e u) : ∀ {kvs : List (List Ky × D)} {kk : List (List L2.Key × V)}, RepT T H g kvs kk → RepT T H g (kvs.map fun kv => if kv.1 = q then (kv.1, e) else kv) (kk.map fun kv => if kv.1 = q then (kv.1, u) else kv)
  | [], [], _ => True.intro
  | (k, d) :: r, (p, v) :: s, z => by
    have e1 : k = p := z.1
    subst e1
    by_cases c : k = q
    · simp only [List.map_cons, c, if_true]
      exact ⟨rfl, qv, RepT.mapSet qv z.2.2⟩
    · simp only [List.map_cons, c, if_false]
      exact ⟨rfl, z.2.1, RepT.mapSet qv z.2.2⟩
  | [], _ :: _, z => z.elim
  | _ :: _, [], z => z.elim
theorem RepT.app {q : List Ky} {e : D} {u : V} (qv : RepV T H g e u) : ∀ {kvs : List (List Ky × D)} {kk : List (List L2.Key × V)}, RepT T H g kvs kk → RepT T H g (kvs ++ [(q, e)]) (kk ++ [(q, u)])
  | [], [], _ => ⟨rfl, qv, True.intro⟩
  | (k, d) :: r, (p, v) :: s, z => ⟨z.1, z.2.1, RepT.app qv z.2.2⟩
  | [], _ :: _, z => z.elim
  | _ :: _, [], z => z.elim
theorem RepT.put {kvs : List (List Ky × D)} {kk : List (List L2.Key × V)} {q : List Ky} {e : D} {u : V} (z : RepT T H g kvs kk) (qv : RepV T H g e u) : RepT T H g (Mi.putK kvs q e) (L2.putK kk q u) := by
  unfold Mi.putK L2.putK
  rw [RepT.any q z]
  by_cases c : (kk.any fun kv => decide (kv.1 = q)) = true
  · rw [if_pos c, if_pos c]; exact z.mapSet qv
  · rw [if_neg c, if_neg c]; exact z.app qv
theorem RepK.length : ∀ {kvs : List (Ky × D)} {kk : List (L2.Key × V)}, RepK T H g kvs kk → kvs.length = kk.length
  | [], [], _ => rfl
  | (k, d) :: r, (p, v) :: s, z => by simp [RepK.length z.2.2]
  | [], _ :: _, z => z.elim
  | _ :: _, [], z => z.elim
theorem RepT.length : ∀ {kvs : List (List Ky × D)} {kk : List (List L2.Key × V)}, RepT T H g kvs kk → kvs.length = kk.length
  | [], [], _ => rfl
  | (k, d) :: r, (p, v) :: s, z => by simp [RepT.length z.2.2]
  | [], _ :: _, z => z.elim
  | _ :: _, [], z => z.elim
def OutH (T : Tx) (g : Gr) (H : Hp) (r : Option MH) (Q : Hp → Prop) : Prop := match r with
  | some h1 => ∀ H1 g1, Rel T H1 g1 h1 → Ext g H g1 H1 → Q H1
  | none => False
def rS (T : Tx) : TSet := fun o i v H Q => ∃ g h a k d, Rel T H g h ∧ RepV T H g a o ∧ RepV T H g k i ∧ RepV T H g d v ∧ OutH T g H (subD a k d h) Q
theorem set_m (hu : X.A.units + 200 < cLine) : PSet X (rS T) := by
  intro pins s σ H o i v ov iv u Q I ro ri rv ⟨g, h, a, k, d, r, qa, qk, qd, o1⟩
  cases a with
  | ref n =>
    obtain ⟨p, rfl, ep⟩ := qa
    have o1 : OutH T g H (match h[n]? with
      | some (.lst xs) => subL n xs k d h
      | _ => dput h (.ref n) k d) Q := o1
    cases z : h[n]? with
    | none =>
      rw [z] at o1
      have o1 : OutH T g H (match h[n]? with
        | some (.dK false kvs) => if kvs.length < big then (kOf k).map fun q => h.set n (.dK false (Mi.putK kvs q d)) else none
        | some (.dT false kvs) => if kvs.length < big then (ktup k).map fun q => h.set n (.dT false (Mi.putK kvs q d)) else none
        | _ => none) Q := o1
      rw [z] at o1; exact o1.elim
    | some ob =>
      rw [z] at o1
      cases ob with
      | lst es =>
        obtain ⟨vs, e1, q1⟩ := r.lst_at z ep
        cases k with
        | int k =>
          have o1 : OutH T g H ((Mi.ixN es.length k).map fun j => h.set n (.lst (es.set j d))) Q := o1
          cases y : Mi.ixN es.length k with
          | none => rw [y] at o1; exact o1.elim
          | some j =>
            rw [y] at o1
            refine set_list pins s σ H _ i v ov iv u Q I ro ri rv ⟨p, vs, k, j, rfl, qk, e1, by rw [← q1.length, ← ixN_eq]; exact y, ?_⟩
            have hf : ∀ ob u, H p ≠ some (.frz ob u) := fun ob u z => by rw [e1] at z; cases z
            exact o1 _ g (r.write ep ⟨_, upd_same, RepL.set (RepL.mono (Ext.write ep hf) r _ _ q1) (qd.mono (Ext.write ep hf) r)⟩) (Ext.write ep hf)
        | _ => exact o1.elim
      | ins c fs =>
        have o1 : OutH T g H (match h[n]? with
          | some (.dK false kvs) => if kvs.length < big then (kOf k).map fun q => h.set n (.dK false (Mi.putK kvs q d)) else none
          | some (.dT false kvs) => if kvs.length < big then (ktup k).map fun q => h.set n (.dT false (Mi.putK kvs q d)) else none
          | _ => none) Q := o1
        rw [z] at o1; exact o1.elim
      | dK l kvs =>
        have o1 : OutH T g H (match h[n]? with
          | some (.dK false kvs) => if kvs.length < big then (kOf k).map fun q => h.set n (.dK false (Mi.putK kvs q d)) else none
          | some (.dT false kvs) => if kvs.length < big then (ktup k).map fun q => h.set n (.dT false (Mi.putK kvs q d)) else none
          | _ => none) Q := o1
        rw [z] at o1
        cases l with
        | true => exact o1.elim
        | false =>
          have o1 : OutH T g H (if kvs.length < big then (kOf k).map fun q => h.set n (.dK false (Mi.putK kvs q d)) else none) Q := o1
          by_cases c : kvs.length < big
          · rw [if_pos c] at o1
            cases y : kOf k with
            | none => rw [y] at o1; exact o1.elim
            | some q =>
              rw [y] at o1
              obtain ⟨kk, q1, e1⟩ := r.obj n _ p z ep
              have e1 : H p = some (.dK kk) := e1
              refine set_dict (by omega) pins s σ H _ i v ov iv u Q I ro ri rv ⟨p, _, rfl, .inl ⟨kk, q, e1, kV_of qk y, by rw [← q1.length]; exact big_lt c, rfl⟩, ?_⟩
              have hf : ∀ ob u, H p ≠ some (.frz ob u) := fun ob u z => by rw [e1] at z; cases z
              exact o1 _ g (r.write ep ⟨_, RepK.put (RepK.mono (Ext.write ep hf) r _ _ q1) (qd.mono (Ext.write ep hf) r), upd_same⟩) (Ext.write ep hf)
          · rw [if_neg c] at o1; exact o1.elim
      | dT l kvs =>
        have o1 : OutH T g H (match h[n]? with
          | some (.dK false kvs) => if kvs.length < big then (kOf k).map fun q => h.set n (.dK false (Mi.putK kvs q d)) else none
          | some (.dT false kvs) => if kvs.length < big then (ktup k).map fun q => h.set n (.dT false (Mi.putK kvs q d)) else none
          | _ => none) Q := o1
        rw [z] at o1
        cases l with
        | true => exact o1.elim
        | false =>
          have o1 : OutH T g H (if kvs.length < big then (ktup k).map fun q => h.set n (.dT false (Mi.putK kvs q d)) else none) Q := o1
          by_cases c : kvs.length < big
          · rw [if_pos c] at o1
            cases k with
            | tup ks =>
              have o1 : OutH T g H ((ksOf ks).map fun q => h.set n (.dT false (Mi.putK kvs q d))) Q := o1
              cases y : ksOf ks with
              | none => rw [y] at o1; exact o1.elim
              | some q =>
                rw [y] at o1
                obtain ⟨kk, q1, e1⟩ := r.obj n _ p z ep
                have e1 : H p = some (.dT kk) := e1
                obtain ⟨b, vs, rfl, eb, q2⟩ := qk
                refine set_dict (by omega) pins s σ H _ _ v ov iv u Q I ro ri rv ⟨p, _, rfl, .inr ⟨kk, q, b, e1, rfl, by rw [eb, kVs_of q2 y], by rw [← q1.length]; exact big_lt c, rfl⟩, ?_⟩
                have hf : ∀ ob u, H p ≠ some (.frz ob u) := fun ob u z => by rw [e1] at z; cases z
                exact o1 _ g (r.write ep ⟨_, RepT.put (RepT.mono (Ext.write ep hf) r _ _ q1) (qd.mono (Ext.write ep hf) r), upd_same⟩) (Ext.write ep hf)
            | _ => exact o1.elim
          · rw [if_neg c] at o1; exact o1.elim
  | _ => exact o1.elim
theorem s1_sub {o i a : Expr} {p pos : Pos} {mo mi ma : Ev → MH → R D} (hu : X.A.units + 200 < cLine) (ho : SE T X W o mo) (hi : SE T X W i mi) (ha : SE T X W a ma)
    (hasg : ∀ v, assign (.Subscript o i p) X.env v = (do
      let ov ← holding [v] (eval o X.env)
      let iv ← holding [v, ov] (eval i X.env)
      standAt p
      holding [v, ov, iv] (setItem ov iv v)
      release [v, ov, iv] []))
    (hs : swapsWithSole [.Subscript o i p] a pos.line X.env = pure false) (hw : swappedStores [.Subscript o i p] a X.env = pure none)
    (h1 : (assignEach [.Subscript o i p] X.env).map (·.2) = [assign (.Subscript o i p) X.env]) :
    S1 T X W (.Assign [.Subscript o i p] a pos) (fun e h => evS (ma e h) fun v h1 => evS (mo e h1) fun x h2 => evS (mi e h2) fun k h3 => subM x k v e h3) := by
  refine PS.imp (ps_asg ha (pg_sub ho hi (set_m (T := T) hu) hasg) hs hw h1) fun D0 σ H ⟨g, h, e, r, s, o⟩ => ?_
  refine tE.bindS (f := fun v e h1 => evS (mo e h1) fun x h2 => evS (mi e h2) fun k h3 => subM x k v e h3) r s o fun d v h1 H1 g1 _ r1 s1 q1 x1 o1 => ?_
  refine tE.bindS (D0 := D0) (f := fun x e h2 => evS (mi e h2) fun k h3 => subM x k d e h3) r1 s1 o1 fun b u h2 H2 g2 _ r2 s2 q2 x2 o2 => ?_
  refine tE.bindS (D0 := D0) (f := fun k e h3 => subM b k d e h3) r2 s2 o2 fun c w h3 H3 g3 _ r3 s3 q3 x3 o3 => ?_
  refine ⟨g3, h3, b, c, d, r3, q2.mono x3 r2, q3, (q1.mono x2 r1).mono x3 r2, ?_⟩
  unfold subM at o3
  revert o3
  cases subD b c d h3 with
  | none => exact fun o3 => o3
  | some h4 => exact fun o3 H4 g4 r4 x4 => o3 σ H4 g4 r4 x4 (s3.mono x4 r3)
def rG (T : Tx) (W : XW) : V → V → Hp → VK → Prop := fun x y H Q => ∃ g h a i, Rel T H g h ∧ RepV T H g a x ∧ RepV T H g i y ∧ (∃ n, a = .ref n) ∧ Out T g H (idxM a i h) Q W
theorem get_m {W : XW} (hu : X.A.units + 200 < cLine) : PGet X (rG T W) := by
  intro pins s σ H o i ov iv Q I ro ri ⟨g, h, a, k, r, qa, qk, ⟨n, en⟩, o1⟩
  subst en
  obtain ⟨p, rfl, ep⟩ := qa
  cases (show ov = Value.ref p from ro)
  have dict : ∀ d, (dget h (.ref n) k).bind id = some d → Out T g H (.ok d h) Q W → wpAny (model X.prog X.w) X.A (getItem (.ref p) iv) (EP X pins σ Q) X.xe s := fun d e o => by
    cases y : dget h (.ref n) k with
    | none => rw [y] at e; cases e
    | some w =>
      rw [y] at e
      have e : w = some d := e
      subst e
      obtain ⟨b, ov', eb, dg, rop⟩ := dget_at (d := .ref n) (x := .ref p) r ⟨p, rfl, ep⟩ qk y
      cases eb
      cases ov' with
      | none => exact rop.elim
      | some v => exact d_getItem (by omega) I dg ri fun w' s' I' rw' => ⟨v, H, I', rw', o.here r rop⟩
  have o1 : Out T g H (match (match h[n]? with
    | some (.lst xs) => idxI (some xs) k
    | _ => (dget h (.ref n) k).bind id) with
    | some d => .ok d h
    | none => .stuck) Q W := o1
  cases z : h[n]? with
  | none =>
    rw [z] at o1
    have o1 : Out T g H (match (dget h (.ref n) k).bind id with
      | some d => .ok d h
      | none => .stuck) Q W := o1
    cases y : (dget h (.ref n) k).bind id with
    | none => rw [y] at o1; exact o1.elim
    | some d => rw [y] at o1; exact dict d y o1
  | some ob =>
    rw [z] at o1
    have dflt : ∀ (e : idxD (.ref n) k h = (dget h (.ref n) k).bind id) (o1 : Out T g H (match (dget h (.ref n) k).bind id with
      | some d => .ok d h
      | none => .stuck) Q W), wpAny (model X.prog X.w) X.A (getItem (.ref p) iv) (EP X pins σ Q) X.xe s := fun e o1 => by
      cases y : (dget h (.ref n) k).bind id with
      | none => rw [y] at o1; exact o1.elim
      | some d => rw [y] at o1; exact dict d y o1
    cases ob with
    | dK l kvs => exact dflt (by simp [idxD, z]) o1
    | dT l kvs => exact dflt (by simp [idxD, z]) o1
    | ins c fs => exact dflt (by simp [idxD, z]) o1
    | lst es =>
      have o1 : Out T g H (match idxI (some es) k with
        | some d => .ok d h
        | none => .stuck) Q W := o1
      cases k with
      | int k =>
        have o1 : Out T g H (match Mi.atI es k with
          | some d => .ok d h
          | none => .stuck) Q W := o1
        obtain ⟨vs, e1, q1⟩ := r.lst_at z ep
        cases y : Mi.atI es k with
        | none => rw [y] at o1; exact o1.elim
        | some d =>
          rw [y] at o1
          obtain ⟨v, ev, rv⟩ := atI_rep q1 y
          obtain ⟨t, rfl⟩ := (show ∃ t, iv = Value.int k t from by rw [show i = V.int k from qk] at ri; exact ri)
          obtain ⟨its, rv2, pl, hz⟩ := I.list (SqL.of e1)
          obtain ⟨j, h1, h2, h3, h4, h5⟩ := atI_get ev
          obtain ⟨w, ew, rw'⟩ := rv2.get h2
          have hl := rv2.length
          have hn := line63
          have fin : EP X pins σ Q w s := ⟨v, H, I, rw', o1.here r rv⟩
          by_cases h0 : 0 ≤ k
          · have hj : k.toNat = j := by
              rw [seqIndex_of h0 h5] at h1
              exact Option.some.inj h1
            exact wpAny_getItem_list pl.isList h0 (by omega) (by rw [hj]; simpa using ew) fin
          · have hj : (k + (its.toArray.size : Int)).toNat = j := by
              rw [seqIndex_neg (by omega) h4] at h1
              rw [List.size_toArray, ← hl]
              exact Option.some.inj h1
            exact wpAny_getItem_list_neg pl.isList (by omega) (by rw [List.size_toArray] <;> omega) (by omega) (by rw [hj]; simpa using ew) fin
      | _ => exact o1.elim
theorem s1_augS {o i a : Expr} {p pos : Pos} {mo mi ma : Ev → MH → R D} {b : Bo} {op : Operator} (hu : X.A.units + 200 < cLine) (ho : SE T X W o mo) (hi : SE T X W i mi) (ha : SE T X W a ma)
    (hp : ∀ w, PIp X op (R2m T w (augO b))) (hb : ∀ x y h c p h1, augO b x y h ≠ .exn c p h1)
    (hst : ∀ ov iv new, augStore i ov iv new = (do holding [new, ov, iv] (setItem ov iv new); release [new, ov, iv] []; pure .next)) :
    S1 T X W (.AugAssign (.Subscript o i p) op a pos) (fun e h => evS (mo e h) fun x h => evS (mi e h) fun k h => match augI x k h with
      | some u => evS (ma e h) fun w h => augW b u x k w e h
      | none => .stuck) := by
  refine ⟨fun pins s σ H D0 I ⟨g, h, e, r, s0, o⟩ => (ps_augS ho hi (get_m (T := T) (W := fun c d H' => W c d σ H') hu) ha (hp fun c d H' => W c d σ H') (set_m (T := T) hu) hst).run _ _ σ H D0 I ?_⟩
  refine tE.bindS (D0 := D0) (f := fun x e h => evS (mi e h) fun k h => match augI x k h with
      | some u => evS (ma e h) fun w h => augW b u x k w e h
      | none => .stuck) r s0 o fun x xv h1 H1 g1 _ r1 s1 q1 x1 o1 => ?_
  refine tE.bindS (D0 := D0) (f := fun k e h => match augI x k h with
      | some u => evS (ma e h) fun w h => augW b u x k w e h
      | none => .stuck) r1 s1 o1 fun k kv h2 H2 g2 _ r2 s2 q2 x2 o2 => ?_
  have qx2 := q1.mono x2 r1
  cases y : augI x k h2 with
  | none => rw [y] at o2; exact o2.elim
  | some u =>
    rw [y] at o2
    have o2 : OutS T g2 H2 (evS (ma e h2) fun w h => augW b u x k w e h) D0 W := o2
    have yy : (∃ n, x = .ref n) ∧ idxD x k h2 = some (.int u) := by
      unfold augI at y
      by_cases c : isRef x = true
      · rw [if_pos c] at y
        refine ⟨?_, ?_⟩
        · cases x with
          | ref n => exact ⟨n, rfl⟩
          | _ => cases c
        · cases z : idxD x k h2 with
          | none => rw [z] at y; cases y
          | some d =>
            rw [z] at y
            cases d with
            | int i => cases y; rfl
            | _ => cases y
      · rw [if_neg c] at y; cases y
    refine ⟨g2, h2, x, k, r2, qx2, q2, yy.1, ?_⟩
    show Out T g2 H2 (match idxD x k h2 with
      | some d => .ok d h2
      | none => .stuck) _ _
    rw [yy.2]
    intro uv H3 g3 r3 x3 q3
    refine tE.bindS (D0 := D0) (f := fun w e h => augW b u x k w e h) r3 (s2.mono x3 r2) (OutS.ext x3 r2 r3 o2) fun w wv h4 H4 g4 _ r4 s4 q4 x4 o4 => ?_
    cases w with
    | int w =>
      have o4 : OutS T g4 H4 (match augO b (.int u) (.int w) h4 with
        | .ok v h4 => (match subD x k v h4 with
          | some h5 => .nx e h5
          | none => .stuck)
        | _ => .stuck) D0 W := o4
      intro _
      refine ⟨g4, h4, .int u, .int w, r4, q3.mono x4 r3, q4, ?_⟩
      have nn := hb (.int u) (.int w) h4
      revert o4 nn
      cases augO b (.int u) (.int w) h4 with
      | stuck => exact fun o _ => o.elim
      | exn c p h1 => exact fun o _ => o.elim
      | ok v h5 =>
        intro o5 _ nv H5 g5 r5 x5 q5
        have o6 : OutS T g5 H5 (match subD x k v h5 with
          | some h5 => .nx e h5
          | none => .stuck) D0 W := OutS.ext x5 r4 r5 o5
        refine ⟨g5, h5, x, k, v, r5, ((qx2.mono x3 r2).mono x4 r3).mono x5 r4, ((q2.mono x3 r2).mono x4 r3).mono x5 r4, q5, ?_⟩
        revert o6
        cases subD x k v h5 with
        | none => exact fun o => o
        | some h6 => exact fun o H6 g6 r6 x6 => o σ H6 g6 r6 x6 ((s4.mono x5 r4).mono x6 r5)
    | _ => exact o4.elim
end
end Mi
namespace Mi
open PySem PySem.Spec PyProof.Rows L2
section
variable {X : Cx} {CX : CXT} {k n : Nat} {f : Addr} {fd : FuncData} {ps ks : List Str} {sp : Sp} {E : St → XK} {x : Str} {p pos : Pos} {e : Expr} {es : List Expr} {kws : List Keyword} {t tk : TA} {g : List Value → List Value → List Value} {gV : List V → List V → List V}
theorem run_fnSK {pins : List (Addr × Obj)} {σ : St} {H : Hp} {s : Shared} {Q : VK} {us ws : List Value} {vs zs : List V} (F : FnOk X.prog X.w X.K X.mg X.base CX k f fd ps sp) (hr : Room k X.A) (hb : KBn X.K fd ps n ks g gV) (hx : PassesAt CX X σ (E σ))
    (I : Inv X pins σ H s) (r : Vals vs us) (rz : Vals zs ws) (l1 : vs.length = n) (l2 : zs.length = ks.length) (h : sp (gV vs zs) H Q (E σ)) : wpAny (model X.prog X.w) X.A (call (.ref f) us (ks.zip ws)) (EP X pins σ Q) X.xe s := by
  have r2 := hb.rel r rz
  refine wpAny_call (codeAny_mono (F.run X.A X.stack s H ⟨us, ks.zip ws⟩ (g us ws) (gV vs zs) Q (E σ) hr I.env0 (hb.to s us ws I.kIn (r.length.symm.trans l1) (rz.length.symm.trans l2)) r2 h) fun r s' hq => ?_)
  cases r with
  | error e => exact hx pins H s e s' I hq
  | ok fl =>
    cases fl with
    | ret u => exact I.after hq
    | next => exact False.elim hq
    | brk => exact False.elim hq
    | cont => exact False.elim hq
def tCallSK (n m : Nat) (sp : Sp) (gV : List V → List V → List V) (E : St → XK) (t tk : TA) : TE := fun σ H Q => t σ H fun vs H1 => tk σ H1 fun zs H2 => vs.length = n ∧ zs.length = m ∧ sp (gV vs zs) H2 Q (E σ)
theorem pe_callSK (F : FnOk X.prog X.w X.K X.mg X.base CX k f fd ps sp) (hr : Room k X.A) (hg : Gl X x) (hm : X.mg x = some (.ref f)) (hk : PySem.W.keepIn X.K (.ref f) = true) (hb : KBn X.K fd ps n ks g gV) (hx : ∀ σ, PassesAt CX X σ (E σ))
    (ha : PA X (e :: es) t) (hkw : PK X kws tk) (hall : (backToKw pos (keywordEach kws X.env)).all (·.1.isSome) = true) (hks : (backToKw pos (keywordEach kws X.env)).filterMap (·.1) = ks)
    (hdb : (x == ("__debug__" : Str)) = false) (he : starEach (e :: es) X.env = (false, eval e X.env) :: starEach es X.env)
    (hpl : ((backTo pos (starEach (e :: es) X.env)).any (·.1) || (backToKw pos (keywordEach kws X.env)).any (·.1.isNone)) = false) :
    PE X (.Call (.Name x p) (e :: es) kws pos) (tCallSK n ks.length sp gV E t tk) := by
  refine ⟨fun pins s σ H Q I h => ?_⟩
  refine wpAny_Call_Name_kw (ld_glob I hg hm ?_ hdb)
  refine PySem.W.callWith_KW (h₀ := X.base) I.ok.mod.kin hk hall (thn (ha.run pos pins s σ H _ I h) fun us s1 ⟨vs, H1, I1, r, q⟩ => ?_) hpl he
  refine thn (hkw.run pos pins s1 σ H1 _ I1 q) fun ws s2 ⟨zs, H2, I2, rz, l1, l2, q2⟩ => ⟨I2.kIn, ?_⟩
  rw [hks]
  exact run_fnSK F hr hb (hx σ) I2 r rz l1 l2 q2
end
end Mi
namespace Mi
open PySem PySem.Spec PyProof.Rows L2
def spF (T : Tx) (ft : FT) (f np : Nat) : Sp := fun vs H Q E => vs.length = np ∧ ∃ g h ds, Rel T H g h ∧ RepL T H g ds vs ∧ Out T g H (ft f ds h) Q E
structure CalF (T : Tx) (X : Cx) (k : Nat) (ft : FT) (f np : Nat) (nd : List Int) (kw : Str) : Prop where
  kp : PySem.W.keepIn X.K (.ref (T.fa f)) = true
  len : ∀ ds h, ds.length ≠ np → ft f ds h = .stuck
  ex : ∃ fd ps, ps.length = np ∧ FnOk X.prog X.w X.K X.mg X.base (L2N.CX X.prog X.w) k (T.fa f) fd ps (spF T ft f np) ∧ Binds X.K fd ps [] ∧ (nd ≠ [] → ∃ ds, Vals (nd.map V.int) ds ∧ Binds X.K fd ps ds) ∧ (nd ≠ [] → np = 2 → ∃ gg, KBn X.K fd ps 1 [kw] gg (fun vs zs => vs ++ zs))
section
variable {T : Tx} {X : Cx} {W : WX} {H H1 H2 : Hp} {g g1 g2 : Gr} {h h1 : MH}
theorem RepL.intsD : ∀ (ns : List Int), RepL T H g (ns.map D.int) (ns.map V.int) := RepL.ints
theorem se_call {x : Str} {p pos : Pos} {e : Expr} {es : List Expr} {k f np : Nat} {nd dl : List Int} {ft : FT} {kw : Str} {ma : Ev → MH → R (List D)} (c : CalF T X k ft f np nd kw) (hr : Room k X.A) (tk : L2N.Takes X W) (hg : Gl X x) (hm : X.mg x = some (.ref (T.fa f))) (hdb : (x == ("__debug__" : Str)) = false)
    (hdl : dl = [] ∨ dl = nd) (hst : (e :: es).all noStar = true) (ha : SA T X W (e :: es) ma) : SE T X W (.Call (.Name x p) (e :: es) [] pos) (fun ev h => (ma ev h).bind fun ds h => ft f (ds ++ dl.map .int) h) := by
  have hst' := hst
  simp only [List.all_cons, Bool.and_eq_true] at hst'
  obtain ⟨fd, ps, hlen, F, b0, bd, _⟩ := c.ex
  have main : ∀ (ds : List Value), Vals (dl.map V.int) ds → Binds X.K fd ps ds → SE T X W (.Call (.Name x p) (e :: es) [] pos) (fun ev h => (ma ev h).bind fun ds h => ft f (ds ++ dl.map .int) h) := fun ds hd hb => by
    refine PE.imp (pe_callSD F hr hg hm c.kp hb hd (fun σ => L2N.passAt tk σ) ha hdb (star_cons hst'.1) (star_none hst'.2)) fun σ H Q ⟨g, h, ev, r, s, o⟩ => ?_
    refine tA.bind (f := fun ds ev h => ft f (ds ++ dl.map .int) h) r s o fun ds vs h1 H1 g1 _ r1 s1 q1 x1 o1 => ?_
    have q2 : RepL T H1 g1 (ds ++ dl.map .int) (vs ++ dl.map V.int) := q1.append (RepL.ints dl)
    refine ⟨?_, g1, h1, _, r1, q2, o1⟩
    rw [← q2.length]
    by_cases z : (ds ++ dl.map D.int).length = np
    · exact z
    · rw [c.len _ h1 z] at o1; exact o1.elim
  rcases hdl with z | z
  · subst z; exact main [] .nil b0
  · by_cases y : dl = []
    · subst y; exact main [] .nil b0
    · subst z
      obtain ⟨ds, hd, hb⟩ := bd y
      exact main ds hd hb
theorem se_callK {x kw : Str} {p pos kp : Pos} {e v : Expr} {k f : Nat} {nd : List Int} {ft : FT} {ma mv : Ev → MH → R D} (c : CalF T X k ft f 2 nd kw) (hnd : nd ≠ []) (hr : Room k X.A) (tk : L2N.Takes X W) (hg : Gl X x) (hm : X.mg x = some (.ref (T.fa f))) (hdb : (x == ("__debug__" : Str)) = false)
    (hst : noStar e = true) (ha : SE T X W e ma) (hv : SE T X W v mv) : SE T X W (.Call (.Name x p) [e] [⟨some kw, v, kp⟩] pos) (fun ev h => (ma ev h).bind fun a h => (mv ev h).bind fun b h => ft f [a, b] h) := by
  obtain ⟨fd, ps, hlen, F, b0, bd, kb⟩ := c.ex
  obtain ⟨gg, hb⟩ := kb hnd rfl
  refine PE.imp (pe_callSK (ks := [kw]) F hr hg hm c.kp hb (fun σ => L2N.passAt tk σ) (sa_one hst ha) (pk_cons hv pk_nil) rfl rfl hdb (star_cons hst) (by rw [Bool.or_eq_false_iff]; exact ⟨star_none (by simp [hst]), rfl⟩)) fun σ H Q ⟨g, h, ev, r, s, o⟩ => ?_
  refine ⟨g, h, ev, r, s, ?_⟩
  have o : Out T g H ((ma ev h).bind fun a h => (mv ev h).bind fun b h => ft f [a, b] h) Q (fun c d H' => W c d σ H') := o
  revert o
  show _ → OutA T g H ((ma ev h).bind fun x h => .ok [x] h) _ _
  cases ma ev h with
  | stuck => exact fun o => o
  | exn c p h1 => exact fun o => o
  | ok a h1 =>
    intro o vs H1 g1 r1 x1 q1
    have o : Out T g1 H1 ((mv ev h1).bind fun b h => ft f [a, b] h) Q (fun c d H' => W c d σ H') := Out.ext x1 r r1 o
    obtain ⟨v1, rfl⟩ : ∃ v1, vs = [v1] := by
      cases vs with
      | nil => exact q1.elim
      | cons v1 vs => cases vs with
        | nil => exact ⟨v1, rfl⟩
        | cons _ _ => exact q1.2.elim
    refine tE.bind (f := fun b ev h => ft f [a, b] h) r1 (s.mono x1 r) o fun b w h2 H2 g2 e2 r2 s2 q2 x2 o2 => ?_
    refine ⟨rfl, rfl, ?_⟩
    exact ⟨rfl, g2, h2, [a, b], r2, ⟨RepV.mono x2 r1 _ _ q1.1, q2, True.intro⟩, o2⟩
structure ExcOk (X : Cx) (C : Addr) : Prop where
  q : PySem.W.excIn X.K C He.veBase "ValueError.__new__" = true
  kp : PySem.W.keepIn X.K (.ref C) = true
  r : Raises X (.ref C)
theorem pmk0 {C : Addr} {x : Str} {p pos : Pos} (c : ExcOk X C) (gC : X.mg x = some (.ref C)) (hg : Gl X x) (hdb : (x == ("__debug__" : Str)) = false) : L2N.PMk X (.Call (.Name x p) [] [] pos) (fun _ H Q => Q (.ref C) none H) := by
  intro pins s σ H Q I h
  refine wpAny_Call_Name_kw (ld_glob I hg gC ?_ hdb)
  refine PySem.W.callWith_K0 I.kIn c.kp ?_
  obtain ⟨bm, N, nm, qn, bs, hdct, sn, sub, ab, col, dd, k0, k1, k2, k3, k5, mN, hC, hN, hni, Tl⟩ := exc_obj I.kIn c.q
  refine wpAny_call_exc_subT PySem.F.excBase_ValueError Tl hC hN hni (fun h' e hm => ?_) (by show 0 ≤ sizeLine; exact Nat.zero_le _)
  exact L2N.mk_of I hm c.r h (I.hok.gone hm.new)
theorem s1_raise0 {C : Nat} {x : Str} {p pos pos' : Pos} (hc : X.calm = true) (tk : L2N.Takes X W) (c : ExcOk X (T.xa C)) (gC : X.mg x = some (.ref (T.xa C))) (hg : Gl X x) (hdb : (x == ("__debug__" : Str)) = false) :
    S1 T X W (.Raise (some (.Call (.Name x p) [] [] pos')) none pos) (fun e h => .exn C none h) :=
  PS.imp (L2N.ps_raise hc tk (pmk0 c gC hg hdb)) fun D0 σ H ⟨g, h, e, r, s, o⟩ => o σ none H g r (.refl _ _) rfl
end
end Mi
namespace Mi
open PySem PySem.Spec PyProof.Rows L2
section
variable {T : Tx} {X : Cx} {W : WX}
theorem MetM.one {id : String} {m : Mt} (h2 : ∀ o a b h, met2 m o a b h = .stuck)
    (k : ∀ (W : XW) (pins : List (Addr × Obj)) (s : Shared) (σ : St) (H : Hp) (x y : V) (v u : Value) (Q : VK) (g : Gr) (h : MH) (d a : D), Inv X pins σ H s → RelV x v → RelV y u → SzH H → Rel T H g h → RepV T H g d x → RepV T H g a y → Out T g H (met1 m d a h) Q W →
      wpAny (model X.prog X.w) X.A (PySem.call (.builtin id) [v, u]) (EP X pins σ Q) X.xe s) : MetM T X id (metD m) := by
  refine MetM.of fun W pins s σ H x xs v us Q g h d ds I rx rs sz r rd rds o => ?_
  match ds, xs, rds, o with
  | [a], [y], rds, o =>
    obtain ⟨u, rfl, ru⟩ := rs.one
    exact k W pins s σ H x y v u Q g h d a I rx ru sz r rd rds.1 o
  | [a, b], _, _, o => exact (show Out T g H (met2 m d a b h) Q W from o) |> fun o => by rw [h2] at o; exact o.elim
theorem count_bools (k : Bool) : ∀ {bs : List Bool} {its : List Value}, Vals (bs.map V.bl) its → (∀ y ∈ its, ∃ b, y = Value.bool b) ∧ its.countP (isBoolOf k) = bs.count k
  | [], _, .nil => ⟨fun _ h => (nomatch h), rfl⟩
  | b :: bs, u :: us, .cons r t => by
    obtain ⟨h1, h2⟩ := count_bools k (bs := bs) t
    have e : u = Value.bool b := r
    subst e
    refine ⟨fun y hy => ?_, ?_⟩
    · rcases List.mem_cons.mp hy with e | e
      · exact ⟨b, e⟩
      · exact h1 y e
    · rw [List.countP_cons, List.count_cons, h2]
      rfl
theorem count_m (hK : X.K = T.K) : MetM T X "list.count" (metD .count) := by
  refine MetM.one (fun _ _ _ _ => rfl) fun W pins s σ H x y v u Q g h d a I rx ry sz r rd ra o => ?_
  have o : Out T g H (countD d a h) Q W := o
  unfold countD at o
  cases e : lits h d with
  | none => rw [e] at o; exact o.elim
  | some xs =>
    rw [e] at o
    obtain ⟨p, vs, rfl, hp, qv⟩ := lits_at r rd e
    cases a with
    | bl b =>
      simp only at o
      cases e2 : blsD xs with
      | none => rw [e2] at o; exact o.elim
      | some bs =>
        rw [e2] at o
        have ev := qv.ofBls e2
        subst ev
        have ey : y = .bl b := ra
        subst ey
        have ru : u = Value.bool b := ry
        subst ru
        have rv : v = Value.ref p := rx
        subst rv
        obtain ⟨its, rv, ⟨⟨cls, dd, data, sl⟩, n, ho, hc, hdn, hd⟩, hlen⟩ := I.list (SqL.of hp)
        simp only at hc hd
        subst hc hd
        obtain ⟨c1, c2⟩ := count_bools b rv
        refine call_meets PySem.F.slot_list_count ⟨_, ho, rfl⟩ PySem.F.entry_list_count (PySem.F.args_list_count_2 _ _)
          (SeqAt.list_countAt p its.toArray n dd sl (.bool b) (isBoolOf b)) ⟨ho, fun y hy => ?_, ?_⟩
        · obtain ⟨b', rfl⟩ := c1 y (by simpa using hy)
          exact SeqAt.EqAt.bool_bool b' b
        · have ec : its.toArray.toList.countP (isBoolOf b) = bs.count b := c2
          refine ⟨.int (bs.count b : Nat), H, I.tok _, ⟨s.toks, ?_⟩, o.here r rfl⟩
          show Value.int ((its.toArray.toList.countP (isBoolOf b) : Nat) : Int) s.toks = Value.int ((bs.count b : Nat) : Int) s.toks
          rw [ec]
    | int i =>
      simp only at o
      cases e2 : intsD xs with
      | none => rw [e2] at o; exact o.elim
      | some is =>
        rw [e2] at o
        have ev := qv.ofInts e2
        subst ev
        have ey : y = .int i := ra
        subst ey
        exact mt_lcount pins s σ H _ [.int i] v [u] Q I rx (.cons ry .nil) ⟨p, is, i, rfl, rfl, SqL.of hp, o.here r rfl⟩
    | _ => exact o.elim
theorem where_at {a : D} {n : Nat} (ha : okD n a = true) : ∀ {xs : List D} {j : Nat}, xs.all (okD n) = true → whereD a xs = some j → ∃ z, (toPL xs)[j]? = some z ∧ PyData.eqv z (toP a) = true ∧ ∀ (m : Nat) (z' : PyData), m < j → (toPL xs)[m]? = some z' → PyData.eqv z' (toP a) = false
  | [], j, _, e => by cases e
  | x :: xs, j, k, e => by
    simp only [List.all_cons, Bool.and_eq_true] at k
    have q := eqD_ok n x a k.1 ha
    unfold whereD at e
    by_cases c : eqD x a = true
    · rw [if_pos c] at e
      cases e
      exact ⟨toP x, rfl, by rw [← q]; exact c, fun m z' hm => absurd hm (Nat.not_lt_zero _)⟩
    · rw [if_neg c] at e
      cases w : whereD a xs with
      | none => rw [w] at e; cases e
      | some i =>
        rw [w] at e
        cases e
        obtain ⟨z, z1, z2, z3⟩ := where_at ha k.2 w
        refine ⟨z, by simpa [toPL] using z1, z2, fun m z' hm hz => ?_⟩
        cases m with
        | zero =>
          have : toP x = z' := by simpa [toPL] using hz
          rw [← this, ← q]
          simpa using c
        | succ m => exact z3 m z' (Nat.lt_of_succ_lt_succ hm) (by simpa [toPL] using hz)
theorem okD_up : ∀ (n : Nat) (d : D), okD n d = true → okD (n + 1) d = true
  | 0, d, k => by cases d <;> first | exact k | (simp [okD] at k)
  | n + 1, d, k => by
    cases d with
    | tup xs =>
      have k : xs.all (okD n) = true := k
      rw [List.all_eq_true] at k
      show xs.all (okD (n + 1)) = true
      rw [List.all_eq_true]
      exact fun x hx => okD_up n x (k x hx)
    | lst xs =>
      have k : xs.all (okD n) = true := k
      rw [List.all_eq_true] at k
      show xs.all (okD (n + 1)) = true
      rw [List.all_eq_true]
      exact fun x hx => okD_up n x (k x hx)
    | _ => first | exact k | (simp [okD] at k)
theorem RepL.eraseIdx {H : Hp} {g : Gr} : ∀ {ds : List D} {vs : List V}, RepL T H g ds vs → ∀ i, RepL T H g (ds.eraseIdx i) (vs.eraseIdx i)
  | [], [], _, _ => True.intro
  | d :: ds, v :: vs, q, 0 => q.2
  | d :: ds, v :: vs, q, i + 1 => ⟨q.1, RepL.eraseIdx q.2 i⟩
  | [], _ :: _, q, _ => q.elim
  | _ :: _, [], q, _ => q.elim
theorem index_m (hK : X.K = T.K) (hu : X.A.units + 200 < cLine) : MetM T X "list.index" (metD .index) := by
  refine MetM.one (fun _ _ _ _ => rfl) fun W pins s σ H x y v u Q g h d a I rx ry sz r rd ra o => ?_
  have o : Out T g H (indexD d a h) Q W := o
  unfold indexD at o
  cases e : lits h d with
  | none => rw [e] at o; exact o.elim
  | some xs =>
    rw [e] at o
    obtain ⟨p, vs, rfl, hp, qv⟩ := lits_at r rd e
    simp only at o
    by_cases c : (okD 7 (res h 7 a) && (xs.map (res h 7)).all (okD 7)) = true
    · rw [if_pos c] at o
      rw [Bool.and_eq_true] at c
      cases w : whereD (res h 7 a) (xs.map (res h 7)) with
      | none => rw [w] at o; exact o.elim
      | some j =>
        rw [w] at o
        obtain ⟨z, z1, z2, z3⟩ := where_at c.1 c.2 w
        refine mt_indexD (by omega) pins s σ H _ [y] v [u] Q I rx (.cons ry .nil) ⟨p, y, toP (res h 7 a), toPL (xs.map (res h 7)), j, z, rfl, rfl, ?_, ?_, ?_, ?_, z1, z2, z3, o.here r rfl⟩
        · exact .lst (SqL.of hp) (by rw [hK]; exact dpAll_of r 7 qv c.2)
        · rw [hK]; exact dp_of r 7 a y ra c.1
        · have k : okD 8 (.lst (xs.map (res h 7))) = true := c.2
          exact shaped_of k
        · exact shaped_of (okD_up 7 _ c.1)
    · rw [if_neg c] at o; exact o.elim
theorem pop_m : MetM T X "list.pop" (metD .pop) := by
  refine MetM.one (fun _ _ _ _ => rfl) fun W pins s σ H x y v u Q g h d a I rx ry sz r rd ra o => ?_
  cases d with
  | ref n =>
    obtain ⟨p, rfl, ep⟩ := rd
    have o : Out T g H (popD n a h) Q W := o
    unfold popD at o
    cases z : h[n]? with
    | none => rw [z] at o; exact o.elim
    | some ob =>
      rw [z] at o
      cases ob with
      | lst es =>
        obtain ⟨vs, e1, q1⟩ := r.lst_at z ep
        cases a with
        | int i =>
          simp only at o
          cases w : Mi.ixN es.length i with
          | none => rw [w] at o; exact o.elim
          | some j =>
            rw [w] at o
            simp only at o
            cases w2 : es[j]? with
            | none => rw [w2] at o; exact o.elim
            | some d =>
              rw [w2] at o
              obtain ⟨dv, ev, qd⟩ := q1.get w2
              have ey : y = .int i := ra
              subst ey
              have hl := q1.length
              have hz := sz.lst p vs e1
              have hn := line63
              have w' := w
              rw [ixN_eq, hl] at w'
              have bd : -(2 ^ 63) ≤ i ∧ i < 2 ^ 63 ∧ seqIndex? i vs.length = some j := by
                obtain ⟨b1, b2, b3, b4⟩ := L2.ixN_seq w'
                have b5 := sizeLine_eq
                exact ⟨by omega, by omega, b1⟩
              refine mt_popAt pins s σ H _ [.int i] v [u] Q I rx (.cons ry .nil) ⟨p, vs, i, j, dv, rfl, rfl, e1, bd.1, bd.2.1, bd.2.2, ev, ?_⟩
              have hf : ∀ ob u, H p ≠ some (.frz ob u) := fun ob u z => by rw [e1] at z; cases z
              have x1 : Ext g H g (upd H p (.lst (vs.eraseIdx j))) := Ext.write ep hf
              refine o dv _ g (r.write ep ⟨_, upd_same, RepL.eraseIdx (RepL.mono x1 r _ _ q1) j⟩) x1 (qd.mono x1 r)
        | _ => exact o.elim
      | _ => exact o.elim
  | _ => exact o.elim
theorem get_mt (hu : X.A.units + 200 < cLine) : MetM T X "dict.get" (metD .get) := by
  refine MetM.of fun W pins s σ H x xs v us Q g h d ds I rx rs sz r rd rds o => ?_
  match ds, xs, rds, o with
  | [a], [y], rds, o =>
    obtain ⟨u, rfl, ru⟩ := rs.one
    have o : Out T g H (getD1 d a h) Q W := o
    unfold getD1 at o
    cases e : dget h d a with
    | none => rw [e] at o; exact o.elim
    | some od =>
      rw [e] at o
      obtain ⟨p, ov, rfl, dg, ro⟩ := dget_at r rd rds.1 e
      have rv : v = Value.ref p := rx
      subst rv
      refine d_get1 (by omega) I dg ru fun w' s' I' rw' => ⟨_, H, I', rw', o.here r ?_⟩
      cases od with
      | none => cases ov with
        | none => exact rfl
        | some _ => exact ro.elim
      | some d' => cases ov with
        | none => exact ro.elim
        | some v' => exact ro
  | [a, b], [y, z], rds, o =>
    obtain ⟨u1, u2, rfl, ru1, ru2⟩ : ∃ u1 u2, us = [u1, u2] ∧ RelV y u1 ∧ RelV z u2 := by
      cases rs with
      | cons r1 t => cases t with
        | cons r2 t2 => cases t2; exact ⟨_, _, rfl, r1, r2⟩
    have o : Out T g H (getD2 d a b h) Q W := o
    unfold getD2 at o
    cases e : dget h d a with
    | none => rw [e] at o; exact o.elim
    | some od =>
      rw [e] at o
      obtain ⟨p, ov, rfl, dg, ro⟩ := dget_at r rd rds.1 e
      have rv : v = Value.ref p := rx
      subst rv
      refine d_get2 (by omega) I dg ru1 ru2 fun w' s' I' rw' => ⟨_, H, I', rw', o.here r ?_⟩
      cases od with
      | none => cases ov with
        | none => exact rds.2.1
        | some _ => exact ro.elim
      | some d' => cases ov with
        | none => exact ro.elim
        | some v' => exact ro
end
end Mi
namespace Mi
open PySem PySem.Spec PyProof.Rows L2
theorem perm_uniq {α : Type} {le : α → α → Prop} (anti : ∀ a b, le a b → le b a → a = b) : ∀ {l m : List α}, l.Pairwise le → m.Pairwise le → l.Perm m → l = m
  | [], m, _, _, p => (List.Perm.eq_nil p.symm).symm
  | x :: l, [], _, _, p => absurd p.length_eq (by simp)
  | x :: l, y :: m, hl, hm, p => by
    have hl' := List.pairwise_cons.mp hl
    have hm' := List.pairwise_cons.mp hm
    have e : x = y := by
      have h1 : x ∈ y :: m := p.mem_iff.mp (List.mem_cons_self ..)
      have h2 : y ∈ x :: l := p.mem_iff.mpr (List.mem_cons_self ..)
      rcases List.mem_cons.mp h1 with h1 | h1
      · exact h1
      · rcases List.mem_cons.mp h2 with h2 | h2
        · exact h2.symm
        · exact anti x y (hl'.1 y h2) (hm'.1 x h1)
    subst e
    rw [perm_uniq anti hl'.2 hm'.2 (List.Perm.cons_inv p)]
theorem sortI_perm (is : List Int) : (sortI is).Perm is := List.mergeSort_perm _ _
theorem sortI_sorted (is : List Int) : (sortI is).Pairwise (· ≤ ·) := by
  have := List.pairwise_mergeSort (le := fun a b : Int => decide (a ≤ b)) (fun a b c h1 h2 => by simp at h1 h2 ⊢; omega) (fun a b => by simp; omega) is
  exact this.imp fun h => by simpa using h
theorem sortI_uniq {is js : List Int} (p : js.Perm is) (s : js.Pairwise (· ≤ ·)) : js = sortI is :=
  perm_uniq (le := (· ≤ ·)) (fun a b h1 h2 => by omega) s (sortI_sorted is) (p.trans (sortI_perm is).symm)
theorem leP_iff (a b : Int × Int) : leP a b = true ↔ a.1 < b.1 ∨ (a.1 = b.1 ∧ a.2 ≤ b.2) := by simp [leP]
theorem sortP_perm (is : List (Int × Int)) : (sortP is).Perm is := List.mergeSort_perm _ _
theorem sortP_sorted (is : List (Int × Int)) : (sortP is).Pairwise (fun a b => leP a b = true) :=
  List.pairwise_mergeSort (fun a b c h1 h2 => by rw [leP_iff] at *; omega) (fun a b => by rw [Bool.or_eq_true, leP_iff, leP_iff]; omega) is
theorem sortP_uniq {is js : List (Int × Int)} (p : js.Perm is) (s : js.Pairwise fun a b => leP a b = true) : js = sortP is :=
  perm_uniq (le := fun a b => leP a b = true) (fun a b h1 h2 => by
    rw [leP_iff] at h1 h2
    exact Prod.ext (by omega) (by omega)) s (sortP_sorted is) (p.trans (sortP_perm is).symm)
section
variable {T : Tx} {X : Cx} {W : WX} {H : Hp} {g : Gr} {h : MH}
def kOfH (H : Hp) : V → Int × Int
  | .ref t => match H t with
    | some (.tup [.int i, .int j]) => (i, j)
    | _ => (0, 0)
  | _ => (0, 0)
theorem prI_rep : ∀ {xs : List D} {vs : List V} {ps : List (Int × Int)}, prI xs = some ps → RepL T H g xs vs → vs.map (kOfH H) = ps ∧ ∀ v ∈ vs, ∃ t, v = .ref t ∧ H t = some (.tup [.int (kOfH H v).1, .int (kOfH H v).2])
  | [], [], ps, e, _ => by cases e; exact ⟨rfl, fun _ h => nomatch h⟩
  | .tup [.int i, .int j] :: xs, v :: vs, ps, e, q => by
    simp only [prI] at e
    cases z : prI xs with
    | none => rw [z] at e; cases e
    | some qs =>
      rw [z] at e
      cases e
      obtain ⟨h1, h2⟩ := prI_rep z q.2
      obtain ⟨a, us, rfl, ea, qa⟩ := q.1
      obtain ⟨u1, u2, rfl⟩ : ∃ u1 u2, us = [u1, u2] := by
        match us, qa with
        | [u1, u2], _ => exact ⟨u1, u2, rfl⟩
        | [], qa => exact qa.elim
        | [_], qa => exact qa.2.elim
        | _ :: _ :: _ :: _, qa => exact qa.2.2.elim
      have e1 : u1 = .int i := qa.1
      have e2 : u2 = .int j := qa.2.1
      subst e1 e2
      have k : kOfH H (.ref a) = (i, j) := by simp [kOfH, ea]
      refine ⟨by rw [List.map_cons, h1, k], fun v hv => ?_⟩
      rcases List.mem_cons.mp hv with e | e
      · subst e; exact ⟨a, rfl, by rw [k, ea]⟩
      · exact h2 v e
  | [], _ :: _, _, _, q => q.elim
  | _ :: _, [], _, _, q => q.elim
theorem prs_rep : ∀ {vs : List V}, (∀ v ∈ vs, ∃ t, v = .ref t ∧ H t = some (.tup [.int (kOfH H v).1, .int (kOfH H v).2])) → RepL T H g ((vs.map (kOfH H)).map prDD) vs
  | [], _ => True.intro
  | v :: vs, k => by
    obtain ⟨t, e, ht⟩ := k v (List.mem_cons_self ..)
    refine ⟨⟨t, [.int (kOfH H v).1, .int (kOfH H v).2], e, ht, rfl, rfl, True.intro⟩, prs_rep fun u hu => k u (List.mem_cons_of_mem _ hu)⟩
theorem sorted_m {m : Bool} : CallM T X (.builtin "sorted") (prim (.sorted m)) := by
  refine CallM.one (fun ds h k => prim_one rfl k) fun W pins s σ H x us Q g h d I rx sz r rd o => ?_
  have o : Out T g H (sortedD m d h) Q W := o
  unfold sortedD at o
  cases e : lits h d with
  | none => rw [e] at o; exact o.elim
  | some xs =>
    rw [e] at o
    obtain ⟨p, vs, rfl, hp, qv⟩ := lits_at r rd e
    have o : Out T g H (match sortL xs with
      | some ys => if ys.length ≤ 4000 then mk m ys h else .stuck
      | none => .stuck) Q W := o
    cases z : sortL xs with
    | none => rw [z] at o; exact o.elim
    | some ys =>
      rw [z] at o
      simp only at o
      by_cases c : ys.length ≤ 4000
      · rw [if_pos c] at o
        unfold sortL at z
        cases e2 : intsD xs with
        | some is =>
          rw [e2] at z
          cases z
          have ev := qv.ofInts e2
          subst ev
          exact cr_sortedI pins s σ H _ us Q I rx ⟨p, is, rfl, SqL.of hp, fun ns' q pm sd hn => by
            rw [sortI_uniq pm sd]
            exact Out.mk r hn (RepL.ints _) o⟩
        | none =>
          rw [e2] at z
          cases e3 : prI xs with
          | none => rw [e3] at z; cases z
          | some ps =>
            rw [e3] at z
            cases z
            obtain ⟨k1, k2⟩ := prI_rep e3 qv
            exact cr_sortedPO pins s σ H _ us Q I rx ⟨p, vs, kOfH H, rfl, SqL.of hp, k2, fun ys q sd sb hn => by
              have e4 : ys.map (kOfH H) = sortP ps := by
                refine sortP_uniq (by rw [← k1]; exact sb.perm.map _) ?_
                rw [List.pairwise_map]
                refine sd.imp fun {a b} w => ?_
                have w := SrtO.lexB_no.mp w
                rw [leP_iff]
                omega
              have q2 : RepL T H g ((ys.map (kOfH H)).map prDD) ys := prs_rep fun v hv => k2 v (sb.perm.mem_iff.mp hv)
              rw [e4] at q2
              exact Out.mk r hn q2 o⟩
      · rw [if_neg c] at o; exact o.elim
end
end Mi
namespace Mi
open PySem PySem.Spec PyProof.Rows L2
structure XcF (K : PySem.W.Frag) (D : Addr) : Prop where
  cl : (PySem.W.clsIn K D).isSome = true
  ga : PySem.W.findIn K (.ref D) "__getattribute__" = some (some (.builtin "BaseException.__getattribute__"))
  gt : PySem.W.findIn K (.ref D) "__getattr__" = some none
  sb : PySem.W.subIn K (.ref D) (.type "BaseException") = some true
  ca : PySem.W.findIn K (.ref D) "__class__" = some (some (.builtin "object.__class__"))
  mo : PySem.W.mroIn K D (.type "object") = some true
def xcB (K : PySem.W.Frag) (D : Addr) : Bool :=
  (PySem.W.clsIn K D).isSome && (He.eqO (PySem.W.findIn K (.ref D) "__getattribute__") (some (some (.builtin "BaseException.__getattribute__"))) && (He.eqO (PySem.W.findIn K (.ref D) "__getattr__") (some none)
  && (decide (PySem.W.subIn K (.ref D) (.type "BaseException") = some true) && (He.eqO (PySem.W.findIn K (.ref D) "__class__") (some (some (.builtin "object.__class__"))) && decide (PySem.W.mroIn K D (.type "object") = some true)))))
theorem xcB_ok {K : PySem.W.Frag} {D : Addr} (h : xcB K D = true) : XcF K D := by
  obtain ⟨h1, h⟩ := He.ba h
  obtain ⟨h2, h⟩ := He.ba h
  obtain ⟨h3, h⟩ := He.ba h
  obtain ⟨h4, h⟩ := He.ba h
  obtain ⟨h5, h6⟩ := He.ba h
  exact ⟨h1, He.eqO_ok h2, He.eqO_ok h3, of_decide_eq_true h4, He.eqO_ok h5, of_decide_eq_true h6⟩
structure XAll (K : PySem.W.Frag) (xa : Nat → Addr) : Prop where
  hn : PySem.W.specialIn K (.builtin "object.__class__") "__get__" = some (some (.builtin "getset_descriptor.__get__"))
  ht : PySem.W.takesIn K (.builtin "object.__class__") = some true
  c : ∀ c, c < 15 → XcF K (xa c)
  exm : ∀ c, c < 15 → PySem.W.exmOne K (.ref (xa c)) (.ref (xa 15)) = some true
  kit : ∀ c, c < 15 → ∀ c', c' < 15 → PySem.W.kitOne K (.ref (xa c)) (.ref (xa c')) = some (decide (c' = c))
  kve : ∀ c, c < 15 → PySem.W.kitOne K (.ref (xa c)) (.type "ValueError") = some true
def xallB (K : PySem.W.Frag) (xa : Nat → Addr) : Bool :=
  He.eqO (PySem.W.specialIn K (.builtin "object.__class__") "__get__") (some (some (.builtin "getset_descriptor.__get__"))) && (decide (PySem.W.takesIn K (.builtin "object.__class__") = some true) && ((List.range 15).all (fun c => xcB K (xa c))
  && ((List.range 15).all (fun c => decide (PySem.W.exmOne K (.ref (xa c)) (.ref (xa 15)) = some true)) && ((List.range 15).all (fun c => (List.range 15).all fun c' => decide (PySem.W.kitOne K (.ref (xa c)) (.ref (xa c')) = some (decide (c' = c))))
  && (List.range 15).all (fun c => decide (PySem.W.kitOne K (.ref (xa c)) (.type "ValueError") = some true))))))
theorem rngB {p : Nat → Bool} {n : Nat} (h : (List.range n).all p = true) {c : Nat} (hc : c < n) : p c = true := List.all_eq_true.mp h c (List.mem_range.mpr hc)
theorem xallB_ok {K : PySem.W.Frag} {xa : Nat → Addr} (h : xallB K xa = true) : XAll K xa := by
  obtain ⟨h1, h⟩ := He.ba h
  obtain ⟨h2, h⟩ := He.ba h
  obtain ⟨h3, h⟩ := He.ba h
  obtain ⟨h4, h⟩ := He.ba h
  obtain ⟨h5, h6⟩ := He.ba h
  exact ⟨He.eqO_ok h1, of_decide_eq_true h2, fun c hc => xcB_ok (rngB h3 hc), fun c hc => of_decide_eq_true (rngB h4 hc), fun c hc c' hc' => of_decide_eq_true (rngB (rngB h5 hc) hc'), fun c hc => of_decide_eq_true (rngB h6 hc)⟩
section
variable {T : Tx} {X : Cx} {W : WX} {H H1 H2 : Hp} {g g1 g2 : Gr} {h h1 : MH}
structure Hot (T : Tx) (X : Cx) : Prop where
  xs : XAll X.K T.xa
  at_ : ∀ c a od, T.xv c = some (a, od) → c < 15 ∧ ∃ oe, (a, oe) ∈ X.pn ∧ Zc (.ref (T.xa c)) od oe ∧ ∃ vs, oe.data = .fields vs
def rIsX (T : Tx) (X : Cx) : List V → Hp → VK → Prop := fun xs H Q => ∃ (c : Nat) (a : Addr) (od : Option Addr) (t : V) (cv : Value) (b : Bool), xs = [.ref a, t] ∧ T.xv c = some (a, od) ∧ (∀ dd, od = some dd → ∃ fs, H dd = some (.xd fs)) ∧ (∀ u, RelV t u → u = cv) ∧
  PySem.W.kitOne X.K (.ref (T.xa c)) cv = some b ∧ Q (.bl b) H
theorem call_isX (hx : Hot T X) : CallR X (.builtin "isinstance") (rIsX T X) := by
  intro pins s σ H xs us Q I r ⟨c, a, od, t, cv, b, exs, ec, hd, hcv, e, q⟩
  subst exs
  match us, r with
  | [u, w], .cons rx (.cons rt .nil) =>
    cases rx
    have et := hcv _ rt
    subst et
    obtain ⟨hc, oe, hm, hz, vs, hv⟩ := hx.at_ c a od ec
    obtain ⟨ho, _⟩ := I.pin (a, oe) (List.mem_append.mpr (.inl hm))
    have F := hx.xs.c c hc
    have nc : PySem.W.notCls oe = true := by unfold PySem.W.notCls; rw [hv]
    have go : ∀ {ob : Option Obj}, PySem.W.InstAt s.heap a oe (T.xa c) ob → wpAny (model X.prog X.w) X.A (PySem.call (.builtin "isinstance") [Value.ref a, w]) (EP X pins σ Q) X.xe s := fun J =>
      PySem.W.kia_one (PySem.W.kitx_exc F.cl F.ga F.gt F.sb F.ca hx.xs.hn hx.xs.ht F.mo) I.kIn J e (fun z => nomatch z) fun tk => ⟨.bl b, H, I.kept (t' := tk) fun _ _ z => z, rfl, q⟩
    cases od with
    | none => exact go (ob := none) ⟨ho, hz.1, nc, by rw [hz.2]; trivial⟩
    | some dd =>
      obtain ⟨fs, hdd⟩ := hd dd rfl
      obtain ⟨mA, ⟨ob, es, ep, eo, _⟩, _⟩ := I.hok dd _ hdd
      exact go (ob := some ob) ⟨ho, hz.1, nc, by rw [hz.2]; exact eo⟩
theorem isXM_some {c : Nat} {x : D} {h : MH} {Q : VK} {W : XW} (o : Out T g H (isXM c x h) Q W) : ∃ c', x = .xv c' ∧ Out T g H (.ok (.bl (decide (c = 100) || decide (c = c'))) h) Q W := by
  cases x with
  | xv c' => exact ⟨c', rfl, o⟩
  | _ => exact o.elim
theorem se_isX {a y : Expr} {p pos : Pos} {ma : Ev → MH → R D} {c : Nat} {t : V} {cv : Value} (hx : Hot T X) (hg : Gl X "isinstance") (hm : X.mg "isinstance" = none) (hy : PE X y (tC t)) (hcv : ∀ u, RelV t u → u = cv)
    (hk : ∀ c', c' < 15 → PySem.W.kitOne X.K (.ref (T.xa c')) cv = some (decide (c = 100) || decide (c = c'))) (hn : noStar a = true) (hn2 : noStar y = true) (ha : SE T X W a ma) :
    SE T X W (.Call (.Name "isinstance" p) [a, y] [] pos) (fun e h => (ma e h).bind fun x h => isXM c x h) := by
  refine PE.imp (pe_callB (call_isX hx) hg hm boot_isinstance (pa_cons ha (pa_cons hy pa_nil (star_cons hn2)) (star_cons hn)) (he := star_cons hn) (hpl := star_none (by simp [hn2]))) fun σ H Q ⟨g, h, ev, r, s, o⟩ => ?_
  refine tE.bind (f := fun x e h => isXM c x h) r s o fun d v h1 H1 g1 _ r1 s1 qa x1 o1 => ?_
  obtain ⟨c', rfl, o2⟩ := isXM_some o1
  obtain ⟨a0, od, e1, e2, e3⟩ := qa
  subst e2
  refine ⟨c', a0, od, t, cv, _, rfl, e1, fun dd e => ?_, hcv, hk c' (hx.at_ c' a0 od e1).1, Out.here r1 o2 rfl⟩
  obtain ⟨fs, q, _⟩ := e3 dd e
  exact ⟨fs, q⟩
def vM (fs : List Nat) (ft : FT) (ma : Ev → MH → R (List D)) (ev : Ev) (x : D) (h : MH) : R D := match fnOf fs x with
  | some p => (ma ev h).bind fun ds h => ft p.1 (ds ++ p.2.map .int) h
  | none => .stuck
theorem se_callV {fe e : Expr} {es : List Expr} {pos : Pos} {k : Nat} {ft : FT} {fs : List Nat} {mf : Ev → MH → R D} {ma : Ev → MH → R (List D)} (hok : ∀ f dl, T.okf f dl → ∃ np nd kw, CalF T X k ft f np nd kw ∧ dl = nd) (hr : Room k X.A) (tk : L2N.Takes X W)
    (hf : SE T X W fe mf) (hst : (e :: es).all noStar = true) (ha : SA T X W (e :: es) ma)
    (ht : eval (.Call fe (e :: es) [] pos) X.env = (do callWith pos (← eval fe X.env) [] (backTo pos (starEach (e :: es) X.env)) (backToKw pos (keywordEach [] X.env)))) :
    SE T X W (.Call fe (e :: es) [] pos) (fun ev h => (mf ev h).bind fun x h => vM fs ft ma ev x h) := by
  have hst' := hst
  simp only [List.all_cons, Bool.and_eq_true] at hst'
  refine ⟨fun pins s σ H Q I ⟨g, h, ev, r, s0, o⟩ => ?_⟩
  refine Call_ (thn (hf.run pins s σ H (fun v H1 => ∃ d h1 g1, Rel T H1 g1 h1 ∧ RepS T H1 g1 ev σ ∧ RepV T H1 g1 d v ∧ Out T g1 H1 (vM fs ft ma ev d h1) Q (fun c d H' => W c d σ H')) I (tE.bind (f := fun x ev h => vM fs ft ma ev x h) r s0 o fun d v h1 H1 g1 _ r1 s1 q1 x1 o1 => ⟨d, h1, g1, r1, s1, q1, o1⟩)) fun u s1 ⟨v, H1, I1, rv, d, h1, g1, r1, sg1, q1, o1⟩ => ?_) ht
  have fnc : ∃ f dl, d = .fn f dl ∧ Out T g1 H1 ((ma ev h1).bind fun ds h => ft f (ds ++ dl.map .int) h) Q (fun c d H' => W c d σ H') := by
    unfold vM at o1
    cases d with
    | fn f dl =>
      simp only [fnOf] at o1
      by_cases cc : fs.contains f = true
      · rw [if_pos cc] at o1; exact ⟨f, dl, rfl, o1⟩
      · rw [if_neg cc] at o1; exact o1.elim
    | _ => exact o1.elim
  obtain ⟨f, dl, ed, o2⟩ := fnc
  subst ed
  obtain ⟨e1, e2⟩ := q1
  subst e1
  obtain rfl : u = Value.ref (T.fa f) := rv
  obtain ⟨np, nd, kw, c, ednd⟩ := hok f dl e2
  subst ednd
  obtain ⟨fd, ps, hlen, F, b0, bd, _⟩ := c.ex
  have main : ∀ (ds : List Value), Vals (dl.map V.int) ds → Binds X.K fd ps ds → wpAny (model X.prog X.w) X.A (callWith pos (.ref (T.fa f)) [] (backTo pos (starEach (e :: es) X.env)) (backToKw pos (keywordEach [] X.env))) (EP X pins σ Q) X.xe s1 := fun ds hd hb => by
    refine PySem.W.callWith_K (h₀ := X.base) I1.ok.mod.kin c.kp (thn (ha.run pos pins s1 σ H1 (fun vs H2 => spF T ft f np (vs ++ dl.map V.int) H2 Q (WE W σ)) I1 (tA.bind (f := fun ds ev h => ft f (ds ++ dl.map .int) h) r1 sg1 o2 fun ds vs h2 H2 g2 _ r2 s2 q2 x2 o3 => ?_)) fun us s2 ⟨vs, H2, I2, r, q⟩ => ⟨I2.kIn, ?_⟩) (star_cons hst'.1) (star_none hst'.2)
    · have q3 : RepL T H2 g2 (ds ++ dl.map .int) (vs ++ dl.map V.int) := q2.append (RepL.ints dl)
      refine ⟨?_, g2, h2, _, r2, q3, o3⟩
      rw [← q3.length]
      by_cases z : (ds ++ dl.map D.int).length = np
      · exact z
      · rw [c.len _ h2 z] at o3; exact o3.elim
    · exact run_fnSD F hr hb hd (L2N.passAt tk σ) I2 r q
  by_cases hn : dl = []
  · subst hn; exact main [] .nil b0
  · obtain ⟨ds, hd, hb⟩ := bd hn
    exact main ds hd hb
end
def Tx.hold (T : Tx) (c : Nat) (p : Addr × Option Addr) : Tx := { T with xv := fun c' => if c' = c then some p else none }
def g0 : Gr := ⟨[], fun _ => False⟩
structure WhF (T : Tx) (X : Cx) (k : Nat) (ft : FT) (f : Nat) : Prop where
  kp : PySem.W.keepIn X.K (.ref (T.fa f)) = true
  ex : ∃ (fd : FuncData) (y : Str), Binds X.K fd [y] [] ∧ ∀ (A : Around) (outer : List Env) (s : Shared) (H : Hp) (args : Args) (Q : VK) (c : Nat) (a : Addr) (od : Option Addr) (oe : Obj), c < 15 → L2H.RoomH k A → L2H.Hot1 A (a, oe) → L2H.PinOk outer H s (a, oe) → Env0 X.prog X.w X.K X.mg X.base A outer s H →
    BindsTo s fd args [(y, .ref a)] → Zc (.ref (T.xa c)) od oe → (∀ dd, od = some dd → ∃ fs, H dd = some (.xd fs)) → Out (T.hold c (a, od)) g0 H (ft f [.xv c] []) Q (fun _ _ _ => False) →
    codeAny (model X.prog X.w) A (.call (.ref (T.fa f)) args) (CR (L2N.CX X.prog X.w) outer X.prog X.w H s Q (fun _ _ _ => False)) s
end Mi
namespace Mi
open PySem PySem.Spec PyProof.Rows L2
section
variable {T : Tx} {X : Cx} {W : WX}
structure PartOk (T : Tx) (X : Cx) (W : WX) (l : Option Expr) (m : Ev → MH → R (List D)) : Prop where
  ex : ∃ t : TO, PO X l t ∧ ∀ (σ : St) (H : Hp) (Q : VK) (g : Gr) (h : MH) (e : Ev) (f : Option Int → MH → R D) (Q' : Option Int → Hp → Prop), Rel T H g h → RepS T H g e σ → Out T g H ((m e h).bind fun l h => match partI l with
      | some lo => f lo h
      | none => .stuck) Q (fun c d H' => W c d σ H') → (∀ lo h1 H1 g1, Rel T H1 g1 h1 → Ext g H g1 H1 → Out T g1 H1 (f lo h1) Q (fun c d H' => W c d σ H') → Q' lo H1) → t σ H Q'
theorem PartOk.no : PartOk T X W none (fun _ h => .ok [] h) :=
  ⟨tNoPart, po_none, fun σ H Q g h e f Q' r s o k => k none h H g r (.refl _ _) o⟩
theorem PartOk.yes {x : Expr} {ma : Ev → MH → R D} (ha : SE T X W x ma) : PartOk T X W (some x) (fun e h => (ma e h).bind fun x h => .ok [x] h) := by
  refine ⟨tPart (tE T W ma), po_some ha, fun σ H Q g h e f Q' r s o k => ?_⟩
  refine tE.bind (f := fun x e h => match partI [x] with
      | some lo => f lo h
      | none => .stuck) r s (by rw [bind_bind] at o; exact o) fun d v h1 H1 g1 _ r1 s1 q1 x1 o1 => ?_
  cases d with
  | int i => exact ⟨i, q1, k (some i) h1 H1 g1 r1 x1 o1⟩
  | _ => exact o1.elim
theorem se_sl {x : Expr} {lo hi : Option Expr} {p2 pos : Pos} {m : Bool} {ma : Ev → MH → R D} {ml mh : Ev → MH → R (List D)} (hK : X.K = T.K) (ha : SE T X W x ma) (hl : PartOk T X W lo ml) (hh : PartOk T X W hi mh) :
    SE T X W (.Subscript x (.Slice lo hi none p2) pos) (fun e h => (ma e h).bind fun x h => (ml e h).bind fun l h => match partI l with
    | some lo => (mh e h).bind fun u h => (match partI u with
      | some hi => slD m x lo hi h
      | none => .stuck)
    | none => .stuck) := by
  obtain ⟨tl, pl, kl⟩ := hl.ex
  obtain ⟨th, ph, kh⟩ := hh.ex
  refine ⟨fun pins s σ H Q I q => ?_⟩
  refine (pe_slice (sl_m (m := m) (W := fun c d H' => W c d σ H') hK) ha pl ph).run pins s σ H Q I ?_
  obtain ⟨g, h, ev, r, s, o⟩ := q
  refine tE.bind (f := fun x e h => (ml e h).bind fun l h => match partI l with
    | some lo => (mh e h).bind fun u h => (match partI u with
      | some hi => slD m x lo hi h
      | none => .stuck)
    | none => .stuck) r s o fun d v h1 H1 g1 _ r1 s1 q1 x1 o1 => ?_
  refine kl σ H1 Q g1 h1 ev (fun lo h => (mh ev h).bind fun u h => (match partI u with
      | some hi => slD m d lo hi h
      | none => .stuck)) _ r1 s1 o1 fun lo h2 H2 g2 r2 x2 o2 => ?_
  refine kh σ H2 Q g2 h2 ev (fun hi h => slD m d lo hi h) _ r2 (s1.mono x2 r1) o2 fun hi h3 H3 g3 r3 x3 o3 => ?_
  exact fun _ => ⟨g3, h3, d, r3, (q1.mono x2 r1).mono x3 r2, o3⟩
end
inductive GK where
  | int (i : Int) | str (s : Str) | fn (f np : Nat) (nd : List Int) (kw : Str) | exc (c : Nat) | free
  | cls (c f np : Nat) (nd : List Int) (kw : Str) (ms : List (Str × Nat × Nat)) | low (c : Nat) | wh (f : Nat) | nil
abbrev GE := List (Str × GK)
structure Sc where
  G : GE
  N : List Str
  sc : Scope
  fs : Option Scope
  calm : Bool
  xs : Bool
  xt : Bool
def GkOk (T : Tx) (X : Cx) (k : Nat) (ft : FT) (x : Str) : GK → Prop
  | .int i => ∃ t, X.mg x = some (.int i t)
  | .str s => ∃ t, X.mg x = some (.str s t)
  | .fn f np nd kw => X.mg x = some (.ref (T.fa f)) ∧ CalF T X k ft f np nd kw
  | .exc c => X.mg x = some (.ref (T.xa c)) ∧ ExcOk X (T.xa c)
  | .free => X.mg x = none
  | .cls c _ _ _ _ _ => X.mg x = some (.ref (T.ca c))
  | .low c => X.mg x = some (.ref (T.xa c))
  | .wh f => X.mg x = some (.ref (T.fa f)) ∧ WhF T X k ft f
  | .nil => True
def fnB (S : Sc) (x : Str) : Bool := match S.fs with
  | none => true
  | some s => s.names.lookup x == some .cell
structure Sx (T : Tx) (ft : FT) (k : Nat) (S : Sc) (X : Cx) (W : WX) : Prop where
  K : X.K = T.K
  calm : S.calm = true → X.calm = true ∧ X.A.handled = none
  nd : X.N.Nodup
  room : L2H.RoomH k X.A
  tk : L2N.Takes X W
  okf : S.calm = true → ∀ f dl, T.okf f dl → ∃ np nd kw, CalF T X k ft f np nd kw ∧ dl = nd
  okg : ∀ x f np nd kw, S.G.lookup x = some (.fn f np nd kw) → T.okf f nd
  hot : S.calm = false → Hot T X
  stk : S.fs = none → X.stack = X.env :: X.outer ∧ X.env.frame = some X.env.locals
  xvn : S.calm = true → T.xv = fun _ => none
  xs : S.xs = true → XAll X.K T.xa
  glob : ∀ x g, S.G.lookup x = some g → GkOk T X k ft x g
  N : X.N = S.N
  sc : X.env.scope = S.sc
  fn : ∀ x, fnB S x = true → X.fn x = true
theorem Sx.rm {T : Tx} {ft : FT} {k : Nat} {S : Sc} {X : Cx} {W : WX} (s : Sx T ft k S X W) (hc : S.calm = true) : Room k X.A := ⟨(s.calm hc).2, s.room.dp, s.room.un⟩
theorem Sx.hu {T : Tx} {ft : FT} {k : Nat} {S : Sc} {X : Cx} {W : WX} (s : Sx T ft k S X W) : X.A.units + 200 < cLine := by have := s.room.un; omega
theorem takesF {X : Cx} : L2N.Takes X WF0 := fun u s' ⟨_, _, _, _, _, _, _, _, _, _, _, _, _, _, _, _, z⟩ => z.elim
def Sc.blk (S : Sc) (scope : Scope) : Sc := { S with sc := relS scope S.sc, fs := some scope }
theorem Sx.blk {T : Tx} {ft : FT} {k : Nat} {S : Sc} {X : Cx} {W : WX} (x : Sx T ft k S X W) (hc : S.calm = true) (scope : Scope) (s : Shared) (H : Hp) (C : Addr) (cl : List (Str × Addr)) (fp : List Addr) : Sx T ft k (S.blk scope) (X.blk s H scope (compEnvC scope cl C X.env) fp) WF0 where
  K := x.K
  calm := x.calm
  nd := x.nd
  room := x.room
  tk := takesF
  okf := fun hc f dl e => by
    obtain ⟨np, nd, kw, c, e2⟩ := x.okf hc f dl e
    exact ⟨np, nd, kw, ⟨c.kp, c.len, c.ex⟩, e2⟩
  okg := x.okg
  hot := fun z => by rw [show (S.blk scope).calm = S.calm from rfl, hc] at z; cases z
  stk := fun z => nomatch z
  xvn := x.xvn
  xs := x.xs
  glob := fun y g e => by
    have q := x.glob y g e
    cases g with
    | int i => exact q
    | str s => exact q
    | fn f np nd kw => exact ⟨q.1, q.2.kp, q.2.len, q.2.ex⟩
    | exc c => exact ⟨q.1, q.2.q, q.2.kp, q.2.r⟩
    | free => exact q
    | cls c f np nd kw ms => exact q
    | low c => exact q
    | wh f => exact ⟨q.1, q.2.kp, q.2.ex⟩
    | nil => exact q
  N := x.N
  sc := by
    show relS scope X.env.scope = relS scope S.sc
    rw [x.sc]
  fn := fun y h => h
def visB (sc : Scope) (n : Str) : Bool := match sc.names.lookup n with
  | some .local => true
  | some .cell => true
  | some .free => true
  | _ => false
def glB (sc : Scope) (n : Str) : Bool := match sc.names.lookup n with
  | some .globalImplicit => true
  | _ => false
def dbg : Str := "__debug__"
def cdt : Str := "__classdict__"
def okN (n : Str) : Bool := !(n == dbg)
def boB : Bo → Operator → Bool
  | .add, .Add => true
  | .sub, .Sub => true
  | .mul, .Mult => true
  | .fdiv, .FloorDiv => true
  | .mod, .Mod => true
  | .pow, .Pow => true
  | .band, .BitAnd => true
  | .shr, .RShift => true
  | _, _ => false
def coB : Co → CmpOp → Bool
  | .eq, .Eq => true
  | .ne, .NotEq => true
  | .lt, .Lt => true
  | .le, .LtE => true
  | .gt, .Gt => true
  | .ge, .GtE => true
  | .is, .Is => true
  | .isn, .IsNot => true
  | .inn, .In => true
  | .nin, .NotIn => true
  | _, _ => false
theorem boB_ok {o : Bo} {p : Operator} (h : boB o p = true) : p = boOf o := by cases o <;> cases p <;> first | rfl | cases h
theorem coB_ok {o : Co} {p : CmpOp} (h : coB o p = true) : p = coOf o := by cases o <;> cases p <;> first | rfl | cases h
def plainIxB : Expr → Bool
  | .Slice _ _ _ _ => false
  | _ => true
theorem plainIx_ok {e : Expr} (h : plainIxB e = true) : PlainIx e := by
  intro o i
  cases e <;> first | rfl | cases h
def baseB : Expr → Bool
  | .Call (.Name _ _) [] [] _ => false
  | _ => true
theorem base_ok {o : Expr} {f : Str} {env : Env} {w : Sem Value} (h : baseB o = true) : attributeBase o f env w = w := by
  unfold attributeBase
  split
  · cases h
  · rfl
def noSet : Expr → Bool
  | .Set _ _ _ => false
  | _ => true
theorem noSet_ok {e : Expr} {env : Env} (h : noSet e = true) : ∀ x, foldedSetIterable e env x = pure x := by
  intro x
  cases e <;> first | rfl | cases h
def isG (G : GE) (n : Str) (k : GK → Bool) : Bool := match G.lookup n with
  | some g => k g
  | none => false
def kInt (i : Int) : GK → Bool
  | .int j => decide (i = j)
  | _ => false
def kStr (i : Str) : GK → Bool
  | .str j => decide (i = j)
  | _ => false
def kFree : GK → Bool
  | .free => true
  | _ => false
def kFn (f : Nat) (dl : List Int) : GK → Bool
  | .fn f' np nd _ => decide (f = f') && (dl.isEmpty || decide (dl = nd))
  | _ => false
def kFnD (f : Nat) (dl : List Int) : GK → Bool
  | .fn f' np nd _ => decide (f = f') && decide (dl = nd)
  | _ => false
def kExn (c : Nat) : GK → Bool
  | .exc d => decide (c = d)
  | .low d => decide (c = d)
  | _ => false
def intsE : E → Option (List Int)
  | .nil => some []
  | .cons (.int i) r => (intsE r).map (i :: ·)
  | _ => none
def splitD : Nat → E → Option (E × List Int)
  | 0, e => (intsE e).map fun l => (.nil, l)
  | n + 1, .cons a r => (splitD n r).map fun p => (.cons a p.1, p.2)
  | _ + 1, _ => none
def isSubs : Expr → Bool
  | .Subscript _ _ _ => true
  | _ => false
def kFnK (f : Nat) (k : Str) : GK → Bool
  | .fn f' np nd kw => decide (f = f') && decide (np = 2) && !nd.isEmpty && decide (kw = k)
  | _ => false
theorem isG_ok {G : GE} {n : Str} {k : GK → Bool} (h : isG G n k = true) : ∃ g, G.lookup n = some g ∧ k g = true := by
  unfold isG at h
  cases z : G.lookup n with
  | none => rw [z] at h; cases h
  | some g => rw [z] at h; exact ⟨g, rfl, h⟩
def freeB (S : Sc) (n : Str) : Bool := glB S.sc n && isG S.G n kFree
def kWh (f : Nat) : GK → Bool
  | .wh f' => decide (f = f')
  | _ => false
def noneB {α : Type} : Option α → Bool
  | none => true
  | some _ => false
def xcN (S : Sc) (c : Nat) (u : Str) : Bool := (decide (c = 100) && freeB S u && decide (u = "ValueError")) || (decide (c < 15) && glB S.sc u && okN u && isG S.G u (kExn c))
def primN : Pr → Option Str
  | .len => some "len"
  | .all => some "all"
  | .any => some "any"
  | .sum => some "sum"
  | .list _ => some "list"
  | .tuple => some "tuple"
  | .dict _ => some "dict"
  | .min1 => some "min"
  | .max1 => some "max"
  | .min2 => some "min"
  | .max2 => some "max"
  | .abs => some "abs"
  | .sorted _ => some "sorted"
  | _ => none
def metN : Mt → Option Str
  | .append => some "append"
  | .extend => some "extend"
  | .count => some "count"
  | .index => some "index"
  | .pop => some "pop"
  | .get => some "get"
  | _ => none
def nmB (S : Sc) (i : Nat) : Expr → Bool
  | .Name n _ => decide (S.N[i]? = some n) && ((decide (S.sc.names.lookup n = some .local)) || (decide (S.sc.names.lookup n = some .cell) && fnB S n))
  | _ => false
def nmsB (S : Sc) : List Nat → List Expr → Bool
  | [], [] => true
  | i :: is, x :: xs => nmB S i x && nmsB S is xs
  | _, _ => false
def tupsB (S : Sc) (is : List Nat) : Expr → Bool
  | .Tuple xs _ _ => nmsB S is xs
  | _ => false
def tqB (S : Sc) (i : Nat) (is : List Nat) : List Expr → Bool
  | [x, z] => nmB S i x && tupsB S is z
  | _ => false
def tgB (S : Sc) : Tg → Expr → Bool
  | .nm i, x => nmB S i x
  | .tp is, .Tuple xs _ _ => nmsB S is xs
  | .tq i is, .Tuple xs _ _ => tqB S i is xs
  | _, _ => false
def tgInB : Tg → List Nat → Bool
  | .nm i, vs => vs.contains i
  | .tp is, vs => is.all vs.contains
  | .tq i is, vs => vs.contains i && is.all vs.contains
def blkB (S : Sc) (scope : Scope) (own : List (Str × Nat)) : Bool :=
  decide (scope.kind = .function) && scope.names.all (fun y => decide (scope.names.lookup y.1 = some y.2)) && own.all (fun p => decide (S.N[p.2]? = some p.1))
  && scope.names.all (fun y => !decide (y.2 = .free) || decide (S.sc.names.lookup y.1 = some .cell) || decide (S.sc.names.lookup y.1 = some .free))
  && scope.names.all (fun y => !(decide (y.2 = .local) || decide (y.2 = .cell)) || (own.map (·.1)).contains y.1 || !(S.N.contains y.1))
def isTrueE : E → Bool
  | .bl true => true
  | _ => false
def ifsB (l : List Expr) (n : Bool) (k : Expr → Bool) : Bool := match l with
  | [] => n
  | [x] => k x
  | _ => false
def notCls : Ty → Bool
  | .cls _ => false
  | _ => true
def isNilE : E → Bool
  | .nil => true
  | _ => false
def optB (l : Option Expr) (n : Bool) (k : Expr → Bool) : Bool := match l with
  | none => n
  | some x => k x
def isTup : Expr → Bool
  | .Tuple _ _ _ => true
  | _ => false
mutual
def chkE : E → Sc → Expr → Bool
  | .var i, S, x => (match x with
    | .Name n _ => decide (S.N[i]? = some n) && visB S.sc n && okN n && !(n == cdt)
    | _ => false)
  | .non, _, x => (match x with
    | .Constant .none _ _ => true
    | _ => false)
  | .bl b, _, x => (match x with
    | .Constant (.bool c) _ _ => decide (b = c)
    | _ => false)
  | .int i, _, x => (match x with
    | .Constant (.int c) _ _ => decide (i = c)
    | _ => false)
  | .str i, _, x => (match x with
    | .Constant (.str c) _ _ => decide (i = c)
    | _ => false)
  | .gI m i, S, x => (match x with
    | .Name n _ => glB S.sc n && okN n && isG S.G n (kInt i)
    | _ => false)
  | .gS m i, S, x => (match x with
    | .Name n _ => glB S.sc n && okN n && isG S.G n (kStr i)
    | _ => false)
  | .gF m f dl, S, x => (match x with
    | .Name n _ => glB S.sc n && okN n && isG S.G n (kFnD f dl)
    | _ => false)
  | .tup es, S, x => (match x with
    | .Tuple xs _ _ => chkA es S xs && decide (xs.length ≤ 1000)
    | _ => false)
  | .lst m es, S, x => (match x with
    | .List xs _ => chkA es S xs && decide (xs.length ≤ 1000)
    | _ => false)
  | .bin m o a b, S, x => (match x with
    | .BinOp y p z _ => boB o p && chkE a S y && chkE b S z
    | _ => false)
  | .neg a, S, x => (match x with
    | .UnaryOp .USub y _ => chkE a S y
    | _ => false)
  | .cmp o a b, S, x => (match x with
    | .Compare y [p] [z] _ => coB o p && !(behindInMarks p z) && chkE a S y && chkE b S z
    | _ => false)
  | .chain o o2 a b c, S, x => (match x with
    | .Compare y [p, p2] [z, u] _ => coB o p && coB o2 p2 && !(lastMarks [p, p2] [z, u]) && chkE a S y && chkE b S z && chkE c S u
    | _ => false)
  | .and a b, S, x => (match x with
    | .BoolOp .And [y, z] p => chkE a S y && chkE b S z
    | .BoolOp .And (y :: z :: u :: us) p => chkE a S y && chkE b S (.BoolOp .And (z :: u :: us) p)
    | _ => false)
  | .or a b, S, x => (match x with
    | .BoolOp .Or [y, z] p => chkE a S y && chkE b S z
    | .BoolOp .Or (y :: z :: u :: us) p => chkE a S y && chkE b S (.BoolOp .Or (z :: u :: us) p)
    | _ => false)
  | .not a, S, x => (match x with
    | .UnaryOp .Not y _ => chkE a S y
    | _ => false)
  | .ifx c a b, S, x => (match x with
    | .IfExp u y z _ => tstE c && chkE c S u && chkE a S y && chkE b S z
    | _ => false)
  | .idx a i, S, x => (match x with
    | .Subscript y z _ => plainIxB z && chkE a S y && chkE i S z
    | _ => false)
  | .sl m a lo hi, S, x => (match x with
    | .Subscript y (.Slice l u none _) _ => chkE a S y && optB l (isNilE lo) (fun l => chkA lo S [l]) && optB u (isNilE hi) (fun u => chkA hi S [u])
    | _ => false)
  | .zipL m a b, S, x => (match x with
    | .Call (.Name n _) [.Call (.Name n2 _) [y, z] [] _] [] _ => S.calm && !m && freeB S n && decide (n = "list") && freeB S n2 && decide (n2 = "zip") && noStar y && noStar z && chkE a S y && chkE b S z
    | _ => false)
  | .rev m a, S, x => (match x with
    | .Subscript y (.Slice none none (some (.UnaryOp .USub (.Constant (.int c) _ _) _)) _) _ => decide (c = 1) && chkE a S y
    | _ => false)
  | .call f es, S, x => (match x with
    | .Call (.Name n _) (y :: ys) [] _ => S.calm && (match splitD (y :: ys).length es with
      | some p => glB S.sc n && okN n && isG S.G n (kFn f p.2) && (y :: ys).all noStar && chkA' es S (y :: ys)
      | none => false)
    | .Call (.Name n _) [y] [⟨some nm, v, _⟩] _ => (match es with
      | .cons a (.cons b .nil) => S.calm && glB S.sc n && okN n && isG S.G n (kFnK f nm) && noStar y && chkE a S y && chkE b S v
      | _ => false)
    | _ => false)
  | .prim p es, S, x => (match x with
    | .Call (.Name n _) (y :: ys) [] _ => S.calm && freeB S n && decide (primN p = some n) && (y :: ys).all noStar && chkA es S (y :: ys)
    | _ => false)
  | .isI a t, S, x => (match x with
    | .Call (.Name n _) [y, .Name u _] [] _ => freeB S n && decide (n = "isinstance") && freeB S u && decide (u = Str.ofString (tyN t)) && notCls t && noStar y && chkE a S y
    | _ => false)
  | .meth o m es, S, x => (match x with
    | .Call (.Attribute z n q) (y :: ys) [] p => decide (metN m = some n) && baseB z && (q.endLine == p.line) && decide ((y :: ys).length < 25) && chkE o S z && (y :: ys).all noStar && chkA es S (y :: ys)
    | _ => false)
  | .lc m t it c el own, S, x => (match x with
    | .ListComp elt [⟨tg, iter, ifs, 0⟩] scope _ => S.calm && chkI it S tg iter && noSet iter && blkB S scope own && tgB (S.blk scope) t tg && tgInB t (own.map (·.2)) && ifsB ifs (isTrueE c) (fun z => tstE c && chkE c (S.blk scope) z) && chkE el (S.blk scope) elt
    | _ => false)
  | .callV fs a es, S, x => (match x with
    | .Call fe (y :: ys) [] _ => S.calm && isSubs fe && chkE a S fe && (y :: ys).all noStar && chkA es S (y :: ys)
    | _ => false)
  | .isX a c, S, x => (match x with
    | .Call (.Name n _) [y, .Name u _] [] _ => !S.calm && freeB S n && decide (n = "isinstance") && xcN S c u && noStar y && chkE a S y
    | _ => false)
  | _, _, _ => false
/-- .. of the arguments that are written, of what is behind them too -/
def chkA' : E → Sc → List Expr → Bool
  | _, _, [] => true
  | .cons a r, S, y :: ys => noStar y && chkE a S y && chkA' r S ys
  | _, _, _ => false
def chkA : E → Sc → List Expr → Bool
  | .nil, _, xs => (match xs with
    | [] => true
    | _ => false)
  | .cons a r, S, xs => (match xs with
    | y :: ys => noStar y && chkE a S y && chkA r S ys
    | _ => false)
  | _, _, _ => false
def chkI : E → Sc → Expr → Expr → Bool
  | .rng1 a, S, _, x => (match x with
    | .Call (.Name n _) [y] [] _ => freeB S n && decide (n = "range") && noStar y && chkE a S y
    | _ => false)
  | .rng2 a b, S, _, x => (match x with
    | .Call (.Name n _) [y, z] [] _ => freeB S n && decide (n = "range") && noStar y && noStar z && chkE a S y && chkE b S z
    | _ => false)
  | .enum a, S, tg, x => (match x with
    | .Call (.Name n _) [y] [] _ => freeB S n && decide (n = "enumerate") && isTup tg && noStar y && chkE a S y
    | _ => false)
  | .zip a b, S, tg, x => (match x with
    | .Call (.Name n _) [y, z] [] _ => freeB S n && decide (n = "zip") && isTup tg && noStar y && noStar z && chkE a S y && chkE b S z
    | _ => false)
  | .gen a, S, _, x => chkE a S x
  | _, _, _, _ => false
/-- what can be a test -/
def tstE : E → Bool
  | .and a b => tstE a && tstE b
  | .or a b => tstE a && tstE b
  | .not a => tstE a
  | .ifx _ _ _ => false
  | _ => true
end
end Mi
namespace Mi
open PySem PySem.Spec PyProof.Rows L2
def mergeT (kvs more : List (List L2.Key × V)) : List (List L2.Key × V) := more.foldl (fun acc kv => L2.putK acc kv.1 kv.2) kvs
theorem KT.merge {H : Hp} : ∀ {more : List (List L2.Key × V)} {rs : List (List L2.Key × Addr × Value)} {kvs : List (List L2.Key × V)} {xs : List (List L2.Key × Addr × Value)}, KT H more rs → KT H kvs xs → KT H (mergeT kvs more) (storedAllH xs rs) := by
  intro more rs kvs xs r
  unfold KT at r
  induction r generalizing kvs xs with
  | nil => intro q; exact q
  | @cons p q ps qs h t ih =>
    intro r0
    have e : KT H (L2.putK kvs p.1 p.2) (storedH xs q.1 q.2.1 q.2.2) := by
      have := r0.put p.1 h.2.1 h.2.2
      rw [← h.1]; exact this
    exact ih e
theorem length_mergeT : ∀ (more kvs : List (List L2.Key × V)), (mergeT kvs more).length ≤ kvs.length + more.length
  | [], kvs => by show kvs.length ≤ kvs.length + 0; omega
  | p :: r, kvs => by
    have h1 := length_mergeT r (L2.putK kvs p.1 p.2)
    have h2 := length_putK kvs p.1 p.2
    show (mergeT (L2.putK kvs p.1 p.2) r).length ≤ _
    rw [List.length_cons]; omega
section
variable {X : Cx}
theorem pairsT_of {pins : List (Addr × Obj)} {σ : St} {H : Hp} {s : Shared} (I : Inv X pins σ H s) : ∀ {ps : List Addr} {kbs : List (List L2.Key × Addr × V)}, Paired (fun p kb => SqT X.K H p [.ref kb.2.1, kb.2.2] ∧ H kb.2.1 = some (.tup (kb.1.map kV))) ps kbs →
    ∃ prs : List (List L2.Key × Addr × Value), KT H (kbs.map fun x => (x.1, x.2.2)) prs ∧ prs.length = ps.length ∧ ∀ (j : Nat) (q : List L2.Key × Addr × Value), prs[j]? = some q → ∃ (b : Addr), ps[j]? = some b ∧ PairAt s.heap b (.ref q.2.1) q.2.2
  | _, _, .nil => ⟨[], .nil, rfl, fun j q e => by simp at e⟩
  | _, _, .cons (a := p) (b := kb) h t => by
    obtain ⟨prs, r, hl, hp⟩ := pairsT_of I t
    obtain ⟨its, rv, ht, _⟩ := I.tuple h.1
    obtain ⟨u, y, ei, ru, ry⟩ := vals2 rv
    subst ei
    cases (show u = Value.ref kb.2.1 from ru)
    refine ⟨(kb.1, kb.2.1, y) :: prs, .cons ⟨rfl, h.2, ry⟩ r, by rw [List.length_cons, List.length_cons, hl], fun j q e => ?_⟩
    cases j with
    | zero =>
      have e' : (kb.1, kb.2.1, y) = q := Option.some.inj e
      subst e'
      exact ⟨p, rfl, .inl ht⟩
    | succ j =>
      obtain ⟨b, e1, e2⟩ := hp j q (by simpa using e)
      exact ⟨b, by simpa using e1, e2⟩
theorem call_dictPT (hcalm : X.calm = true) (hu : X.A.units + 2 < cLine) : CallR X (.type "dict") (fun xs H Q => ∃ (a : Addr) (ps : List Addr) (kbs : List (List L2.Key × Addr × V)), xs = [.ref a] ∧ SqL X.K H a (ps.map V.ref) ∧ Paired (fun p kb => SqT X.K H p [.ref kb.2.1, kb.2.2] ∧ H kb.2.1 = some (.tup (kb.1.map kV))) ps kbs ∧
    ∀ p, H p = none → Q (.ref p) (upd H p (.dT (mergeT [] (kbs.map fun x => (x.1, x.2.2)))))) := by
  intro pins s σ H xs us Q I r q
  obtain ⟨a, ps, kbs, ex, hq, hp, q⟩ := q
  subst ex
  obtain ⟨u, eu, rx⟩ := vals1 r
  subst eu
  cases rx
  obtain ⟨its, rv, pl, hz⟩ := I.list hq
  have ei := refs_at rv
  subst ei
  rw [List.length_map] at hz
  obtain ⟨prs, rel, hl, hpr⟩ := pairsT_of I hp
  obtain ⟨o, n, ho, hc, hd, hdat⟩ := pl
  have hn := I.hok.fresh (Nat.le_refl s.heap.objs.size)
  have P := PySem.PairArg.list (prog := X.prog) (w := X.w) a (ps.map Value.ref).toArray (fun j => ps.getD j 0) (prs.map fun q => (Value.ref q.2.1, q.2.2))
  rw [List.length_map] at P
  refine PySem.call_dict_pairsH (knd := tupleKind (mixKind X.prog X.w)) (ps := prs) P (I.ok.hd hcalm) hu ⟨⟨o, n, ho, hc, hd, hdat⟩, ?_, fun j k v e => ?_⟩ ⟨rfl, fun i key v e => ?_⟩ (fun h' hk x hx => ?_) (by rw [hl]; exact hz) fun h' tk hd' k => ?_
  · simp [hl]
  · rw [List.getElem?_map] at e
    cases z : prs[j]? with
    | none => rw [z] at e; cases e
    | some q =>
      rw [z] at e
      cases e
      obtain ⟨b, e1, e2⟩ := hpr j q z
      have e3 : (fun j => ps.getD j 0) j = b := by simp [List.getD, e1]
      rw [e3]
      exact ⟨by simp [e1], e2⟩
  · unfold PairRel at e
    rw [List.getElem?_map] at e
    cases z : prs[i]? with
    | none => rw [z] at e; cases e
    | some q =>
      rw [z] at e
      cases e
      exact ⟨q.1, q.2.1, rfl, rfl⟩
  · have all : ∀ {l : List (List L2.Key × V)} {m : List (List L2.Key × Addr × Value)}, KT H l m → ∀ x ∈ m, H x.2.1 = some (.tup (x.1.map kV)) := by
      intro l m q
      unfold KT at q
      induction q with
      | nil => intro x hx; exact nomatch hx
      | @cons p q ps qs hq t ih =>
        intro x hx
        rcases List.mem_cons.mp hx with e | hx
        · subst e; rw [← hq.1]; exact hq.2.1
        · exact ih x hx
    have ht := all rel x hx
    obtain ⟨_, its, r, oo, h1, h2, nn, h3⟩ := (show ObjOk X.prog X.w H s.heap x.2.1 (.tup (x.1.map kV)) from I.hok _ _ ht)
    refine ⟨oo, its.toArray, nn, hk _ _ (Nat.ne_of_lt (Heap.lt_size h1)) (by simp) h1, h2, h3, by simpa using items_are r⟩
  · have hm : (s.heap.objs.size == sysModules) = false := beq_eq_false_iff_ne.mpr (Nat.ne_of_gt I.big)
    have hlen : (mergeT [] (kbs.map fun x => (x.1, x.2.2))).length ≤ sizeLine := by
      refine Nat.le_trans (length_mergeT _ []) ?_
      have := Paired.length rel
      rw [List.length_nil, Nat.zero_add, this, hl]
      exact hz
    obtain ⟨q1, es, ep, hq1, h2, h3, h4, _, h5⟩ := hd'
    refine ⟨.ref s.heap.objs.size, upd H s.heap.objs.size (.dT (mergeT [] (kbs.map fun x => (x.1, x.2.2)))), I.laid (t' := tk) (fun b o e => k b o (by simp) e) (Nat.le_refl _) (show ObjOk X.prog X.w _ _ _ (.dT (mergeT [] (kbs.map fun x => (x.1, x.2.2)))) from ⟨hlen, hm, storedAllH [] prs, ?_, q1, es, ep, hq1, h2, h3, h4, h5⟩), rfl, q _ hn⟩
    exact (KT.merge rel .nil).keeps fun c ys ec => by rw [upd_ne (ne_of_none ec hn)]; exact ec
end
section
variable {T : Tx} {X : Cx} {W : XW} {H : Hp} {g : Gr} {h : MH}
theorem prsT_rep : ∀ {xs : List D} {vs : List V} {ps : List (List Ky × D)}, RepL T H g xs vs → prsT xs = some ps → ∃ (as : List Addr) (kbs : List (List L2.Key × Addr × V)), vs = as.map V.ref ∧ Paired (fun p kb => SqT T.K H p [.ref kb.2.1, kb.2.2] ∧ H kb.2.1 = some (.tup (kb.1.map kV))) as kbs ∧ RepT T H g ps (kbs.map fun x => (x.1, x.2.2))
  | [], [], ps, _, e => by cases e; exact ⟨[], [], rfl, .nil, True.intro⟩
  | [], _ :: _, _, q, _ => q.elim
  | _ :: _, [], _, q, _ => q.elim
  | x :: xs, v :: vs, ps, q, e => by
    obtain ⟨q1, q2⟩ := q
    unfold prsT at e
    split at e
    · rename_i hx; cases hx
    · rename_i k w r hx
      cases hx
      cases y : ksOf k with
      | none => simp only [y] at e; cases e
      | some ks =>
        cases z : prsT xs with
        | none => simp only [y, z] at e; cases e
        | some rest =>
          simp only [y, z] at e
          cases e
          obtain ⟨as, kbs, rfl, pd, rt⟩ := prsT_rep q2 z
          obtain ⟨a, us, rfl, ea, qa⟩ := q1
          match us, qa with
          | [u1, u2], qa =>
            obtain ⟨⟨b, ku, rfl, eb, qk⟩, qw, _⟩ := qa
            have ek := kVs_of qk y
            subst ek
            exact ⟨a :: as, (ks, b, u2) :: kbs, rfl, .cons ⟨SqT.of ea, eb⟩ pd, rfl, qw, rt⟩
          | [], qa => exact qa.elim
          | [_], qa => exact qa.2.elim
          | _ :: _ :: _ :: _, qa => exact qa.2.2.elim
    · cases e
theorem RepT.merge : ∀ {more : List (List Ky × D)} {kk : List (List L2.Key × V)} {kvs : List (List Ky × D)} {k0 : List (List L2.Key × V)}, RepT T H g more kk → RepT T H g kvs k0 → RepT T H g (Mi.merge kvs more) (mergeT k0 kk)
  | [], [], _, _, _, q => q
  | (k, d) :: more, (c, v) :: kk, kvs, k0, q, q0 => by
    obtain ⟨e, qv, qr⟩ := q
    subst e
    exact show RepT T H g (Mi.merge (Mi.putK kvs k d) more) (mergeT (L2.putK k0 k v) kk) from RepT.merge qr (RepT.put q0 qv)
  | [], _ :: _, _, _, q, _ => q.elim
  | _ :: _, [], _, _, q, _ => q.elim
theorem dict_m {m : Bool} (hK : X.K = T.K) (hc : X.calm = true) (hu : X.A.units + 2 < cLine) : CallM T X (.type "dict") (prim (.dict m)) := by
  refine CallM.one (fun ds h k => ?_) fun W pins s σ H x us Q g h d I rs sz r q o => ?_
  · exact prim_one rfl k
  · have o : Out T g H (match (lits h d).bind prsT with
      | some ps => if m then .ok (.ref h.length) (h ++ [.dT false (merge [] ps)]) else .ok (.dT (merge [] ps)) h
      | none => .stuck) Q W := o
    cases z : lits h d with
    | none => rw [z] at o; exact o.elim
    | some xs =>
      rw [z] at o
      have o : Out T g H (match prsT xs with
        | some ps => if m then .ok (.ref h.length) (h ++ [.dT false (merge [] ps)]) else .ok (.dT (merge [] ps)) h
        | none => .stuck) Q W := o
      cases y : prsT xs with
      | none => rw [y] at o; exact o.elim
      | some ps =>
        rw [y] at o
        obtain ⟨p, vs, ep, hp, q1⟩ := lits_at r q z
        subst ep
        obtain ⟨as, kbs, rfl, pd, rt⟩ := prsT_rep q1 y
        refine call_dictPT hc hu pins s σ H _ us Q I rs ⟨p, as, kbs, rfl, SqL.of hp, by rw [hK]; exact pd, fun l hl => ?_⟩
        have rm : RepT T H g (merge [] ps) (mergeT [] (kbs.map fun x => (x.1, x.2.2))) := RepT.merge rt True.intro
        cases m with
        | true =>
          have o : Out T g H (.ok (.ref h.length) (h ++ [.dT false (merge [] ps)])) Q W := o
          refine o (.ref l) _ { phi := g.phi ++ [l], fz := g.fz } (r.newM hl ⟨_, RepT.mono (Ext.newM hl) r _ _ rm, upd_same⟩) (Ext.newM hl) ⟨l, rfl, by rw [← r.len]; simp⟩
        | false =>
          have o : Out T g H (.ok (.dT (merge [] ps)) h) Q W := o
          refine o (.ref l) _ { phi := g.phi, fz := fun b => g.fz b ∨ (true = true ∧ b = l) } (r.new hl true) (Ext.new hl true) ⟨l, _, rfl, .inr ⟨rfl, rfl⟩, upd_same, RepT.mono (Ext.new hl true) r _ _ rm⟩
end
end Mi
namespace Mi
open PySem PySem.Spec PyProof.Rows L2
theorem zip_no_len : typeLookup (.type "zip") "__len__" = pure none := by rw [typeLookup_type, builtinLookup_eq_fast]; kernel_rfl
theorem zip_no_hint : typeLookup (.type "zip") "__length_hint__" = pure none := by rw [typeLookup_type, builtinLookup_eq_fast]; kernel_rfl
def ZS (z TI TO i1 i2 l1 l2 S : Addr) (xs ys : Array Value) (i : Nat) (h : Heap) : Prop :=
  PySem.IsPair h TI (.ref i1) (.ref i2) ∧ h.IsListIter i1 l1 i ∧ h.IsListIter i2 l2 i ∧ h.IsList l1 xs ∧ h.IsList l2 ys ∧ (∃ o, h.get? TO = some o) ∧
      ((IsZip h z TI TO .none ∧ ∃ a b, PySem.IsPair h TO a b) ∨ ∃ T f oT, IsZipHeld h z TI TO T f ∧ h.get? T = some oT ∧ T ≠ z ∧ T ≠ i1 ∧ T ≠ i2 ∧ T ≠ S)
def PIn (lo : Nat) (z TO i1 i2 S : Addr) (xs ys : Array Value) (h : Heap) (acc : Array Value) (i : Nat) : Prop :=
  acc.size = i ∧ (∀ j k, j < k → k < i → acc[j]? ≠ acc[k]?) ∧ ∀ j, j < i → ∃ T x y, acc[j]? = some (.ref T) ∧ lo ≤ T ∧ T ≠ z ∧ T ≠ TO ∧ T ≠ i1 ∧ T ≠ i2 ∧ T ≠ S ∧ PySem.IsPair h T x y ∧ xs[j]? = some x ∧ ys[j]? = some y
theorem PIn.keep {lo : Nat} {z TO i1 i2 S : Addr} {xs ys : Array Value} {h h' : Heap} {acc : Array Value} {i : Nat} (p : PIn lo z TO i1 i2 S xs ys h acc i) (k : ∀ c o, c ≠ z → c ≠ TO → c ≠ i1 → c ≠ i2 → c ≠ S → h.get? c = some o → h'.get? c = some o) : PIn lo z TO i1 i2 S xs ys h' acc i :=
  ⟨p.1, p.2.1, fun j hj => by
    obtain ⟨T, x, y, e1, n0, n1, n2, n3, n4, n5, e2, e3, e4⟩ := p.2.2 j hj
    exact ⟨T, x, y, e1, n0, n1, n2, n3, n4, n5, k _ _ n1 n2 n3 n4 n5 e2, e3, e4⟩⟩
section
variable {prog : Program} {w : World} {A : Around} {R : Result → Shared → Prop} {lo : Nat} {z TI TO i1 i2 l1 l2 S : Addr} {xs ys : Array Value}
theorem ext_loop_zip (hh : A.in1.handled = none) (D : ZipApart z TI TO i1 i2 l1 l2) (dz : S ≠ z) (dTI : S ≠ TI) (dTO : S ≠ TO) (d1 : S ≠ i1) (d2 : S ≠ i2) (dl1 : S ≠ l1) (dl2 : S ≠ l2) (hn : min xs.size ys.size ≤ sizeLine) (res : Value) :
    ∀ (k i : Nat) (s : Shared) (acc : Array Value) (c : Nat), min xs.size ys.size - i = k → i ≤ min xs.size ys.size → lo ≤ s.heap.objs.size → ZS z TI TO i1 i2 l1 l2 S xs ys i s.heap → s.heap.get? S = some { cls := .type "list", dict := none, data := .seq acc c, slots := #[] } → PIn lo z TO i1 i2 S xs ys s.heap acc i →
    (∀ h' acc' c', h'.get? S = some { cls := .type "list", dict := none, data := .seq acc' c', slots := #[] } → PIn lo z TO i1 i2 S xs ys h' acc' (min xs.size ys.size) → (∀ b o, b ≠ S → b ≠ z → b ≠ TO → b ≠ i1 → b ≠ i2 → s.heap.get? b = some o → h'.get? b = some o) → R (.ok (.ret res)) { s with heap := h' }) →
    codeAny (model prog w) A (.builtin "list.extend.loop" ⟨[.ref S, .ref z, res], []⟩) R s := by
  intro k
  induction k with
  | zero =>
    intro i s acc c hk hi hlo st hS hacc hR
    have hin : i = min xs.size ys.size := by omega
    subst hin
    refine codeAny_builtin F.entry_extend_loop ?_
    rw [Around.under_plainId F.plain_extend_loop _]
    show wpAny _ A.in1 (pyNext (.ref z) >>= _) _ _ s
    obtain ⟨hTI, h1, h2, hl1, hl2, ⟨oo, hoo⟩, hz⟩ := st
    have hend : xs[min xs.size ys.size]? = none ∨ ys[min xs.size ys.size]? = none := by
      rcases Nat.le_total xs.size ys.size with h | h
      · exact .inl (Array.getElem?_eq_none (by rw [Nat.min_eq_left h]; exact Nat.le_refl _))
      · exact .inr (Array.getElem?_eq_none (by rw [Nat.min_eq_right h]; exact Nat.le_refl _))
    rcases hz with ⟨hz, a, b, hTO⟩ | ⟨T, f, oT, hz, hT, r1, r2, r3, r4⟩
    · refine wpAny_bind (wpAny_pyNext_zip_end hh D hz hTI hTO h1 h2 hl1 hl2 hend fun h' hk => ?_)
      exact wpAny_pure (hR h' acc c (hk _ _ dz dTO d1 d2 hS) (hacc.keep fun c o a1 a2 a3 a4 _ e => hk c o a1 a2 a3 a4 e) fun b o _ b1 b2 b3 b4 e => hk b o b1 b2 b3 b4 e)
    · refine wpAny_bind (wpAny_pyNext_zip_end_held hh D hz hT hTI h1 h2 hl1 hl2 hend fun h' hk => ?_)
      exact wpAny_pure (hR h' acc c (hk _ _ dz d1 d2 hS) (hacc.keep fun c o a1 a2 a3 a4 _ e => hk c o a1 a3 a4 e) fun b o _ b1 b2 b3 b4 e => hk b o b1 b3 b4 e)
  | succ k ih =>
    intro i s acc c hk hi hlo st hS hacc hR
    have hlt : i < min xs.size ys.size := by omega
    refine codeAny_builtin F.entry_extend_loop ?_
    rw [Around.under_plainId F.plain_extend_loop _]
    show wpAny _ A.in1 (pyNext (.ref z) >>= _) _ _ s
    obtain ⟨hTI, h1, h2, hl1, hl2, ⟨oo, hoo⟩, hz⟩ := st
    have hix : i < xs.size := Nat.lt_of_lt_of_le hlt (Nat.min_le_left ..)
    have hiy : i < ys.size := Nat.lt_of_lt_of_le hlt (Nat.min_le_right ..)
    have ex := Array.getElem?_eq_getElem hix
    have ey := Array.getElem?_eq_getElem hiy
    have lt : ∀ {c o}, s.heap.get? c = some o → s.heap.objs.size ≠ c := fun e => Nat.ne_of_gt (Heap.lt_size e)
    have n1 : s.heap.objs.size ≠ i1 := let ⟨_, e, _⟩ := h1; lt e
    have n2 : s.heap.objs.size ≠ i2 := let ⟨_, e, _⟩ := h2; lt e
    have nS : s.heap.objs.size ≠ S := lt hS
    -- behind a turn: h' is the heap
    have turn : ∀ (h' : Heap), s.heap.objs.size ≠ TO → s.heap.objs.size ≠ z → h'.objs.size = s.heap.objs.size + 1 → ZS z TI TO i1 i2 l1 l2 S xs ys (i + 1) h' → PySem.IsPair h' s.heap.objs.size xs[i] ys[i] → (∀ c o, c ≠ z → c ≠ TO → c ≠ i1 → c ≠ i2 → s.heap.get? c = some o → h'.get? c = some o) →
        wpAny (model prog w) A.in1 (updateSeq S (·.push (.ref s.heap.objs.size)) >>= fun _ => again (.builtin "list.extend.loop" ⟨[.ref S, .ref z, res], []⟩)) (fun fin s' => match fin with | .done f => R (.ok f) s' | .again c' => c'.quiet = true ∧ codeAny (model prog w) A c' R s') (fun e s' => R (.error e) s') { s with heap := h' } := by
      intro h' nTO nz hsz st' hp hk
      have hS' := hk S _ dz dTO d1 d2 hS
      refine wpAny_bind ?_
      have oth : ∀ b o, b ≠ S → h'.get? b = some o → (h'.update S (Obj.mapSeq (·.push (Value.ref s.heap.objs.size)))).get? b = some o := fun b o hb e => (Heap.get?_update_other _ _ (Ne.symm hb)).trans e
      refine wpAny_updateSeq hS' rfl (wpAny_pure ⟨plainId_quiet F.plain_extend_loop _, ih (i + 1) _ (acc.push (.ref s.heap.objs.size)) _ (by omega) hlt (by show lo ≤ (h'.update S _).objs.size; rw [Heap.size_update]; omega) ?_ (Heap.get?_update_self _ hS' rfl) ?_ fun h'' acc' c' a1 a2 a3 => ?_⟩)
        (by rw [hacc.1]; omega) (by show (acc.push _).size ≤ sizeLine + 1; rw [Array.size_push, hacc.1]; omega)
      · obtain ⟨hTI, h1, h2, hl1, hl2, ⟨oo, hoo⟩, hz⟩ := st'
        refine ⟨oth _ _ (Ne.symm dTI) hTI, h1.at fun o e => oth _ o (Ne.symm d1) e, h2.at fun o e => oth _ o (Ne.symm d2) e, hl1.at fun o e => oth _ o (Ne.symm dl1) e, hl2.at fun o e => oth _ o (Ne.symm dl2) e, ⟨oo, oth _ _ (Ne.symm dTO) hoo⟩, ?_⟩
        rcases hz with ⟨hz, a, b, hTO⟩ | ⟨T, f, oT, hz, hT, r1, r2, r3, r4⟩
        · exact .inl ⟨oth _ _ (Ne.symm dz) hz, a, b, oth _ _ (Ne.symm dTO) hTO⟩
        · exact .inr ⟨T, f, oT, oth _ _ (Ne.symm dz) hz, oth _ _ r4 hT, r1, r2, r3, r4⟩
      · refine ⟨by rw [Array.size_push, hacc.1], fun j k hj hk' => ?_, fun j hj => ?_⟩
        · have ej : (acc.push (Value.ref s.heap.objs.size))[j]? = acc[j]? := by rw [Array.getElem?_push, if_neg (by rw [hacc.1]; omega)]
          rw [ej]
          by_cases q : k = i
          · subst q
            obtain ⟨T, x, y, e1, m0, m1, m2, m3, m4, m5, e2, e3, e4⟩ := hacc.2.2 j hj
            rw [e1, Array.getElem?_push, if_pos hacc.1.symm]
            intro z
            have z : T = s.heap.objs.size := by simpa using z
            exact lt e2 z.symm
          · rw [Array.getElem?_push, if_neg (by rw [hacc.1]; exact q)]
            exact hacc.2.1 j k hj (by omega)
        · by_cases q : j = i
          · subst q
            refine ⟨s.heap.objs.size, _, _, by rw [Array.getElem?_push, if_pos hacc.1.symm], hlo, nz, nTO, n1, n2, nS, oth _ _ nS hp, ex, ey⟩
          · obtain ⟨T, x, y, e1, m0, m1, m2, m3, m4, m5, e2, e3, e4⟩ := hacc.2.2 j (by omega)
            refine ⟨T, x, y, by rw [Array.getElem?_push, if_neg (by rw [hacc.1]; exact q)]; exact e1, m0, m1, m2, m3, m4, m5, oth _ _ m5 (hk _ _ m1 m2 m3 m4 e2), e3, e4⟩
      · exact hR h'' acc' c' a1 a2 fun b o b0 b1 b2 b3 b4 e => a3 b o b0 b1 b2 b3 b4 (oth b o b0 (hk b o b1 b2 b3 b4 e))
    rcases hz with ⟨hz, a, b, hTO⟩ | ⟨T, f, oT, hz, hT, r1, r2, r3, r4⟩
    · refine wpAny_bind (wpAny_pyNext_zip_item D hz hTI hTO h1 h2 hl1 hl2 ex ey fun h' a1 a2 a3 a4 a5 a6 hk => ?_)
      exact turn h' (lt hTO) (lt hz) a6 ⟨hk _ _ D.TIz D.TITO D.TIi1 D.TIi2 hTI, a3, a4, hl1.at fun o e => hk _ o D.l1z D.l1TO D.l1i1 D.l1i2 e, hl2.at fun o e => hk _ o D.l2z D.l2TO D.l2i1 D.l2i2 e, ⟨_, a2⟩,
              .inr ⟨s.heap.objs.size, false, _, a1, a5, lt hz, n1, n2, nS⟩⟩ a5 hk
    · refine wpAny_bind (wpAny_pyNext_zip_item_held D hz hT hTI h1 h2 hl1 hl2 ex ey fun h' a1 a3 a4 a5 a6 hk => ?_)
      exact turn h' (lt hoo) (lt hz) a6 ⟨hk _ _ D.TIz D.TIi1 D.TIi2 hTI, a3, a4, hl1.at fun o e => hk _ o D.l1z D.l1i1 D.l1i2 e, hl2.at fun o e => hk _ o D.l2z D.l2i1 D.l2i2 e, ⟨oo, hk _ _ D.TOz D.TOi1 D.TOi2 hoo⟩,
              .inr ⟨T, true, oT, a1, hk _ _ r1 r2 r3 hT, r1, r2, r3, r4⟩⟩ a5 fun c o c1 _ c3 c4 e => hk c o c1 c3 c4 e
end
section
variable {prog : Program} {w : World} {A : Around} {E : Value → Shared → Prop} {s : Shared} {R : Result → Shared → Prop} {lo : Nat} {z TI TO i1 i2 l1 l2 : Addr} {xs ys : Array Value}
theorem ext_zip {S : Addr} (hh : A.in1.handled = none) (D : ZipApart z TI TO i1 i2 l1 l2) (dz : S ≠ z) (dTI : S ≠ TI) (dTO : S ≠ TO) (d1 : S ≠ i1) (d2 : S ≠ i2) (dl1 : S ≠ l1) (dl2 : S ≠ l2) (hn : min xs.size ys.size ≤ sizeLine) (res : Value) (c₀ : Nat) (hlo : lo ≤ s.heap.objs.size)
    (hz0 : IsZip s.heap z TI TO .none) (hst : ZS z TI TO i1 i2 l1 l2 S xs ys 0 s.heap) (hS : s.heap.get? S = some { cls := .type "list", data := .seq #[] c₀ })
    (hR : ∀ h' acc' c', h'.get? S = some { cls := .type "list", dict := none, data := .seq acc' c', slots := #[] } → PIn lo z TO i1 i2 S xs ys h' acc' (min xs.size ys.size) → (∀ b o, b ≠ S → b ≠ z → b ≠ TO → b ≠ i1 → b ≠ i2 → s.heap.get? b = some o → h'.get? b = some o) → R (.ok (.ret res)) { s with heap := h' }) :
    wpAny (model prog w) A.in1 (Builtin.List.listExtendWith (.ref S) (.ref z) res)
      (fun fin s' => match fin with | .done f => R (.ok f) s' | .again c' => c'.quiet = true ∧ codeAny (model prog w) A c' R s') (fun e s' => R (.error e) s') s := by
  have hT : s.TypeIs (.ref z) "zip" := ⟨_, hz0, rfl⟩
  unfold Builtin.List.listExtendWith
  refine wpAny_bind (wpAny_typeOf hT ?_)
  have h1 : Builtin.List.listSameRef (.ref S) (.ref z) = false := by simp [Builtin.List.listSameRef, dz]
  have h2 : (Value.type "zip" == Value.type "list") = false := by decide
  have h3 : (Value.type "zip" == Value.type "tuple") = false := by decide
  simp only [h1, h2, h3, Bool.or_false, Bool.false_eq_true, if_false]
  refine wpAny_bind (wpAny_pyIter_zip hz0 ?_)
  refine wpAny_bind (wpAny_holding ?_)
  unfold Builtin.List.listLengthHint
  refine wpAny_bind (wpAny_specialOf hT zip_no_len ?_)
  show wpAny _ A.in1 (specialOf (Value.ref z) (Str.ofString "__length_hint__") >>= _) _ _ _
  refine wpAny_bind (wpAny_specialOf hT zip_no_hint ?_)
  refine wpAny_pure ?_
  show wpAny _ A.in1 (rule "list.extend.makes-room" >>= fun _ => Builtin.List.listTouch (.ref S) >>= fun _ =>
    again (.builtin "list.extend.loop" ⟨[.ref S, .ref z, res], []⟩)) _ _ _
  refine wpAny_bind (wpAny_rule ?_)
  refine wpAny_bind ?_
  show wpAny _ A.in1 (updateSeq S (·.push .none) >>= fun _ => updateSeq S (·.pop)) _ _ _
  refine wpAny_bind (wpAny_updateSeq hS rfl ?_)
  have hS₂ := Heap.get?_update_self (Obj.mapSeq (·.push Value.none)) hS rfl
  refine wpAny_updateSeq (hz := by seq_fits) hS₂ rfl ?_
  have hS₃ := Heap.get?_update_self (Obj.mapSeq (·.pop)) hS₂ rfl
  have oth : ∀ b o, b ≠ S → s.heap.get? b = some o → ((s.heap.update S (Obj.mapSeq (·.push Value.none))).update S (Obj.mapSeq (·.pop))).get? b = some o :=
    fun b o hb e => (Heap.get?_update_other _ _ (Ne.symm hb)).trans ((Heap.get?_update_other _ _ (Ne.symm hb)).trans e)
  have st : ZS z TI TO i1 i2 l1 l2 S xs ys 0 ((s.heap.update S (Obj.mapSeq (·.push Value.none))).update S (Obj.mapSeq (·.pop))) := by
    obtain ⟨hTI, h1, h2, hl1, hl2, ⟨oo, hoo⟩, hz⟩ := hst
    refine ⟨oth _ _ (Ne.symm dTI) hTI, h1.at fun o e => oth _ o (Ne.symm d1) e, h2.at fun o e => oth _ o (Ne.symm d2) e, hl1.at fun o e => oth _ o (Ne.symm dl1) e, hl2.at fun o e => oth _ o (Ne.symm dl2) e, ⟨oo, oth _ _ (Ne.symm dTO) hoo⟩, ?_⟩
    rcases hz with ⟨hz, a, b, hTO⟩ | ⟨T, f, oT, hz, hT, r1, r2, r3, r4⟩
    · exact .inl ⟨oth _ _ (Ne.symm dz) hz, a, b, oth _ _ (Ne.symm dTO) hTO⟩
    · exact .inr ⟨T, f, oT, oth _ _ (Ne.symm dz) hz, oth _ _ r4 hT, r1, r2, r3, r4⟩
  refine wpAny_pure ⟨plainId_quiet F.plain_extend_loop _, ext_loop_zip hh D dz dTI dTO d1 d2 dl1 dl2 hn _ _ 0 _ _ _ rfl (Nat.zero_le _) (by show lo ≤ ((s.heap.update S _).update S _).objs.size; rw [Heap.size_update, Heap.size_update]; exact hlo) st hS₃ ⟨rfl, fun j k _ hj => absurd hj (by omega), fun j hj => absurd hj (by omega)⟩ fun h' acc' c' a1 a2 a3 => ?_⟩
  exact hR h' acc' c' a1 a2 fun b o b0 b1 b2 b3 b4 e => a3 b o b0 b1 b2 b3 b4 (oth b o b0 e)
theorem init_zip {S : Addr} (hh : A.in1.handled = none) (D : ZipApart z TI TO i1 i2 l1 l2) (dz : S ≠ z) (dTI : S ≠ TI) (dTO : S ≠ TO) (d1 : S ≠ i1) (d2 : S ≠ i2) (dl1 : S ≠ l1) (dl2 : S ≠ l2) (hn : min xs.size ys.size ≤ sizeLine) (hlo : lo ≤ s.heap.objs.size)
    (hz0 : IsZip s.heap z TI TO .none) (hst : ZS z TI TO i1 i2 l1 l2 S xs ys 0 s.heap) (hS : s.heap.get? S = some { cls := .type "list", data := .seq #[] })
    (hR : ∀ h' acc' c', h'.get? S = some { cls := .type "list", dict := none, data := .seq acc' c', slots := #[] } → PIn lo z TO i1 i2 S xs ys h' acc' (min xs.size ys.size) → (∀ b o, b ≠ S → b ≠ z → b ≠ TO → b ≠ i1 → b ≠ i2 → s.heap.get? b = some o → h'.get? b = some o) → R (.ok (.ret .none)) { s with heap := h' }) :
    wpAny (model prog w) A.in1 (Builtin.«list.__init__» ⟨[.ref S, .ref z], []⟩)
      (fun fin s' => match fin with | .done f => R (.ok f) s' | .again c' => c'.quiet = true ∧ codeAny (model prog w) A c' R s') (fun e s' => R (.error e) s') s := by
  show wpAny _ A.in1 (do let old ← Builtin.List.listItems (.ref S); Builtin.List.listUpdate (.ref S) (fun _ => #[]); letGo old.toList.reverse; Builtin.List.listExtendWith (.ref S) (.ref z) .none) _ _ s
  refine wpAny_bind ?_
  unfold Builtin.List.listItems
  refine wpAny_bind (wpAny_seqItems hS rfl (wpAny_pure ?_))
  show wpAny _ A.in1 (updateSeq S (fun _ => #[]) >>= fun _ => letGo (#[] : Array Value).toList.reverse >>= fun _ => Builtin.List.listExtendWith (.ref S) (.ref z) .none) _ _ s
  refine wpAny_bind (wpAny_updateSeq hS rfl ?_)
  have hS₂ := Heap.get?_update_self (Obj.mapSeq (fun _ => (#[] : Array Value))) hS rfl
  have oth : ∀ b o, b ≠ S → s.heap.get? b = some o → (s.heap.update S (Obj.mapSeq (fun _ => (#[] : Array Value)))).get? b = some o :=
    fun b o hb e => (Heap.get?_update_other _ _ (Ne.symm hb)).trans e
  refine wpAny_bind (wpAny_letGo ?_)
  have st : ZS z TI TO i1 i2 l1 l2 S xs ys 0 (s.heap.update S (Obj.mapSeq (fun _ => (#[] : Array Value)))) := by
    obtain ⟨hTI, h1, h2, hl1, hl2, ⟨oo, hoo⟩, hz⟩ := hst
    refine ⟨oth _ _ (Ne.symm dTI) hTI, h1.at fun o e => oth _ o (Ne.symm d1) e, h2.at fun o e => oth _ o (Ne.symm d2) e, hl1.at fun o e => oth _ o (Ne.symm dl1) e, hl2.at fun o e => oth _ o (Ne.symm dl2) e, ⟨oo, oth _ _ (Ne.symm dTO) hoo⟩, ?_⟩
    rcases hz with ⟨hz, a, b, hTO⟩ | ⟨T, f, oT, hz, hT, r1, r2, r3, r4⟩
    · exact .inl ⟨oth _ _ (Ne.symm dz) hz, a, b, oth _ _ (Ne.symm dTO) hTO⟩
    · exact .inr ⟨T, f, oT, oth _ _ (Ne.symm dz) hz, oth _ _ r4 hT, r1, r2, r3, r4⟩
  refine ext_zip hh D dz dTI dTO d1 d2 dl1 dl2 hn .none _ (by show lo ≤ (s.heap.update S _).objs.size; rw [Heap.size_update]; exact hlo) (oth _ _ (Ne.symm dz) hz0) st hS₂ fun h' acc' c' a1 a2 a3 => ?_
  exact hR h' acc' c' a1 a2 fun b o b0 b1 b2 b3 b4 e => a3 b o b0 b1 b2 b3 b4 (oth b o b0 e)
theorem call_list_zip {Q : Value → Shared → Prop} (hh : A.handled = none) (D : ZipApart z TI TO i1 i2 l1 l2) (hlo : lo ≤ s.heap.objs.size) (hn : min xs.size ys.size ≤ sizeLine)
    (hz0 : IsZip s.heap z TI TO .none) (hTI : PySem.IsPair s.heap TI (.ref i1) (.ref i2)) (hTO : ∃ a b, PySem.IsPair s.heap TO a b) (h1 : s.heap.IsListIter i1 l1 0) (h2 : s.heap.IsListIter i2 l2 0) (hl1 : s.heap.IsList l1 xs) (hl2 : s.heap.IsList l2 ys)
    (hQ : ∀ h' acc' c', h'.get? s.heap.objs.size = some { cls := .type "list", dict := none, data := .seq acc' c', slots := #[] } → PIn lo z TO i1 i2 s.heap.objs.size xs ys h' acc' (min xs.size ys.size) → (∀ b o, b ≠ z → b ≠ TO → b ≠ i1 → b ≠ i2 → s.heap.get? b = some o → h'.get? b = some o) → Q (.ref s.heap.objs.size) { s with heap := h' }) :
    wpAny (model prog w) A (call (.type "list") [.ref z]) Q E s := by
  refine callType_codes (Q₁ := fun obj s₁ => obj = .ref s.heap.objs.size ∧ s₁ = { s with heap := s.heap.push { cls := .type "list", data := .seq #[] } }) F.called_list (F.typeCall_list_1 _) F.entry_list_init
    (code_list_new _ ⟨rfl, rfl⟩) fun obj s₁ h₁ => ?_
  obtain ⟨rfl, rfl⟩ := h₁
  have hS : (s.heap.push { cls := .type "list", data := .seq #[] }).get? s.heap.objs.size = some { cls := .type "list", data := .seq #[] } := Heap.get?_push_size _ rfl
  have k : ∀ {b o}, s.heap.get? b = some o → (s.heap.push { cls := .type "list", data := .seq #[] }).get? b = some o := fun e => Heap.get?_push_of_some _ e
  have lt : ∀ {c o}, s.heap.get? c = some o → s.heap.objs.size ≠ c := fun e => Nat.ne_of_gt (Heap.lt_size e)
  obtain ⟨a, b, hTO⟩ := hTO
  refine ⟨⟨_, hS, rfl⟩, F.args_list_init_2 _ _, init_zip hh D (lt hz0) (lt hTI) (lt hTO) (let ⟨_, e, _⟩ := h1; lt e) (let ⟨_, e, _⟩ := h2; lt e) (let ⟨_, e, _⟩ := hl1; lt e) (let ⟨_, e, _⟩ := hl2; lt e) hn (by show lo ≤ (s.heap.push _).objs.size; rw [Heap.size_push]; omega) (k hz0) ⟨k hTI, h1.at fun o e => k e, h2.at fun o e => k e, hl1.at fun o e => k e, hl2.at fun o e => k e, ⟨_, k hTO⟩, .inl ⟨k hz0, a, b, k hTO⟩⟩ hS fun h' acc' c' a1 a2 a3 => ?_⟩
  exact ⟨rfl, hQ h' acc' c' a1 a2 fun b o b1 b2 b3 b4 e => a3 b o (Ne.symm (lt e)) b1 b2 b3 b4 (k e)⟩
end
section
variable {T : Tx} {X : Cx} {W : WX}
def refAd : Value → Addr
  | .ref a => a
  | _ => 0
theorem zipD_get2 : ∀ (xs ys : List D) (j : Nat), (zipD xs ys)[j]? = match xs[j]?, ys[j]? with
    | some x, some y => some (.tup [x, y])
    | _, _ => none
  | [], _, j => by cases j <;> rfl
  | x :: xs, [], j => by
    show ([] : List D)[j]? = _
    cases (x :: xs)[j]? <;> simp
  | x :: xs, y :: ys, 0 => rfl
  | x :: xs, y :: ys, j + 1 => zipD_get2 xs ys j
theorem vals_get : ∀ {vs : List V} {us : List Value} {j : Nat} {u : Value}, Vals vs us → us[j]? = some u → ∃ v, vs[j]? = some v ∧ RelV v u
  | _, _, j, u, .nil, e => by simp at e
  | _, _, 0, u, .cons h t, e => by simp at e; subst e; exact ⟨_, rfl, h⟩
  | _, _, j + 1, u, .cons h t, e => by
    obtain ⟨v, a, b⟩ := vals_get (j := j) t (by simpa using e)
    exact ⟨v, by simpa using a, b⟩
theorem RepL.ofGet {T : Tx} {H : Hp} {g : Gr} : ∀ {ds : List D} {vs : List V}, ds.length = vs.length → (∀ (j : Nat) (d : D) (v : V), ds[j]? = some d → vs[j]? = some v → RepV T H g d v) → RepL T H g ds vs
  | [], [], _, _ => True.intro
  | d :: ds, v :: vs, e, f => ⟨f 0 d v rfl rfl, RepL.ofGet (by simpa using e) fun j x y a b => f (j + 1) x y (by simpa using a) (by simpa using b)⟩
  | [], _ :: _, e, _ => by simp at e
  | _ :: _, [], e, _ => by simp at e
theorem vals_refs : ∀ (L : List Addr), Vals (L.map V.ref) (L.map Value.ref)
  | [] => .nil
  | a :: L => .cons rfl (vals_refs L)
theorem refs_of : ∀ (L : List Value), (∀ x ∈ L, ∃ a, x = .ref a) → (L.map refAd).map Value.ref = L
  | [], _ => rfl
  | x :: L, f => by
    obtain ⟨a, rfl⟩ := f x (List.mem_cons_self ..)
    show Value.ref a :: _ = _
    rw [refs_of L fun y hy => f y (List.mem_cons_of_mem _ hy)]
theorem zip_laid {pins : List (Addr × Obj)} {σ : St} {H1 : Hp} {s1 : Shared} {h2 : Heap} {g1 : Gr} {m1 : MH} {xs ys : List D} {va vb : List V} {ia ib : List Value} {acc : Array Value} {c : Nat} {l z TO i1 i2 : Addr} {Q : VK} {W : XW}
    (I1 : Inv X pins σ H1 s1) (r1 : Rel T H1 g1 m1) (qa : RepL T H1 g1 xs va) (qb : RepL T H1 g1 ys vb) (ra : Vals va ia) (rb : Vals vb ib) (hl0 : s1.heap.objs.size ≤ l) (hsz : min ia.length ib.length ≤ sizeLine)
    (hL : h2.get? l = some { cls := .type "list", dict := none, data := .seq acc c, slots := #[] }) (hP : PIn s1.heap.objs.size z TO i1 i2 l ia.toArray ib.toArray h2 acc (min ia.length ib.length)) (hk : ∀ b o, s1.heap.get? b = some o → h2.get? b = some o)
    (o1 : Out T g1 H1 (.ok (.lst (zipD xs ys)) m1) Q W) : EP X pins σ Q (.ref l) { s1 with heap := h2 } := by
  obtain ⟨p1, p2, p3⟩ := hP
  have hra : ∀ x ∈ acc.toList, ∃ a, x = Value.ref a := fun x hx => by
    obtain ⟨j, hj, e⟩ := List.getElem_of_mem hx
    obtain ⟨T1, x1, y1, e1, _⟩ := p3 j (by simpa [p1] using hj)
    have : acc.toList[j]? = some x := by rw [← e]; simp [hj]
    rw [Array.getElem?_toList, e1] at this
    exact ⟨T1, (Option.some.inj this).symm⟩
  have hmap := refs_of acc.toList hra
  have hget : ∀ j a, (acc.toList.map refAd)[j]? = some a → acc[j]? = some (.ref a) ∧ j < min ia.length ib.length := fun j a e => by
    have hj : j < acc.toList.length := by
      have := (List.getElem?_eq_some_iff.mp e).1
      simpa using this
    have hj2 : j < min ia.length ib.length := by simpa [p1] using hj
    obtain ⟨T1, x1, y1, e1, _⟩ := p3 j hj2
    have e2 : acc.toList[j]? = some (.ref T1) := by rw [Array.getElem?_toList]; exact e1
    rw [List.getElem?_map, e2] at e
    have e : refAd (.ref T1) = a := Option.some.inj e
    have e : T1 = a := e
    subst e
    exact ⟨e1, hj2⟩
  have ln : H1 l = none := I1.hok.fresh hl0
  have I2 : Inv X pins σ (upd H1 l (.lst ((acc.toList.map refAd).map V.ref))) { s1 with heap := h2 } :=
    I1.laid (h' := h2) (t' := s1.toks) hk hl0 (show ObjOk X.prog X.w _ _ _ (.lst _) from ⟨by simp [p1]; exact hsz, acc.toList, c, by
      have := vals_refs (acc.toList.map refAd)
      rw [hmap] at this
      exact this, hL⟩)
  have nd : (acc.toList.map refAd).Nodup := by
    rw [List.Nodup, List.pairwise_iff_getElem]
    intro i j hi hj hij e
    have hj1 : (acc.toList.map refAd)[j]? = some (acc.toList.map refAd)[j] := List.getElem?_eq_getElem hj
    obtain ⟨a1, _⟩ := hget i _ ((List.getElem?_eq_getElem hi).trans (congrArg some e))
    obtain ⟨a2, a3⟩ := hget _ _ hj1
    exact p2 i j hij a3 (by rw [a1, a2])
  obtain ⟨H2, I3, k3, q3⟩ := L2.DX.takeT (P := fun (a : Addr) (vs : List V) => ∃ (j : Nat) (vx vy : V), acc[j]? = some (Value.ref a) ∧ va[j]? = some vx ∧ vb[j]? = some vy ∧ vs = [vx, vy]) (h' := h2) (tk := s1.toks) I1 (acc.toList.map refAd) _ I2 nd fun a ha => by
    obtain ⟨j, hj, e⟩ := List.getElem_of_mem ha
    obtain ⟨e0, hj2⟩ := hget j a ((List.getElem?_eq_getElem hj).trans (congrArg some e))
    obtain ⟨T1, x1, y1, e1, e2, n0, n1, n2, n3, n4, e3, e4, e5⟩ := p3 j hj2
    rw [e0] at e1
    have e1 : a = T1 := by injection (Option.some.inj e1)
    subst e1
    obtain ⟨vx, f1, f2⟩ := vals_get ra (j := j) (u := x1) (by simpa using e4)
    obtain ⟨vy, f3, f4⟩ := vals_get rb (j := j) (u := y1) (by simpa using e5)
    refine ⟨e2, by rw [upd_ne n4]; exact I1.hok.fresh e2, [vx, vy], ⟨j, vx, vy, e0, f1, f3, rfl⟩, fun H2 => ?_⟩
    exact show ObjOk X.prog X.w H2 h2 a (.tup [vx, vy]) from ⟨(by show 2 ≤ sizeLine; decide), [x1, y1], .cons f2 (.cons f4 .nil), _, e3, rfl, _, rfl⟩
  have k2 : ∀ b o, H1 b = some o → H2 b = some o := fun b o e => k3 b o (by rw [upd_ne (ne_of_none e ln)]; exact e)
  have el : H2 l = some (.lst ((acc.toList.map refAd).map V.ref)) := k3 l _ upd_same
  have X1 : Ext g1 H1 { phi := g1.phi, fz := fun b => g1.fz b ∨ b = l } H2 := ⟨fun a o e _ => k2 a o e, fun a z => .inl z, ⟨[], by simp, fun _ z => nomatch z⟩, fun a z => by
    rcases z with z | z
    · exact .inl z
    · rw [z]; exact .inr ln, fun a o u e => k2 a _ e⟩
  have R1 : Rel T H2 { phi := g1.phi, fz := fun b => g1.fz b ∨ b = l } m1 := by
    refine ⟨r1.len, r1.nd, fun b hb z => ?_, fun b z => ?_, fun n ob b e1 e2 => ?_⟩
    · rcases z with z | z
      · exact r1.dis b hb z
      · rw [z] at hb; exact r1.ne ln hb
    · rcases z with z | z
      · obtain ⟨u, e⟩ := r1.trk b z
        exact ⟨u, k2 _ _ e⟩
      · exact ⟨_, by rw [z]; exact el⟩
    · exact RepO.mono X1 r1 (fun u e => k2 _ _ e) (r1.obj n ob b e1 e2)
  have la : va.length = xs.length := (RepL.length qa).symm
  have lb : vb.length = ys.length := (RepL.length qb).symm
  have la2 := ra.length
  have lb2 := rb.length
  refine ⟨.ref l, H2, I3, rfl, o1 (.ref l) H2 _ R1 X1 ⟨l, _, rfl, .inr rfl, el, RepL.ofGet ?_ fun j d v ed ev => ?_⟩⟩
  · rw [zipD_len]
    simp [p1]
    omega
  · rw [List.getElem?_map] at ev
    cases ea : (acc.toList.map refAd)[j]? with
    | none => rw [ea] at ev; cases ev
    | some a =>
      rw [ea] at ev
      have ev : V.ref a = v := Option.some.inj ev
      subst ev
      obtain ⟨e0, hj⟩ := hget j a ea
      obtain ⟨vs, ⟨j', vx, vy, f0, f1, f2, rfl⟩, f3⟩ := q3 a (List.mem_of_getElem? ea)
      have hjj : j' = j := by
        have hj' : j' < min ia.length ib.length := by
          have := (Array.getElem?_eq_some_iff.mp f0).1
          rwa [p1] at this
        rcases Nat.lt_trichotomy j' j with q | q | q
        · exact absurd (by rw [f0, e0]) (p2 j' j q hj)
        · exact q
        · exact absurd (by rw [f0, e0]) (p2 j j' q hj')
      subst hjj
      rw [zipD_get2] at ed
      cases ex : xs[j']? with
      | none => rw [ex] at ed; cases ed
      | some x =>
        cases ey : ys[j']? with
        | none => rw [ex, ey] at ed; cases ed
        | some y =>
          rw [ex, ey] at ed
          have ed : D.tup [x, y] = d := Option.some.inj ed
          subst ed
          obtain ⟨vx', g2, g3⟩ := RepL.get qa ex
          obtain ⟨vy', g4, g5⟩ := RepL.get qb ey
          rw [f1] at g2
          rw [f2] at g4
          cases g2
          cases g4
          exact ⟨a, _, rfl, f3, RepV.mono X1 r1 _ _ g3, RepV.mono X1 r1 _ _ g5, True.intro⟩
theorem se_listZip {a b : Expr} {p p2 pos pos2 : Pos} {mab : Ev → MH → R (List D)} (hc : X.calm = true) (hK : X.K = T.K) (hg : Gl X "list") (hm : X.mg "list" = none) (hg2 : Gl X "zip") (hm2 : X.mg "zip" = none) (ha : SA T X W [a, b] mab) (hs : (noStar a && noStar b) = true) :
    SE T X W (.Call (.Name "list" p) [.Call (.Name "zip" p2) [a, b] [] pos2] [] pos) (fun e h => (mab e h).bind fun ds h => zipM ds h) := by
  refine ⟨fun pins s σ H Q I ⟨g, h, ev, r, s0, o⟩ => ?_⟩
  rw [Bool.and_eq_true] at hs
  refine wpAny_Call_Name_kw (ld_blt I hg hm boot_list ?_)
  refine callWith_type1 ?_ (star_cons rfl) rfl
  rw [star_cons (e := .Call (.Name "zip" p2) [a, b] [] pos2) (es := []) rfl]
  show wpAny _ _ (spliced ((false, eval (.Call (.Name "zip" p2) [a, b] [] pos2) X.env) :: backTo pos (starEach [] X.env))) _ _ s
  refine PySem.Calls.spliced_cons ?_
  refine wpAny_Call_Name_kw (ld_blt I hg2 hm2 boot_zip ?_)
  refine callWith_type1 (thn (ha.run pos2 pins s σ H _ I (tA.bind (f := fun ds _ h => zipM ds h) r s0 o fun ds vs h1 H1 g1 _ r1 s1 q1 x1 o1 => (⟨g1, h1, ds, r1, q1, o1⟩ : ∃ g1 h1 ds, Rel T H1 g1 h1 ∧ RepL T H1 g1 ds vs ∧ Out T g1 H1 (zipM ds h1) Q (fun c d H' => W c d σ H')))) fun us s1 ⟨vs, H1, I1, rv, g1, h1, ds, r1, q1, o1⟩ => ?_) (star_cons hs.1) (star_none (by simp [hs.2]))
  obtain ⟨x, y, rfl⟩ : ∃ x y, ds = [x, y] := by
    unfold zipM at o1
    split at o1
    · exact ⟨_, _, rfl⟩
    · exact o1.elim
  obtain ⟨vx, vy, rfl, qx, qy⟩ : ∃ vx vy, vs = [vx, vy] ∧ RepV T H1 g1 x vx ∧ RepV T H1 g1 y vy := by
    cases vs with
    | nil => exact q1.elim
    | cons vx vs => cases vs with
      | nil => exact q1.2.elim
      | cons vy vs => cases vs with
        | nil => exact ⟨vx, vy, rfl, q1.1, q1.2.1⟩
        | cons _ _ => exact q1.2.2.elim
  have o1 : Out T g1 H1 (match lits h1 x, lits h1 y with
      | some xs, some ys => .ok (.lst (zipD xs ys)) h1
      | _, _ => .stuck) Q (fun c d H' => W c d σ H') := o1
  clear q1
  cases ex : lits h1 x with
  | none => rw [ex] at o1; exact o1.elim
  | some xs =>
    cases ey : lits h1 y with
    | none => rw [ex, ey] at o1; exact o1.elim
    | some ys =>
      rw [ex, ey] at o1
      obtain ⟨pa, va, e1, hpa, qa⟩ := lits_at r1 qx ex
      obtain ⟨pb, vb, e2, hpb, qb⟩ := lits_at r1 qy ey
      subst e1
      subst e2
      obtain ⟨ux, uy, e3, k1, k2⟩ : ∃ ux uy, us = [ux, uy] ∧ RelV (.ref pa) ux ∧ RelV (.ref pb) uy := by
        cases rv with
        | cons k1 rv => cases rv with
          | cons k2 rv => cases rv with
            | nil => exact ⟨_, _, rfl, k1, k2⟩
      subst e3
      cases k1
      cases k2
      clear rv
      obtain ⟨ia, ra, p1, z1⟩ := I1.list (SqL.of hpa)
      obtain ⟨ib, rb, p2', z2⟩ := I1.list (SqL.of hpb)
      have la2 := ra.length
      have lb2 := rb.length
      refine call_zip_2 p1.isList p2'.isList fun h' hz hTI hTO hi1 hi2 hsz hk => ?_
      refine PySem.Calls.spliced_nil ?_
      have lp1 : h'.IsList pa ia.toArray := p1.isList.at fun o e => hk _ o e
      have lp2 : h'.IsList pb ib.toArray := p2'.isList.at fun o e => hk _ o e
      refine call_list_zip (lo := s1.heap.objs.size) (s := { s1 with heap := h' }) (I1.ok.hd hc) (PySem.W.ktu_apart s1.heap.objs.size pa pb p1.lt p2'.lt) (by show s1.heap.objs.size ≤ h'.objs.size; omega) (by
          simp only [List.size_toArray]
          omega) hz hTI ⟨_, _, hTO⟩ hi1 hi2 lp1 lp2 fun h2 acc c hL hP hk2 => ?_
      simp only [List.size_toArray] at hP
      refine zip_laid (s1 := s1) (c := c) I1 r1 qa qb ra rb (by show s1.heap.objs.size ≤ h'.objs.size; omega) (by omega) hL hP (fun b o e => ?_) o1
      have := Heap.lt_size e
      exact hk2 b o (Nat.ne_of_lt (Nat.lt_of_lt_of_le this (Nat.le_add_right _ _))) (Nat.ne_of_lt (Nat.lt_of_lt_of_le this (Nat.le_add_right _ _))) (Nat.ne_of_lt this) (Nat.ne_of_lt (Nat.lt_of_lt_of_le this (Nat.le_add_right _ _))) (hk b o e)
end
end Mi
namespace Mi
open PySem PySem.Spec PyProof.Rows L2
section
variable {prog : Program} {w : World} {A : Around} {E : Value → Shared → Prop} {s : Shared}
theorem applied_rev {sl : Addr} {u : Tok} {n : Nat} {Q : Int × Int × Nat → Shared → Prop} (hs : s.heap.IsSliceOf sl .none .none (.int (-1) u))
    (h : Q ((n : Int) - 1, -1, n) s) : wpAny (model prog w) A (Builtin.Slice.sliceApplied (.ref sl) (pure (n : Int))) Q E s := by
  obtain ⟨os, hos, hcs, hds⟩ := id hs
  unfold Builtin.Slice.sliceApplied Builtin.Slice.sliceFields
  refine wpAny_bind (wpAny_bind (wpAny_field hos hds (x := .none) rfl (wpAny_bind (wpAny_field hos hds (x := .none) rfl (wpAny_bind (wpAny_field hos hds (x := .int (-1) u) rfl (wpAny_pure ?_)))))))
  refine wpAny_bind (HT.slicePart_ (.int (-1) u) ?_)
  show wpAny _ _ (if ((-1 : Int) == 0) = true then _ else _) _ _ s
  rw [if_neg (by decide)]
  refine wpAny_bind (HT.slicePart_ .none (wpAny_bind (HT.slicePart_ .none (wpAny_bind (wpAny_pure ?_)))))
  show wpAny _ _ (match Builtin.Slice.sliceAdjust none none (-1) (n : Int) with | (lo, hi) => pure (lo, (-1 : Int), Builtin.Slice.slicePlaces lo hi (-1))) _ _ s
  have e1 : Builtin.Slice.sliceAdjust none none (-1) (n : Int) = ((n : Int) - 1, -1) := rfl
  have e2 : Builtin.Slice.slicePlaces ((n : Int) - 1) (-1) (-1) = n := by
    unfold Builtin.Slice.slicePlaces
    have h1 : ¬ ((-1 : Int) > 0) := by omega
    simp only [h1, if_false]
    split
    · simp
    · simp; omega
  rw [e1]
  show wpAny _ _ (pure ((n : Int) - 1, (-1 : Int), Builtin.Slice.slicePlaces ((n : Int) - 1) (-1) (-1))) _ _ s
  rw [e2]
  exact wpAny_pure h
theorem fm_congr {α β : Type} {f g : α → Option β} : ∀ {l : List α}, (∀ x ∈ l, f x = g x) → l.filterMap f = l.filterMap g
  | [], _ => rfl
  | a :: l, k => by
    rw [List.filterMap_cons, List.filterMap_cons, k a (List.mem_cons_self ..), fm_congr fun x hx => k x (List.mem_cons_of_mem _ hx)]
theorem pick_rev (xs : Array Value) : ((List.range xs.size).filterMap fun (m : Nat) => xs[((xs.size : Int) - 1 + (m : Int) * (-1)).toNat]?).toArray = xs.toList.reverse.toArray := by
  congr 1
  have k : ∀ m ∈ List.range xs.size, xs[((xs.size : Int) - 1 + (m : Int) * (-1)).toNat]? = (xs.toList.reverse)[m]? := fun m hm => by
    have hm := List.mem_range.mp hm
    have : ((xs.size : Int) - 1 + (m : Int) * (-1)).toNat = xs.size - 1 - m := by omega
    rw [this, List.getElem?_reverse (by simpa using hm)]
    simp
  rw [fm_congr k]
  have : xs.toList.reverse.length = xs.size := by simp
  rw [← this]
  generalize xs.toList.reverse = l
  clear k this
  refine List.ext_getElem? fun i => ?_
  have e : (List.range l.length).filterMap (fun m => l[m]?) = l := by
    induction l with
    | nil => rfl
    | cons a l ih =>
      rw [List.length_cons, List.range_succ_eq_map, List.filterMap_cons]
      simp [List.filterMap_map, Function.comp_def, ih]
  rw [e]
theorem getItem_tuple_rev {t sl : Addr} {items : Array Value} {u : Tok} {Q : Value → Shared → Prop} (ht : IsTup s.heap t items) (hs : s.heap.IsSliceOf sl .none .none (.int (-1) u))
    (h : Q (.ref s.heap.objs.size) { s with heap := s.heap.push { cls := .type "tuple", data := .seq items.toList.reverse.toArray } })
    (hsz : items.size ≤ sizeLine) : wpAny (model prog w) A (getItem (.ref t) (.ref sl)) Q E s := by
  have htake : sizeOk (.seq items.toList.reverse.toArray) := by
    show items.toList.reverse.toArray.size ≤ sizeLine
    simpa using hsz
  obtain ⟨os, hos, hcs, hds⟩ := id hs
  have hTs : s.TypeIs (.ref sl) "slice" := ⟨os, hos, hcs⟩
  unfold getItem
  try with_reducible refine wpAny_holding ?_
  first | refine wpAny_bind (wpAny_pure ?_) | skip
  refine wpAny_bind (wpAny_sequenceKey ht.typeIs (by decide) ?_)
  refine wpAny_bind (wpAny_callSpecial?_slot (name := Str.ofString "__getitem__") ht.typeIs PyProof.Rows.slot_tuple_getitem
    (wpAny_call_entry PyProof.Rows.slot_tuple_getitem ht.typeIs entry_tuple_getitem ?_ (args_tuple_getitem _ _)))
  show wpAny _ _ (Builtin.Tuple.tupleItemsOf (.ref t) >>= _) _ _ s
  refine wpAny_bind (tupleItemsOf_ ht ?_)
  refine wpAny_bind (wpAny_typeOf hTs ?_)
  rw [if_pos (by decide)]
  refine wpAny_bind (applied_rev hs ?_)
  have hno : ¬ ((((items.size : Int) - 1) == 0 && (-1 : Int) == 1 && items.size == items.size) = true) := by
    intro q
    rw [Bool.and_eq_true, Bool.and_eq_true] at q
    exact absurd q.1.2 (by decide)
  show wpAny _ _ (if (((items.size : Int) - 1) == 0 && (-1 : Int) == 1 && items.size == items.size) = true then _ else _) _ _ s
  rw [if_neg hno, pick_rev]
  first
    | exact wpAny_bind (m := Builtin.Tuple.tupleExact _) (wpAny_newObj_type (wpAny_pure ⟨_, rfl, wpAny_pure h⟩) htake)
    | exact wpAny_bind (m := Builtin.Tuple.tupleExact _) (wpAny_newObj_type (wpAny_bind (wpAny_pure (wpAny_pure ⟨_, rfl, wpAny_pure h⟩))) htake)
    | exact wpAny_bind (wpAny_bind (m := Builtin.Tuple.tupleExact _) (wpAny_newObj_type (wpAny_pure (wpAny_pure ⟨_, rfl, wpAny_pure h⟩)) htake))
    | exact wpAny_bind (wpAny_bind (m := Builtin.Tuple.tupleExact _) (wpAny_newObj_type (wpAny_pure ⟨_, rfl, wpAny_pure h⟩) htake))
end
def tRevA (K : PySem.W.Frag) (te : TE) : TE := fun σ H Q => te σ H fun x H1 => ∃ a xs, x = .ref a ∧ ((SqL K H1 a xs ∧ ∀ p, H1 p = none → Q (.ref p) (upd H1 p (.lst xs.reverse))) ∨ (SqT K H1 a xs ∧ ∀ p, H1 p = none → Q (.ref p) (upd H1 p (.tup xs.reverse))))
section
variable {X : Cx}
theorem pe_revA {e : Expr} {te : TE} {k : Nat} {p1 p2 p3 pos : Pos} (he : PE X e te) : PE X (.Subscript e (.Slice none none (some (.UnaryOp .USub (.Constant (.int 1) k p1) p2)) p3) pos) (tRevA X.K te) := by
  refine ⟨fun pins s σ H Q I h => ?_⟩
  refine Subscript_ (thn (he.run pins s σ H _ I h) fun v s1 ⟨x, H1, I1, r1, q1⟩ => ?_)
  obtain ⟨a, xs, ex, q⟩ := q1
  subst ex
  cases r1
  have hst : PO X (some (.UnaryOp .USub (.Constant (.int 1) k p1) p2)) (tPart (tUn (rU fun i => .int (-i)) (tC (.int 1)))) := po_some (pe_un un_neg pe_int)
  refine wpAny_Slice (thn (po_none.run pins s1 σ H1 (fun o H2 => o = none ∧ H2 = H1) I1 ⟨rfl, rfl⟩) fun vl s2 ⟨l, H2, I2, pl, el, e2⟩ => ?_)
  subst el e2
  refine thn (po_none.run pins s2 σ H2 (fun o H3 => o = none ∧ H3 = H2) I2 ⟨rfl, rfl⟩) fun vu s3 ⟨u, H3, I3, pu, eu, e3⟩ => ?_
  subst eu e3
  refine thn (hst.run pins s3 σ H3 (fun o H4 => o = some (-1) ∧ H4 = H3) I3 ⟨1, rfl, -1, rfl, rfl, rfl⟩) fun vs s4 ⟨o, H4, I4, ps, eo, e4⟩ => ?_
  subst eo e4
  have I5 : Inv X pins σ H4 { s4 with heap := s4.heap.push { cls := .type "slice", data := .fields #[vl, vu, vs] } } := I4.kept (t' := s4.toks) fun b ob q => Heap.get?_push_of_some _ q
  show wpAny (model X.prog X.w) X.A (subscriptTail e (.Slice none none (some (.UnaryOp .USub (.Constant (.int 1) k p1) p2)) p3) (.ref a) (.ref s4.heap.objs.size)) (EP X pins σ Q) X.xe { s4 with heap := s4.heap.push { cls := .type "slice", data := .fields #[vl, vu, vs] } }
  rcases q with ⟨hx, q⟩ | ⟨hx, q⟩
  · obtain ⟨its, r, ht, hz⟩ := I5.list hx
    have hlen := r.length
    refine tail_any (ops := [.ref a, .ref s4.heap.objs.size]) ht.isList.typeIs (PySem.slot_list_getitem.lookup) ?_ (by with_unfolding_all rfl)
    refine wpAny_getItem_list_slice ht.isList (Heap.IsSliceOf.new _ vl vu vs) pl pu ps (by decide) ?_ (by rw [List.size_toArray]; omega)
    rw [PySem.W.krv_pick]
    refine ⟨.ref _, _, I5.laid (t' := s4.toks) (o := .lst xs.reverse) (fun b ob q => Heap.get?_push_of_some _ q) (Nat.le_refl _) ?_, rfl, q _ (I5.hok.fresh (Nat.le_refl _))⟩
    exact ⟨by rw [List.length_reverse]; exact hz, _, 0, r.reverse, Heap.get?_push_size _ rfl⟩
  · obtain ⟨its, r, ht, hz⟩ := I5.tuple hx
    have hlen := r.length
    cases pl
    cases pu
    cases ps
    refine tail_any (ops := [.ref a, .ref s4.heap.objs.size]) ht.typeIs (PyProof.Rows.slot_tuple_getitem.lookup) ?_ (by with_unfolding_all rfl)
    refine getItem_tuple_rev ht (Heap.IsSliceOf.new _ _ _ _) ?_ (by rw [List.size_toArray]; omega)
    refine ⟨.ref _, _, I5.laid (t' := s4.toks) (o := .tup xs.reverse) (fun b ob q => Heap.get?_push_of_some _ q) (Nat.le_refl _) ?_, rfl, q _ (I5.hok.fresh (Nat.le_refl _))⟩
    exact ⟨by rw [List.length_reverse]; exact hz, _, r.reverse, IsTup.new _ _⟩
end
section
variable {T : Tx} {X : Cx} {W : WX}
theorem RepL.reverse {T : Tx} {H : Hp} {g : Gr} : ∀ {ds : List D} {vs : List V}, RepL T H g ds vs → RepL T H g ds.reverse vs.reverse
  | [], [], _ => True.intro
  | d :: ds, v :: vs, q => by
    rw [List.reverse_cons, List.reverse_cons]
    exact (RepL.reverse q.2).append ⟨q.1, True.intro⟩
  | [], _ :: _, q => q.elim
  | _ :: _, [], q => q.elim
theorem se_rev {e : Expr} {k : Nat} {p1 p2 p3 pos : Pos} {m : Bool} {ma : Ev → MH → R D} (hK : X.K = T.K) (ha : SE T X W e ma) :
    SE T X W (.Subscript e (.Slice none none (some (.UnaryOp .USub (.Constant (.int 1) k p1) p2)) p3) pos) (fun ev h => (ma ev h).bind fun x h => revD m x h) := by
  refine PE.imp (pe_revA ha) fun σ H Q ⟨g, h, ev, r, s, o⟩ => ?_
  refine tE.bind (f := fun x e h => revD m x h) r s o fun d v h1 H1 g1 _ r1 s1 q1 x1 o1 => ?_
  rw [hK]
  have lst : ∀ d, RepV T H1 g1 d v → Out T g1 H1 (match lits h1 d with
      | some xs => mk m xs.reverse h1
      | none => .stuck) Q (fun c d H' => W c d σ H') → ∃ a xs, v = .ref a ∧ ((SqL T.K H1 a xs ∧ ∀ p, H1 p = none → Q (.ref p) (upd H1 p (.lst xs.reverse))) ∨ (SqT T.K H1 a xs ∧ ∀ p, H1 p = none → Q (.ref p) (upd H1 p (.tup xs.reverse)))) := fun d q o => by
    cases e : lits h1 d with
    | none => rw [e] at o; exact o.elim
    | some xs =>
      rw [e] at o
      obtain ⟨p, vs, rfl, hp, qv⟩ := lits_at r1 q e
      exact ⟨p, vs, rfl, .inl ⟨SqL.of hp, fun l hl => Out.mk r1 hl qv.reverse o⟩⟩
  cases d with
  | tup ds =>
    obtain ⟨a, vs, rfl, ea, qa⟩ := q1
    exact ⟨a, vs, rfl, .inr ⟨SqT.of ea, fun l hl => Out.tup r1 hl qa.reverse o1⟩⟩
  | lst ds => exact lst _ q1 o1
  | ref n => exact lst _ q1 o1
  | scr n => exact lst _ q1 o1
  | non => exact lst _ q1 o1
  | bl b => exact lst _ q1 o1
  | int b => exact lst _ q1 o1
  | str b => exact lst _ q1 o1
  | dK b => exact lst _ q1 o1
  | dT b => exact lst _ q1 o1
  | fn b _ => exact lst _ q1 o1
  | xv b => exact lst _ q1 o1
end
end Mi
namespace Mi
open PySem PySem.Spec PyProof.Rows L2
theorem and_all {a b : Bool} (h : (a && b) = true) : a = true ∧ b = true := Bool.and_eq_true_iff.mp h
structure OkE (T : Tx) (X : Cx) (W : WX) (x : Expr) (m : Ev → MH → R D) (tb : Bool) : Prop where
  se : SE T X W x m
  st : tb = true → ST T X W x m
  sw : tb = true → ∀ op xs p, x = .BoolOp op xs p → PW X x (tT T W m)
section
variable {T : Tx} {ft : FT} {k : Nat} {S : Sc} {X : Cx} {W : WX}
theorem SE.congr {x : Expr} {m m' : Ev → MH → R D} (h : SE T X W x m) (e : ∀ ev h, m ev h = m' ev h) : SE T X W x m' := by
  have : m = m' := funext fun ev => funext fun h => e ev h
  rw [← this]; exact h
theorem OkE.val {x : Expr} {m : Ev → MH → R D} {tb : Bool} (h : SE T X W x m) (v : valTest x = true) : OkE T X W x m tb :=
  ⟨h, fun _ => st_val v h, fun _ op xs p e => by subst e; cases v⟩
theorem Sx.vis (s : Sx T ft k S X W) {n : Str} (h : visB S.sc n = true) : Vis X.env.scope n := by
  unfold visB at h
  rw [s.sc]
  cases z : S.sc.names.lookup n with
  | none => rw [z] at h; cases h
  | some q =>
    rw [z] at h
    cases q with
    | «local» => exact .inl z
    | cell => exact .inr (.inl z)
    | free => exact .inr (.inr z)
    | _ => cases h
theorem Sx.gl (s : Sx T ft k S X W) {n : Str} (h : glB S.sc n = true) : Gl X n := by
  unfold glB at h
  show X.env.scope.names.lookup n = _
  rw [s.sc]
  cases z : S.sc.names.lookup n with
  | none => rw [z] at h; cases h
  | some q =>
    rw [z] at h
    cases q with
    | globalImplicit => rfl
    | _ => cases h
theorem okN_ok {n : Str} (h : okN n = true) : (n == ("__debug__" : Str)) = false := by
  unfold okN dbg at h
  simpa using h
theorem Sx.free (s : Sx T ft k S X W) {n : Str} (h : freeB S n = true) : Gl X n ∧ X.mg n = none := by
  unfold freeB at h
  rw [Bool.and_eq_true] at h
  refine ⟨s.gl h.1, ?_⟩
  obtain ⟨g, e, q⟩ := isG_ok h.2
  have z := s.glob n g e
  cases g with
  | free => exact z
  | _ => cases q
theorem Sx.slot (s : Sx T ft k S X W) {i : Nat} {n : Str} (h : S.N[i]? = some n) : X.N[i]? = some n := by rw [s.N]; exact h
theorem nm_ok (s : Sx T ft k S X W) {i : Nat} {x : Expr} (h : nmB S i x = true) : ∃ n p, x = .Name n p ∧ X.N[i]? = some n ∧ Loc X.env.scope n ∧ (X.fn n = true ∨ X.env.scope.names.lookup n = some .local) := by
  cases x with
  | Name n p =>
    simp only [nmB, Bool.and_eq_true, Bool.or_eq_true, decide_eq_true_eq] at h
    obtain ⟨h1, h2⟩ := h
    refine ⟨n, p, rfl, s.slot h1, ?_, ?_⟩
    · rw [s.sc]
      rcases h2 with h2 | h2
      · exact .inl h2
      · exact .inr h2.1
    · rw [s.sc]
      rcases h2 with h2 | h2
      · exact .inr h2
      · exact .inl (s.fn n h2.2)
  | _ => cases h
theorem nms_ok (s : Sx T ft k S X W) : ∀ {is : List Nat} {xs : List Expr}, nmsB S is xs = true → PGs X xs (gNames is) ∧ (assignEach xs X.env).length = is.length ∧ (assignEach xs X.env).findIdx? (·.1) = none
  | [], [], _ => ⟨pgs_nil, rfl, rfl⟩
  | i :: is, x :: xs, h => by
    have h : (nmB S i x && nmsB S is xs) = true := h
    rw [Bool.and_eq_true] at h
    obtain ⟨n, p, rfl, e1, e2, e3⟩ := nm_ok s h.1
    obtain ⟨a, b, c⟩ := nms_ok s h.2
    refine ⟨pgs_cons (pg_name s.nd e1 e2 e3) a rfl, ?_, ?_⟩
    · show (assignEach xs X.env).length + 1 = _
      rw [b]; rfl
    · show ((false, assign (.Name n p) X.env) :: assignEach xs X.env).findIdx? (·.1) = none
      rw [List.findIdx?_cons]
      simp [c]
  | [], _ :: _, h => by cases h
  | _ :: _, [], h => by cases h
def gOf (T : Tx) : Tg → TG
  | .nm i => gName i
  | .tp is => gTup T.K is.length (gNames is)
  | .tq i is => gTup T.K 2 (gCons (gName i) (gCons (gTup T.K is.length (gNames is)) gNil))
theorem gOf_ok (t : Tg) : TgOk T t (gOf T t) := by
  cases t with
  | nm i => exact TgOk.nm i
  | tp is => exact TgOk.tp is
  | tq i is => exact TgOk.tq i is
theorem tg_ok (s : Sx T ft k S X W) (cm : S.calm = true) {t : Tg} {x : Expr} (h : tgB S t x = true) : PG X x (gOf T t) := by
  cases t with
  | nm i =>
    obtain ⟨n, p, rfl, e1, e2, e3⟩ := nm_ok s (show nmB S i x = true from h)
    exact pg_name s.nd e1 e2 e3
  | tp is =>
    cases x with
    | Tuple xs n p =>
      obtain ⟨a, b, c⟩ := nms_ok s (show nmsB S is xs = true from h)
      have pg := pg_tup (k := n) (pos := p) (s.calm cm).1 a b c
      rw [s.K] at pg
      exact pg
    | _ => cases h
  | tq i is =>
    cases x with
    | Tuple xs n p =>
      have h : tqB S i is xs = true := h
      match xs, h with
      | [y, z], h =>
        cases z with
        | Tuple zs m q =>
          have h : (nmB S i y && nmsB S is zs) = true := h
          rw [Bool.and_eq_true] at h
          obtain ⟨nn, pp, rfl, e1, e2, e3⟩ := nm_ok s h.1
          obtain ⟨a, b, c⟩ := nms_ok s h.2
          have pg := pg_tup (k := m) (pos := q) (s.calm cm).1 a b c
          rw [s.K] at pg
          have pg2 := pg_tup (k := n) (pos := p) (n := 2) (s.calm cm).1 (pgs_cons (pg_name (pos := pp) s.nd e1 e2 e3) (pgs_cons pg pgs_nil rfl) rfl) rfl rfl
          rw [s.K] at pg2
          exact pg2
        | _ =>
          have h := (and_all h).2
          cases h
      | [], h => cases h
      | [_], h => cases h
      | _ :: _ :: _ :: _, h => cases h
    | _ => cases h
theorem tgIn_ok {t : Tg} {vs : List Nat} (h : tgInB t vs = true) : tgIn t vs := by
  cases t with
  | nm i => show i ∈ vs; simpa [tgInB] using h
  | tp is => show ∀ i ∈ is, i ∈ vs; simpa [tgInB] using h
  | tq i is => show i ∈ vs ∧ ∀ i ∈ is, i ∈ vs; simpa [tgInB] using h
theorem blk_ok (s : Sx T ft k S X W) {scope : Scope} {own : List (Str × Nat)} (h : blkB S scope own = true) : BlkOk X.N X.env.scope scope own := by
  unfold blkB at h
  simp only [Bool.and_eq_true, List.all_eq_true, decide_eq_true_eq] at h
  obtain ⟨⟨⟨⟨h1, h2⟩, h3⟩, h4⟩, h5⟩ := h
  refine ⟨h1, h2, fun p hp => by rw [s.N]; exact h3 p hp, fun y hy e => ?_, fun y hy e => ?_⟩
  · have := h4 y hy
    rw [s.sc]
    simp only [e, decide_true, Bool.not_true, Bool.false_or, Bool.or_eq_true, decide_eq_true_eq] at this
    exact this
  · have := h5 y hy
    rw [s.N]
    have e' : (decide (y.2 = .local) || decide (y.2 = .cell)) = true := by
      rcases e with e | e <;> simp [e]
    rw [e'] at this
    simp only [Bool.not_true, Bool.false_or, Bool.or_eq_true, Bool.not_eq_true'] at this
    rcases this with this | this
    · exact .inl (by simpa using this)
    · exact .inr (by simpa using this)
theorem prim_ok (s : Sx T ft k S X W) (cm : S.calm = true) {p : Pr} {n : Str} (hp : primN p = some n) : (∃ id, CallM T X (.builtin id) (prim p) ∧ bootBuiltins n = some (.builtin id)) ∨ ∃ id, CallM T X (.type id) (prim p) ∧ bootBuiltins n = some (.type id) := by
  cases p with
  | len => cases hp; exact .inl ⟨_, len_m s.K, boot_len⟩
  | all => cases hp; exact .inl ⟨_, all_m (s.calm cm).1, by decide +kernel⟩
  | any => cases hp; exact .inl ⟨_, any_m (s.calm cm).1, by decide +kernel⟩
  | sum => cases hp; exact .inl ⟨_, sum_m s.K (s.calm cm).1, by decide +kernel⟩
  | list m => cases hp; exact .inr ⟨_, list_m s.K, by decide +kernel⟩
  | tuple => cases hp; exact .inr ⟨_, tuple_m s.K, by decide +kernel⟩
  | dict m => cases hp; exact .inr ⟨_, dict_m s.K (s.calm cm).1 (by have := s.hu; omega), by decide +kernel⟩
  | abs => cases hp; exact .inl ⟨_, abs_m, by decide +kernel⟩
  | min1 => cases hp; exact .inl ⟨_, min1_m (s.calm cm).1, by decide +kernel⟩
  | max1 => cases hp; exact .inl ⟨_, max1_m (s.calm cm).1, by decide +kernel⟩
  | min2 => cases hp; exact .inl ⟨_, min2_m (s.calm cm).1, by decide +kernel⟩
  | sorted m => cases hp; exact .inl ⟨_, sorted_m, by decide +kernel⟩
  | max2 => cases hp; exact .inl ⟨_, max2_m (s.calm cm).1, by decide +kernel⟩
  | _ => cases hp
theorem prim_names {p : Pr} {n : Str} (hp : primN p = some n) : n ≠ "__name__" ∧ (n == ("__debug__" : Str)) = false := by
  cases p <;> first | (cases hp; done) | (cases hp; exact ⟨by decide, by decide⟩)
theorem PTs.imp {X : Cx} {e : List Expr} {t t' : TT} (h : PTs X e t) (k : ∀ σ H Q, t' σ H Q → t σ H Q) : PTs X e t' := ⟨fun pins s σ H Q I q => h.run pins s σ H Q I (k σ H Q q)⟩
theorem se_lc (s : Sx T ft k S X W) (cm : S.calm = true) {elt tg iter : Expr} {ifs : List Expr} {scope : Scope} {pos : Pos} {m : Bool} {t : Tg} {own : List (Str × Nat)} {mi : Ev → MH → R It} {mc mel : Ev → MH → R D} (hi : SI T X W tg iter mi) (hs : ∀ x, foldedSetIterable iter X.env x = pure x) (hb : blkB S scope own = true)
    (ht : tgB (S.blk scope) t tg = true) (hv : tgInB t (own.map (·.2)) = true) (hc : ∀ X' W', Sx T ft k (S.blk scope) X' W' → PTs X' ifs (tT T W' mc)) (he : ∀ X' W', Sx T ft k (S.blk scope) X' W' → SE T X' W' elt mel) :
    SE T X W (.ListComp elt [⟨tg, iter, ifs, 0⟩] scope pos) (fun e h => (mi e h).bind fun w h => lcR m (lcB t mc mel (wipeE e (own.map (·.2)))) w h) := by
  exact PE.imp (pe_lc (s.calm cm).1 s.nd (PI.sz hi) (blk_ok s hb) (fun s' H C cl fp => tg_ok (s.blk cm scope s' H C cl fp) cm ht) (fun s' H C cl fp => hc _ _ (s.blk cm scope s' H C cl fp)) (fun s' H C cl fp => he _ _ (s.blk cm scope s' H C cl fp)) hs) fun σ H Q q => tLc_of (gOf_ok t) (tgIn_ok hv) q
theorem zip_bind (A : R D) (B : MH → R D) : ((A.bind fun x h => (B h).bind fun y h => .ok [x, y] h).bind fun ds h => zipM ds h) = A.bind fun x h => (B h).bind fun y h => if false then .stuck else zipM [x, y] h := by
  cases A with
  | ok x h =>
    show (((B h).bind fun y h => R.ok [x, y] h).bind fun ds h => zipM ds h) = (B h).bind fun y h => zipM [x, y] h
    cases B h <;> rfl
  | exn c p h => rfl
  | stuck => rfl
theorem intsE_ev : ∀ (m : E) (l : List Int), intsE m = some l → ∀ (e : Ev) (h : MH), evA ft m e h = .ok (l.map .int) h
  | .nil, l, z, e, h => by cases z; rfl
  | .cons (.int i) r, l, z, e, h => by
    have z : (intsE r).map (i :: ·) = some l := z
    cases y : intsE r with
    | none => rw [y] at z; cases z
    | some l' =>
      rw [y] at z
      cases z
      show (R.ok (D.int i) h).bind (fun x h => (evA ft r e h).bind fun xs h => R.ok (x :: xs) h) = _
      show ((evA ft r e h).bind fun xs h => R.ok (D.int i :: xs) h) = _
      rw [intsE_ev r l' y e h]
      rfl
mutual
theorem chkE_ok : ∀ (m : E) (S : Sc) (X : Cx) (W : WX) (x : Expr), chkE m S x = true → Sx T ft k S X W → OkE T X W x (evE ft m) (tstE m)
  | .var i, S, X, W, x, hc, s => by
    cases x with
    | Name n p =>
      obtain ⟨h1, h4⟩ := and_all (show (decide (S.N[i]? = some n) && visB S.sc n && okN n && !(n == cdt)) = true from hc)
      obtain ⟨h1, h3⟩ := and_all h1
      obtain ⟨h1, h2⟩ := and_all h1
      exact .val (se_var (s.slot (of_decide_eq_true h1)) (s.vis h2) (okN_ok h3) (by simpa [cdt] using h4)) rfl
    | _ => cases hc
  | .non, S, X, W, x, hc, s => by
    cases x with
    | Constant c j p =>
      cases c with
      | none => exact .val (SE.const pe_non fun _ _ => rfl) rfl
      | _ => cases hc
    | _ => cases hc
  | .bl b, S, X, W, x, hc, s => by
    cases x with
    | Constant c j p =>
      cases c with
      | bool d =>
        have e : b = d := of_decide_eq_true hc
        subst e
        exact .val (SE.const pe_bl fun _ _ => rfl) rfl
      | _ => cases hc
    | _ => cases hc
  | .int i, S, X, W, x, hc, s => by
    cases x with
    | Constant c j p =>
      cases c with
      | int d =>
        have e : i = d := of_decide_eq_true hc
        subst e
        exact .val (SE.const pe_int fun _ _ => rfl) rfl
      | _ => cases hc
    | _ => cases hc
  | .str i, S, X, W, x, hc, s => by
    cases x with
    | Constant c j p =>
      cases c with
      | str d =>
        have e : i = d := of_decide_eq_true hc
        subst e
        exact .val (SE.const pe_str fun _ _ => rfl) rfl
      | _ => cases hc
    | _ => cases hc
  | .gI m i, S, X, W, x, hc, s => by
    cases x with
    | Name n p =>
      obtain ⟨h1, h3⟩ := and_all (show (glB S.sc n && okN n && isG S.G n (kInt i)) = true from hc)
      obtain ⟨h1, h2⟩ := and_all h1
      obtain ⟨g, e, q⟩ := isG_ok h3
      have z := s.glob n g e
      cases g with
      | int j =>
        have e : i = j := of_decide_eq_true q
        subst e
        obtain ⟨t, z⟩ := z
        exact .val (SE.const (pe_glob (v := .int i) (s.gl h1) z ⟨t, rfl⟩ (okN_ok h2)) fun _ _ => rfl) rfl
      | _ => cases q
    | _ => cases hc
  | .gS m i, S, X, W, x, hc, s => by
    cases x with
    | Name n p =>
      obtain ⟨h1, h3⟩ := and_all (show (glB S.sc n && okN n && isG S.G n (kStr i)) = true from hc)
      obtain ⟨h1, h2⟩ := and_all h1
      obtain ⟨g, e, q⟩ := isG_ok h3
      have z := s.glob n g e
      cases g with
      | str j =>
        have e : i = j := of_decide_eq_true q
        subst e
        obtain ⟨t, z⟩ := z
        exact .val (SE.const (pe_glob (v := .str i) (s.gl h1) z ⟨t, rfl⟩ (okN_ok h2)) fun _ _ => rfl) rfl
      | _ => cases q
    | _ => cases hc
  | .gF m f dl, S, X, W, x, hc, s => by
    cases x with
    | Name n p =>
      obtain ⟨h1, h3⟩ := and_all (show (glB S.sc n && okN n && isG S.G n (kFnD f dl)) = true from hc)
      obtain ⟨h1, h2⟩ := and_all h1
      obtain ⟨g, e, q⟩ := isG_ok h3
      have z := s.glob n g e
      cases g with
      | fn f' np nd kw =>
        obtain ⟨q1, q2⟩ := and_all (show (decide (f = f') && decide (dl = nd)) = true from q)
        have q1 := of_decide_eq_true q1
        have q2 := of_decide_eq_true q2
        subst q1 q2
        have ok := s.okg n f np dl kw e
        exact .val (SE.const (pe_glob (v := .ref (T.fa f)) (s.gl h1) z.1 rfl (okN_ok h2)) fun _ _ => ⟨rfl, ok⟩) rfl
      | _ => cases q
    | _ => cases hc
  | .nil, S, X, W, x, hc, s => by cases hc
  | .cons _ _, S, X, W, x, hc, s => by cases hc
  | .tup es, S, X, W, x, hc, s => by
    cases x with
    | Tuple xs n p =>
      obtain ⟨h1, h2⟩ := and_all (show (chkA es S xs && decide (xs.length ≤ 1000)) = true from hc)
      obtain ⟨a, l, _⟩ := chkA_ok es S X W xs h1 s
      exact .val (se_tup (of_decide_eq_true h2) a l) rfl
    | _ => cases hc
  | .lst m es, S, X, W, x, hc, s => by
    cases x with
    | List xs p =>
      obtain ⟨h1, h2⟩ := and_all (show (chkA es S xs && decide (xs.length ≤ 1000)) = true from hc)
      obtain ⟨a, l, _⟩ := chkA_ok es S X W xs h1 s
      exact .val (se_lst (m := m) (of_decide_eq_true h2) a l) rfl
    | _ => cases hc
  | .bin m o a b, S, X, W, x, hc, s => by
    cases x with
    | BinOp y p z q =>
      obtain ⟨h1, h3⟩ := and_all (show (boB o p && chkE a S y && chkE b S z) = true from hc)
      obtain ⟨h1, h2⟩ := and_all h1
      rw [boB_ok h1]
      exact .val (se_bin (m := m) (o := o) s.K (chkE_ok a S X W y h2 s).se (chkE_ok b S X W z h3 s).se) rfl
    | _ => cases hc
  | .neg a, S, X, W, x, hc, s => by
    cases x with
    | UnaryOp op y p =>
      cases op with
      | USub => exact .val (se_neg (chkE_ok a S X W y hc s).se) rfl
      | _ => cases hc
    | _ => cases hc
  | .cmp o a b, S, X, W, x, hc, s => by
    cases x with
    | Compare y ps zs q =>
      match ps, zs, hc with
      | [p], [z], hc =>
        obtain ⟨h1, h4⟩ := and_all (show (coB o p && !(behindInMarks p z) && chkE a S y && chkE b S z) = true from hc)
        obtain ⟨h1, h3⟩ := and_all h1
        obtain ⟨h1, h2⟩ := and_all h1
        have e := coB_ok h1
        subst e
        have h2 : behindInMarks (coOf o) z = false := by simpa using h2
        exact ⟨se_cmp s.K s.hu h2 (chkE_ok a S X W y h3 s).se (chkE_ok b S X W z h4 s).se, fun _ => st_cmp s.K s.hu h2 (chkE_ok a S X W y h3 s).se (chkE_ok b S X W z h4 s).se, fun _ _ _ _ e => nomatch e⟩
    | _ => cases hc
  | .chain o o2 a b c, S, X, W, x, hc, s => by
    cases x with
    | Compare y ps zs q =>
      match ps, zs, hc with
      | [p, p2], [z, u], hc =>
        obtain ⟨h1, h6⟩ := and_all (show (coB o p && coB o2 p2 && !(lastMarks [p, p2] [z, u]) && chkE a S y && chkE b S z && chkE c S u) = true from hc)
        obtain ⟨h1, h5⟩ := and_all h1
        obtain ⟨h1, h4⟩ := and_all h1
        obtain ⟨h1, h3⟩ := and_all h1
        obtain ⟨h1, h2⟩ := and_all h1
        have e := coB_ok h1
        subst e
        have e := coB_ok h2
        subst e
        have h3 : lastMarks [coOf o, coOf o2] [z, u] = false := by simpa using h3
        exact ⟨se_chain s.K s.hu h3 (chkE_ok a S X W y h4 s).se (chkE_ok b S X W z h5 s).se (chkE_ok c S X W u h6 s).se, fun _ => st_chain s.K s.hu h3 (chkE_ok a S X W y h4 s).se (chkE_ok b S X W z h5 s).se (chkE_ok c S X W u h6 s).se, fun _ _ _ _ e => nomatch e⟩
    | _ => cases hc
  | .and a b, S, X, W, x, hc, s => by
    cases x with
    | BoolOp op xs q =>
      cases op with
      | Or => cases xs with
        | nil => cases hc
        | cons _ ys => cases ys with
          | nil => cases hc
          | cons _ zs => cases zs <;> cases hc
      | And =>
        match xs, hc with
        | [y, z], hc =>
          obtain ⟨h1, h2⟩ := and_all (show (chkE a S y && chkE b S z) = true from hc)
          have ha := chkE_ok a S X W y h1 s
          have hb := chkE_ok b S X W z h2 s
          have sw : (tstE a && tstE b) = true → PW X (.BoolOp .And [y, z] q) (tT T W (andM (evE ft a) (evE ft b))) := fun t => sw_and (ha.st (and_all t).1) (sw_one (hb.st (and_all t).2))
          exact ⟨se_and ha.se (pe_one hb.se), fun t => (sw t).pt, fun t _ _ _ _ => sw t⟩
        | y :: z :: u :: us, hc =>
          obtain ⟨h1, h2⟩ := and_all (show (chkE a S y && chkE b S (.BoolOp .And (z :: u :: us) q)) = true from hc)
          have ha := chkE_ok a S X W y h1 s
          have hb := chkE_ok b S X W _ h2 s
          have sw : (tstE a && tstE b) = true → PW X (.BoolOp .And (y :: z :: u :: us) q) (tT T W (andM (evE ft a) (evE ft b))) := fun t => sw_and (ha.st (and_all t).1) (hb.sw (and_all t).2 _ _ _ rfl)
          exact ⟨se_and ha.se hb.se, fun t => (sw t).pt, fun t _ _ _ _ => sw t⟩
    | _ => cases hc
  | .or a b, S, X, W, x, hc, s => by
    cases x with
    | BoolOp op xs q =>
      cases op with
      | And => cases xs with
        | nil => cases hc
        | cons _ ys => cases ys with
          | nil => cases hc
          | cons _ zs => cases zs <;> cases hc
      | Or =>
        match xs, hc with
        | [y, z], hc =>
          obtain ⟨h1, h2⟩ := and_all (show (chkE a S y && chkE b S z) = true from hc)
          have ha := chkE_ok a S X W y h1 s
          have hb := chkE_ok b S X W z h2 s
          have sw : (tstE a && tstE b) = true → PW X (.BoolOp .Or [y, z] q) (tT T W (orM (evE ft a) (evE ft b))) := fun t => sw_or (ha.st (and_all t).1) (sw_one (hb.st (and_all t).2))
          exact ⟨se_or ha.se (pe_one hb.se), fun t => (sw t).pt, fun t _ _ _ _ => sw t⟩
        | y :: z :: u :: us, hc =>
          obtain ⟨h1, h2⟩ := and_all (show (chkE a S y && chkE b S (.BoolOp .Or (z :: u :: us) q)) = true from hc)
          have ha := chkE_ok a S X W y h1 s
          have hb := chkE_ok b S X W _ h2 s
          have sw : (tstE a && tstE b) = true → PW X (.BoolOp .Or (y :: z :: u :: us) q) (tT T W (orM (evE ft a) (evE ft b))) := fun t => sw_or (ha.st (and_all t).1) (hb.sw (and_all t).2 _ _ _ rfl)
          exact ⟨se_or ha.se hb.se, fun t => (sw t).pt, fun t _ _ _ _ => sw t⟩
    | _ => cases hc
  | .not a, S, X, W, x, hc, s => by
    cases x with
    | UnaryOp op y p =>
      cases op with
      | Not =>
        have ha := chkE_ok a S X W y hc s
        exact ⟨se_not ha.se, fun t => st_not (ha.st t), fun _ _ _ _ e => nomatch e⟩
      | _ => cases hc
    | _ => cases hc
  | .ifx c a b, S, X, W, x, hc, s => by
    cases x with
    | IfExp u y z p =>
      obtain ⟨h1, h3⟩ := and_all (show (tstE c && chkE c S u && chkE a S y && chkE b S z) = true from hc)
      obtain ⟨h1, h2⟩ := and_all h1
      obtain ⟨h0, h1⟩ := and_all h1
      exact ⟨se_if ((chkE_ok c S X W u h1 s).st h0) (chkE_ok a S X W y h2 s).se (chkE_ok b S X W z h3 s).se, fun t => (by cases t), fun t => (by cases t)⟩
    | _ => cases hc
  | .idx a i, S, X, W, x, hc, s => by
    cases x with
    | Subscript y z p =>
      obtain ⟨h1, h3⟩ := and_all (show (plainIxB z && chkE a S y && chkE i S z) = true from hc)
      obtain ⟨h1, h2⟩ := and_all h1
      exact .val (se_idx s.K s.hu (plainIx_ok h1) (chkE_ok a S X W y h2 s).se (chkE_ok i S X W z h3 s).se) rfl
    | _ => cases hc
  | .sl m a lo hi, S, X, W, x, hc, s => by
    cases x with
    | Subscript y z p =>
      cases z with
      | Slice l u st p2 =>
        cases st with
        | some _ => cases hc
        | none =>
          obtain ⟨h1, h3⟩ := and_all (show (chkE a S y && optB l (isNilE lo) (fun l => chkA lo S [l]) && optB u (isNilE hi) (fun u => chkA hi S [u])) = true from hc)
          obtain ⟨h1, h2⟩ := and_all h1
          have pl : PartOk T X W l (evA ft lo) := by
            cases l with
            | none =>
              cases lo with
              | nil => exact PartOk.no
              | _ => cases h2
            | some l => exact (chkA_ok lo S X W [l] h2 s).2.2 l rfl
          have pu : PartOk T X W u (evA ft hi) := by
            cases u with
            | none =>
              cases hi with
              | nil => exact PartOk.no
              | _ => cases h3
            | some u => exact (chkA_ok hi S X W [u] h3 s).2.2 u rfl
          exact .val (se_sl s.K (chkE_ok a S X W y h1 s).se pl pu) rfl
      | _ => cases hc
    | _ => cases hc
  | .rev m a, S, X, W, x, hc, s => by
    cases x with
    | Subscript y z pos =>
      match z, hc with
      | .Slice none none (some (.UnaryOp .USub (.Constant (.int c) k p1) p2)) p3, hc =>
        obtain ⟨h1, h2⟩ := and_all (show (decide (c = 1) && chkE a S y) = true from hc)
        have h1 := of_decide_eq_true h1
        subst h1
        exact .val (se_rev s.K (chkE_ok a S X W y h2 s).se) rfl
    | _ => cases hc
  | .call f es, S, X, W, x, hc, s => by
    cases x with
    | Call fn xs kws p =>
      cases fn with
      | Name n q =>
        match xs, kws, hc with
        | y :: ys, [], hc =>
          obtain ⟨cm, h0⟩ := and_all (show (S.calm && (match splitD (y :: ys).length es with
            | some p => glB S.sc n && okN n && isG S.G n (kFn f p.2) && (y :: ys).all noStar && chkA' es S (y :: ys)
            | none => false)) = true from hc)
          cases zp : splitD (y :: ys).length es with
          | none => rw [zp] at h0; cases h0
          | some pr =>
            rw [zp] at h0
            obtain ⟨h1, h5⟩ := and_all (show (glB S.sc n && okN n && isG S.G n (kFn f pr.2) && (y :: ys).all noStar && chkA' es S (y :: ys)) = true from h0)
            obtain ⟨h1, h4⟩ := and_all h1
            obtain ⟨h1, h3⟩ := and_all h1
            obtain ⟨h1, h2⟩ := and_all h1
            obtain ⟨g, e, qq⟩ := isG_ok h3
            have z := s.glob n g e
            cases g with
            | fn f' np nd kw =>
              obtain ⟨q1, q2⟩ := and_all (show (decide (f = f') && (pr.2.isEmpty || decide (pr.2 = nd))) = true from qq)
              have q1 := of_decide_eq_true q1
              subst q1
              have q2 : pr.2 = [] ∨ pr.2 = nd := by
                rcases Bool.or_eq_true_iff.mp q2 with q | q
                · exact .inl (List.isEmpty_iff.mp q)
                · exact .inr (of_decide_eq_true q)
              obtain ⟨a1, a2⟩ := chkA'_ok es S X W (y :: ys) h5 s pr zp
              refine .val ((se_call (dl := pr.2) z.2 (s.rm cm) s.tk (s.gl h1) z.1 (okN_ok h2) q2 h4 a1).congr fun ev h => ?_) rfl
              show _ = (evA ft es ev h).bind fun ds h => ft f ds h
              rw [a2 ev h]
              cases evA ft pr.1 ev h <;> rfl
            | _ => cases qq
        | [y], [⟨some nm, v, kp⟩], hc =>
          match es, hc with
          | .cons a (.cons b .nil), hc =>
            obtain ⟨u1, h6⟩ := and_all (show (S.calm && glB S.sc n && okN n && isG S.G n (kFnK f nm) && noStar y && chkE a S y && chkE b S v) = true from hc)
            obtain ⟨u2, h5⟩ := and_all u1
            obtain ⟨u3, h4⟩ := and_all u2
            obtain ⟨u4, h3⟩ := and_all u3
            obtain ⟨u5, h2⟩ := and_all u4
            obtain ⟨cm, u5⟩ := and_all u5
            obtain ⟨g, e, qq⟩ := isG_ok h3
            have z := s.glob n g e
            cases g with
            | fn f' np nd kw =>
              obtain ⟨w1, w4⟩ := and_all (show (decide (f = f') && decide (np = 2) && !nd.isEmpty && decide (kw = nm)) = true from qq)
              obtain ⟨w5, w3⟩ := and_all w1
              obtain ⟨w6, w2⟩ := and_all w5
              have k1 := of_decide_eq_true w6
              have k2 := of_decide_eq_true w2
              have k4 := of_decide_eq_true w4
              have k3 : nd ≠ [] := fun e => by rw [e] at w3; cases w3
              clear w1 w2 w3 w4 w5 w6 u1 u2 u3 u4 qq
              subst k1 k2 k4
              refine .val ((se_callK z.2 k3 (s.rm cm) s.tk (s.gl u5) z.1 (okN_ok h2) h4 (chkE_ok a S X W y h5 s).se (chkE_ok b S X W v h6 s).se).congr fun ev h => ?_) rfl
              show _ = (((evE ft a ev h).bind fun x h => ((evE ft b ev h).bind fun x h => (R.ok [] h).bind fun xs h => .ok (x :: xs) h).bind fun xs h => .ok (x :: xs) h).bind fun ds h => ft f ds h)
              cases evE ft a ev h with
              | ok x h1 =>
                show ((evE ft b ev h1).bind fun y h => ft f [x, y] h) = ((((evE ft b ev h1).bind fun x h => (R.ok [] h).bind fun xs h => .ok (x :: xs) h).bind fun xs h => .ok (x :: xs) h).bind fun ds h => ft f ds h)
                cases evE ft b ev h1 <;> rfl
              | exn c p h1 => rfl
              | stuck => rfl
            | _ => cases qq
      | _ => cases hc
    | _ => cases hc
  | .prim p es, S, X, W, x, hc, s => by
    cases x with
    | Call fn xs kws q =>
      cases fn with
      | Name n q2 =>
        match xs, kws, hc with
        | y :: ys, [], hc =>
          obtain ⟨h1, h4⟩ := and_all (show (S.calm && freeB S n && decide (primN p = some n) && (y :: ys).all noStar && chkA es S (y :: ys)) = true from hc)
          obtain ⟨h1, h3⟩ := and_all h1
          obtain ⟨h1, h2⟩ := and_all h1
          obtain ⟨cm, h1⟩ := and_all h1
          have h2 := of_decide_eq_true h2
          obtain ⟨gl, mg⟩ := s.free h1
          obtain ⟨n1, n2⟩ := prim_names h2
          have a := (chkA_ok es S X W (y :: ys) h4 s).1
          rcases prim_ok s cm h2 with ⟨id, c, b⟩ | ⟨id, c, b⟩
          · exact .val (se_callB c gl mg b n1 n2 h3 a) rfl
          · exact .val (se_callTy c gl mg b n1 n2 h3 a) rfl
      | _ => cases hc
    | _ => cases hc
  | .isI a t, S, X, W, x, hc, s => by
    cases x with
    | Call fn xs kws q =>
      cases fn with
      | Name n q2 =>
        match xs, kws, hc with
        | [y, .Name u q3], [], hc =>
          obtain ⟨h1, h7⟩ := and_all (show (freeB S n && decide (n = "isinstance") && freeB S u && decide (u = Str.ofString (tyN t)) && notCls t && noStar y && chkE a S y) = true from hc)
          obtain ⟨h1, h6⟩ := and_all h1
          obtain ⟨h1, h5⟩ := and_all h1
          obtain ⟨h1, h4⟩ := and_all h1
          obtain ⟨h1, h3⟩ := and_all h1
          obtain ⟨h1, h2⟩ := and_all h1
          obtain ⟨gl, mg⟩ := s.free h1
          obtain ⟨gl2, mg2⟩ := s.free h3
          have e := of_decide_eq_true h2
          subst e
          have e := of_decide_eq_true h4
          subst e
          exact .val (se_isI s.K (fun c e => by subst e; cases h5) gl mg gl2 mg2 h6 (chkE_ok a S X W y h7 s).se) rfl
      | _ => cases hc
    | _ => cases hc
  | .meth o m es, S, X, W, x, hc, s => by
    cases x with
    | Call fn xs kws p =>
      cases fn with
      | Attribute z n q =>
        match xs, kws, hc with
        | y :: ys, [], hc =>
          obtain ⟨h1, h7⟩ := and_all (show (decide (metN m = some n) && baseB z && (q.endLine == p.line) && decide ((y :: ys).length < 25) && chkE o S z && (y :: ys).all noStar && chkA es S (y :: ys)) = true from hc)
          obtain ⟨h1, h6⟩ := and_all h1
          obtain ⟨h1, h5⟩ := and_all h1
          obtain ⟨h1, h4⟩ := and_all h1
          obtain ⟨h1, h3⟩ := and_all h1
          obtain ⟨h1, h2⟩ := and_all h1
          have h1 := of_decide_eq_true h1
          have ho := (chkE_ok o S X W z h5 s).se
          have ha := (chkA_ok es S X W (y :: ys) h7 s).1
          cases m with
          | append => cases h1; exact .val (se_met (t := .list) s.K (.inl rfl) PySem.F.plainAttrs_list PySem.F.slot_list_append PySem.F.type_list_append app_m ho h6 ha (base_ok h2) (of_decide_eq_true h4) h3) rfl
          | extend => cases h1; exact .val (se_met (t := .list) s.K (.inl rfl) PySem.F.plainAttrs_list PySem.F.slot_list_extend PySem.F.type_list_extend ext_m ho h6 ha (base_ok h2) (of_decide_eq_true h4) h3) rfl
          | count => cases h1; exact .val (se_met (t := .list) s.K (.inl rfl) PySem.F.plainAttrs_list PySem.F.slot_list_count PySem.F.type_list_count (count_m s.K) ho h6 ha (base_ok h2) (of_decide_eq_true h4) h3) rfl
          | index => cases h1; exact .val (se_met (t := .list) s.K (.inl rfl) PySem.F.plainAttrs_list PySem.F.slot_list_index PySem.F.type_list_index (index_m s.K s.hu) ho h6 ha (base_ok h2) (of_decide_eq_true h4) h3) rfl
          | pop => cases h1; exact .val (se_met (t := .list) s.K (.inl rfl) PySem.F.plainAttrs_list PySem.F.slot_list_pop PySem.F.type_list_pop pop_m ho h6 ha (base_ok h2) (of_decide_eq_true h4) h3) rfl
          | get => cases h1; exact .val (se_met (t := .dict) s.K (.inr (.inr rfl)) PySem.F.plainAttrs_dict PySem.F.slot_dict_get PySem.F.type_dict_get (get_mt s.hu) ho h6 ha (base_ok h2) (of_decide_eq_true h4) h3) rfl
          | _ => cases h1
      | _ => cases hc
    | _ => cases hc
  | .callV fs a es, S, X, W, x, hc, s => by
    cases x with
    | Call fe xs kws p =>
      match xs, kws, hc with
      | y :: ys, [], hc =>
        have hc : (S.calm && isSubs fe && chkE a S fe && (y :: ys).all noStar && chkA es S (y :: ys)) = true := by
          cases fe <;> first | exact hc | cases hc
        obtain ⟨h1, h5⟩ := and_all hc
        obtain ⟨h1, h4⟩ := and_all h1
        obtain ⟨h1, h3⟩ := and_all h1
        obtain ⟨cm, h2⟩ := and_all h1
        refine .val (SE.congr (m' := evE ft (.callV fs a es)) (se_callV (fs := fs) (s.okf cm) (s.rm cm) s.tk (chkE_ok a S X W fe h3 s).se h4 (chkA_ok es S X W (y :: ys) h5 s).1 ?_) fun ev h => rfl) (by rfl)
        cases fe with
        | Subscript _ _ _ => rfl
        | _ => cases h2
      | [], _, hc => cases hc
      | _ :: _, _ :: _, hc => cases hc
    | _ => cases hc
  | .isX a c, S, X, W, x, hc, s => by
    cases x with
    | Call fn xs kws q =>
      cases fn with
      | Name n q2 =>
        match xs, kws, hc with
        | [y, .Name u q3], [], hc =>
          obtain ⟨h1, h6⟩ := and_all (show (!S.calm && freeB S n && decide (n = "isinstance") && xcN S c u && noStar y && chkE a S y) = true from hc)
          obtain ⟨h1, h5⟩ := and_all h1
          obtain ⟨h1, h4⟩ := and_all h1
          obtain ⟨h1, h3⟩ := and_all h1
          obtain ⟨h1, h2⟩ := and_all h1
          have cm : S.calm = false := by simpa using h1
          have hx := s.hot cm
          obtain ⟨gl, mg⟩ := s.free h2
          have e := of_decide_eq_true h3
          subst e
          have ha := (chkE_ok a S X W y h6 s).se
          rcases Bool.or_eq_true_iff.mp (show ((decide (c = 100) && freeB S u && decide (u = "ValueError")) || (decide (c < 15) && glB S.sc u && okN u && isG S.G u (kExn c))) = true from h4) with h4 | h4
          · obtain ⟨k1, k3⟩ := and_all h4
            obtain ⟨k1, k2⟩ := and_all k1
            have k1 := of_decide_eq_true k1
            have k3 := of_decide_eq_true k3
            subst k1 k3
            obtain ⟨gl2, mg2⟩ := s.free k2
            exact .val (se_isX (t := .ty "ValueError") (cv := .type "ValueError") hx gl mg (pe_bltn gl2 mg2 (by decide +kernel) rfl (by decide) (by decide)) (fun u e => e) (fun c' hc' => hx.xs.kve c' hc') h5 rfl ha) rfl
          · obtain ⟨k1, k4⟩ := and_all h4
            obtain ⟨k1, k3⟩ := and_all k1
            obtain ⟨k1, k2⟩ := and_all k1
            have k1 := of_decide_eq_true k1
            obtain ⟨g, e, qq⟩ := isG_ok k4
            have z := s.glob u g e
            have mgu : X.mg u = some (.ref (T.xa c)) := by
              cases g with
              | exc d => have e := of_decide_eq_true (show decide (c = d) = true from qq); subst e; exact z.1
              | low d => have e := of_decide_eq_true (show decide (c = d) = true from qq); subst e; exact z
              | _ => cases qq
            refine .val (se_isX (t := .ref (T.xa c)) (cv := .ref (T.xa c)) hx gl mg (pe_glob (s.gl k2) mgu rfl (okN_ok k3)) (fun u e => e) (fun c' hc' => ?_) h5 rfl ha) rfl
            rw [hx.xs.kit c' hc' c k1]
            have : ¬ c = 100 := by omega
            simp [this]
      | _ => cases hc
    | _ => cases hc
  | .mkI _ _ _, S, X, W, x, hc, s => by cases hc
  | .lenO _ _ _ _, S, X, W, x, hc, s => by cases hc
  | .eqO _ _ _ _ _ _, S, X, W, x, hc, s => by cases hc
  | .omet _ _ _ _ _, S, X, W, x, hc, s => by cases hc
  | .fld _ _ _ _, S, X, W, x, hc, s => by cases hc
  | .lc m t it c el own, S, X, W, x, hc, s => by
    cases x with
    | ListComp elt gs scope p =>
      match gs, hc with
      | [⟨tg, iter, ifs, 0⟩], hc =>
        obtain ⟨h1, h7⟩ := and_all (show (S.calm && chkI it S tg iter && noSet iter && blkB S scope own && tgB (S.blk scope) t tg && tgInB t (own.map (·.2)) && ifsB ifs (isTrueE c) (fun z => tstE c && chkE c (S.blk scope) z) && chkE el (S.blk scope) elt) = true from hc)
        obtain ⟨h1, h6⟩ := and_all h1
        obtain ⟨h1, h5⟩ := and_all h1
        obtain ⟨h1, h4⟩ := and_all h1
        obtain ⟨h1, h3⟩ := and_all h1
        obtain ⟨h1, h2⟩ := and_all h1
        obtain ⟨cm, h1⟩ := and_all h1
        refine .val (se_lc s cm (chkI_ok it S X W tg iter h1 s) (noSet_ok h2) h3 h4 h5 (fun X' W' s' => ?_) (fun X' W' s' => (chkE_ok el (S.blk scope) X' W' elt h7 s').se)) rfl
        cases ifs with
        | nil =>
          cases c with
          | bl b =>
            cases b with
            | true => exact PTs.imp pts_nil fun σ H Q ⟨g, h, e, r, s0, o⟩ => OutT.here r o
            | false => cases h6
          | _ => cases h6
        | cons z zs =>
          cases zs with
          | nil =>
            obtain ⟨a, b⟩ := and_all (show (tstE c && chkE c (S.blk scope) z) = true from h6)
            exact pts_one ((chkE_ok c (S.blk scope) X' W' z b s').st a)
          | cons _ _ => cases h6
    | _ => cases hc
  | .zipL m a b, S, X, W, x, hc, s => by
    cases x with
    | Call fn xs kws q =>
      cases fn with
      | Name n q2 =>
        match xs, kws, hc with
        | [.Call (.Name n2 q3) [y, z] [] q4], [], hc =>
          obtain ⟨h1, h9⟩ := and_all (show (S.calm && !m && freeB S n && decide (n = "list") && freeB S n2 && decide (n2 = "zip") && noStar y && noStar z && chkE a S y && chkE b S z) = true from hc)
          obtain ⟨h1, h8⟩ := and_all h1
          obtain ⟨h1, h7⟩ := and_all h1
          obtain ⟨h1, h6⟩ := and_all h1
          obtain ⟨h1, h5⟩ := and_all h1
          obtain ⟨h1, h4⟩ := and_all h1
          obtain ⟨h1, h3⟩ := and_all h1
          obtain ⟨h1, h2⟩ := and_all h1
          obtain ⟨cm, h1⟩ := and_all h1
          have hm : m = false := by simpa using h1
          have h3 := of_decide_eq_true h3
          have h5 := of_decide_eq_true h5
          subst hm h3 h5
          obtain ⟨gl, mg⟩ := s.free h2
          obtain ⟨gl2, mg2⟩ := s.free h4
          exact .val (SE.congr (se_listZip (s.calm cm).1 s.K gl mg gl2 mg2 (sa_two h6 h7 ((chkE_ok a S X W y h8 s).se) ((chkE_ok b S X W z h9 s).se)) (by rw [h6, h7]; rfl)) fun ev h => zip_bind (evE ft a ev h) (evE ft b ev)) rfl
      | _ => cases hc
    | _ => cases hc
  | .dnew _, S, X, W, x, hc, s => by cases hc
  | .gen _, S, X, W, x, hc, s => by cases hc
  | .rng1 _, S, X, W, x, hc, s => by cases hc
  | .rng2 _ _, S, X, W, x, hc, s => by cases hc
  | .enum _, S, X, W, x, hc, s => by cases hc
  | .zip _ _, S, X, W, x, hc, s => by cases hc
theorem chkA_ok : ∀ (m : E) (S : Sc) (X : Cx) (W : WX) (xs : List Expr), chkA m S xs = true → Sx T ft k S X W →
    SA T X W xs (evA ft m) ∧ (∀ e h ds h1, evA ft m e h = .ok ds h1 → ds.length = xs.length) ∧ ∀ y, xs = [y] → PartOk T X W (some y) (evA ft m)
  | .nil, S, X, W, xs, hc, s => by
    cases xs with
    | nil => exact ⟨SA.nil, fun e h ds h1 z => by cases z; rfl, fun y e => nomatch e⟩
    | cons _ _ => cases hc
  | .cons a r, S, X, W, xs, hc, s => by
    cases xs with
    | nil => cases hc
    | cons y ys =>
      obtain ⟨h1, h3⟩ := and_all (show (noStar y && chkE a S y && chkA r S ys) = true from hc)
      obtain ⟨h1, h2⟩ := and_all h1
      have ha := (chkE_ok a S X W y h2 s).se
      obtain ⟨hr, hl, _⟩ := chkA_ok r S X W ys h3 s
      refine ⟨SA.cons h1 ha hr, fun e h ds h1 z => ?_, fun y' e => ?_⟩
      · have z : ((evE ft a e h).bind fun x h => (evA ft r e h).bind fun xs h => .ok (x :: xs) h) = .ok ds h1 := z
        cases z1 : evE ft a e h with
        | ok x h2 =>
          rw [z1] at z
          have z : ((evA ft r e h2).bind fun xs h => .ok (x :: xs) h) = .ok ds h1 := z
          cases z2 : evA ft r e h2 with
          | ok ds' h3 =>
            rw [z2] at z
            cases z
            simp [hl e h2 ds' _ z2]
          | _ => rw [z2] at z; cases z
        | _ => rw [z1] at z; cases z
      · cases e
        cases r with
        | nil => exact PartOk.yes ha
        | _ => cases h3
  | .var _, _, _, _, _, hc, _ => by cases hc
  | .non, _, _, _, _, hc, _ => by cases hc
  | .bl _, _, _, _, _, hc, _ => by cases hc
  | .int _, _, _, _, _, hc, _ => by cases hc
  | .str _, _, _, _, _, hc, _ => by cases hc
  | .gI _ _, _, _, _, _, hc, _ => by cases hc
  | .gS _ _, _, _, _, _, hc, _ => by cases hc
  | .gF _ _ _, _, _, _, _, hc, _ => by cases hc
  | .tup _, _, _, _, _, hc, _ => by cases hc
  | .lst _ _, _, _, _, _, hc, _ => by cases hc
  | .bin _ _ _ _, _, _, _, _, hc, _ => by cases hc
  | .neg _, _, _, _, _, hc, _ => by cases hc
  | .cmp _ _ _, _, _, _, _, hc, _ => by cases hc
  | .chain _ _ _ _ _, _, _, _, _, hc, _ => by cases hc
  | .and _ _, _, _, _, _, hc, _ => by cases hc
  | .or _ _, _, _, _, _, hc, _ => by cases hc
  | .not _, _, _, _, _, hc, _ => by cases hc
  | .ifx _ _ _, _, _, _, _, hc, _ => by cases hc
  | .idx _ _, _, _, _, _, hc, _ => by cases hc
  | .sl _ _ _ _, _, _, _, _, hc, _ => by cases hc
  | .rev _ _, _, _, _, _, hc, _ => by cases hc
  | .call _ _, _, _, _, _, hc, _ => by cases hc
  | .prim _ _, _, _, _, _, hc, _ => by cases hc
  | .isI _ _, _, _, _, _, hc, _ => by cases hc
  | .meth _ _ _, _, _, _, _, hc, _ => by cases hc
  | .omet _ _ _ _ _, _, _, _, _, hc, _ => by cases hc
  | .fld _ _ _ _, _, _, _, _, hc, _ => by cases hc
  | .callV _ _ _, _, _, _, _, hc, _ => by cases hc
  | .mkI _ _ _, _, _, _, _, hc, _ => by cases hc
  | .lenO _ _ _ _, _, _, _, _, hc, _ => by cases hc
  | .eqO _ _ _ _ _ _, _, _, _, _, hc, _ => by cases hc
  | .isX _ _, _, _, _, _, hc, _ => by cases hc
  | .lc _ _ _ _ _ _, _, _, _, _, hc, _ => by cases hc
  | .zipL _ _ _, _, _, _, _, hc, _ => by cases hc
  | .dnew _, _, _, _, _, hc, _ => by cases hc
  | .gen _, _, _, _, _, hc, _ => by cases hc
  | .rng1 _, _, _, _, _, hc, _ => by cases hc
  | .rng2 _ _, _, _, _, _, hc, _ => by cases hc
  | .enum _, _, _, _, _, hc, _ => by cases hc
  | .zip _ _, _, _, _, _, hc, _ => by cases hc
theorem chkA'_ok : ∀ (m : E) (S : Sc) (X : Cx) (W : WX) (xs : List Expr), chkA' m S xs = true → Sx T ft k S X W → ∀ p, splitD xs.length m = some p →
    SA T X W xs (evA ft p.1) ∧ ∀ e h, evA ft m e h = (evA ft p.1 e h).bind fun ds h => .ok (ds ++ p.2.map .int) h
  | m, S, X, W, [], hc, s, p, e => by
    have e : (intsE m).map (fun l => ((.nil : E), l)) = some p := e
    cases z : intsE m with
    | none => rw [z] at e; cases e
    | some l =>
      rw [z] at e
      cases e
      refine ⟨SA.nil, fun ev h => ?_⟩
      rw [intsE_ev m l z ev h]
      rfl
  | .cons a r, S, X, W, y :: ys, hc, s, p, e => by
    obtain ⟨h1, h3⟩ := and_all (show (noStar y && chkE a S y && chkA' r S ys) = true from hc)
    obtain ⟨h1, h2⟩ := and_all h1
    have e : (splitD ys.length r).map (fun p => (E.cons a p.1, p.2)) = some p := e
    cases z : splitD ys.length r with
    | none => rw [z] at e; cases e
    | some q =>
      rw [z] at e
      cases e
      obtain ⟨a1, a2⟩ := chkA'_ok r S X W ys h3 s q z
      refine ⟨SA.cons h1 (chkE_ok a S X W y h2 s).se a1, fun ev h => ?_⟩
      show ((evE ft a ev h).bind fun x h => (evA ft r ev h).bind fun xs h => R.ok (x :: xs) h) = (((evE ft a ev h).bind fun x h => (evA ft q.1 ev h).bind fun xs h => R.ok (x :: xs) h)).bind fun ds h => .ok (ds ++ q.2.map .int) h
      cases evE ft a ev h with
      | ok x h1 =>
        show ((evA ft r ev h1).bind fun xs h => R.ok (x :: xs) h) = ((evA ft q.1 ev h1).bind fun xs h => R.ok (x :: xs) h).bind fun ds h => .ok (ds ++ q.2.map .int) h
        rw [a2 ev h1]
        cases evA ft q.1 ev h1 <;> rfl
      | _ => rfl
  | .var _, _, _, _, _ :: _, hc, _, _, _ => by cases hc
  | .non, _, _, _, _ :: _, hc, _, _, _ => by cases hc
  | .bl _, _, _, _, _ :: _, hc, _, _, _ => by cases hc
  | .int _, _, _, _, _ :: _, hc, _, _, _ => by cases hc
  | .str _, _, _, _, _ :: _, hc, _, _, _ => by cases hc
  | .gI _ _, _, _, _, _ :: _, hc, _, _, _ => by cases hc
  | .gS _ _, _, _, _, _ :: _, hc, _, _, _ => by cases hc
  | .gF _ _ _, _, _, _, _ :: _, hc, _, _, _ => by cases hc
  | .nil, _, _, _, _ :: _, hc, _, _, _ => by cases hc
  | .tup _, _, _, _, _ :: _, hc, _, _, _ => by cases hc
  | .lst _ _, _, _, _, _ :: _, hc, _, _, _ => by cases hc
  | .bin _ _ _ _, _, _, _, _ :: _, hc, _, _, _ => by cases hc
  | .neg _, _, _, _, _ :: _, hc, _, _, _ => by cases hc
  | .cmp _ _ _, _, _, _, _ :: _, hc, _, _, _ => by cases hc
  | .chain _ _ _ _ _, _, _, _, _ :: _, hc, _, _, _ => by cases hc
  | .and _ _, _, _, _, _ :: _, hc, _, _, _ => by cases hc
  | .or _ _, _, _, _, _ :: _, hc, _, _, _ => by cases hc
  | .not _, _, _, _, _ :: _, hc, _, _, _ => by cases hc
  | .ifx _ _ _, _, _, _, _ :: _, hc, _, _, _ => by cases hc
  | .idx _ _, _, _, _, _ :: _, hc, _, _, _ => by cases hc
  | .sl _ _ _ _, _, _, _, _ :: _, hc, _, _, _ => by cases hc
  | .rev _ _, _, _, _, _ :: _, hc, _, _, _ => by cases hc
  | .call _ _, _, _, _, _ :: _, hc, _, _, _ => by cases hc
  | .prim _ _, _, _, _, _ :: _, hc, _, _, _ => by cases hc
  | .isI _ _, _, _, _, _ :: _, hc, _, _, _ => by cases hc
  | .meth _ _ _, _, _, _, _ :: _, hc, _, _, _ => by cases hc
  | .omet _ _ _ _ _, _, _, _, _ :: _, hc, _, _, _ => by cases hc
  | .fld _ _ _ _, _, _, _, _ :: _, hc, _, _, _ => by cases hc
  | .callV _ _ _, _, _, _, _ :: _, hc, _, _, _ => by cases hc
  | .mkI _ _ _, _, _, _, _ :: _, hc, _, _, _ => by cases hc
  | .lenO _ _ _ _, _, _, _, _ :: _, hc, _, _, _ => by cases hc
  | .eqO _ _ _ _ _ _, _, _, _, _ :: _, hc, _, _, _ => by cases hc
  | .isX _ _, _, _, _, _ :: _, hc, _, _, _ => by cases hc
  | .lc _ _ _ _ _ _, _, _, _, _ :: _, hc, _, _, _ => by cases hc
  | .zipL _ _ _, _, _, _, _ :: _, hc, _, _, _ => by cases hc
  | .dnew _, _, _, _, _ :: _, hc, _, _, _ => by cases hc
  | .gen _, _, _, _, _ :: _, hc, _, _, _ => by cases hc
  | .rng1 _, _, _, _, _ :: _, hc, _, _, _ => by cases hc
  | .rng2 _ _, _, _, _, _ :: _, hc, _, _, _ => by cases hc
  | .enum _, _, _, _, _ :: _, hc, _, _, _ => by cases hc
  | .zip _ _, _, _, _, _ :: _, hc, _, _, _ => by cases hc
theorem chkI_ok : ∀ (m : E) (S : Sc) (X : Cx) (W : WX) (tg x : Expr), chkI m S tg x = true → Sx T ft k S X W → SI T X W tg x (evI ft m)
  | .gen a, S, X, W, tg, x, hc, s => si_gen s.K (chkE_ok a S X W x hc s).se
  | .rng1 a, S, X, W, tg, x, hc, s => by
    cases x with
    | Call fn xs kws q =>
      cases fn with
      | Name n q2 =>
        match xs, kws, hc with
        | [y], [], hc =>
          obtain ⟨h1, h4⟩ := and_all (show (freeB S n && decide (n = "range") && noStar y && chkE a S y) = true from hc)
          obtain ⟨h1, h3⟩ := and_all h1
          obtain ⟨h1, h2⟩ := and_all h1
          have e := of_decide_eq_true h2
          subst e
          obtain ⟨gl, mg⟩ := s.free h1
          exact si_rng1 gl mg h3 (chkE_ok a S X W y h4 s).se
      | _ => cases hc
    | _ => cases hc
  | .rng2 a b, S, X, W, tg, x, hc, s => by
    cases x with
    | Call fn xs kws q =>
      cases fn with
      | Name n q2 =>
        match xs, kws, hc with
        | [y, z], [], hc =>
          obtain ⟨h1, h6⟩ := and_all (show (freeB S n && decide (n = "range") && noStar y && noStar z && chkE a S y && chkE b S z) = true from hc)
          obtain ⟨h1, h5⟩ := and_all h1
          obtain ⟨h1, h4⟩ := and_all h1
          obtain ⟨h1, h3⟩ := and_all h1
          obtain ⟨h1, h2⟩ := and_all h1
          have e := of_decide_eq_true h2
          subst e
          obtain ⟨gl, mg⟩ := s.free h1
          exact si_rng2 gl mg h3 h4 (chkE_ok a S X W y h5 s).se (chkE_ok b S X W z h6 s).se
      | _ => cases hc
    | _ => cases hc
  | .enum a, S, X, W, tg, x, hc, s => by
    cases x with
    | Call fn xs kws q =>
      cases fn with
      | Name n q2 =>
        match xs, kws, hc with
        | [y], [], hc =>
          obtain ⟨h1, h5⟩ := and_all (show (freeB S n && decide (n = "enumerate") && isTup tg && noStar y && chkE a S y) = true from hc)
          obtain ⟨h1, h4⟩ := and_all h1
          obtain ⟨h1, h3⟩ := and_all h1
          obtain ⟨h1, h2⟩ := and_all h1
          have e := of_decide_eq_true h2
          subst e
          obtain ⟨gl, mg⟩ := s.free h1
          cases tg with
          | Tuple es kk tp => exact si_enum s.K gl mg h4 (chkE_ok a S X W y h5 s).se
          | _ => cases h3
      | _ => cases hc
    | _ => cases hc
  | .zip a b, S, X, W, tg, x, hc, s => by
    cases x with
    | Call fn xs kws q =>
      cases fn with
      | Name n q2 =>
        match xs, kws, hc with
        | [y, z], [], hc =>
          obtain ⟨h1, h7⟩ := and_all (show (freeB S n && decide (n = "zip") && isTup tg && noStar y && noStar z && chkE a S y && chkE b S z) = true from hc)
          obtain ⟨h1, h6⟩ := and_all h1
          obtain ⟨h1, h5⟩ := and_all h1
          obtain ⟨h1, h4⟩ := and_all h1
          obtain ⟨h1, h3⟩ := and_all h1
          obtain ⟨h1, h2⟩ := and_all h1
          have e := of_decide_eq_true h2
          subst e
          obtain ⟨gl, mg⟩ := s.free h1
          cases tg with
          | Tuple es kk tp => exact si_zip s.K gl mg h4 h5 (chkE_ok a S X W y h6 s).se (chkE_ok b S X W z h7 s).se
          | _ => cases h3
      | _ => cases hc
    | _ => cases hc
  | .nil, _, _, _, _, _, hc, _ => by cases hc
  | .cons _ _, _, _, _, _, _, hc, _ => by cases hc
  | .var _, _, _, _, _, _, hc, _ => by cases hc
  | .non, _, _, _, _, _, hc, _ => by cases hc
  | .bl _, _, _, _, _, _, hc, _ => by cases hc
  | .int _, _, _, _, _, _, hc, _ => by cases hc
  | .str _, _, _, _, _, _, hc, _ => by cases hc
  | .gI _ _, _, _, _, _, _, hc, _ => by cases hc
  | .gS _ _, _, _, _, _, _, hc, _ => by cases hc
  | .gF _ _ _, _, _, _, _, _, hc, _ => by cases hc
  | .tup _, _, _, _, _, _, hc, _ => by cases hc
  | .lst _ _, _, _, _, _, _, hc, _ => by cases hc
  | .bin _ _ _ _, _, _, _, _, _, hc, _ => by cases hc
  | .neg _, _, _, _, _, _, hc, _ => by cases hc
  | .cmp _ _ _, _, _, _, _, _, hc, _ => by cases hc
  | .chain _ _ _ _ _, _, _, _, _, _, hc, _ => by cases hc
  | .and _ _, _, _, _, _, _, hc, _ => by cases hc
  | .or _ _, _, _, _, _, _, hc, _ => by cases hc
  | .not _, _, _, _, _, _, hc, _ => by cases hc
  | .ifx _ _ _, _, _, _, _, _, hc, _ => by cases hc
  | .idx _ _, _, _, _, _, _, hc, _ => by cases hc
  | .sl _ _ _ _, _, _, _, _, _, hc, _ => by cases hc
  | .rev _ _, _, _, _, _, _, hc, _ => by cases hc
  | .call _ _, _, _, _, _, _, hc, _ => by cases hc
  | .prim _ _, _, _, _, _, _, hc, _ => by cases hc
  | .isI _ _, _, _, _, _, _, hc, _ => by cases hc
  | .meth _ _ _, _, _, _, _, _, hc, _ => by cases hc
  | .omet _ _ _ _ _, _, _, _, _, _, hc, _ => by cases hc
  | .fld _ _ _ _, _, _, _, _, _, hc, _ => by cases hc
  | .callV _ _ _, _, _, _, _, _, hc, _ => by cases hc
  | .mkI _ _ _, _, _, _, _, _, hc, _ => by cases hc
  | .lenO _ _ _ _, _, _, _, _, _, hc, _ => by cases hc
  | .eqO _ _ _ _ _ _, _, _, _, _, _, hc, _ => by cases hc
  | .isX _ _, _, _, _, _, _, hc, _ => by cases hc
  | .lc _ _ _ _ _ _, _, _, _, _, _, hc, _ => by cases hc
  | .zipL _ _ _, _, _, _, _, _, hc, _ => by cases hc
  | .dnew _, _, _, _, _, _, hc, _ => by cases hc
end
theorem ifs_ok {c : E} {ifs : List Expr} (h6 : ifsB ifs (isTrueE c) (fun z => tstE c && chkE c S z) = true) (s' : Sx T ft k S X W) : PTs X ifs (tT T W (evE ft c)) := by
  cases ifs with
  | nil =>
    cases c with
    | bl b =>
      cases b with
      | true => exact PTs.imp pts_nil fun σ H Q ⟨g, h, e, r, s0, o⟩ => OutT.here r o
      | false => cases h6
    | _ => cases h6
  | cons z zs =>
    cases zs with
    | nil =>
      obtain ⟨a, b⟩ := and_all (show (tstE c && chkE c S z) = true from h6)
      exact pts_one ((chkE_ok c S X W z b s').st a)
    | cons _ _ => cases h6
end
end Mi
namespace Mi
open PySem PySem.Spec PyProof.Rows L2
section
variable {T : Tx} {ft : FT} {k : Nat} {S : Sc} {X : Cx} {W : WX}
theorem augO_ne {o : Bo} (ho : o = .add ∨ o = .sub) : ∀ a b h c p h1, augO o a b h ≠ .exn c p h1 := by
  intro a b h c p h1 z
  unfold augO at z
  split at z
  · split at z
    · rcases ho with ho | ho <;> subst ho <;> cases z
    · cases z
  · split at z
    · split at z
      · rcases ho with ho | ho <;> subst ho
        · simp only [bop, addD] at z
          split at z <;> cases z
        · cases z
      · cases z
    · cases z
theorem isInt_some {d : D} {i : Int} (h : isInt d = some i) : d = .int i := by cases d <;> first | (cases h; rfl) | cases h
theorem isStr_some {d : D} {i : Str} (h : isStr d = some i) : d = .str i := by cases d <;> first | (cases h; rfl) | cases h
theorem aug_m {o : Bo} (op : Operator) (w : XW) (ho : (o = .add ∧ op = .Add) ∨ (o = .sub ∧ op = .Sub)) : PIp X op (R2m T w (augO o)) := by
  intro pins s σ H x y v u Q I rx ry q
  obtain ⟨g, h, a, b, r, ra, rb, oo⟩ := q (inv_sz I)
  unfold augO at oo
  cases za : isInt a with
  | some i =>
    rw [za] at oo
    have e := isInt_some za
    subst e
    cases zb : isInt b with
    | none => rw [zb] at oo; exact oo.elim
    | some j =>
      rw [zb] at oo
      have e := isInt_some zb
      subst e
      have e1 : x = .int i := ra
      have e2 : y = .int j := rb
      subst e1 e2
      rcases ho with ⟨rfl, rfl⟩ | ⟨rfl, rfl⟩
      · exact iop_add pins s σ H _ _ v u Q I rx ry ⟨i, j, rfl, rfl, Out.here (d := .int (i + j)) r oo rfl⟩
      · exact iop_sub pins s σ H _ _ v u Q I rx ry ⟨i, j, rfl, rfl, Out.here (d := .int (i - j)) r oo rfl⟩
  | none =>
    rw [za] at oo
    cases ya : isStr a with
    | none => rw [ya] at oo; exact oo.elim
    | some i =>
      rw [ya] at oo
      have e := isStr_some ya
      subst e
      cases zb : isStr b with
      | none => rw [zb] at oo; exact oo.elim
      | some j =>
        rw [zb] at oo
        have e := isStr_some zb
        subst e
        have e1 : x = .str i := ra
        have e2 : y = .str j := rb
        subst e1 e2
        rcases ho with ⟨rfl, rfl⟩ | ⟨rfl, rfl⟩
        · have oo : Out T g H (if i.length + j.length ≤ big then .ok (.str (i ++ j)) h else .stuck) Q w := oo
          by_cases c : i.length + j.length ≤ big
          · rw [if_pos c] at oo
            exact iop_add_str pins s σ H _ _ v u Q I rx ry ⟨i, j, rfl, rfl, big_size c, Out.here (d := .str (i ++ j)) r oo rfl⟩
          · rw [if_neg c] at oo; exact oo.elim
        · exact oo.elim
def noComp : Expr → Bool
  | .ListComp _ _ _ _ => false
  | .SetComp _ _ _ _ => false
  | .DictComp _ _ _ _ _ => false
  | _ => true
theorem noComp_ok {e : Expr} {t : Option Expr} {l : Nat} {env : Env} (h : noComp e = true) : swapsWith e t l env = pure false := by
  cases e <;> first | rfl | cases h
def augB : Bo → Operator → Bool
  | .add, .Add => true
  | .sub, .Sub => true
  | _, _ => false
theorem augB_ok {o : Bo} {p : Operator} (h : augB o p = true) : (o = .add ∧ p = .Add) ∨ (o = .sub ∧ p = .Sub) := by
  cases o <;> cases p <;> first | exact .inl ⟨rfl, rfl⟩ | exact .inr ⟨rfl, rfl⟩ | cases h
def isLoc (sc : Scope) (n : Str) : Bool := match sc.names.lookup n with
  | some .local => true
  | _ => false
theorem isLoc_ok {sc : Scope} {n : Str} (h : isLoc sc n = true) : sc.names.lookup n = some .local := by
  unfold isLoc at h
  cases z : sc.names.lookup n with
  | none => rw [z] at h; cases h
  | some q =>
    rw [z] at h
    cases q with
    | «local» => rfl
    | _ => cases h
def isNm : Expr → Bool
  | .Name _ _ => true
  | _ => false
def swB (sc : Scope) (n : Str) (py : Pos) (scope : Scope) (pos : Pos) : Bool :=
  decide (sc.kind = .function) && isLoc sc n && (py.line == pos.line) && !(scope.names.any fun (m, k) => m == n && (k == .local || k == .cell))
def swN (sc : Scope) (n : Str) (py : Pos) (pos : Pos) : Bool := decide (sc.kind = .function) && (!(isLoc sc n) || !(py.line == pos.line))
theorem swN_ok {env : Env} {elt : Expr} {gs : List Comprehension} {scope : Scope} {n : Str} {py pos : Pos} {l : Nat} (h : swN env.scope n py pos = true) : swapsWith (.ListComp elt gs scope pos) (some (.Name n py)) l env = pure false := by
  unfold swN at h
  obtain ⟨h1, h2⟩ := and_all h
  have hb : env.blockKind = .function := by unfold Env.blockKind; rw [of_decide_eq_true h1]; rfl
  unfold swapsWith
  show pure (env.blockKind == .function && env.kindOf n == some .local && py.line == pos.line && !(scope.names.any fun (m, k) => m == n && (k == .local || k == .cell))) = pure false
  rw [hb]
  have : (env.kindOf n == some .local && py.line == pos.line) = false := by
    rw [Bool.or_eq_true] at h2
    rcases h2 with h2 | h2
    · have : (env.kindOf n == some .local) = false := by
        cases z : (env.kindOf n == some .local) with
        | false => rfl
        | true =>
          have z : env.scope.names.lookup n = some .local := eq_of_beq z
          unfold isLoc at h2
          rw [z] at h2
          cases h2
      rw [this]; rfl
    · rw [Bool.and_eq_false_iff]
      right
      simpa using h2
  rw [show ((ScopeKind.function == ScopeKind.function) && env.kindOf n == some .local && py.line == pos.line && !(scope.names.any fun (m, k) => m == n && (k == .local || k == .cell))) = ((env.kindOf n == some .local && py.line == pos.line) && !(scope.names.any fun (m, k) => m == n && (k == .local || k == .cell))) from rfl, this]
  rfl
def parB (sc : Scope) (x y : Str) (px py : Pos) (a b : Expr) : Bool :=
  decide (sc.kind = .function) && noStar a && noStar b && isLoc sc x && isLoc sc y && (px.line == py.line) && !decide (x = y) && !(foldedForSure 8 a && foldedForSure 8 b) && !(constantsAlone 8 a && constantsAlone 8 b)
def parN (sc : Scope) (x y : Str) : Bool := decide (sc.kind = .function) && !(isLoc sc x && isLoc sc y)
theorem star_no {a : Expr} (h : noStar a = true) : (match a with
    | .Starred .. => true
    | _ => false) = false := by cases a <;> first | rfl | cases h
theorem loc_eq {env : Env} {n : Str} : (env.kindOf n == some NameKind.local) = isLoc env.scope n := by
  unfold isLoc
  show (env.scope.names.lookup n == some NameKind.local) = _
  cases env.scope.names.lookup n with
  | none => rfl
  | some q => cases q <;> rfl
theorem par_ok {env : Env} {x y : Str} {px py pt pt2 : Pos} {kt k2 : Nat} {a b : Expr} (h : parB env.scope x y px py a b = true) :
    swappedStores [.Tuple [.Name x px, .Name y py] kt pt] (.Tuple [a, b] k2 pt2) env = pure (some [x, y]) := by
  unfold parB at h
  simp only [Bool.and_eq_true, decide_eq_true_eq, Bool.not_eq_true', decide_eq_false_iff_not] at h
  obtain ⟨⟨⟨⟨⟨⟨⟨⟨h1, h2⟩, h3⟩, h4⟩, h5⟩, h6⟩, h7⟩, h8⟩, h9⟩ := h
  have hb : env.blockKind = .function := by unfold Env.blockKind; rw [h1]; rfl
  have l : py.line = px.line := (eq_of_beq h6).symm
  unfold swappedStores
  simp only [hb, List.length_cons, List.length_nil, List.any_cons, List.any_nil, star_no h2, star_no h3, List.head?_cons, Option.map_some, Option.getD_some, List.filterMap_cons, List.filterMap_nil, loc_eq, h4, h5, Expr.pos, l, beq_self_eq_true, Bool.and_self, if_true, List.all_cons, List.all_nil, Bool.and_true, h8, h9]
  have e : ([x, y] : List Str).eraseDups.length = 2 := by
    rw [List.eraseDups_cons]
    have : ([y] : List Str).filter (fun b => !b == x) = [y] := by
      simp only [List.filter_cons, List.filter_nil]
      rw [if_pos]
      have : (y == x) = false := by
        cases z : (y == x) with
        | false => rfl
        | true => exact absurd (eq_of_beq z).symm h7
      rw [this]; rfl
    rw [this]; rfl
  simp [e]
  intro z
  exfalso
  rcases z with z | z
  · cases a <;> first | (cases h2; done) | (cases z; done)
  · cases b <;> first | (cases h3; done) | (cases z; done)
theorem parN_ok {env : Env} {x y : Str} {px py pt pt2 : Pos} {kt k2 : Nat} {vs : List Expr} (h : parN env.scope x y = true) :
    swappedStores [.Tuple [.Name x px, .Name y py] kt pt] (.Tuple vs k2 pt2) env = pure none := by
  unfold parN at h
  simp only [Bool.and_eq_true, decide_eq_true_eq, Bool.not_eq_true'] at h
  obtain ⟨h1, h2⟩ := h
  have hb : env.blockKind = .function := by unfold Env.blockKind; rw [h1]; rfl
  unfold swappedStores
  simp only [hb, List.length_cons, List.length_nil, List.head?_cons, Option.map_some, Option.getD_some, List.filterMap_cons, List.filterMap_nil, loc_eq, Expr.pos, beq_self_eq_true, Bool.and_true]
  have e1 : ∀ n : Str, ([n] : List Str).length ≠ 2 := fun _ => by simp
  cases hx : isLoc env.scope x
  · cases hy : (isLoc env.scope y && py.line == px.line)
    · simp
    · simp
  · have hy : isLoc env.scope y = false := by rw [hx] at h2; simpa using h2
    rw [hy]
    simp
end
end Mi
namespace Mi
open PySem PySem.Spec PyProof.Rows L2
section
variable {T : Tx} {X : Cx} {W : WX} {H H1 H2 : Hp} {g g1 g2 : Gr} {h h1 : MH}
def finD (n : Nat) (f : Fl) : Fl := match f with
  | .nx e3 h3 => (match unlock h3 n with
    | some h4 => .nx e3 h4
    | none => .stuck)
  | _ => .stuck
def forDM (t : Tg) (i : Nat) (mb : Ev → MH → Fl) : Ev → MH → Fl := fun e h => match vget e i with
    | some (.ref n) => (match keysH h n with
      | some (xs, h2) => (match forL t mb xs e h2 with
        | .nx e3 h3 => (match unlock h3 n with
          | some h4 => .nx e3 h4
          | none => .stuck)
        | _ => .stuck)
      | none => .stuck)
    | _ => .stuck
theorem rep_key : ∀ (k : Ky), RepV T H g (kyD k) (kV k) := fun k => by cases k <;> rfl
theorem rep_keys : ∀ (k : List Ky), RepL T H g (k.map kyD) (k.map kV)
  | [] => True.intro
  | k :: ks => ⟨rep_key k, rep_keys ks⟩
theorem RepT.keyAt : ∀ {kvs : List (List Ky × D)} {kk : List (List L2.Key × V)} {i : Nat} {k : List L2.Key} {v : V}, RepT T H g kvs kk → kk[i]? = some (k, v) → (kvs.map fun p => D.tup (p.1.map kyD))[i]? = some (.tup (k.map kyD))
  | [], [], _, _, _, _, e => by simp at e
  | (k, d) :: r, (q, v) :: s, 0, _, _, z, e => by
    simp at e
    obtain ⟨z1, _, _⟩ := z
    simp [z1, e.1]
  | (k, d) :: r, (q, v) :: s, i + 1, _, _, z, e => by
    obtain ⟨_, _, z3⟩ := z
    exact RepT.keyAt (i := i) z3 (by simpa using e)
  | [], _ :: _, _, _, _, z, _ => z.elim
  | _ :: _, [], _, _, _, z, _ => z.elim
theorem RepK.keyAt : ∀ {kvs : List (Ky × D)} {kk : List (L2.Key × V)} {i : Nat} {k : L2.Key} {v : V}, RepK T H g kvs kk → kk[i]? = some (k, v) → (kvs.map fun p => kyD p.1)[i]? = some (kyD k)
  | [], [], _, _, _, _, e => by simp at e
  | (k, d) :: r, (q, v) :: s, 0, _, _, z, e => by
    simp at e
    obtain ⟨z1, _, _⟩ := z
    simp [z1, e.1]
  | (k, d) :: r, (q, v) :: s, i + 1, _, _, z, e => by
    obtain ⟨_, _, z3⟩ := z
    exact RepK.keyAt (i := i) z3 (by simpa using e)
  | [], _ :: _, _, _, _, z, _ => z.elim
  | _ :: _, [], _, _, _, z, _ => z.elim
theorem forD_core {t : Tg} {G : TG} {mb : Ev → MH → Fl} {D0 : Ends} {xs : List D} {a : Addr} {od : Obj} {u : HO} {n : Nat} {J : L2.It} {e : Ev} {σ : St} {h2 : MH} (hG : TgOk T t G) (r : Rel T H g h) (s : RepS T H g e σ)
    (ha : g.phi[n]? = some a) (hu : H a = some u) (hnf : ∀ ob x, u ≠ .frz ob x) (r2 : Rel T (upd H a (.frz od u)) g h2)
    (hgo : ∀ i H', H' a = some (.frz od u) → i < xs.length → J.go i H') (hstop : ∀ H', H' a = some (.frz od u) → J.stop xs.length H')
    (hyld : ∀ i g' H' h' x H'', H' a = some (.frz od u) → Rel T H' g' h' → J.yld i H' x H'' → H'' = H' ∧ ∃ d, xs[i]? = some d ∧ RepV T H' g' d x)
    (hun : ∀ g' H' h' h4, Rel T H' g' h' → g'.phi[n]? = some a → H' a = some (.frz od u) → unlock h' n = some h4 → Rel T (upd H' a u) g' h4)
    (o : OutS T g H (finD n (forL t mb xs e h2)) D0 W) :
    ∃ Wn : Nat → Nat → St → Hp → Prop, (∃ m, Wn 0 m σ (upd H a (.frz od u))) ∧ ∀ i m σ H', Wn i m σ H' →
      (J.stop i H' ∧ (H' a = some (.frz od u) ∧ D0.nx σ (upd H' a u))) ∨ (J.go i H' ∧ ∃ N : St → Hp → Prop, (∀ σ' H'', N σ' H'' → ∃ m', m' < m ∧ Wn (i + 1) m' σ' H'') ∧ ∀ x H'', J.yld i H' x H'' → G x σ H'' fun σ2 H2 => tS T W mb ⟨N, fun v H3 => H3 a = some (.frz od u) ∧ D0.rt v (upd H3 a u), fun σ3 H3 => H3 a = some (.frz od u) ∧ D0.nx σ3 (upd H3 a u), N⟩ σ2 H2) := by
  have hmem : a ∈ g.phi := List.mem_of_getElem? ha
  have x0 : Ext g H g (upd H a (.frz od u)) := Ext.write ha fun ob x z => hnf ob x (Option.some.inj (hu.symm.trans z))
  -- what an outcome means
  have fin : ∀ g' H' h' e' σ', Rel T H' g' h' → RepS T H' g' e' σ' → Ext g (upd H a (.frz od u)) g' H' → finD n (.nx e' h') = finD n (forL t mb xs e h2) → H' a = some (.frz od u) ∧ D0.nx σ' (upd H' a u) := by
    intro g' H' h' e' σ' r' s' x' eq
    have ea : H' a = some (.frz od u) := x'.lk a od u upd_same
    refine ⟨ea, ?_⟩
    rw [← eq] at o
    have o : OutS T g H (match unlock h' n with
      | some h4 => .nx e' h4
      | none => .stuck) D0 W := o
    cases z : unlock h' n with
    | none => rw [z] at o; exact o.elim
    | some h4 =>
      rw [z] at o
      obtain ⟨tl, et, hn⟩ := x'.phi
      have ha' : g'.phi[n]? = some a := by rw [et, List.getElem?_append_left (List.getElem?_eq_some_iff.mp ha).1]; exact ha
      have rr := hun g' H' h' h4 r' ha' ea z
      have s4 : RepS T (upd H' a u) g' e' σ' := ⟨s'.1, fun i d ed => by
        obtain ⟨v, e1, e2⟩ := s'.2 i d ed
        exact ⟨v, e1, RepV.mono0 (Ext0.write ha') r' d v e2⟩⟩
      refine o σ' (upd H' a u) g' rr ⟨fun b w eb nb => ?_, x'.fzs, ⟨tl, et, fun b hb => ?_⟩, fun b hb => ?_, fun b ow w eb => ?_⟩ s4
      · have nba : b ≠ a := fun z => nb (by rw [z]; exact hmem)
        rw [upd_ne nba]
        exact x'.fr b w (by rw [upd_ne nba]; exact eb) nb
      · have q := hn b hb
        by_cases nba : b = a
        · rw [nba, upd_same] at q; cases q
        · rw [upd_ne nba] at q; exact q
      · rcases x'.fzn b hb with q | q
        · exact .inl q
        · by_cases nba : b = a
          · rw [nba, upd_same] at q; cases q
          · rw [upd_ne nba] at q; exact .inr q
      · have nba : b ≠ a := fun z => by rw [z, hu] at eb; exact hnf _ _ (Option.some.inj eb)
        rw [upd_ne nba]
        exact x'.lk b ow w (by rw [upd_ne nba]; exact eb)
  refine ⟨fun i m σ H' => ∃ g' h' e', Rel T H' g' h' ∧ RepS T H' g' e' σ ∧ Ext g (upd H a (.frz od u)) g' H' ∧ i ≤ xs.length ∧ m = xs.length - i ∧ finD n (forL t mb (xs.drop i) e' h') = finD n (forL t mb xs e h2),
    ⟨_, g, h2, e, r2, s.mono x0 r, .refl _ _, Nat.zero_le _, rfl, by simp⟩, ?_⟩
  rintro i m σ5 H5 ⟨g', h', e', r5, s5, x5, hi, hm, eq5⟩
  have ea : H5 a = some (.frz od u) := x5.lk a od u upd_same
  by_cases hlt : i < xs.length
  · refine .inr ⟨hgo i H5 ea hlt, fun σ6 H6 => ∃ g' h' e', Rel T H6 g' h' ∧ RepS T H6 g' e' σ6 ∧ Ext g (upd H a (.frz od u)) g' H6 ∧ i + 1 ≤ xs.length ∧ finD n (forL t mb (xs.drop (i + 1)) e' h') = finD n (forL t mb xs e h2),
      fun σ6 H6 ⟨g', h', e', a1, a2, a3, a4, a5⟩ => ⟨xs.length - (i + 1), by omega, g', h', e', a1, a2, a3, a4, rfl, a5⟩, fun x H' y => ?_⟩
    obtain ⟨eH, d, ed, q2⟩ := hyld i g' H5 h' x H' ea r5 y
    subst eH
    have hdr : xs.drop i = d :: xs.drop (i + 1) := by
      obtain ⟨hl', e'⟩ := List.getElem?_eq_some_iff.mp ed
      rw [← e']
      exact List.drop_eq_getElem_cons hl'
    rw [hdr] at eq5
    have eq5 : finD n (match setT t d e' with
          | none => .stuck
          | some e1 => (match mb e1 h' with
            | .nx e2 h2 => forL t mb (xs.drop (i + 1)) e2 h2
            | .cnt e2 h2 => forL t mb (xs.drop (i + 1)) e2 h2
            | .brk e2 h2 => .nx e2 h2
            | r => r)) = finD n (forL t mb xs e h2) := eq5
    have dead : ∀ f : Fl, finD n f = finD n (forL t mb xs e h2) → finD n f = .stuck → False := fun f q1 q2 => by
      rw [← q1, q2] at o; exact o
    cases z : setT t d e' with
    | none => rw [z] at eq5; exact (dead _ eq5 rfl).elim
    | some e1 =>
      rw [z] at eq5
      refine hG.run σ5 H' g' e' e1 d x h' _ r5 s5 q2 z fun σ6 s6 _ => ⟨g', h', e1, r5, s6, ?_⟩
      have eq5 : finD n (match mb e1 h' with
            | .nx e2 h2 => forL t mb (xs.drop (i + 1)) e2 h2
            | .cnt e2 h2 => forL t mb (xs.drop (i + 1)) e2 h2
            | .brk e2 h2 => .nx e2 h2
            | r => r) = finD n (forL t mb xs e h2) := eq5
      revert eq5
      cases mb e1 h' with
      | nx e2 h6 => exact fun eq5 σ7 H7 g7 r7 x7 s7 => ⟨g7, h6, e2, r7, s7, x5.trans r2 r5 x7, hlt, eq5⟩
      | cnt e2 h6 => exact fun eq5 σ7 H7 g7 r7 x7 s7 => ⟨g7, h6, e2, r7, s7, x5.trans r2 r5 x7, hlt, eq5⟩
      | brk e2 h6 => exact fun eq5 σ7 H7 g7 r7 x7 s7 => fin g7 H7 h6 e2 σ7 r7 s7 (x5.trans r2 r5 x7) eq5
      | ret d h6 => exact fun eq5 => (dead _ eq5 rfl).elim
      | exn c p h6 => exact fun eq5 => (dead _ eq5 rfl).elim
      | stuck => exact fun eq5 => (dead _ eq5 rfl).elim
  · have e0 : i = xs.length := by omega
    subst e0
    rw [List.drop_length] at eq5
    exact .inl ⟨hstop H5 ea, fin g' H5 h' e' σ5 r5 s5 x5 eq5⟩
theorem s1_forD {tg : Expr} {nm : Str} {b : List Stmt} {pos p : Pos} {t : Tg} {G : TG} {i : Nat} {mb : Ev → MH → Fl} (hp : PassesOwn (model X.prog X.w) X.A X.env X.xe) (hc : X.calm = true) (hG : TgOk T t G) (hg : PG X tg G)
    (hN : X.N[i]? = some nm) (hv : Vis X.env.scope nm) (hd : (nm == ("__debug__" : Str)) = false) (hcd : (nm == ("__classdict__" : Str)) = false) (hb : SS T X W b mb)
    (hs : ∀ x, foldedSetIterable (.Name nm p) X.env x = pure x) : S1 T X W (.For tg (.Name nm p) b [] pos) (forDM t i mb) := by
  refine PS.imp (ps_lock (ps_for hp hc (pi_keys (pe_var hN hv hd hcd)) hg hb hs)) fun D0 σ H ⟨g, h, e, r, s, o⟩ => ?_
  unfold forDM at o
  cases z : vget e i with
  | none => rw [z] at o; exact o.elim
  | some d0 =>
    rw [z] at o
    cases d0 with
    | ref n =>
      obtain ⟨v, ev, a, rfl, ha⟩ := s.2 i _ (vget_some z)
      have o : OutS T g H (match keysH h n with
        | some (xs, h2) => finD n (forL t mb xs e h2)
        | none => .stuck) D0 W := o
      unfold keysH at o
      cases y : h[n]? with
      | none => rw [y] at o; exact o.elim
      | some ob =>
        rw [y] at o
        cases ob with
        | dT l kvs =>
          cases l with
          | true => exact o.elim
          | false =>
            have o : OutS T g H (finD n (forL t mb (kvs.map fun p => .tup (p.1.map kyD)) e (h.set n (.dT true kvs)))) D0 W := o
            obtain ⟨kk, q1, q2⟩ := r.obj n _ a y ha
            have q2 : H a = some (.dT kk) := q2
            refine ⟨a, _, q2, True.intro, fun od => ⟨_, ev, a, od, rfl, .inr ⟨kk, upd_same, ?_⟩⟩⟩
            have hlen : (kvs.map fun p => D.tup (p.1.map kyD)).length = kk.length := by rw [List.length_map]; exact RepT.length q1
            have x0 : Ext g H g (upd H a (.frz od (.dT kk))) := Ext.write ha fun ob x z => by rw [q2] at z; cases z
            refine forD_core (J := Itkt a od kk) hG r s ha q2 (fun _ _ z => nomatch z) (r.write (ob := .dT true kvs) ha ⟨kk, RepT.mono x0 r _ _ q1, od, upd_same⟩) (fun i H' e1 e2 => ⟨e1, by rw [← hlen]; exact e2⟩) (fun H' e1 => ⟨e1, by rw [hlen]; exact Nat.le_refl _⟩) (fun i g' H' h' x H'' e1 r' y => ?_) (fun g' H' h' h4 r' a' e1 e2 => ?_) o
            · obtain ⟨eH, k, v, q, f1, f2, f3⟩ := y
              exact ⟨eH, _, RepT.keyAt q1 f1, q, _, f2, f3, rep_keys k⟩
            · unfold unlock at e2
              cases w : h'[n]? with
              | none => rw [w] at e2; cases e2
              | some ob =>
                rw [w] at e2
                have qo := r'.obj n _ a w a'
                cases ob with
                | dT l kvs2 =>
                  cases l with
                  | false => cases e2
                  | true =>
                    cases e2
                    obtain ⟨kk2, p1, o2, p2⟩ := qo
                    rw [e1] at p2
                    cases p2
                    exact r'.write (ob := .dT false kvs2) a' ⟨kk, RepT.mono0 (Ext0.write a') r' _ _ p1, upd_same⟩
                | dK l kvs2 =>
                  cases l with
                  | false => cases e2
                  | true =>
                    obtain ⟨kk2, p1, o2, p2⟩ := qo
                    rw [e1] at p2
                    cases p2
                | _ => cases e2
        | dK l kvs =>
          cases l with
          | true => exact o.elim
          | false =>
            have o : OutS T g H (finD n (forL t mb (kvs.map fun p => kyD p.1) e (h.set n (.dK true kvs)))) D0 W := o
            obtain ⟨kk, q1, q2⟩ := r.obj n _ a y ha
            have q2 : H a = some (.dK kk) := q2
            refine ⟨a, _, q2, True.intro, fun od => ⟨_, ev, a, od, rfl, .inl ⟨kk, upd_same, ?_⟩⟩⟩
            have hlen : (kvs.map fun p => kyD p.1).length = kk.length := by rw [List.length_map]; exact RepK.length q1
            have x0 : Ext g H g (upd H a (.frz od (.dK kk))) := Ext.write ha fun ob x z => by rw [q2] at z; cases z
            refine forD_core (J := Itk a od kk) hG r s ha q2 (fun _ _ z => nomatch z) (r.write (ob := .dK true kvs) ha ⟨kk, RepK.mono x0 r _ _ q1, od, upd_same⟩) (fun i H' e1 e2 => ⟨e1, by rw [← hlen]; exact e2⟩) (fun H' e1 => ⟨e1, by rw [hlen]; exact Nat.le_refl _⟩) (fun i g' H' h' x H'' e1 r' y => ?_) (fun g' H' h' h4 r' a' e1 e2 => ?_) o
            · obtain ⟨eH, k, v, f1, f2⟩ := y
              exact ⟨eH, _, RepK.keyAt q1 f1, by rw [f2]; exact rep_key k⟩
            · unfold unlock at e2
              cases w : h'[n]? with
              | none => rw [w] at e2; cases e2
              | some ob =>
                rw [w] at e2
                have qo := r'.obj n _ a w a'
                cases ob with
                | dK l kvs2 =>
                  cases l with
                  | false => cases e2
                  | true =>
                    cases e2
                    obtain ⟨kk2, p1, o2, p2⟩ := qo
                    rw [e1] at p2
                    cases p2
                    exact r'.write (ob := .dK false kvs2) a' ⟨kk, RepK.mono0 (Ext0.write a') r' _ _ p1, upd_same⟩
                | dT l kvs2 =>
                  cases l with
                  | false => cases e2
                  | true =>
                    obtain ⟨kk2, p1, o2, p2⟩ := qo
                    rw [e1] at p2
                    cases p2
                | _ => cases e2
        | _ => exact o.elim
    | _ => exact o.elim
end
end Mi
namespace Mi
open PySem PySem.Spec PyProof.Rows L2
section
variable {T : Tx} {X : Cx} {W : WX} {H H1 H2 : Hp} {g g1 g2 : Gr} {h h1 : MH}
def tWhich (T : Tx) (ft : FT) (f i : Nat) (a : Addr) (cls : Value) (d : Option Addr) : TE := fun σ H Q => ∃ (c : Nat) (σ0 : St), σ = σ0.set i (some (.ref a)) ∧ c < 15 ∧ cls = .ref (T.xa c) ∧ (∀ dd, d = some dd → ∃ fs, H dd = some (.xd fs)) ∧ Out (T.hold c (a, d)) g0 H (ft f [.xv c] []) Q (fun _ _ _ => False)
theorem run_which {k f : Nat} {ft : FT} {a : Addr} {oe : Obj} {c : Nat} {d : Option Addr} {pins : List (Addr × Obj)} {σ : St} {s : Shared} {Q : VK} (F : WhF T X k ft f) (hr : L2H.RoomH k X.A) (hp : (a, oe) ∈ X.pn) (hot : L2H.Hot1 X.A (a, oe)) (hz : Zc (.ref (T.xa c)) d oe) (hc : c < 15)
    (I : Inv X pins σ H s) (hdd : ∀ dd, d = some dd → ∃ fs, H dd = some (.xd fs)) (o : Out (T.hold c (a, d)) g0 H (ft f [.xv c] []) Q (fun _ _ _ => False)) : wpAny (model X.prog X.w) X.A (PySem.call (.ref (T.fa f)) [.ref a]) (EP X pins σ Q) X.xe s := by
  obtain ⟨fd, y, hb, run⟩ := F.ex
  have P1 := I.pin (a, oe) (List.mem_append_left _ hp)
  have hpin : L2H.PinOk X.stack H s (a, oe) := ⟨P1.1, P1.2.1, fun hm => (List.mem_cons.mp (I.stkSub a hm)).elim P1.2.2.1 P1.2.2.2.1, P1.2.2.2.2⟩
  have bnd := hb s [.ref a] I.kIn rfl
  refine wpAny_call (codeAny_mono (run X.A X.stack s H ⟨[.ref a], []⟩ Q c a d oe hc hr hot hpin I.env0 bnd hz hdd o) fun r s' hq => ?_)
  cases r with
  | error e =>
    obtain ⟨_, _, _, _, _, _, _, _, _, _, _, _, z⟩ := hq
    exact z.elim
  | ok fl =>
    cases fl with
    | ret u => exact I.after hq
    | next => exact False.elim hq
    | brk => exact False.elim hq
    | cont => exact False.elim hq
theorem pe_which0 {k f i : Nat} {ft : FT} {wn n : Str} {a : Addr} {oe : Obj} {cls : Value} {d : Option Addr} {q1 q2 q3 : Pos} (F : WhF T X k ft f) (hr : L2H.RoomH k X.A) (hp : (a, oe) ∈ X.pn) (hot : L2H.Hot1 X.A (a, oe)) (hg : Gl X wn) (hm : X.mg wn = some (.ref (T.fa f))) (hdb : (wn == ("__debug__" : Str)) = false)
    (hi : X.N[i]? = some n) (hv : Vis X.env.scope n) (hd : (n == ("__debug__" : Str)) = false) (hcd : (n == ("__classdict__" : Str)) = false) (hz : Zc cls d oe) :
    PE X (.Call (.Name wn q1) [.Name n q2] [] q3) (tWhich T ft f i a cls d) := by
  refine ⟨fun pins s σ H Q I ⟨c, σ0, es, hc, ecls, hdd, o⟩ => ?_⟩
  subst ecls
  have hl := I.len
  have hiN : i < σ0.length := by
    have h1 : i < X.N.length := (List.getElem?_eq_some_iff.mp hi).1
    rw [es, List.length_set] at hl
    omega
  have ha : PA X [.Name n q2] (tCons (tVar i) tNil) := pa_cons (pe_var hi hv hd hcd) pa_nil rfl
  have hx : tCons (tVar i) tNil σ H (fun vs H1 => vs = [.ref a] ∧ H1 = H) := ⟨.ref a, by rw [es, List.getElem?_set_self hiN], rfl, rfl⟩
  refine wpAny_Call_Name_kw (ld_glob I hg hm ?_ hdb)
  refine PySem.W.callWith_K (h₀ := X.base) I.ok.mod.kin F.kp (thn (ha.run q3 pins s σ H _ I hx) fun us s1 hh => ?_) rfl rfl
  obtain ⟨vs, H1, I1, r, ev, eH⟩ := hh
  refine ⟨I1.kIn, ?_⟩
  subst ev
  subst eH
  obtain ⟨u, rfl, ru⟩ := r.one
  obtain rfl : u = Value.ref a := ru
  exact run_which F hr hp hot hz hc I1 hdd o
theorem pe_which {k f i : Nat} {ft : FT} {wn n : Str} {a : Addr} {oe : Obj} {cls : Value} {d : Option Addr} {pn : List (Addr × Obj)} {q1 q2 q3 : Pos} (F : WhF T X k ft f) (hr : L2H.RoomH k X.A) (hg : Gl X wn) (hm : X.mg wn = some (.ref (T.fa f))) (hdb : (wn == ("__debug__" : Str)) = false)
    (hi : X.N[i]? = some n) (hv : Vis X.env.scope n) (hd : (n == ("__debug__" : Str)) = false) (hcd : (n == ("__classdict__" : Str)) = false) (hz : L2N.Zn cls d oe) (hf : ∃ vs, oe.data = .fields vs) :
    PE (X.suite a ((a, oe) :: pn)) (.Call (.Name wn q1) [.Name n q2] [] q3) (tWhich T ft f i a cls d) :=
  pe_which0 (X := X.suite a ((a, oe) :: pn)) ⟨F.kp, F.ex⟩ ⟨hr.dp, hr.un⟩ (List.mem_cons_self ..) ⟨rfl, hf.elim fun vs e => ⟨vs, e, hz.2.2 vs e⟩⟩ hg hm hdb hi hv hd hcd hz.zc
theorem Rel.on (r : Rel T H g h) (fr : ∀ a o, H a = some o → H1 a = some o) : Rel T H1 g h ∧ Ext g H g H1 := by
  have x : Ext g H g H1 := ⟨fun a o e _ => fr a o e, fun _ z => z, ⟨[], by simp, fun _ z => nomatch z⟩, fun _ z => .inl z, fun a o u e => fr a _ e⟩
  refine ⟨⟨r.len, r.nd, r.dis, fun a z => ?_, fun n o a e1 e2 => RepO.mono x r (fun u q => fr a u q) (r.obj n o a e1 e2)⟩, x⟩
  obtain ⟨o, q⟩ := r.trk a z
  exact ⟨o, fr a o q⟩
theorem Out.which {ft : FT} {f c : Nat} {p : Addr × Option Addr} {s : Str} {i : Int} {h2 : MH} {Q : VK} (r : Rel T H g h) (e : ft f [.xv c] [] = .ok (.tup [.str s, .int i]) h2)
    (k : ∀ v H1 g1, Rel T H1 g1 h → Ext g H g1 H1 → RepV T H1 g1 (.tup [.str s, .int i]) v → Q v H1) : Out (T.hold c p) g0 H (ft f [.xv c] []) Q (fun _ _ _ => False) := by
  rw [e]
  intro v H1 g1 r1 x1 q1
  obtain ⟨r2, x2⟩ := r.on (H1 := H1) fun a o q => x1.fr a o q (fun z => nomatch z)
  refine k v H1 g r2 x2 ?_
  obtain ⟨a, vs, e1, e2, e3⟩ := q1
  refine ⟨a, vs, e1, e2, ?_⟩
  match vs, e3 with
  | [v1, v2], e3 => exact ⟨e3.1, e3.2.1, True.intro⟩
  | [], e3 => exact e3.elim
  | [_], e3 => exact e3.2.elim
  | _ :: _ :: _ :: _, e3 => exact e3.2.2.elim
theorem rel_nil : Rel T H g0 [] := ⟨rfl, .nil, fun _ h => (nomatch h), fun _ h => h.elim, fun n o a e => by simp at e⟩
theorem s1_try0 {k f i w : Nat} {ft : FT} {x wn n : Str} {b : S} {body : List Stmt} {np pos pos' q1 q2 q3 q4 : Pos} (hs : X.stack = X.env :: X.outer) (hfr : X.env.frame = some X.env.locals) (hN : X.N.Nodup) (hi : X.N[i]? = some n) (hln : X.env.kindOf n = some .local)
    (hc : Names X x (.ref (T.xa 15))) (tk : L2N.Takes X W) (xs : XAll X.K T.xa) (F : WhF T X k ft f) (hr : L2H.RoomH k X.A) (hg : Gl X wn) (hm : X.mg wn = some (.ref (T.fa f))) (hdb : (wn == ("__debug__" : Str)) = false) (hd : (n == ("__debug__" : Str)) = false) (hcd : (n == ("__classdict__" : Str)) = false)
    (hb : ∀ (W : WX) (pn : List (Addr × Obj)) (xe : Value → Shared → Prop), L2N.Takes (X.tr pn xe) W → PassesOwn (model X.prog X.w) X.A X.env xe → SS T (X.tr pn xe) W body (exS ft w b)) :
    S1 T X W (.Try body [.ExceptHandler (some (.Name x np)) (some n) [.Return (some (.Call (.Name wn q1) [.Name n q2] [] q3)) q4] pos'] [] [] pos) (exS ft w (.tryS 0 i f Str.empty b)) := by
  have hv : Vis X.env.scope n := .inl hln
  refine PS.imp (L2N.ps_try_as (suite := []) (ts := fun a cls d => tRet (tWhich T ft f i a cls d)) hs hfr hN hi hln hc tk hb (fun a oe cls d pn hz hf => pss_one (ps_ret (pe_which F hr hg hm hdb hi hv hd hcd hz hf)))) fun D0 σ H ⟨g, h, e, r, s0, o⟩ => ?_
  refine ⟨g, h, e, r, s0, ?_⟩
  have o : OutS T g H (tryM ft 0 f Str.empty (exS ft w b e h)) D0 W := o
  cases z : exS ft w b e h with
  | nx e1 h1 => rw [z] at o; exact o
  | brk e1 h1 => rw [z] at o; exact o
  | cnt e1 h1 => rw [z] at o; exact o
  | ret d h1 => rw [z] at o; exact o
  | stuck => rw [z] at o; exact o
  | exn c p h1 =>
    rw [z] at o
    have o : OutS T g H (if c < 15 then (match ft f [.xv c] [] with
      | .ok (.tup [.str s, .int i]) _ => .ret (.tup [.str s, .int i]) h1
      | _ => .stuck) else .stuck) D0 W := o
    by_cases hc15 : c < 15
    · rw [if_pos hc15] at o
      intro σ1 dx H1 g1 r1 x1 rx
      refine ⟨true, xs.exm c hc15, fun _ a ha => ?_, fun z => nomatch z⟩
      refine ⟨c, σ1, rfl, hc15, rfl, fun dd e => ?_, ?_⟩
      · cases p with
        | none => have rx : dx = none := rx; rw [rx] at e; cases e
        | some d =>
          obtain ⟨a', v, e1, e2, _⟩ := rx
          rw [e1] at e; cases e
          exact ⟨_, e2⟩
      · have key : ∃ s i' h2, ft f [.xv c] [] = .ok (.tup [.str s, .int i']) h2 ∧ OutS T g H (.ret (.tup [.str s, .int i']) h1) D0 W := by
          revert o
          generalize ft f [.xv c] [] = rr
          intro o
          split at o
          · exact ⟨_, _, _, rfl, o⟩
          · exact o.elim
        obtain ⟨s, i', h2, e1, o2⟩ := key
        refine Out.which r1 e1 fun v H2 g2 r2 x2 q2 => ?_
        exact o2 v H2 g2 r2 (x1.trans r r1 x2) q2
    · rw [if_neg hc15] at o; exact o.elim
end
end Mi
namespace Mi
open PySem PySem.Spec PyProof.Rows L2
def kExc (c : Nat) : GK → Bool
  | .exc d => decide (c = d)
  | _ => false
def noTup : Expr → Bool
  | .Tuple _ _ _ => false
  | _ => true
def lcScope : Expr → Option (Scope × Pos)
  | .ListComp _ _ s p => some (s, p)
  | _ => none
def asgNB (S : Sc) (n : Str) (py : Pos) (e : Expr) : Bool := noComp e || S.calm && (match lcScope e with
  | some (s, p) => swB S.sc n py s p || swN S.sc n py p
  | none => false)
def twoB (S : Sc) (xs vs : List Expr) : Bool := match xs, vs with
  | [.Name x px, .Name y py], [a, b] => parB S.sc x y px py a b || parN S.sc x y
  | _, _ => false
def asgTB (S : Sc) (xs : List Expr) (e : Expr) : Bool := match e with
  | .Tuple vs _ _ => twoB S xs vs
  | _ => true
theorem twoB_ok {S : Sc} {xs vs : List Expr} (h : twoB S xs vs = true) : ∃ x px y py a b, xs = [.Name x px, .Name y py] ∧ vs = [a, b] ∧ (parB S.sc x y px py a b || parN S.sc x y) = true := by
  unfold twoB at h
  split at h
  · exact ⟨_, _, _, _, _, _, rfl, rfl, h⟩
  · cases h
def tryB (S : Sc) (k i f : Nat) (x en : Str) (on : Option Str) (suite : List Stmt) : Bool := match on, suite with
  | some n, [.Return (some (.Call (.Name wn _) [.Name n2 _] [] _)) _] => decide (k = 0) && S.xs && decide (x = Str.empty) && isG S.G en (kExc 15) && decide (n2 = n) && decide (S.N[i]? = some n) && isLoc S.sc n && okN n && !(n == cdt) && glB S.sc wn && okN wn && isG S.G wn (kWh f)
  | _, _ => false
mutual
def chkS : S → Sc → Stmt → Bool
  | .asg (.nm i) x, S, st => (match st with
    | .Assign [.Name n py] e _ => chkE x S e && nmB S i (.Name n py) && asgNB S n py e
    | _ => false)
  | .asg (.tp is) x, S, st => (match st with
    | .Assign [.Tuple xs kk tp] e _ => S.calm && chkE x S e && tgB S (.tp is) (.Tuple xs kk tp) && asgTB S xs e
    | _ => false)
  | .sub o i x, S, st => (match st with
    | .Assign [.Subscript y z _] e _ => plainIxB z && chkE o S y && chkE i S z && chkE x S e
    | _ => false)
  | .aug i o x, S, st => (match st with
    | .AugAssign (.Name n p) op e _ => augB o op && nmB S i (.Name n p) && chkE x S e
    | _ => false)
  | .augS o i p x, S, st => (match st with
    | .AugAssign (.Subscript y z _) op e _ => augB p op && plainIxB z && chkE o S y && chkE i S z && chkE x S e
    | _ => false)
  | .ex x, S, st => (match st with
    | .Expr e _ => noComp e && chkE x S e
    | _ => false)
  | .ret x, S, st => (match st with
    | .Return (some e) _ => chkE x S e
    | _ => false)
  | .retN, _, st => (match st with
    | .Return none _ => true
    | _ => false)
  | .ifS c a b, S, st => (match st with
    | .If t xs ys _ => tstE c && chkE c S t && chkL a S xs && chkL b S ys
    | _ => false)
  | .whl c b, S, st => (match st with
    | .While t xs [] _ => tstE c && chkE c S t && chkL b S xs
    | _ => false)
  | .forS t it b, S, st => (match st with
    | .For tg iter xs [] _ => S.calm && chkI it S tg iter && noSet iter && tgB S t tg && chkL b S xs
    | _ => false)
  | .forD t i b, S, st => (match st with
    | .For tg (.Name n _) xs [] _ => S.calm && decide (S.N[i]? = some n) && visB S.sc n && okN n && !(n == cdt) && tgB S t tg && chkL b S xs
    | _ => false)
  | .brk, _, st => (match st with
    | .Break _ => true
    | _ => false)
  | .cnt, _, st => (match st with
    | .Continue _ => true
    | _ => false)
  | .pass, _, st => (match st with
    | .Pass _ => true
    | _ => false)
  | .raise c .nil, S, st => (match st with
    | .Raise (some (.Call (.Name n _) [] [] _)) none _ => S.calm && glB S.sc n && okN n && isG S.G n (kExc c)
    | _ => false)
  | .tryS k i f x b, S, st => (match st with
    | .Try body [.ExceptHandler (some (.Name en _)) on suite _] [] [] _ => S.calm && noneB S.fs && glB S.sc en && okN en && chkL b S body && tryB S k i f x en on suite
    | _ => false)
  | _, _, _ => false
def chkL : S → Sc → List Stmt → Bool
  | .nil, _, xs => (match xs with
    | [] => true
    | _ => false)
  | .cons a b, S, xs => (match xs with
    | y :: ys => chkS a S y && chkL b S ys
    | _ => false)
  | _, _, _ => false
end
section
variable {T : Tx} {ft : FT} {k : Nat} {S : Sc} {X : Cx} {W : WX} {w : Nat}
theorem Sx.tr (s : Sx T ft k S X W) (cm : S.calm = true) (pn : List (Addr × Obj)) (xe : Value → Shared → Prop) {W' : WX} (tk' : L2N.Takes (X.tr pn xe) W') : Sx T ft k S (X.tr pn xe) W' where
  K := s.K
  calm := s.calm
  nd := s.nd
  room := s.room
  tk := tk'
  okf := fun hc f dl e => by
    obtain ⟨np, nd, kw, c, e2⟩ := s.okf hc f dl e
    exact ⟨np, nd, kw, ⟨c.kp, c.len, c.ex⟩, e2⟩
  okg := s.okg
  hot := fun z => by rw [cm] at z; cases z
  stk := s.stk
  xvn := s.xvn
  xs := s.xs
  glob := fun y g e => by
    have q := s.glob y g e
    cases g with
    | int i => exact q
    | str s => exact q
    | fn f np nd kw => exact ⟨q.1, q.2.kp, q.2.len, q.2.ex⟩
    | exc c => exact ⟨q.1, q.2.q, q.2.kp, q.2.r⟩
    | free => exact q
    | cls c f np nd kw ms => exact q
    | low c => exact q
    | wh f => exact ⟨q.1, q.2.kp, q.2.ex⟩
    | nil => exact q
  N := s.N
  sc := s.sc
  fn := s.fn
theorem S1.congr {x : Stmt} {m m' : Ev → MH → Fl} (h : S1 T X W x m) (e : ∀ ev h, m ev h = m' ev h) : S1 T X W x m' := by
  have : m = m' := funext fun ev => funext fun h => e ev h
  rw [← this]; exact h
theorem plainAsg {o i : Expr} {p : Pos} {env : Env} (h : plainIxB i = true) : ∀ v, assign (.Subscript o i p) env v = (do
      let ov ← holding [v] (eval o env)
      let iv ← holding [v, ov] (eval i env)
      standAt p
      holding [v, ov, iv] (setItem ov iv v)
      release [v, ov, iv] []) := by
  intro v
  cases i <;> first | rfl | cases h
theorem plainAug {i : Expr} (h : plainIxB i = true) : ∀ ov iv new, augStore i ov iv new = (do holding [new, ov, iv] (setItem ov iv new); release [new, ov, iv] []; pure .next) := by
  intro ov iv new
  cases i <;> first | rfl | cases h
theorem sole_no {tg e : Expr} {l : Nat} {env : Env} (h : isNm tg = false) : swapsWithSole [tg] e l env = pure false := by
  show swapsWith e (some tg) l env = pure false
  cases tg <;> first | (cases h; done) | (cases e <;> rfl)
theorem noTup_ok {tg e : Expr} {env : Env} (h : noTup e = true) : swappedStores [tg] e env = pure none := by
  cases tg <;> cases e <;> first | rfl | cases h
theorem sub_none {o i : Expr} {p : Pos} {e : Expr} {env : Env} : swappedStores [.Subscript o i p] e env = pure none := by cases e <;> rfl
theorem s1_lc (s : Sx T ft k S X W) (cm : S.calm = true) {i : Nat} {n : Str} {py p lp : Pos} {x : E} {elt : Expr} {gs : List Comprehension} {scope : Scope} (h : chkE x S (.ListComp elt gs scope lp) = true) (e1 : X.N[i]? = some n) (e2 : X.env.scope.names.lookup n = some .local)
    (hsw : swapsWith (.ListComp elt gs scope lp) (some (.Name n py)) p.line X.env = pure true) : S1 T X W (.Assign [.Name n py] (.ListComp elt gs scope lp) p) (exS ft w (.asg (.nm i) x)) := by
  cases x with
  | lc m t it c el own =>
    match gs, h, hsw with
    | [⟨tg, iter, ifs, 0⟩], hc, hsw =>
      obtain ⟨g1, h7⟩ := and_all (show (S.calm && chkI it S tg iter && noSet iter && blkB S scope own && tgB (S.blk scope) t tg && tgInB t (own.map (·.2)) && ifsB ifs (isTrueE c) (fun z => tstE c && chkE c (S.blk scope) z) && chkE el (S.blk scope) elt) = true from hc)
      obtain ⟨g2, h6⟩ := and_all g1
      obtain ⟨g3, h5⟩ := and_all g2
      obtain ⟨g4, h4⟩ := and_all g3
      obtain ⟨g5, h3⟩ := and_all g4
      obtain ⟨g6, h2⟩ := and_all g5
      obtain ⟨_, h1⟩ := and_all g6
      refine PS.imp (ps_setLc (s.calm cm).1 s.nd e1 e2 hsw (PI.sz (chkI_ok it S X W tg iter h1 s)) (blk_ok s h3) (fun s' H C cl fp => tg_ok (s.blk cm scope s' H C cl fp) cm h4) (fun s' H C cl fp => ifs_ok (ft := ft) h6 (s.blk cm scope s' H C cl fp)) (fun s' H C cl fp => (chkE_ok el (S.blk scope) _ _ elt h7 (s.blk cm scope s' H C cl fp)).se) (noSet_ok h2)) fun D0 σ H q => ?_
      obtain ⟨g, h, e, r, s0, o⟩ := q
      refine tLc_of (gOf_ok t) (tgIn_ok h5) (Q := fun x H1 => gName i x σ H1 D0.nx) (m := m) ?_
      exact tAsg_of (T := T) (W := W) (TgOk.nm i) (ma := evE ft (.lc m t it c el own)) ⟨g, h, e, r, s0, o⟩
  | _ => cases h
theorem s1_par2 (s : Sx T ft k S X W) (cm : S.calm = true) {is : List Nat} {x : E} {n1 n2 : Str} {p1 p2 tp tp2 p : Pos} {kk k2 : Nat} {a b : Expr} (h1 : chkE x S (.Tuple [a, b] k2 tp2) = true) (h2 : tgB S (.tp is) (.Tuple [.Name n1 p1, .Name n2 p2] kk tp) = true) (h3 : parB S.sc n1 n2 p1 p2 a b = true) :
    S1 T X W (.Assign [.Tuple [.Name n1 p1, .Name n2 p2] kk tp] (.Tuple [a, b] k2 tp2) p) (exS ft w (.asg (.tp is) x)) := by
  have hw := par_ok (env := X.env) (pt := tp) (pt2 := tp2) (kt := kk) (k2 := k2) (by rw [s.sc]; exact h3)
  cases x with
  | tup es =>
    obtain ⟨c1, c2⟩ := and_all (show (chkA es S [a, b] && decide ([a, b].length ≤ 1000)) = true from h1)
    have ha := (chkA_ok (ft := ft) es S X W [a, b] c1 s).1
    match is, h2 with
    | [i, j], h2 =>
      obtain ⟨d1, d2⟩ := and_all (show (nmB S i (.Name n1 p1) && nmsB S [j] [.Name n2 p2]) = true from h2)
      obtain ⟨d2, _⟩ := and_all (show (nmB S j (.Name n2 p2) && nmsB S [] []) = true from d2)
      obtain ⟨_, _, e1, a1, _, _⟩ := nm_ok s d1
      cases e1
      obtain ⟨_, _, e2, a2, _, _⟩ := nm_ok s d2
      cases e2
      unfold parB at h3
      simp only [Bool.and_eq_true, decide_eq_true_eq, Bool.not_eq_true', decide_eq_false_iff_not] at h3
      obtain ⟨⟨⟨⟨⟨⟨⟨⟨f1, f2⟩, f3⟩, f4⟩, f5⟩, f6⟩, f7⟩, f8⟩, f9⟩ := h3
      have hij : i ≠ j := fun z => by
        subst z
        rw [a1] at a2
        exact f7 (Option.some.inj a2)
      exact s1_par (s.calm cm).1 s.nd a1 a2 hij (by rw [s.sc]; exact isLoc_ok f4) (by rw [s.sc]; exact isLoc_ok f5) ha hw (sole_no rfl)
    | [], h2 => cases h2
    | [_], h2 =>
      have := (and_all (show (_ && nmsB S [] [Expr.Name n2 p2]) = true from h2)).2
      cases this
    | _ :: _ :: _ :: _, h2 =>
      have := (and_all (and_all h2).2).2
      cases this
  | _ => cases h1
mutual
theorem chkS_ok : ∀ (m : Mi.S) (S : Sc) (X : Cx) (W : WX) (st : Stmt), chkS m S st = true → Sx T ft k S X W → PassesOwn (model X.prog X.w) X.A X.env X.xe → S1 T X W st (exS ft w m)
  | .asg (.nm i) x, S, X, W, st, hc, s, hp => by
    cases st with
    | Assign ts e p =>
      match ts, hc with
      | [.Name n py], hc =>
        obtain ⟨h1, h3⟩ := and_all (show (chkE x S e && nmB S i (.Name n py) && asgNB S n py e) = true from hc)
        obtain ⟨h1, h2⟩ := and_all h1
        have he := (chkE_ok (ft := ft) x S X W e h1 s).se
        obtain ⟨n', p', en, e1, e2, e3⟩ := nm_ok s h2
        cases en
        unfold asgNB at h3
        rcases Bool.or_eq_true_iff.mp h3 with h3 | h3
        · exact s1_set s.nd e1 e2 e3 he (noComp_ok h3)
        · cases e with
          | ListComp elt gs scope lp =>
            obtain ⟨cm, h3⟩ := and_all (show (S.calm && (swB S.sc n py scope lp || swN S.sc n py lp)) = true from h3)
            rcases Bool.or_eq_true_iff.mp h3 with h3 | h3
            · have h3 : (decide (S.sc.kind = .function) && isLoc S.sc n && (py.line == lp.line) && !(scope.names.any fun (m, k) => m == n && (k == .local || k == .cell))) = true := h3
              obtain ⟨h3, a4⟩ := and_all h3
              obtain ⟨h3, a3⟩ := and_all h3
              obtain ⟨a1, a2⟩ := and_all h3
              have hsw : swapsWith (.ListComp elt gs scope lp) (some (.Name n py)) p.line X.env = pure true := sw_true (by rw [s.sc]; exact of_decide_eq_true a1) (by rw [s.sc]; exact isLoc_ok a2) a3 (by simpa using a4)
              exact s1_lc (w := w) s cm h1 e1 (by rw [s.sc]; exact isLoc_ok a2) hsw
            · exact s1_set s.nd e1 e2 e3 he (swN_ok (by rw [s.sc]; exact h3))
          | _ => have h3 := (and_all h3).2; cases h3
    | _ => cases hc
  | .asg (.tp is) x, S, X, W, st, hc, s, hp => by
    cases st with
    | Assign ts e p =>
      match ts, hc with
      | [.Tuple xs kk tp], hc =>
        obtain ⟨h0, h3⟩ := and_all (show (S.calm && chkE x S e && tgB S (.tp is) (.Tuple xs kk tp) && asgTB S xs e) = true from hc)
        obtain ⟨h1, h2⟩ := and_all h0
        obtain ⟨cm, h1⟩ := and_all h1
        have he := chkE_ok (ft := ft) x S X W e h1 s
        have hg := tg_ok s cm h2
        by_cases ht : noTup e = true
        · exact s1_asg (gOf_ok (.tp is)) hg he.se (sole_no rfl) (noTup_ok ht) rfl
        · cases e with
          | Tuple vs k2 tp2 =>
            obtain ⟨n1, p1, n2, p2, a, b, rfl, rfl, h3⟩ := twoB_ok (show twoB S xs vs = true from h3)
            rcases Bool.or_eq_true_iff.mp h3 with h3 | h3
            · exact s1_par2 (w := w) s cm h1 h2 h3
            · exact s1_asg (gOf_ok (.tp is)) hg he.se (sole_no rfl) (parN_ok (by rw [s.sc]; exact h3)) rfl
          | _ => exact absurd rfl ht
    | _ => cases hc
  | .asg (.tq _ _) _, _, _, _, _, hc, _, _ => by cases hc
  | .sub o i x, S, X, W, st, hc, s, hp => by
    cases st with
    | Assign ts e p =>
      match ts, hc with
      | [.Subscript y z q], hc =>
        obtain ⟨h1, h4⟩ := and_all (show (plainIxB z && chkE o S y && chkE i S z && chkE x S e) = true from hc)
        obtain ⟨h1, h3⟩ := and_all h1
        obtain ⟨h1, h2⟩ := and_all h1
        exact s1_sub s.hu (chkE_ok o S X W y h2 s).se (chkE_ok i S X W z h3 s).se (chkE_ok x S X W e h4 s).se (plainAsg h1) (sole_no rfl) sub_none rfl
    | _ => cases hc
  | .fld _ _ _ _ _, _, _, _, _, hc, _, _ => by cases hc
  | .aug i o x, S, X, W, st, hc, s, hp => by
    cases st with
    | AugAssign tg op e p =>
      cases tg with
      | Name n q =>
        obtain ⟨h1, h3⟩ := and_all (show (augB o op && nmB S i (.Name n q) && chkE x S e) = true from hc)
        obtain ⟨h1, h2⟩ := and_all h1
        obtain ⟨n', p', en, e1, e2, e3⟩ := nm_ok s h2
        cases en
        have ho := augB_ok h1
        exact s1_aug s.nd e1 e2 e3 (chkE_ok x S X W e h3 s).se (fun w => aug_m op w ho) (augO_ne (by rcases ho with h | h <;> simp [h.1]))
      | _ => cases hc
    | _ => cases hc
  | .augS o i b x, S, X, W, st, hc, s, hp => by
    cases st with
    | AugAssign tg op e p =>
      cases tg with
      | Subscript y z q =>
        obtain ⟨h1, h5⟩ := and_all (show (augB b op && plainIxB z && chkE o S y && chkE i S z && chkE x S e) = true from hc)
        obtain ⟨h1, h4⟩ := and_all h1
        obtain ⟨h1, h3⟩ := and_all h1
        obtain ⟨h1, h2⟩ := and_all h1
        have ho := augB_ok h1
        exact s1_augS s.hu (chkE_ok o S X W y h3 s).se (chkE_ok i S X W z h4 s).se (chkE_ok x S X W e h5 s).se (fun w => aug_m op w ho) (augO_ne (by rcases ho with h | h <;> simp [h.1])) (plainAug h2)
      | _ => cases hc
    | _ => cases hc
  | .ex x, S, X, W, st, hc, s, hp => by
    cases st with
    | Expr e p =>
      obtain ⟨h1, h2⟩ := and_all (show (noComp e && chkE x S e) = true from hc)
      exact s1_expr (chkE_ok x S X W e h2 s).se (noComp_ok h1)
    | _ => cases hc
  | .ret x, S, X, W, st, hc, s, hp => by
    cases st with
    | Return v p =>
      cases v with
      | some e => exact s1_ret (chkE_ok x S X W e hc s).se
      | none => cases hc
    | _ => cases hc
  | .retN, S, X, W, st, hc, s, hp => by
    cases st with
    | Return v p =>
      cases v with
      | none => exact s1_retN
      | some e => cases hc
    | _ => cases hc
  | .ifS c a b, S, X, W, st, hc, s, hp => by
    cases st with
    | If t xs ys p =>
      obtain ⟨h1, h4⟩ := and_all (show (tstE c && chkE c S t && chkL a S xs && chkL b S ys) = true from hc)
      obtain ⟨h1, h3⟩ := and_all h1
      obtain ⟨h1, h2⟩ := and_all h1
      exact s1_if ((chkE_ok c S X W t h2 s).st h1) (chkL_ok a S X W xs h3 s hp) (chkL_ok b S X W ys h4 s hp)
    | _ => cases hc
  | .whl c b, S, X, W, st, hc, s, hp => by
    cases st with
    | While t xs ys p =>
      cases ys with
      | nil =>
        obtain ⟨h1, h3⟩ := and_all (show (tstE c && chkE c S t && chkL b S xs) = true from hc)
        obtain ⟨h1, h2⟩ := and_all h1
        exact s1_whl hp ((chkE_ok c S X W t h2 s).st h1) (chkL_ok b S X W xs h3 s hp)
      | cons _ _ => cases hc
    | _ => cases hc
  | .forS t it b, S, X, W, st, hc, s, hp => by
    cases st with
    | For tg iter xs ys p =>
      cases ys with
      | nil =>
        obtain ⟨h1, h4⟩ := and_all (show (S.calm && chkI it S tg iter && noSet iter && tgB S t tg && chkL b S xs) = true from hc)
        obtain ⟨h1, h3⟩ := and_all h1
        obtain ⟨h1, h2⟩ := and_all h1
        obtain ⟨cm, h1⟩ := and_all h1
        exact s1_for hp (s.calm cm).1 (gOf_ok t) (tg_ok s cm h3) (chkI_ok it S X W tg iter h1 s) (chkL_ok b S X W xs h4 s hp) (noSet_ok h2)
      | cons _ _ => cases hc
    | _ => cases hc
  | .forD t i b, S, X, W, st, hc, s, hp => by
    cases st with
    | For tg iter xs ys p =>
      cases iter with
      | Name n pp =>
        cases ys with
        | nil =>
          obtain ⟨h1, h6⟩ := and_all (show (S.calm && decide (S.N[i]? = some n) && visB S.sc n && okN n && !(n == cdt) && tgB S t tg && chkL b S xs) = true from hc)
          obtain ⟨h1, h5⟩ := and_all h1
          obtain ⟨h1, h4⟩ := and_all h1
          obtain ⟨h1, h3⟩ := and_all h1
          obtain ⟨h1, h2⟩ := and_all h1
          obtain ⟨cm, h1⟩ := and_all h1
          exact s1_forD hp (s.calm cm).1 (gOf_ok t) (tg_ok s cm h5) (s.slot (of_decide_eq_true h1)) (s.vis h2) (okN_ok h3) (by simpa [cdt] using h4) (chkL_ok b S X W xs h6 s hp) (fun _ => rfl)
        | cons _ _ => cases hc
      | _ => cases hc
    | _ => cases hc
  | .brk, S, X, W, st, hc, s, hp => by
    cases st with
    | Break p => exact s1_brk
    | _ => cases hc
  | .cnt, S, X, W, st, hc, s, hp => by
    cases st with
    | Continue p => exact s1_cnt
    | _ => cases hc
  | .pass, S, X, W, st, hc, s, hp => by
    cases st with
    | Pass p => exact s1_pass
    | _ => cases hc
  | .raise c x, S, X, W, st, hc, s, hp => by
    cases x with
    | nil =>
      cases st with
      | Raise v w' p =>
        match v, w', hc with
        | some (.Call (.Name n q) [] [] q2), none, hc =>
          obtain ⟨h1, h3⟩ := and_all (show (S.calm && glB S.sc n && okN n && isG S.G n (kExc c)) = true from hc)
          obtain ⟨h1, h2⟩ := and_all h1
          obtain ⟨cm, h1⟩ := and_all h1
          obtain ⟨g, e, qq⟩ := isG_ok h3
          have z := s.glob n g e
          cases g with
          | exc d =>
            have e : c = d := of_decide_eq_true qq
            subst e
            exact s1_raise0 (s.calm cm).1 s.tk z.2 z.1 (s.gl h1) (okN_ok h2)
          | _ => cases qq
      | _ => cases hc
    | _ => cases hc
  | .tryS k' i f x b, S, X, W, st, hc, s, hp => by
    cases st with
    | Try body hs os fs p =>
      match hs, os, fs, hc with
      | [.ExceptHandler (some (.Name en q1)) on suite q2], [], [], hc =>
        obtain ⟨h1, h6⟩ := and_all (show (S.calm && noneB S.fs && glB S.sc en && okN en && chkL b S body && tryB S k' i f x en on suite) = true from hc)
        obtain ⟨h1, h5⟩ := and_all h1
        obtain ⟨h1, h4⟩ := and_all h1
        obtain ⟨h1, h3⟩ := and_all h1
        obtain ⟨cm, h2⟩ := and_all h1
        have hfs : S.fs = none := by
          cases z : S.fs with
          | none => rfl
          | some _ => rw [z] at h2; cases h2
        have stk := s.stk hfs
        have body_ok : ∀ (W : WX) (pn : List (Addr × Obj)) (xe : Value → Shared → Prop), L2N.Takes (X.tr pn xe) W → PassesOwn (model X.prog X.w) X.A X.env xe → SS T (X.tr pn xe) W body (exS ft w b) := fun W' pn xe tk' hp' => chkL_ok b S (X.tr pn xe) W' body h5 (s.tr cm pn xe tk') hp'
        match on, suite, h6 with
        | some n, [.Return (some (.Call (.Name wn q3) [.Name n2 q4] [] q5)) q6], h6 =>
          obtain ⟨k1, k12⟩ := and_all (show (decide (k' = 0) && S.xs && decide (x = Str.empty) && isG S.G en (kExc 15) && decide (n2 = n) && decide (S.N[i]? = some n) && isLoc S.sc n && okN n && !(n == cdt) && glB S.sc wn && okN wn && isG S.G wn (kWh f)) = true from h6)
          obtain ⟨k1, k11⟩ := and_all k1
          obtain ⟨k1, k10⟩ := and_all k1
          obtain ⟨k1, k9⟩ := and_all k1
          obtain ⟨k1, k8⟩ := and_all k1
          obtain ⟨k1, k7⟩ := and_all k1
          obtain ⟨k1, k6⟩ := and_all k1
          obtain ⟨k1, k5⟩ := and_all k1
          obtain ⟨k1, k4⟩ := and_all k1
          obtain ⟨k1, k3⟩ := and_all k1
          obtain ⟨k1, k2⟩ := and_all k1
          have k1 := of_decide_eq_true k1
          have k3 := of_decide_eq_true k3
          have k5 := of_decide_eq_true k5
          subst k1 k3 k5
          obtain ⟨ge, ee, qe⟩ := isG_ok k4
          have ze := s.glob en ge ee
          obtain ⟨gw, ew, qw⟩ := isG_ok k12
          have zw := s.glob wn gw ew
          have mge : X.mg en = some (.ref (T.xa 15)) := by
            cases ge with
            | exc d => have e := of_decide_eq_true (show decide (15 = d) = true from qe); subst e; exact ze.1
            | _ => cases qe
          have fw : X.mg wn = some (.ref (T.fa f)) ∧ WhF T X k ft f := by
            cases gw with
            | wh f' => have e := of_decide_eq_true (show decide (f = f') = true from qw); subst e; exact zw
            | _ => cases qw
          exact s1_try0 stk.1 stk.2 s.nd (s.slot (of_decide_eq_true k6)) (by show X.env.scope.names.lookup n2 = some .local; rw [s.sc]; exact isLoc_ok k7) ⟨s.gl h3, okN_ok h4, .inl mge⟩ s.tk (s.xs k2) fw.2 s.room (s.gl k10) fw.1 (okN_ok k11) (okN_ok k8) (by simpa [cdt] using k9) body_ok
    | _ => cases hc
  | .nil, _, _, _, _, hc, _, _ => by cases hc
  | .cons _ _, _, _, _, _, hc, _, _ => by cases hc
theorem chkL_ok : ∀ (m : Mi.S) (S : Sc) (X : Cx) (W : WX) (st : List Stmt), chkL m S st = true → Sx T ft k S X W → PassesOwn (model X.prog X.w) X.A X.env X.xe → SS T X W st (exS ft w m)
  | .nil, S, X, W, st, hc, s, hp => by
    cases st with
    | nil => exact ss_nil
    | cons _ _ => cases hc
  | .cons a b, S, X, W, st, hc, s, hp => by
    cases st with
    | nil => cases hc
    | cons y ys =>
      obtain ⟨h1, h2⟩ := and_all (show (chkS a S y && chkL b S ys) = true from hc)
      exact ss_cons (chkS_ok a S X W y h1 s hp) (chkL_ok b S X W ys h2 s hp)
  | .asg _ _, _, _, _, _, hc, _, _ => by cases hc
  | .sub _ _ _, _, _, _, _, hc, _, _ => by cases hc
  | .fld _ _ _ _ _, _, _, _, _, hc, _, _ => by cases hc
  | .aug _ _ _, _, _, _, _, hc, _, _ => by cases hc
  | .augS _ _ _ _, _, _, _, _, hc, _, _ => by cases hc
  | .ex _, _, _, _, _, hc, _, _ => by cases hc
  | .ret _, _, _, _, _, hc, _, _ => by cases hc
  | .retN, _, _, _, _, hc, _, _ => by cases hc
  | .ifS _ _ _, _, _, _, _, hc, _, _ => by cases hc
  | .whl _ _, _, _, _, _, hc, _, _ => by cases hc
  | .forS _ _ _, _, _, _, _, hc, _, _ => by cases hc
  | .forD _ _ _, _, _, _, _, hc, _, _ => by cases hc
  | .brk, _, _, _, _, hc, _, _ => by cases hc
  | .cnt, _, _, _, _, hc, _, _ => by cases hc
  | .pass, _, _, _, _, hc, _, _ => by cases hc
  | .raise _ _, _, _, _, _, hc, _, _ => by cases hc
  | .tryS _ _ _ _ _, _, _, _, _, hc, _, _ => by cases hc
end
end
end Mi
namespace Mi
open PySem PySem.Spec PyProof.Rows L2
def Gr.cut (g : Gr) (c : Nat) : Gr := { phi := g.phi.take c, fz := fun a => g.fz a ∨ a ∈ g.phi.drop c }
section
variable {T : Tx} {H H1 : Hp} {g g1 : Gr} {h h1 : MH} {c : Nat}
theorem cl_ref {n : Nat} (h : cl c (.ref n) = true) : n < c := of_decide_eq_true h
mutual
theorem RepV.cut : ∀ (d : D) (v : V), cl c d = true → RepV T H g d v → RepV T H (g.cut c) d v
  | .non, v, _, q => q
  | .bl _, v, _, q => q
  | .int _, v, _, q => q
  | .str _, v, _, q => q
  | .tup ds, v, e, q => by
    obtain ⟨a, vs, e1, e2, e3⟩ := q
    exact ⟨a, vs, e1, e2, RepL.cut ds vs e e3⟩
  | .lst ds, v, e, q => by
    obtain ⟨a, vs, e1, f, e2, e3⟩ := q
    exact ⟨a, vs, e1, .inl f, e2, RepL.cut ds vs e e3⟩
  | .dK kvs, v, e, q => by
    obtain ⟨a, vs, e1, f, e2, e3⟩ := q
    exact ⟨a, vs, e1, .inl f, e2, RepK.cut kvs vs e e3⟩
  | .dT kvs, v, e, q => by
    obtain ⟨a, vs, e1, f, e2, e3⟩ := q
    exact ⟨a, vs, e1, .inl f, e2, RepT.cut kvs vs e e3⟩
  | .ref n, v, e, q => by
    obtain ⟨a, e1, e2⟩ := q
    refine ⟨a, e1, ?_⟩
    show (g.phi.take c)[n]? = _
    rw [List.getElem?_take_of_lt (cl_ref e)]
    exact e2
  | .scr ns, v, _, q => by
    obtain ⟨a, e1, q | q⟩ := q
    · obtain ⟨o, e2, n⟩ := q
      exact ⟨a, e1, .inl ⟨o, e2, fun z => n (List.mem_of_mem_take z)⟩⟩
    · exact ⟨a, e1, .inr q⟩
  | .fn _ _, v, _, q => q
  | .xv _, v, _, q => by
    obtain ⟨a, od, e1, e2, e3⟩ := q
    refine ⟨a, od, e1, e2, fun dd e => ?_⟩
    obtain ⟨fs, q, n⟩ := e3 dd e
    exact ⟨fs, q, fun z => n (List.mem_of_mem_take z)⟩
theorem RepL.cut : ∀ (ds : List D) (vs : List V), clL c ds = true → RepL T H g ds vs → RepL T H (g.cut c) ds vs
  | [], [], _, _ => True.intro
  | d :: ds, v :: vs, e, q => by
    have e : (cl c d && clL c ds) = true := e
    rw [Bool.and_eq_true] at e
    exact ⟨RepV.cut d v e.1 q.1, RepL.cut ds vs e.2 q.2⟩
  | [], _ :: _, _, q => q.elim
  | _ :: _, [], _, q => q.elim
theorem RepK.cut : ∀ (ds : List (Ky × D)) (vs : List (L2.Key × V)), clK c ds = true → RepK T H g ds vs → RepK T H (g.cut c) ds vs
  | [], [], _, _ => True.intro
  | (k, d) :: ds, (p, v) :: vs, e, q => by
    have e : (cl c d && clK c ds) = true := e
    rw [Bool.and_eq_true] at e
    exact ⟨q.1, RepV.cut d v e.1 q.2.1, RepK.cut ds vs e.2 q.2.2⟩
  | [], _ :: _, _, q => q.elim
  | _ :: _, [], _, q => q.elim
theorem RepT.cut : ∀ (ds : List (List Ky × D)) (vs : List (List L2.Key × V)), clT c ds = true → RepT T H g ds vs → RepT T H (g.cut c) ds vs
  | [], [], _, _ => True.intro
  | (k, d) :: ds, (p, v) :: vs, e, q => by
    have e : (cl c d && clT c ds) = true := e
    rw [Bool.and_eq_true] at e
    exact ⟨q.1, RepV.cut d v e.1 q.2.1, RepT.cut ds vs e.2 q.2.2⟩
  | [], _ :: _, _, q => q.elim
  | _ :: _, [], _, q => q.elim
end
theorem RepF.cut : ∀ (ds : List (Nat × D)) (vs : List (Str × V)), (ds.all fun p => cl c p.2) = true → RepF T H g ds vs → RepF T H (g.cut c) ds vs
  | [], [], _, _ => True.intro
  | (k, d) :: ds, (p, v) :: vs, e, q => by
    simp only [List.all_cons, Bool.and_eq_true] at e
    exact ⟨q.1, RepV.cut d v e.1 q.2.1, RepF.cut ds vs e.2 q.2.2⟩
  | [], _ :: _, _, q => q.elim
  | _ :: _, [], _, q => q.elim
theorem RepO.cut {o : MO} {a : Addr} (e : clO c o = true) (q : RepO T H g o a) : RepO T H (g.cut c) o a := by
  cases o with
  | lst ds => obtain ⟨vs, e1, e2⟩ := q; exact ⟨vs, e1, RepL.cut _ _ e e2⟩
  | dK l kvs => obtain ⟨kk, e1, e2⟩ := q; exact ⟨kk, RepK.cut _ _ e e1, e2⟩
  | dT l kvs => obtain ⟨kk, e1, e2⟩ := q; exact ⟨kk, RepT.cut _ _ e e1, e2⟩
  | ins cc fs => obtain ⟨dx, vs, e1, e2⟩ := q; exact ⟨dx, vs, e1, RepF.cut _ _ e e2⟩
theorem mapO_rep {f : D → Option D} {P : D → V → Prop} {Q : List D → List V → Prop} (k : ∀ d v d1, f d = some d1 → RepV T H g d v → RepV T H (g.cut c) d1 v) : ∀ {ds ds1 : List D} {vs : List V}, mapO f ds = some ds1 → RepL T H g ds vs → RepL T H (g.cut c) ds1 vs
  | [], ds1, [], e, _ => by cases e; exact True.intro
  | d :: ds, ds1, v :: vs, e, q => by
    simp only [mapO] at e
    cases z : f d with
    | none => rw [z] at e; cases e
    | some d1 =>
      rw [z] at e
      cases y : mapO f ds with
      | none => simp only [y] at e; cases e
      | some ds2 =>
        simp only [y] at e
        cases e
        exact ⟨k d v d1 z q.1, mapO_rep (P := P) (Q := Q) k y q.2⟩
  | [], _, _ :: _, _, q => q.elim
  | _ :: _, _, [], _, q => q.elim
theorem fz_rep (r : Rel T H g h) : ∀ (n : Nat) (d d1 : D) (v : V), fz h c n d = some d1 → RepV T H g d v → RepV T H (g.cut c) d1 v
  | 0, _, _, _, e, _ => by cases e
  | n + 1, d, d1, v, e, q => by
    unfold fz at e
    by_cases z : cl c d = true
    · rw [if_pos z] at e
      cases e
      exact RepV.cut d v z q
    · rw [if_neg z] at e
      cases d with
      | ref k =>
        obtain ⟨a, ev, ea⟩ := q
        have hk : c ≤ k := by
          have : ¬ k < c := fun w => z (decide_eq_true w)
          omega
        have fz' : (g.cut c).fz a := .inr (by
          refine List.mem_of_getElem? (i := k - c) ?_
          rw [List.getElem?_drop, show c + (k - c) = k by omega]
          exact ea)
        simp only at e
        cases y : h[k]? with
        | none => rw [y] at e; cases e
        | some o =>
          rw [y] at e
          have ro := r.obj k o a y ea
          cases o with
          | lst xs =>
            obtain ⟨vs, e1, e2⟩ := ro
            simp only at e
            cases w : mapO (fz h c n) xs with
            | none => rw [w] at e; cases e
            | some ys =>
              rw [w] at e
              cases e
              exact ⟨a, vs, ev, fz', e1, mapO_rep (P := fun _ _ => True) (Q := fun _ _ => True) (fun d v d1 => fz_rep r n d d1 v) w e2⟩
          | dK l kvs =>
            cases l with
            | true => cases e
            | false =>
              obtain ⟨kk, e2, e1⟩ := ro
              simp only at e
              by_cases w : clK c kvs = true
              · rw [if_pos w] at e
                cases e
                exact ⟨a, kk, ev, fz', e1, RepK.cut _ _ w e2⟩
              · rw [if_neg w] at e; cases e
          | dT l kvs =>
            cases l with
            | true => cases e
            | false =>
              obtain ⟨kk, e2, e1⟩ := ro
              simp only at e
              by_cases w : clT c kvs = true
              · rw [if_pos w] at e
                cases e
                exact ⟨a, kk, ev, fz', e1, RepT.cut _ _ w e2⟩
              · rw [if_neg w] at e; cases e
          | ins _ _ => cases e
      | tup xs =>
        obtain ⟨a, vs, ev, e1, e2⟩ := q
        simp only at e
        cases w : mapO (fz h c n) xs with
        | none => rw [w] at e; cases e
        | some ys =>
          rw [w] at e
          cases e
          exact ⟨a, vs, ev, e1, mapO_rep (P := fun _ _ => True) (Q := fun _ _ => True) (fun d v d1 => fz_rep r n d d1 v) w e2⟩
      | lst xs =>
        obtain ⟨a, vs, ev, f, e1, e2⟩ := q
        simp only at e
        cases w : mapO (fz h c n) xs with
        | none => rw [w] at e; cases e
        | some ys =>
          rw [w] at e
          cases e
          exact ⟨a, vs, ev, .inl f, e1, mapO_rep (P := fun _ _ => True) (Q := fun _ _ => True) (fun d v d1 => fz_rep r n d d1 v) w e2⟩
      | _ => cases e
theorem Rel.cut (r : Rel T H g h) (e : clH c (h.take c) = true) : Rel T H (g.cut c) (h.take c) := by
  refine ⟨?_, r.nd.sublist (List.take_sublist _ _), fun a ha z => ?_, fun a z => ?_, fun n o a e1 e2 => ?_⟩
  · show (g.phi.take c).length = _
    rw [List.length_take, List.length_take, r.len]
  · have ha : a ∈ g.phi.take c := ha
    rcases z with z | z
    · exact r.dis a (List.mem_of_mem_take ha) z
    · have nd := r.nd
      rw [← List.take_append_drop c g.phi, List.nodup_append] at nd
      exact nd.2.2 a ha a z rfl
  · rcases z with z | z
    · exact r.trk a z
    · obtain ⟨o, q, _⟩ := r.there (List.mem_of_mem_drop z)
      exact ⟨o, q⟩
  · have e2 : (g.phi.take c)[n]? = some a := e2
    have hn : n < c := by
      have := (List.getElem?_eq_some_iff.mp e1).1
      rw [List.length_take] at this
      omega
    rw [List.getElem?_take_of_lt hn] at e2
    have e1' := e1
    rw [List.getElem?_take_of_lt hn] at e1
    refine RepO.cut ?_ (r.obj n o a e1 e2)
    exact List.all_eq_true.mp e o (List.mem_of_getElem? e1')
theorem Ext.cut (r : Rel T H g h) (r1 : Rel T H1 g1 h1) (x : Ext g H g1 H1) (hc : h.length ≤ c) : Ext g H (g1.cut c) H1 := by
  obtain ⟨t, e1, e2⟩ := x.phi
  have hl : g.phi.length ≤ c := by rw [r.len]; exact hc
  refine ⟨x.fr, fun a z => .inl (x.fzs a z), ⟨t.take (c - g.phi.length), ?_, fun a z => e2 a (List.mem_of_mem_take z)⟩, fun a z => ?_, x.lk⟩
  · show g1.phi.take c = _
    rw [e1, List.take_append, List.take_of_length_le hl]
  · rcases z with z | z
    · exact x.fzn a z
    · rw [e1, List.drop_append, List.drop_of_length_le hl, List.nil_append] at z
      exact .inr (e2 a (List.mem_of_mem_drop z))
theorem fin_ok {keep : Option Nat} {d : D} (r : Rel T H g h) (r1 : Rel T H1 g1 h1) (x : Ext g H g1 H1) : fin keep h.length d h1 = .stuck ∨ ∃ d' h' g', fin keep h.length d h1 = .ok d' h' ∧ Rel T H1 g' h' ∧ Ext g H g' H1 ∧ ∀ v, RepV T H1 g1 d v → RepV T H1 g' d' v := by
  cases keep with
  | none =>
    unfold fin
    simp only
    by_cases c1 : h1.length ≤ h.length
    · rw [if_pos c1]
      exact .inr ⟨d, h1, g1, rfl, r1, x, fun _ q => q⟩
    · rw [if_neg c1]
      cases z : fz h1 h.length 5 d with
      | none => exact .inl rfl
      | some d1 =>
        simp only
        by_cases c2 : clH h.length (h1.take h.length) = true
        · rw [if_pos c2]
          exact .inr ⟨d1, _, g1.cut h.length, rfl, r1.cut c2, Ext.cut r r1 x (Nat.le_refl _), fun v q => fz_rep r1 5 d d1 v z q⟩
        · rw [if_neg c2]; exact .inl rfl
  | some k =>
    unfold fin
    simp only
    by_cases c1 : h1.length ≤ h.length + k
    · rw [if_pos c1]
      exact .inr ⟨d, h1, g1, rfl, r1, x, fun _ q => q⟩
    · rw [if_neg c1]
      by_cases c2 : (cl (h.length + k) d && clH (h.length + k) (h1.take (h.length + k))) = true
      · rw [if_pos c2]
        rw [Bool.and_eq_true] at c2
        exact .inr ⟨d, _, g1.cut (h.length + k), rfl, r1.cut c2.2, Ext.cut r r1 x (by omega), fun v q => RepV.cut d v c2.1 q⟩
      · rw [if_neg c2]; exact .inl rfl
theorem fin_out {keep : Option Nat} {d : D} {v : V} {Q : VK} {E : XW} (r : Rel T H g h) (r1 : Rel T H1 g1 h1) (x : Ext g H g1 H1) (q : RepV T H1 g1 d v) (o : Out T g H (fin keep h.length d h1) Q E) : Q v H1 := by
  rcases fin_ok (keep := keep) (d := d) r r1 x with z | ⟨d', h', g', z, r', x', k⟩
  · rw [z] at o; exact o.elim
  · rw [z] at o
    exact o v H1 g' r' x' (k v q)
theorem finX_out {keep : Option Nat} {cc : Nat} {p : Option D} {dx : Option Addr} {Q : VK} {E : XW} (r : Rel T H g h) (r1 : Rel T H1 g1 h1) (x : Ext g H g1 H1) (q : RepX T H1 g1 p dx) (o : Out T g H (finX keep h.length cc p h1) Q E) : E (.ref (T.xa cc)) dx H1 := by
  cases p with
  | none =>
    rcases fin_ok (keep := keep) (d := .non) r r1 x with z | ⟨d', h', g', z, r', x', k⟩
    · unfold finX at o
      simp only [z] at o
      exact o.elim
    · unfold finX at o
      simp only [z] at o
      exact o dx H1 g' r' x' q
  | some d =>
    rcases fin_ok (keep := keep) (d := d) r r1 x with z | ⟨d', h', g', z, r', x', k⟩
    · unfold finX at o
      simp only [z] at o
      exact o.elim
    · unfold finX at o
      simp only [z] at o
      obtain ⟨a, v, e1, e2, e3⟩ := q
      exact o dx H1 g' r' x' ⟨a, v, e1, e2, k v e3⟩
end
end Mi
namespace Mi
open PySem PySem.Spec PyProof.Rows L2
structure FnT where
  at_ : Str × Option Str
  name : Str
  qual : Str
  params : Arguments
  body : List Stmt
  scope : Scope
  ps : List Str
  N : List Str
  dfl : List Int
def scopeB (t : FnT) : Bool :=
  decide (t.scope.kind = .function) && !t.scope.isCoroutine && !t.scope.isGenerator && decide t.N.Nodup && decide (t.N.take t.ps.length = t.ps) && t.ps.all (fun x => decide (t.scope.names.lookup x = some .local) || decide (t.scope.names.lookup x = some .cell)) && t.scope.names.all (fun y => !decide (y.2 = .free))
theorem scopeB_ok {t : FnT} (h : scopeB t = true) : FnScope t.N t.ps t.scope := by
  unfold scopeB at h
  simp only [Bool.and_eq_true, List.all_eq_true, decide_eq_true_eq, Bool.not_eq_true', Bool.or_eq_true, decide_eq_false_iff_not] at h
  obtain ⟨⟨⟨⟨⟨⟨h1, h2⟩, h3⟩, h4⟩, h5⟩, h6⟩, h7⟩ := h
  exact ⟨h1, h2, h3, h4, h5, h6, h7⟩
def chkF (G : GE) (xs xt : Bool) (t : FnT) (i : FI) : Bool := scopeB t && decide (i.np = t.ps.length) && decide (i.nn = t.N.length) && chkL i.body ⟨G, t.N, t.scope, none, true, xs, xt⟩ t.body
def hotK : GK → GK
  | .fn _ _ _ _ => .nil
  | .cls _ _ _ _ _ _ => .nil
  | .wh _ => .nil
  | g => g
def hotG (G : GE) : GE := G.map fun p => (p.1, hotK p.2)
def chkW (G : GE) (t : FnT) (i : FI) : Bool := scopeB t && decide (i.np = t.ps.length) && decide (i.nn = t.N.length) && decide (t.ps.length = 1) && chkL i.body ⟨hotG G, t.N, t.scope, none, false, false, false⟩ t.body
def whB (G : GE) (f : Nat) : Bool := G.any fun p => match p.2 with
  | .wh f' => decide (f = f')
  | _ => false
theorem hotG_look {G : GE} {x : Str} {g : GK} (h : (hotG G).lookup x = some g) : ∃ g', G.lookup x = some g' ∧ g = hotK g' := by
  induction G with
  | nil => cases h
  | cons p r ih =>
    obtain ⟨y, k⟩ := p
    simp only [hotG, List.map_cons, List.lookup_cons] at h ⊢
    cases e : (x == y) with
    | true => rw [e] at h; exact ⟨k, rfl, (Option.some.inj h).symm⟩
    | false => rw [e] at h; exact ih h
structure TxtOk (K : PySem.W.Frag) (t : FnT) (a : Addr) : Prop where
  ex : ∃ (fd : FuncData) (dvs : List V), FunD K t.name t.qual t.params t.body t.scope dvs [] a fd ∧ Binds K fd t.ps [] ∧ (t.dfl ≠ [] → ∃ ds, Vals (t.dfl.map V.int) ds ∧ Binds K fd t.ps ds) ∧ (t.dfl ≠ [] → t.ps.length = 2 → ∃ gg, KBn K fd t.ps 1 [t.ps.getD 1 Str.empty] gg (fun vs zs => vs ++ zs))
structure Lw where
  P : Nat → Option FI
  tx : Nat → FnT
  G : GE
  xs : Bool
  xt : Bool
structure LwOk (L : Lw) (T : Tx) (mg : Str → Option Value) : Prop where
  chk : ∀ f i, L.P f = some i → whB L.G f = false → chkF L.G L.xs L.xt (L.tx f) i = true
  chkw : ∀ f i, L.P f = some i → whB L.G f = true → chkW L.G (L.tx f) i = true
  okg : ∀ x f np nd kw, L.G.lookup x = some (.fn f np nd kw) → T.okf f nd
  okf : ∀ f nd, T.okf f nd → ∃ x np kw, L.G.lookup x = some (.fn f np nd kw)
  xvn : T.xv = fun _ => none
  whx : ∀ f, whB L.G f = true → L.xs = true
  xs : L.xs = true → XAll T.K T.xa
  txt : ∀ f i, L.P f = some i → TxtOk T.K (L.tx f) (T.fa f)
  glob : ∀ x g, L.G.lookup x = some g → match g with
    | .int i => ∃ t, mg x = some (.int i t)
    | .str s => ∃ t, mg x = some (.str s t)
    | .fn f np nd kw => mg x = some (.ref (T.fa f)) ∧ whB L.G f = false ∧ ∃ i, L.P f = some i ∧ i.np = np ∧ (L.tx f).dfl = nd ∧ (L.tx f).ps.getD 1 Str.empty = kw
    | .exc c => mg x = some (.ref (T.xa c)) ∧ PySem.W.excIn T.K (T.xa c) He.veBase "ValueError.__new__" = true ∧ PySem.W.keepIn T.K (.ref (T.xa c)) = true ∧ PySem.W.subIn T.K (.ref (T.xa c)) (.type "BaseException") = some true ∧ PySem.W.typeIn T.K (.ref (T.xa c)) = some (.type "type")
    | .free => mg x = none
    | .cls c _ _ _ _ _ => mg x = some (.ref (T.ca c))
    | .low c => mg x = some (.ref (T.xa c))
    | .wh f => mg x = some (.ref (T.fa f)) ∧ whB L.G f = true ∧ ∃ i, L.P f = some i ∧ (L.tx f).dfl = []
    | .nil => True
section
variable {L : Lw} {T : Tx} {mg : Str → Option Value} {Pg : Program} {w : World} {base : Heap}
theorem callN_len {P : Nat → Option FI} {f : Nat} {i : FI} (e : P f = some i) : ∀ (n : Nat) (ds : List D) (h : MH), ds.length ≠ i.np → callN P n f ds h = .stuck
  | 0, _, _, _ => rfl
  | n + 1, ds, h, z => by
    unfold callN
    rw [e]
    simp only [if_neg z]
theorem RepL.start {H : Hp} {g : Gr} {N : List Str} : ∀ {ds : List D} {vs : List V}, RepL T H g ds vs → RepS T H g (ds.map some ++ List.replicate (N.length - ds.length) none) (L2.start N vs) := by
  intro ds vs q
  have hl := q.length
  refine ⟨by simp [L2.start, hl], fun i d e => ?_⟩
  unfold L2.start
  by_cases hi : i < ds.length
  · rw [List.getElem?_append_left (by simpa using hi), List.getElem?_map] at e
    cases z : ds[i]? with
    | none => rw [z] at e; cases e
    | some d' =>
      rw [z] at e
      cases e
      obtain ⟨v, ev, rv⟩ := q.get z
      exact ⟨v, by rw [List.getElem?_append_left (by simp; omega), List.getElem?_map, ev]; rfl, rv⟩
  · rw [List.getElem?_append_right (by simpa using hi), List.getElem?_replicate] at e
    split at e <;> cases e
theorem which_all (ok : LwOk L T mg) (hxs : L.xs = true) (n : Nat) (f : Nat) (i : FI) (e : L.P f = some i) (hw : whB L.G f = true) (hd : (L.tx f).dfl = []) {X : Cx} (hP : X.prog = Pg) (hW : X.w = w) (hK : X.K = T.K) (hmg : X.mg = mg) (hB : X.base = base) :
    WhF T X n (callN L.P n) f := by
  subst hP hW hmg hB
  obtain ⟨fd, dvs, F, b0, _, _⟩ := (ok.txt f i e).ex
  rw [← hK] at F b0
  obtain ⟨d1, d5⟩ := and_all (show (scopeB (L.tx f) && decide (i.np = (L.tx f).ps.length) && decide (i.nn = (L.tx f).N.length) && decide ((L.tx f).ps.length = 1) && chkL i.body ⟨hotG L.G, (L.tx f).N, (L.tx f).scope, none, false, false, false⟩ (L.tx f).body) = true from ok.chkw f i e hw)
  obtain ⟨d1, d4⟩ := and_all d1
  obtain ⟨d1, d3⟩ := and_all d1
  obtain ⟨d0, d2⟩ := and_all d1
  have d2 := of_decide_eq_true d2
  have d3 := of_decide_eq_true d3
  have d4 := of_decide_eq_true d4
  obtain ⟨y, ey⟩ : ∃ y, (L.tx f).ps = [y] := List.length_eq_one_iff.mp d4
  have sc := scopeB_ok d0
  rw [ey] at b0 sc
  refine ⟨F.kp, fd, y, b0, fun A outer s H args Q c a od oe hc hr hot hpin e0 bnd hz hdd o => ?_⟩
  cases n with
  | zero => exact o.elim
  | succ n =>
  obtain ⟨oc, odt, dV, kV, doc, pm, an, cdv, ct, osl, efd, lk, hcd, _, _⟩ := F.ex
  subst efd
  have inK : X.K.In s.heap := e0.mod.kin.keeps fun b o e => (e0.bs b o e).1
  have limit := e0.mod.nolimit.keeps fun b o e => (e0.bs b o e).1
  have kinds : ∀ z ∈ [y].zip [Value.ref a], (L.tx f).scope.names.lookup z.1 = some .local ∨ ((L.tx f).scope.names.lookup z.1 = some .cell ∧ ((cellsFrom (s.heap.objs.size + 1) (L.tx f).scope.names []).lookup z.1).isSome = true) := fun ⟨nn, v⟩ hm => by
    rcases sc.par nn (List.of_mem_zip hm).1 with q | q
    · exact .inl q
    · exact .inr ⟨q, PySem.W.cellsFrom_some _ _ _ (.inl q)⟩
  refine codeAny_call_function (L2H.RoomH.depth hr) (inK _ _ lk) rfl sc.co sc.gen rfl (PySem.W.codeRec_of inK hcd) (bnd _ _ _ _ (wpAny_newFunctionEnv_cells sc.kind kinds fun env he s1 x => ?_))
  subst he
  refine ⟨limit.keeps x.toInCall.keep, codeAny_func ?_⟩
  have I := L2H.inv_startH (CX := L2N.CX X.prog X.w) (qual := (L.tx f).qual) (E := fun _ _ _ => False) sc hpin e0 (vs := [V.ref a]) (us := [Value.ref a]) rfl (.cons rfl .nil) x
  have hS : Sx (T.hold c (a, od)) (callN L.P n) n ⟨hotG L.G, (L.tx f).N, (L.tx f).scope, none, false, false, false⟩ (L2H.cxH (L2N.CX X.prog X.w) X.prog X.w X.K X.mg X.base (L.tx f).N (L.tx f).qual (L.tx f).scope (T.fa f) cdv A outer s H (fun _ _ _ => False) (a, oe)) WF0 := by
    refine { K := hK, calm := fun z => (nomatch z), nd := sc.nd, room := ?_, tk := takesF, okf := fun z => (nomatch z), okg := fun x f np nd kw e => ?_, hot := fun _ => ⟨by show XAll X.K T.xa; rw [hK]; exact ok.xs hxs, fun c' a' od' ec => ?_⟩, stk := fun _ => ⟨rfl, rfl⟩, xvn := fun z => (nomatch z), xs := fun z => (nomatch z), glob := fun x gk eg => ?_, N := rfl, sc := rfl, fn := fun _ _ => rfl }
    · exact L2H.RoomH.deeper hr _
    · obtain ⟨g', _, e2⟩ := hotG_look e
      cases g' <;> cases e2
    · have ec : (if c' = c then some (a, od) else none) = some (a', od') := ec
      by_cases z : c' = c
      · subst z
        rw [if_pos rfl] at ec
        cases ec
        obtain ⟨_, vs, e1, _⟩ := hot
        exact ⟨hc, oe, List.mem_cons_self .., hz, vs, e1⟩
      · rw [if_neg z] at ec; cases ec
    · obtain ⟨g', e1, e2⟩ := hotG_look eg
      have z := ok.glob x g' e1
      rw [← hK] at z
      subst e2
      cases g' with
      | int j => exact z
      | str j => exact z
      | free => exact z
      | exc c => exact ⟨z.1, z.2.1, z.2.2.1, raises_own z.2.2.2.1 z.2.2.2.2⟩
      | low c => exact z
      | _ => exact True.intro
  have body := chkL_ok (w := WF) i.body ⟨hotG L.G, (L.tx f).N, (L.tx f).scope, none, false, false, false⟩ _ WF0 (L.tx f).body d5 hS (passes_of rfl)
  have hl : ([D.xv c] : List D).length = i.np := by rw [d2, ey]; rfl
  refine wpAny_mono (body.run [] s1 (L2.start (L.tx f).N [V.ref a]) H { nx := fun _ H' => Q .non H', rt := Q } I ⟨g0, [], [some (.xv c)] ++ List.replicate (i.nn - 1) none, rel_nil, ?_, ?_⟩) (fun fl s' hs => ?_) fun e s' hs => hs
  · rw [d3]
    have q : RepL (T.hold c (a, od)) H g0 [.xv c] [V.ref a] := ⟨⟨a, od, by show (if c = c then some (a, od) else none) = _; rw [if_pos rfl], rfl, fun dd e => (hdd dd e).elim fun fs q => ⟨fs, q, fun z => nomatch z⟩⟩, True.intro⟩
    exact q.start
  · have o : Out (T.hold c (a, od)) g0 H (match L.P f with
      | none => .stuck
      | some i => if ([D.xv c] : List D).length = i.np then (match exS (callN L.P n) WF i.body (([D.xv c] : List D).map some ++ List.replicate (i.nn - 1) none) [] with
        | .nx _ h1 => fin i.keep 0 .non h1
        | .ret d h1 => fin i.keep 0 d h1
        | .exn c p h1 => finX i.keep 0 c p h1
        | _ => .stuck) else .stuck) Q (fun _ _ _ => False) := o
    rw [e] at o
    simp only [if_pos hl] at o
    revert o
    show Out _ _ _ (match exS (callN L.P n) WF i.body ([some (D.xv c)] ++ List.replicate (i.nn - 1) none) [] with
        | .nx _ h1 => fin i.keep 0 .non h1
        | .ret d h1 => fin i.keep 0 d h1
        | .exn c p h1 => finX i.keep 0 c p h1
        | _ => .stuck) Q _ → _
    have rn := rel_nil (T := T.hold c (a, od)) (H := H)
    cases exS (callN L.P n) WF i.body ([some (D.xv c)] ++ List.replicate (i.nn - 1) none) [] with
    | nx e1 h1 => exact fun o σ1 H1 g1 r1 x1 s1 => fin_out (h := []) (d := .non) rn r1 x1 (v := .non) rfl o
    | ret d h1 => exact fun o v H1 g1 r1 x1 q1 => fin_out (h := []) rn r1 x1 q1 o
    | exn c p h1 => exact fun o σ1 dx H1 g1 r1 x1 q1 => finX_out (h := []) rn r1 x1 q1 o
    | brk _ _ => exact fun o => o.elim
    | cnt _ _ => exact fun o => o.elim
    | stuck => exact fun o => o.elim
  · cases fl with
    | ret u =>
      obtain ⟨v, σ', H', J, rv, q⟩ := hs
      exact ⟨v, H', J.os, J.bare, J.base, J.hok, rv, q⟩
    | next =>
      obtain ⟨σ', H', J, q⟩ := hs
      exact ⟨.non, H', J.os, J.bare, J.base, J.hok, rfl, q⟩
    | brk => obtain ⟨_, _, _, q⟩ := hs; exact q.elim
    | cont => obtain ⟨_, _, _, q⟩ := hs; exact q.elim
theorem fn_all (ok : LwOk L T mg) : ∀ (n : Nat) (f : Nat) (i : FI), L.P f = some i → whB L.G f = false → ∀ (fd : FuncData) (dvs : List V), FunD T.K (L.tx f).name (L.tx f).qual (L.tx f).params (L.tx f).body (L.tx f).scope dvs [] (T.fa f) fd →
    FnOk Pg w T.K mg base (L2N.CX Pg w) n (T.fa f) fd (L.tx f).ps (spF T (callN L.P n) f i.np)
  | 0, f, i, e, nw, fd, dvs, F => by
    obtain ⟨c1, _⟩ := and_all (show (scopeB (L.tx f) && decide (i.np = (L.tx f).ps.length) && decide (i.nn = (L.tx f).N.length) && chkL i.body ⟨L.G, (L.tx f).N, (L.tx f).scope, none, true, L.xs, L.xt⟩ (L.tx f).body) = true from ok.chk f i e nw)
    obtain ⟨c1, _⟩ := and_all c1
    obtain ⟨c0, c2⟩ := and_all c1
    have c2 := of_decide_eq_true c2
    exact ⟨fun vs H Q E h => by rw [← c2]; exact h.1, fun A outer s H args us vs Q E hr e0 hb hv h => by
      obtain ⟨_, _, _, _, _, _, o⟩ := h
      exact o.elim⟩
  | n + 1, f, i, e, nw, fd, dvs, F => by
    obtain ⟨c1, c4⟩ := and_all (show (scopeB (L.tx f) && decide (i.np = (L.tx f).ps.length) && decide (i.nn = (L.tx f).N.length) && chkL i.body ⟨L.G, (L.tx f).N, (L.tx f).scope, none, true, L.xs, L.xt⟩ (L.tx f).body) = true from ok.chk f i e nw)
    obtain ⟨c1, c3⟩ := and_all c1
    obtain ⟨c0, c2⟩ := and_all c1
    have c2 := of_decide_eq_true c2
    have c3 := of_decide_eq_true c3
    have sc := scopeB_ok c0
    refine F.ok sc (fun vs H Q E h => by rw [← c2]; exact h.1) fun cdv A outer s H vs Q E hr h => ?_
    obtain ⟨hlen, g, h0, ds, r, q, o⟩ := h
    refine ⟨tS T (fun c d _ H => E c d H) (exS (callN L.P n) WF i.body), ?_, g, h0, ds.map some ++ List.replicate (i.nn - ds.length) none, r, by rw [c3]; exact q.start, ?_⟩
    · refine chkL_ok (k := n) i.body ⟨L.G, (L.tx f).N, (L.tx f).scope, none, true, L.xs, L.xt⟩ _ _ (L.tx f).body c4 ?_ (passes_of rfl)
      have cal : ∀ f' np nd kw, (whB L.G f' = false ∧ ∃ i, L.P f' = some i ∧ i.np = np ∧ (L.tx f').dfl = nd ∧ (L.tx f').ps.getD 1 Str.empty = kw) → CalF T (cxOf (L2N.CX Pg w) Pg w T.K mg base (L.tx f).N (L.tx f).qual (L.tx f).scope (T.fa f) cdv A outer s H E) n (callN L.P n) f' np nd kw := fun f' np nd kw z => by
        obtain ⟨z1, i', e', z2, z3, z4⟩ := z
        obtain ⟨fd', dvs', F', b0, bd, kb⟩ := (ok.txt f' i' e').ex
        have np' : (L.tx f').ps.length = i'.np := by
          obtain ⟨d1, _⟩ := and_all (show (scopeB (L.tx f') && decide (i'.np = (L.tx f').ps.length) && decide (i'.nn = (L.tx f').N.length) && chkL i'.body ⟨L.G, (L.tx f').N, (L.tx f').scope, none, true, L.xs, L.xt⟩ (L.tx f').body) = true from ok.chk f' i' e' z1)
          obtain ⟨d1, _⟩ := and_all d1
          exact (of_decide_eq_true (and_all d1).2).symm
        refine ⟨F'.kp, fun ds h z => callN_len e' n ds h (by rw [z2]; exact z), fd', (L.tx f').ps, by rw [np', z2], ?_, b0, fun hn => ?_, fun hn h2 => ?_⟩
        · rw [← z2]
          exact fn_all ok n f' i' e' z1 fd' dvs' F'
        · have := bd (by rw [z3]; exact hn)
          rw [z3] at this
          exact this
        · have := kb (by rw [z3]; exact hn) (by rw [np', z2]; exact h2)
          rw [z4] at this
          exact this
      refine { K := rfl, calm := fun _ => ⟨rfl, hr.hd⟩, nd := sc.nd, room := ⟨hr.dp, hr.un⟩, tk := L2N.takes_of rfl rfl rfl rfl, okf := fun _ f' dl e' => ?_, okg := ok.okg, hot := fun z => (nomatch z), stk := fun _ => ⟨rfl, rfl⟩, xvn := fun _ => ok.xvn, xs := ok.xs, glob := fun x gk eg => ?_, N := rfl, sc := rfl, fn := fun _ _ => rfl }
      · obtain ⟨x, np, kw, e1⟩ := ok.okf f' dl e'
        exact ⟨np, dl, kw, cal f' np dl kw (ok.glob x _ e1).2, rfl⟩
      have z := ok.glob x gk eg
      cases gk with
      | int j => exact z
      | str j => exact z
      | free => exact z
      | exc c => exact ⟨z.1, z.2.1, z.2.2.1, raises_own z.2.2.2.1 z.2.2.2.2⟩
      | fn f' np nd kw => exact ⟨z.1, cal f' np nd kw z.2⟩
      | cls c f' np nd kw ms => exact z
      | low c => exact z
      | nil => exact z
      | wh f' =>
        obtain ⟨z1, z2, i', e', z3⟩ := z
        refine ⟨z1, ?_⟩
        by_cases hx : L.xs = true
        · exact which_all ok hx n f' i' e' z2 z3 rfl rfl rfl rfl rfl
        · exact (hx (ok.whx f' z2)).elim
    · have hl : ds.length = i.np := by rw [q.length, hlen]
      have o : Out T g H (match L.P f with
        | none => .stuck
        | some i => if ds.length = i.np then (match exS (callN L.P n) WF i.body (ds.map some ++ List.replicate (i.nn - ds.length) none) h0 with
          | .nx _ h1 => fin i.keep h0.length .non h1
          | .ret d h1 => fin i.keep h0.length d h1
          | .exn c p h1 => finX i.keep h0.length c p h1
          | _ => .stuck) else .stuck) Q E := o
      rw [e] at o
      simp only [if_pos hl] at o
      revert o
      cases exS (callN L.P n) WF i.body (ds.map some ++ List.replicate (i.nn - ds.length) none) h0 with
      | nx e1 h1 => exact fun o σ1 H1 g1 r1 x1 s1 => fin_out (d := .non) r r1 x1 (v := .non) rfl o
      | ret d h1 => exact fun o v H1 g1 r1 x1 q1 => fin_out r r1 x1 q1 o
      | exn c p h1 => exact fun o σ1 dx H1 g1 r1 x1 q1 => finX_out r r1 x1 q1 o
      | brk _ _ => exact fun o => o.elim
      | cnt _ _ => exact fun o => o.elim
      | stuck => exact fun o => o.elim
end
end Mi
namespace Mi
open PySem PySem.Spec PyProof.Rows L2
structure LD where
  fns : List (Nat × FnT × FI)
  G : GE
  xn : Nat → Str
  xs : Bool
  xt : Bool
def noFn : FnT := ⟨(Str.empty, none), Str.empty, Str.empty, ⟨[], [], none, [], [], none, []⟩, [], ⟨.function, [], false, false, []⟩, [], [], []⟩
def LD.tx (L : LD) (f : Nat) : FnT := ((L.fns.lookup f).map (·.1)).getD noFn
def LD.P (L : LD) (f : Nat) : Option FI := (L.fns.lookup f).map (·.2)
def LD.lw (L : LD) : Lw := ⟨L.P, L.tx, L.G, L.xs, L.xt⟩
def LD.T (L : LD) (K : PySem.W.Frag) : Tx := ⟨K, fun _ => 0, fun c => He.ga K (L.xn c), fun f => He.fAd K (L.tx f).at_, fun _ => Str.empty, fun f dl => ∃ x np kw, L.G.lookup x = some (.fn f np dl kw), fun _ => none⟩
def LD.ex (L : LD) (K : PySem.W.Frag) : Bool := !L.xs || xallB K fun c => He.ga K (L.xn c)
def defD (t : FnT) : He.DefD := ⟨t.at_, t.name, t.qual, t.params, t.body, t.scope, t.dfl.map He.Dv.int, []⟩
def LD.defs (L : LD) : List He.DefD := L.fns.map fun p => defD p.2.1
def gFa (p : Str × GK) : List He.Fa := match p.2 with
  | .int i => [.int p.1 i]
  | .str s => [.str p.1 s]
  | .fn _ _ _ _ => [.glo p.1]
  | .exc _ => [.glo p.1, .exc p.1]
  | .free => [.free p.1]
  | .cls _ _ _ _ _ _ => [.glo p.1]
  | .low _ => [.glo p.1]
  | .wh _ => [.glo p.1]
  | .nil => []
def LD.facts (L : LD) : List He.Fa := L.G.flatMap gFa
def gB (L : LD) : Bool := L.G.all fun p => match p.2 with
  | .fn f np nd kw => (match L.fns.lookup f with
    | some (t, i) => decide (t.at_ = (p.1, none)) && decide (i.np = np) && decide (t.dfl = nd) && decide (t.ps.getD 1 Str.empty = kw) && !whB L.G f
    | none => false)
  | .exc c => decide (L.xn c = p.1)
  | .low c => decide (L.xn c = p.1)
  | .wh f => L.xs && (match L.fns.lookup f with
    | some (t, i) => decide (t.at_ = (p.1, none)) && decide (t.dfl = [])
    | none => false)
  | .cls _ _ _ _ _ _ => false
  | _ => true
def chkAny (L : LD) (p : Nat × FnT × FI) : Bool := if whB L.G p.1 = true then chkW L.G p.2.1 p.2.2 else chkF L.G L.xs L.xt p.2.1 p.2.2
structure BindsOk (t : FnT) : Prop where
  all : t.dfl = [] → ∀ (kV doc pm : Value) (an : Option Addr) (cdv ct : Value) (us : List Value), us.length = t.ps.length → bindArgs (PySem.W.fnOf t.name t.qual t.params t.body t.scope .none kV doc pm an cdv ct) ⟨us, []⟩ = pure (t.ps.zip us)
  dfl : t.dfl ≠ [] → ∀ j, (j = 0 ∨ j = t.dfl.length) → ∀ (T : Addr) (kV doc pm : Value) (an : Option Addr) (cdv ct : Value) (us its : List Value), us.length = t.ps.length - (t.dfl.length - j) → its.length = t.dfl.length →
    ∃ k, bindArgs (PySem.W.fnOf t.name t.qual t.params t.body t.scope (.ref T) kV doc pm an cdv ct) ⟨us, []⟩ = seqItems? (.ref T) >>= k ∧ k (some its.toArray) = pure (t.ps.zip (us ++ its.drop j))
  le : t.dfl.length ≤ t.ps.length
  kw : t.dfl ≠ [] → t.ps.length = 2 → ∀ (T : Addr) (kV doc pm : Value) (an : Option Addr) (cdv ct : Value) (us its ws : List Value), us.length = 1 → its.length = t.dfl.length → ws.length = 1 →
    ∃ k, bindArgs (PySem.W.fnOf t.name t.qual t.params t.body t.scope (.ref T) kV doc pm an cdv ct) ⟨us, [t.ps.getD 1 Str.empty].zip ws⟩ = seqItems? (.ref T) >>= k ∧ k (some its.toArray) = pure (t.ps.zip (us ++ ws))
def BindsAll : List (Nat × FnT × FI) → Prop
  | [] => True
  | p :: r => BindsOk p.2.1 ∧ BindsAll r
theorem BindsAll.mem : ∀ {l : List (Nat × FnT × FI)} {p : Nat × FnT × FI}, BindsAll l → p ∈ l → BindsOk p.2.1
  | q :: r, p, h, m => by
    rcases List.mem_cons.mp m with e | m
    · rw [e]; exact h.1
    · exact BindsAll.mem h.2 m
theorem lookup_mem {α β : Type} [BEq α] [LawfulBEq α] {k : α} {v : β} : ∀ {l : List (α × β)}, l.lookup k = some v → (k, v) ∈ l
  | (a, b) :: r, h => by
    rw [List.lookup_cons] at h
    by_cases e : (k == a) = true
    · simp only [e] at h
      cases h
      rw [eq_of_beq e]
      exact List.mem_cons_self ..
    · have e : (k == a) = false := by simpa using e
      simp only [e] at h
      exact List.mem_cons_of_mem _ (lookup_mem h)
theorem BindsOk.one {t : FnT} (h : t.dfl = []) (b : ∀ (kV doc pm : Value) (an : Option Addr) (cdv ct : Value) (us : List Value), us.length = t.ps.length → bindArgs (PySem.W.fnOf t.name t.qual t.params t.body t.scope .none kV doc pm an cdv ct) ⟨us, []⟩ = pure (t.ps.zip us)) : BindsOk t :=
  ⟨fun _ => b, fun n => absurd h n, by rw [h]; exact Nat.zero_le _, fun n => absurd h n⟩
section
variable {L : LD} {K : PySem.W.Frag} {h : Heap} {mg : Str → Option Value}
theorem LD.P_some {f : Nat} {i : FI} (e : L.P f = some i) : ∃ t, L.fns.lookup f = some (t, i) ∧ L.tx f = t := by
  unfold LD.P at e
  cases z : L.fns.lookup f with
  | none => rw [z] at e; cases e
  | some p =>
    obtain ⟨t, j⟩ := p
    rw [z] at e
    cases e
    exact ⟨t, rfl, by unfold LD.tx; rw [z]; rfl⟩
theorem ints_v : ∀ ns : List Int, (ns.map He.Dv.int).map (He.Dv.v K) = ns.map V.int
  | [] => rfl
  | n :: ns => by simp only [List.map_cons, ints_v ns]; rfl
theorem LD.txt (c : He.SaysD L.facts L.defs K) (hb : BindsAll L.fns) {f : Nat} {i : FI} (e : L.P f = some i) : TxtOk K (L.tx f) (He.fAd K (L.tx f).at_) ∧ ((L.tx f).dfl = [] → ∃ fd, FunD K (L.tx f).name (L.tx f).qual (L.tx f).params (L.tx f).body (L.tx f).scope [] [] (He.fAd K (L.tx f).at_) fd) := by
  obtain ⟨t, e1, e2⟩ := LD.P_some e
  have m := lookup_mem e1
  obtain ⟨n, hn, en⟩ := List.getElem_of_mem m
  have ed : L.defs[n]? = some (defD t) := by
    unfold LD.defs
    rw [List.getElem?_map, List.getElem?_eq_getElem hn, en]
    rfl
  obtain ⟨fd, F⟩ := c.def_ n ed
  rw [e2]
  have F : FunD K t.name t.qual t.params t.body t.scope ((t.dfl.map He.Dv.int).map (He.Dv.v K)) [] (He.fAd K t.at_) fd := F
  rw [ints_v] at F
  have b : BindsOk t := hb.mem m
  refine ⟨⟨fd, t.dfl.map V.int, F, ?_, fun hd => ?_, fun hd h2 => ?_⟩, fun hd => ?_⟩
  · by_cases hd : t.dfl = []
    · rw [hd] at F
      exact F.bindsN (b.all hd)
    · have hd' : t.dfl.map V.int ≠ [] := by simpa using hd
      obtain ⟨ds, v, bb⟩ := F.binds1 (ps := t.ps) t.ps.length t.dfl.length hd' (by simp) (fun T kV doc pm an cdv ct us its h1 h2 => by
        have := b.dfl hd t.dfl.length (.inr rfl) T kV doc pm an cdv ct us its (by rw [h1]; omega) (by simpa using h2)
        exact this)
      have : ds = [] := by
        have := v.length
        simp at this
        exact List.eq_nil_of_length_eq_zero this.symm
      rw [this] at bb
      exact bb
  · have hd' : t.dfl.map V.int ≠ [] := by simpa using hd
    have hle := b.le
    obtain ⟨ds, v, bb⟩ := F.binds1 (ps := t.ps) (t.ps.length - t.dfl.length) 0 hd' (by simp; omega) (fun T kV doc pm an cdv ct us its h1 h2 => by
      have := b.dfl hd 0 (.inl rfl) T kV doc pm an cdv ct us its (by rw [h1]; omega) (by simpa using h2)
      exact this)
    exact ⟨ds, by simpa using v, bb⟩
  · have hd' : t.dfl.map V.int ≠ [] := by simpa using hd
    obtain ⟨its, kb⟩ := F.kbindsD (ps := t.ps) 1 [t.ps.getD 1 Str.empty] (fun us _ ws => us ++ ws) hd' (fun a _ c => a.append c) (fun T kV doc pm an cdv ct us its ws h1 h3 h4 => b.kw hd h2 T kV doc pm an cdv ct us its ws h1 (by simpa using h3) h4)
    exact ⟨_, kb⟩
  · rw [hd] at F
    exact ⟨fd, F⟩
theorem LD.ok (X : K.In h) (Gh : h.Ns mainGlobals mg) (c : He.SaysD L.facts L.defs K) (cx : L.ex K = true) (hc : (L.fns.all (chkAny L)) = true) (hg : gB L = true) (hb : BindsAll L.fns) : LwOk L.lw (L.T K) mg where
  chk := fun f i e nw => by
    obtain ⟨t, e1, e2⟩ := LD.P_some (show L.P f = some i from e)
    have := List.all_eq_true.mp hc _ (lookup_mem e1)
    unfold chkAny at this
    rw [if_neg (by rw [show whB L.G f = false from nw]; exact Bool.false_ne_true)] at this
    show chkF L.G L.xs L.xt (L.tx f) i = true
    rw [e2]
    exact this
  chkw := fun f i e nw => by
    obtain ⟨t, e1, e2⟩ := LD.P_some (show L.P f = some i from e)
    have := List.all_eq_true.mp hc _ (lookup_mem e1)
    unfold chkAny at this
    rw [if_pos (show whB L.G f = true from nw)] at this
    show chkW L.G (L.tx f) i = true
    rw [e2]
    exact this
  okg := fun x f np nd kw e => ⟨x, np, kw, e⟩
  okf := fun f nd e => e
  xvn := rfl
  whx := fun f e => by
    obtain ⟨p, hp, q⟩ := List.any_eq_true.mp (show whB L.G f = true from e)
    have hg := List.all_eq_true.mp hg _ hp
    obtain ⟨x, g⟩ := p
    cases g with
    | wh f' => exact (and_all (show (L.xs && _) = true from hg)).1
    | _ => cases q
  xs := fun e => by
    have e : L.xs = true := e
    have cx : (!L.xs || xallB K fun c => He.ga K (L.xn c)) = true := cx
    rw [e] at cx
    have cx : (xallB K fun c => He.ga K (L.xn c)) = true := by simpa using cx
    exact xallB_ok cx
  txt := fun f i e => (LD.txt c hb (show L.P f = some i from e)).1
  glob := fun x g e => by
    have m := lookup_mem (show L.G.lookup x = some g from e)
    have fact : ∀ a ∈ gFa (x, g), a.ok K = true := fun a ha => by
      have : a ∈ L.facts := List.mem_flatMap.mpr ⟨_, m, ha⟩
      obtain ⟨n, hn, en⟩ := List.getElem_of_mem this
      exact c.fact n (by rw [List.getElem?_eq_getElem hn, en])
    have hg := List.all_eq_true.mp hg _ m
    cases g with
    | int i => exact He.int_ok X Gh (fact _ (List.mem_cons_self ..))
    | str i => exact He.str_ok X Gh (fact _ (List.mem_cons_self ..))
    | free => exact He.free_ok X Gh (fact _ (List.mem_cons_self ..))
    | exc d =>
      have e := of_decide_eq_true (show decide (L.xn d = x) = true from hg)
      have q := He.exc_ok (fact (.exc x) (List.mem_cons_of_mem _ (List.mem_cons_self ..)))
      have z := He.glo_ok X Gh (fact (.glo x) (List.mem_cons_self ..))
      show mg x = some (.ref (He.ga K (L.xn d))) ∧ PySem.W.excIn K (He.ga K (L.xn d)) He.veBase "ValueError.__new__" = true ∧ PySem.W.keepIn K (.ref (He.ga K (L.xn d))) = true ∧ PySem.W.subIn K (.ref (He.ga K (L.xn d))) (.type "BaseException") = some true ∧ PySem.W.typeIn K (.ref (He.ga K (L.xn d))) = some (.type "type")
      rw [e]
      exact ⟨z, q⟩
    | nil => exact True.intro
    | cls _ _ _ _ _ _ => cases hg
    | low d =>
      have e := of_decide_eq_true (show decide (L.xn d = x) = true from hg)
      have z := He.glo_ok X Gh (fact (.glo x) (List.mem_cons_self ..))
      show mg x = some (.ref (He.ga K (L.xn d)))
      rw [e]
      exact z
    | wh f =>
      obtain ⟨h0, hg⟩ := and_all (show (L.xs && (match L.fns.lookup f with
        | some (t, i) => decide (t.at_ = (x, none)) && decide (t.dfl = [])
        | none => false)) = true from hg)
      have z := He.glo_ok X Gh (fact (.glo x) (List.mem_cons_self ..))
      cases y : L.fns.lookup f with
      | none => rw [y] at hg; cases hg
      | some p =>
        obtain ⟨t, i⟩ := p
        rw [y] at hg
        simp only [Bool.and_eq_true, decide_eq_true_eq] at hg
        obtain ⟨h1, h2⟩ := hg
        have et : L.tx f = t := by unfold LD.tx; rw [y]; rfl
        refine ⟨?_, List.any_eq_true.mpr ⟨_, m, by simp⟩, i, by show L.P f = some i; unfold LD.P; rw [y]; rfl, ?_⟩
        · show mg x = some (.ref (He.fAd K (L.tx f).at_))
          rw [et, h1]
          exact z
        · show (L.tx f).dfl = []
          rw [et]; exact h2
    | fn f np nd kw =>
      have hg : (match L.fns.lookup f with
        | some (t, i) => decide (t.at_ = (x, none)) && decide (i.np = np) && decide (t.dfl = nd) && decide (t.ps.getD 1 Str.empty = kw) && !whB L.G f
        | none => false) = true := hg
      have z := He.glo_ok X Gh (fact (.glo x) (List.mem_cons_self ..))
      cases y : L.fns.lookup f with
      | none => rw [y] at hg; cases hg
      | some p =>
        obtain ⟨t, i⟩ := p
        rw [y] at hg
        simp only [Bool.and_eq_true, decide_eq_true_eq] at hg
        obtain ⟨⟨⟨⟨h1, h2⟩, h3⟩, h4⟩, h5⟩ := hg
        have et : L.tx f = t := by unfold LD.tx; rw [y]; rfl
        have h5 : whB L.G f = false := by simpa using h5
        refine ⟨?_, h5, i, by show L.P f = some i; unfold LD.P; rw [y]; rfl, h2, ?_, ?_⟩
        · show mg x = some (.ref (He.fAd K (L.tx f).at_))
          rw [et, h1]
          exact z
        · show (L.tx f).dfl = nd
          rw [et]; exact h3
        · show (L.tx f).ps.getD 1 Str.empty = kw
          rw [et]; exact h4
def CXE (P : Program) : CXT := fun outer H s E u s' => ∃ w, L2N.CX P w outer H s E u s'
theorem FnOk.cx {P : Program} {w : World} {mg : Str → Option Value} {base : Heap} {CX CX' : CXT} {k : Nat} {f : Addr} {fd : FuncData} {ps : List Str} {sp : Sp} (F : FnOk P w K mg base CX k f fd ps sp) (h : ∀ outer H s E u s', CX outer H s E u s' → CX' outer H s E u s') : FnOk P w K mg base CX' k f fd ps sp :=
  ⟨F.len, fun A outer s H args us vs Q E hr e0 hb hv hs => codeAny_mono (F.run A outer s H args us vs Q E hr e0 hb hv hs) fun r s' hq => by
    cases r with
    | error e => exact h _ _ _ _ _ _ hq
    | ok fl => cases fl <;> exact hq⟩
theorem cxe_no {P : Program} : ∀ (H : Hp) (s : Shared) (e : Value) (s' : Shared), CXE P [] H s (fun _ _ _ => False) e s' → False := fun H s e s' ⟨w, a, B, H', cls, d, _, _, _, _, _, _, _, z⟩ => z
theorem LD.law {P : Program} {w : World} {fa : Addr} {f n : Nat} {i : FI} {x : Str} (X : K.In h) (Gh : h.Ns mainGlobals mg) (c : He.SaysD L.facts L.defs K) (cx : L.ex K = true) (hc : (L.fns.all (chkAny L)) = true) (hg : gB L = true) (hb : BindsAll L.fns)
    (ef : L.G.lookup ("law" : Str) = some (.fn f 1 [] Str.empty)) (ei : L.P f = some i) (ed : (L.tx f).dfl = []) (ep : (L.tx f).ps = [x]) (hmg : mg ("law" : Str) = some (.ref fa))
    (spec : ∀ ns : List Int, ns.length ≤ 63 → ∃ h', callN L.P n f [.scr ns] [] = .ok (.bl true) h') :
    ∃ (K : PySem.W.Frag) (fd : FuncData) (sp : Sp), K.In h ∧ (∀ (s : Shared) (u : Value), BindsTo s fd ⟨[u], []⟩ [(x, u)]) ∧
        (∀ (H : Hp) (a : Addr) (ns : List Int), ns.length ≤ 63 → Only H → SqL K H a (ns.map V.int) → sp [.ref a] H (fun v _ => v = .bl true) fun _ _ _ => False) ∧
        ∀ base : Heap, K.In base → base.Ns mainGlobals mg → FnOk P w K mg base (CXE P) n fa fd [x] sp := by
  have ok := LD.ok X Gh c cx hc hg hb
  have z := ok.glob ("law" : Str) _ ef
  obtain ⟨z1, z0, i', z2, z3, z4⟩ := z
  have e1 : L.P f = some i' := z2
  rw [ei] at e1
  cases e1
  have e2 : fa = He.fAd K (L.tx f).at_ := by
    have z1 : mg "law" = some (.ref (He.fAd K (L.tx f).at_)) := z1
    rw [hmg] at z1
    cases z1
    rfl
  obtain ⟨tx, fdx⟩ := LD.txt c hb ei
  obtain ⟨fd, F⟩ := fdx ed
  obtain ⟨t, t1, t2⟩ := LD.P_some ei
  have b : BindsOk (L.tx f) := by rw [t2]; exact hb.mem (lookup_mem t1)
  refine ⟨K, fd, spF (L.T K) (callN L.P n) f 1, X, fun s u => ?_, fun H a ns hl hO hS => ?_, fun base KB GB => ?_⟩
  · have := FunD.bindsA (ps := (L.tx f).ps) F (b.all ed) s [u] (by rw [ep]; rfl)
    rw [ep] at this
    exact this
  · refine ⟨rfl, ⟨[], fun _ => False⟩, [], [.scr ns], ⟨rfl, .nil, fun _ h => (nomatch h), fun _ h => h.elim, fun n o a e => by simp at e⟩, ⟨⟨a, rfl, ?_⟩, True.intro⟩, ?_⟩
    · rcases hS with (hS | ⟨o, hS⟩) | hS
      · rcases hO a with q | ⟨o, xs, q⟩
        · rw [q] at hS; cases hS
        · rw [q] at hS; cases hS
      · exact .inl ⟨o, hS, fun q => nomatch q⟩
      · exact .inr fun H' => .inr hS
    · obtain ⟨h', e⟩ := spec ns hl
      rw [e]
      exact fun v H1 g1 r x q => q
  · rw [e2, ← ep]
    have := fn_all (Pg := P) (w := w) (base := base) ok n f i ei z0 fd [] F
    rw [show i.np = 1 from z3] at this
    exact FnOk.cx this fun outer H s E u s' q => ⟨w, q⟩
end
end Mi
namespace Mi
open PySem
-- is_whole, id 0
def fi_is_whole : FI := ⟨3, 3, none,
 (.cons (.ret (.and (.isI (.var 0) .int) (.and (.not (.isI (.var 0) .bool)) (.chain .le .le (.var 1) (.var 0) (.var 2)))))
 .nil)⟩
-- is_shape, id 1
def fi_is_shape : FI := ⟨1, 2, none,
 (.cons (.ifS (.or (.not (.isI (.var 0) .tuple)) (.not (.chain .le .le (.int 1) (.prim .len (.cons (.var 0) .nil)) (.int 5))))
  (.cons (.ret (.bl false))
   .nil)
  .nil)
 (.cons (.ifS (.not (.prim .all (.cons (.lc false (.nm 1) (.gen (.var 0)) (.bl true) (.and (.isI (.var 1) .tuple) (.chain .le .le (.int 1) (.prim .len (.cons (.var 1) .nil)) (.int 5))) [((Str.ofString "row"), 1)]) .nil)))
  (.cons (.ret (.bl false))
   .nil)
  .nil)
 (.cons (.ret (.prim .all (.cons (.lc false (.nm 1) (.gen (.var 0)) (.bl true) (.cmp .eq (.prim .len (.cons (.var 1) .nil)) (.prim .len (.cons (.idx (.var 0) (.int 0)) .nil))) [((Str.ofString "row"), 1)]) .nil)))
 .nil)))⟩
-- is_table, id 2
def fi_sums_right : FI := ⟨1, 2, none,
 (.cons (.ret (.lc false (.nm 1) (.gen (.var 0)) (.bl true) (.prim .sum (.cons (.var 1) .nil)) [((Str.ofString "row"), 1)]))
 .nil)⟩
-- sums_below, id 8
def fi_sums_below : FI := ⟨1, 3, none,
 (.cons (.ret (.lc false (.nm 1) (.rng1 (.prim .len (.cons (.idx (.var 0) (.int 0)) .nil))) (.bl true) (.prim .sum (.cons (.lc false (.nm 2) (.gen (.var 0)) (.bl true) (.idx (.var 2) (.var 1)) [((Str.ofString "row"), 2)]) .nil)) [((Str.ofString "at"), 1)]))
 .nil)⟩
-- right_sums, id 9
def fi_all_cells : FI := ⟨1, 4, none,
 (.cons (.asg (.nm 1) (.lst true .nil))
 (.cons (.forS (.nm 2) (.rng1 (.prim .len (.cons (.var 0) .nil)))
  (.cons (.ex (.meth (.var 1) .extend (.cons (.lc false (.nm 3) (.rng1 (.prim .len (.cons (.idx (.var 0) (.int 0)) .nil))) (.bl true) (.tup (.cons (.var 2) (.cons (.var 3) .nil))) [((Str.ofString "to"), 3)]) .nil)))
   .nil))
 (.cons (.ret (.var 1))
 .nil)))⟩
-- steps_from, id 16
def fi_steps_from : FI := ⟨3, 7, none,
 (.cons (.asg (.tp [3, 4]) (.var 1))
 (.cons (.asg (.nm 5) (.lst true .nil))
 (.cons (.forD (.nm 6) 0
  (.cons (.ifS (.cmp .eq (.var 6) (.var 2))
    (.cons .cnt
     .nil)
    .nil)
   (.cons (.ifS (.and (.cmp .eq (.var 3) (.str (Str.ofString "row"))) (.cmp .eq (.idx (.var 6) (.int 0)) (.var 4)))
    (.cons (.ex (.meth (.var 5) .append (.cons (.tup (.cons (.str (Str.ofString "column")) (.cons (.idx (.var 6) (.int 1)) .nil))) .nil)))
     .nil)
    .nil)
   (.cons (.ifS (.and (.cmp .eq (.var 3) (.str (Str.ofString "column"))) (.and (.cmp .eq (.idx (.var 6) (.int 1)) (.var 4)) (.cmp .gt (.idx (.var 0) (.var 6)) (.int 0))))
    (.cons (.ex (.meth (.var 5) .append (.cons (.tup (.cons (.str (Str.ofString "row")) (.cons (.idx (.var 6) (.int 0)) .nil))) .nil)))
     .nil)
    .nil)
   .nil))))
 (.cons (.ret (.var 5))
 .nil))))⟩
-- reached, id 17
def fi_reached : FI := ⟨3, 7, none,
 (.cons (.asg (.nm 3) (.prim (.dict true) (.cons (.lc false (.nm 6) (.gen (.var 1)) (.bl true) (.tup (.cons (.var 6) (.cons .non .nil))) [((Str.ofString "spot"), 6)]) .nil)))
 (.cons (.asg (.nm 4) (.prim (.list true) (.cons (.var 1) .nil)))
 (.cons (.asg (.nm 5) (.int 0))
 (.cons (.whl (.cmp .lt (.var 5) (.prim .len (.cons (.var 4) .nil)))
  (.cons (.forS (.nm 6) (.gen (.call 16 (.cons (.var 0) (.cons (.idx (.var 4) (.var 5)) (.cons (.var 2) .nil)))))
    (.cons (.ifS (.cmp .nin (.var 6) (.var 3))
      (.cons (.sub (.var 3) (.var 6) (.idx (.var 4) (.var 5)))
       (.cons (.ex (.meth (.var 4) .append (.cons (.var 6) .nil)))
       .nil))
      .nil)
     .nil))
   (.cons (.aug 5 .add (.int 1))
   .nil)))
 (.cons (.ret (.var 3))
 .nil)))))⟩
-- road_to, id 18
def fi_road_to : FI := ⟨2, 3, none,
 (.cons (.asg (.nm 2) (.lst false (.cons (.var 1) .nil)))
 (.cons (.whl (.cmp .isn (.idx (.var 0) (.idx (.var 2) (.int 0))) .non)
  (.cons (.asg (.nm 2) (.bin false .add (.lst false (.cons (.idx (.var 0) (.idx (.var 2) (.int 0))) .nil)) (.var 2)))
   .nil))
 (.cons (.ret (.var 2))
 .nil)))⟩
-- carry, id 19
def fi_carry : FI := ⟨3, 7, none,
 (.cons (.asg (.nm 3) (.zipL false (.var 1) (.sl false (.var 1) (.cons (.int 1) .nil) .nil)))
 (.cons (.asg (.nm 4) (.var 2))
 (.cons (.forS (.tp [5, 6]) (.gen (.var 3))
  (.cons (.ifS (.cmp .eq (.idx (.var 5) (.int 0)) (.str (Str.ofString "column")))
    (.cons (.asg (.nm 4) (.prim .min2 (.cons (.var 4) (.cons (.idx (.var 0) (.tup (.cons (.idx (.var 6) (.int 1)) (.cons (.idx (.var 5) (.int 1)) .nil)))) .nil))))
     .nil)
    .nil)
   .nil))
 (.cons (.forS (.tp [5, 6]) (.gen (.var 3))
  (.cons (.ifS (.cmp .eq (.idx (.var 5) (.int 0)) (.str (Str.ofString "column")))
    (.cons (.augS (.var 0) (.tup (.cons (.idx (.var 6) (.int 1)) (.cons (.idx (.var 5) (.int 1)) .nil))) .sub (.var 4))
     .nil)
    (.cons (.augS (.var 0) (.tup (.cons (.idx (.var 5) (.int 1)) (.cons (.idx (.var 6) (.int 1)) .nil))) .add (.var 4))
     .nil))
   .nil))
 (.cons (.ret (.var 4))
 .nil)))))⟩
-- fill, id 20
def fi_fill : FI := ⟨3, 12, (some 1),
 (.cons (.asg (.nm 3) (.prim (.dict true) (.cons (.lc false (.nm 10) (.gen (.var 0)) (.bl true) (.tup (.cons (.var 10) (.cons (.int 0) .nil))) [((Str.ofString "cell"), 10)]) .nil)))
 (.cons (.asg (.tp [4, 5]) (.tup (.cons (.prim (.list true) (.cons (.var 1) .nil)) (.cons (.prim (.list true) (.cons (.var 2) .nil)) .nil))))
 (.cons (.ifS (.or (.cmp .lt (.prim .min1 (.cons (.var 4) .nil)) (.int 0)) (.cmp .lt (.prim .min1 (.cons (.var 5) .nil)) (.int 0)))
  (.cons (.ret .non)
   .nil)
  .nil)
 (.cons (.whl (.cmp .gt (.prim .sum (.cons (.var 4) .nil)) (.int 0))
  (.cons (.asg (.nm 6) (.call 17 (.cons (.var 3) (.cons (.lc false (.nm 11) (.rng1 (.prim .len (.cons (.var 4) .nil))) (.cmp .gt (.idx (.var 4) (.var 11)) (.int 0)) (.tup (.cons (.str (Str.ofString "row")) (.cons (.var 11) .nil))) [((Str.ofString "at"), 11)]) (.cons .non .nil)))))
   (.cons (.asg (.nm 7) (.lc false (.nm 11) (.rng1 (.prim .len (.cons (.var 5) .nil))) (.and (.cmp .gt (.idx (.var 5) (.var 11)) (.int 0)) (.cmp .inn (.tup (.cons (.str (Str.ofString "column")) (.cons (.var 11) .nil))) (.var 6))) (.var 11) [((Str.ofString "at"), 11)]))
   (.cons (.ifS (.cmp .eq (.var 7) (.lst false .nil))
    (.cons (.ret .non)
     .nil)
    .nil)
   (.cons (.asg (.nm 8) (.call 18 (.cons (.var 6) (.cons (.tup (.cons (.str (Str.ofString "column")) (.cons (.idx (.var 7) (.int 0)) .nil))) .nil))))
   (.cons (.asg (.nm 9) (.call 19 (.cons (.var 3) (.cons (.var 8) (.cons (.prim .min2 (.cons (.idx (.var 4) (.idx (.idx (.var 8) (.int 0)) (.int 1))) (.cons (.idx (.var 5) (.idx (.var 7) (.int 0))) .nil))) .nil)))))
   (.cons (.augS (.var 4) (.idx (.idx (.var 8) (.int 0)) (.int 1)) .sub (.var 9))
   (.cons (.augS (.var 5) (.idx (.var 7) (.int 0)) .sub (.var 9))
   .nil))))))))
 (.cons (.ret (.var 3))
 .nil)))))⟩
-- is_sums, id 21
def fi_is_sums : FI := ⟨2, 3, none,
 (.cons (.ret (.and (.isI (.var 0) .tuple) (.and (.cmp .eq (.prim .len (.cons (.var 0) .nil)) (.var 1)) (.prim .all (.cons (.lc false (.nm 2) (.gen (.var 0)) (.bl true) (.call 0 (.cons (.var 2) (.cons (.int 0) (.cons (.gI (Str.ofString "MOST") 9999) .nil)))) [((Str.ofString "one"), 2)]) .nil)))))
 .nil)⟩
-- is_made, id 22
def fi_is_made : FI := ⟨1, 6, none,
 (.cons (.ifS (.or (.not (.isI (.var 0) .tuple)) (.or (.cmp .ne (.prim .len (.cons (.var 0) .nil)) (.int 3)) (.not (.call 1 (.cons (.idx (.var 0) (.int 0)) .nil)))))
  (.cons (.ret (.bl false))
   .nil)
  .nil)
 (.cons (.asg (.tp [1, 2, 3]) (.var 0))
 (.cons (.ifS (.or (.not (.call 21 (.cons (.var 2) (.cons (.prim .len (.cons (.var 1) .nil)) .nil)))) (.not (.call 21 (.cons (.var 3) (.cons (.prim .len (.cons (.idx (.var 1) (.int 0)) .nil)) .nil)))))
  (.cons (.ret (.bl false))
   .nil)
  .nil)
 (.cons (.forS (.nm 4) (.gen (.var 1))
  (.cons (.ifS (.not (.prim .all (.cons (.lc false (.nm 5) (.gen (.var 4)) (.bl true) (.or (.cmp .is (.var 5) .non) (.call 0 (.cons (.var 5) (.cons (.int 0) (.cons (.gI (Str.ofString "MOST") 9999) .nil))))) [((Str.ofString "one"), 5)]) .nil)))
    (.cons (.ret (.bl false))
     .nil)
    .nil)
   .nil))
 (.cons (.ret (.and (.cmp .le (.prim .sum (.cons (.var 2) .nil)) (.gI (Str.ofString "MOST") 9999)) (.cmp .eq (.prim .sum (.cons (.var 2) .nil)) (.prim .sum (.cons (.var 3) .nil)))))
 .nil)))))⟩
-- shut_of, id 23
def fi_shut_of : FI := ⟨1, 3, none,
 (.cons (.ret (.lc false (.tp [1, 2]) (.gen (.call 15 (.cons (.idx (.var 0) (.int 0)) .nil))) (.cmp .is (.idx (.idx (.idx (.var 0) (.int 0)) (.var 1)) (.var 2)) .non) (.tup (.cons (.var 1) (.cons (.var 2) .nil))) [((Str.ofString "at"), 1), ((Str.ofString "to"), 2)]))
 .nil)⟩
-- open_rows, id 24
def fi_open_rows : FI := ⟨1, 3, none,
 (.cons (.ret (.lc false (.nm 1) (.gen (.idx (.var 0) (.int 0))) (.bl true) (.lc false (.nm 2) (.gen (.var 1)) (.bl true) (.ifx (.cmp .is (.var 2) .non) (.int 0) (.var 2)) [((Str.ofString "one"), 2)]) [((Str.ofString "row"), 1)]))
 .nil)⟩
-- lefts, id 25
def fi_lefts : FI := ⟨1, 6, none,
 (.cons (.asg (.nm 1) (.call 24 (.cons (.var 0) .nil)))
 (.cons (.asg (.nm 2) (.lc false (.tp [4, 5]) (.zip (.idx (.var 0) (.int 1)) (.call 7 (.cons (.var 1) .nil))) (.bl true) (.bin false .sub (.var 4) (.var 5)) [((Str.ofString "whole"), 4), ((Str.ofString "part"), 5)]))
 (.cons (.asg (.nm 3) (.lc false (.tp [4, 5]) (.zip (.idx (.var 0) (.int 2)) (.call 8 (.cons (.var 1) .nil))) (.bl true) (.bin false .sub (.var 4) (.var 5)) [((Str.ofString "whole"), 4), ((Str.ofString "part"), 5)]))
 (.cons (.ret (.tup (.cons (.var 2) (.cons (.var 3) .nil))))
 .nil))))⟩
-- first_fill, id 26
def fi_first_fill : FI := ⟨1, 3, (some 1),
 (.cons (.asg (.tp [1, 2]) (.call 25 (.cons (.var 0) .nil)))
 (.cons (.ret (.call 20 (.cons (.call 23 (.cons (.var 0) .nil)) (.cons (.var 1) (.cons (.var 2) .nil)))))
 .nil))⟩
-- is_sheet, id 27
def fi_is_sheet : FI := ⟨1, 1, none,
 (.cons (.ret (.and (.call 22 (.cons (.var 0) .nil)) (.cmp .isn (.call 26 (.cons (.var 0) .nil)) .non)))
 .nil)⟩
-- need_sheet, id 28
def fi_law_draw : FI := ⟨3, 6, none,
 (.cons (.ifS (.cmp .gt (.idx (.var 1) (.int 1)) (.int 0))
  (.cons (.asg (.nm 5) (.bin false .mod (.idx (.var 1) (.int 1)) (.var 2)))
   (.cons (.sub (.var 1) (.int 1) (.bin false .fdiv (.idx (.var 1) (.int 1)) (.var 2)))
   (.cons (.ret (.var 5))
   .nil)))
  .nil)
 (.cons (.asg (.nm 3) (.idx (.var 1) (.int 0)))
 (.cons (.augS (.var 1) (.int 0) .add (.int 1))
 (.cons (.ifS (.cmp .eq (.var 0) (.lst false .nil))
  (.cons (.ret (.bin false .mod (.var 3) (.var 2)))
   .nil)
  .nil)
 (.cons (.ifS (.and (.cmp .lt (.var 3) (.prim .len (.cons (.var 0) .nil))) (.cmp .ge (.idx (.var 0) (.var 3)) (.bin false .pow (.int 10) (.int 18))))
  (.cons (.sub (.var 1) (.int 1) (.bin false .mod (.bin false .fdiv (.idx (.var 0) (.var 3)) (.var 2)) (.bin false .mul (.bin false .pow (.int 10) (.int 60)) (.bin false .pow (.int 10) (.int 60)))))
   (.cons (.ret (.bin false .mod (.idx (.var 0) (.var 3)) (.var 2)))
   .nil))
  .nil)
 (.cons (.asg (.nm 4) (.bin false .mod (.bin false .add (.bin false .add (.bin false .mul (.idx (.var 0) (.bin false .mod (.var 3) (.prim .len (.cons (.var 0) .nil)))) (.int 1103515245)) (.bin false .mul (.int 7919) (.var 3))) (.int 12345)) (.int 2147483647)))
 (.cons (.ret (.bin false .mod (.bin false .mod (.bin false .mod (.bin false .pow (.var 4) (.int 5)) (.int 2147483647)) (.int 999983)) (.var 2)))
 .nil)))))))⟩
-- _law_pick, id 118
def fi_law_pick : FI := ⟨3, 3, none,
 (.cons (.ret (.idx (.var 2) (.call 117 (.cons (.var 0) (.cons (.var 1) (.cons (.prim .len (.cons (.var 2) .nil)) .nil))))))
 .nil)⟩
-- _law_cells, id 119
def fi_law_cells : FI := ⟨1, 4, none,
 (.cons (.asg (.nm 1) (.lst true .nil))
 (.cons (.forS (.nm 2) (.rng1 (.prim .len (.cons (.var 0) .nil)))
  (.cons (.ex (.meth (.var 1) .extend (.cons (.lc false (.nm 3) (.rng1 (.prim .len (.cons (.idx (.var 0) (.int 0)) .nil))) (.bl true) (.tup (.cons (.var 2) (.cons (.var 3) .nil))) [((Str.ofString "_law_to"), 3)]) .nil)))
   .nil))
 (.cons (.ret (.var 1))
 .nil)))⟩
-- _law_sized, id 120
def fi_law_sized : FI := ⟨5, 8, none,
 (.cons (.asg (.nm 5) (.lst true .nil))
 (.cons (.forS (.nm 6) (.rng1 (.var 2))
  (.cons (.ex (.meth (.var 5) .append (.cons (.prim .tuple (.cons (.lc false (.nm 7) (.rng1 (.var 3)) (.bl true) (.call 117 (.cons (.var 0) (.cons (.var 1) (.cons (.var 4) .nil)))) [((Str.ofString "_law_to"), 7)]) .nil)) .nil)))
   .nil))
 (.cons (.ret (.prim .tuple (.cons (.var 5) .nil)))
 .nil)))⟩
-- _law_table, id 121
def fi_law_table : FI := ⟨4, 6, none,
 (.cons (.asg (.tp [4, 5]) (.tup (.cons (.bin false .add (.int 1) (.call 117 (.cons (.var 0) (.cons (.var 1) (.cons (.var 2) .nil))))) (.cons (.bin false .add (.int 1) (.call 117 (.cons (.var 0) (.cons (.var 1) (.cons (.var 3) .nil))))) .nil))))
 (.cons (.ret (.call 120 (.cons (.var 0) (.cons (.var 1) (.cons (.var 4) (.cons (.var 5) (.cons (.call 118 (.cons (.var 0) (.cons (.var 1) (.cons (.lst false (.cons (.int 2) (.cons (.int 3) (.cons (.int 10) (.cons (.bin false .add (.bin false .fdiv (.int 9999) (.bin false .mul (.var 4) (.var 5))) (.int 1)) .nil))))) .nil)))) .nil)))))))
 .nil))⟩
-- _law_shut, id 122
def fi_law_shut : FI := ⟨3, 5, none,
 (.cons (.asg (.nm 3) (.call 118 (.cons (.var 0) (.cons (.var 1) (.cons (.lst false (.cons (.int 1) (.cons (.int 2) (.cons (.int 2) (.cons (.int 4) .nil))))) .nil)))))
 (.cons (.ret (.prim .tuple (.cons (.lc false (.nm 4) (.gen (.call 119 (.cons (.var 2) .nil))) (.cmp .eq (.call 117 (.cons (.var 0) (.cons (.var 1) (.cons (.var 3) .nil)))) (.int 0)) (.var 4) [((Str.ofString "_law_cell"), 4)]) .nil)))
 .nil))⟩
-- _law_no_table, id 123
def fi_law_rights : FI := ⟨1, 2, none,
 (.cons (.ret (.lc false (.nm 1) (.gen (.var 0)) (.bl true) (.prim .sum (.cons (.var 1) .nil)) [((Str.ofString "_law_row"), 1)]))
 .nil)⟩
-- _law_belows, id 126
def fi_law_belows : FI := ⟨1, 3, none,
 (.cons (.ret (.lc false (.nm 1) (.rng1 (.prim .len (.cons (.idx (.var 0) (.int 0)) .nil))) (.bl true) (.prim .sum (.cons (.lc false (.nm 2) (.gen (.var 0)) (.bl true) (.idx (.var 2) (.var 1)) [((Str.ofString "_law_row"), 2)]) .nil)) [((Str.ofString "_law_to"), 1)]))
 .nil)⟩
-- _law_sheet, id 127
def fi_law_sheet : FI := ⟨2, 5, none,
 (.cons (.asg (.nm 2) (.lst true .nil))
 (.cons (.forS (.nm 3) (.rng1 (.prim .len (.cons (.var 0) .nil)))
  (.cons (.ex (.meth (.var 2) .append (.cons (.prim .tuple (.cons (.lc false (.nm 4) (.rng1 (.prim .len (.cons (.idx (.var 0) (.int 0)) .nil))) (.bl true) (.ifx (.cmp .inn (.tup (.cons (.var 3) (.cons (.var 4) .nil))) (.var 1)) .non (.idx (.idx (.var 0) (.var 3)) (.var 4))) [((Str.ofString "_law_to"), 4)]) .nil)) .nil)))
   .nil))
 (.cons (.ret (.tup (.cons (.prim .tuple (.cons (.var 2) .nil)) (.cons (.prim .tuple (.cons (.call 125 (.cons (.var 0) .nil)) .nil)) (.cons (.prim .tuple (.cons (.call 126 (.cons (.var 0) .nil)) .nil)) .nil)))))
 .nil)))⟩
-- _law_left, id 128
def fi_law_left : FI := ⟨1, 7, none,
 (.cons (.asg (.nm 1) (.lc false (.nm 3) (.gen (.idx (.var 0) (.int 0))) (.bl true) (.lc false (.nm 6) (.gen (.var 3)) (.bl true) (.ifx (.cmp .is (.var 6) .non) (.int 0) (.var 6)) [((Str.ofString "_law_one"), 6)]) [((Str.ofString "_law_row"), 3)]))
 (.cons (.asg (.nm 2) (.lc false (.tp [4, 5]) (.zip (.idx (.var 0) (.int 1)) (.call 125 (.cons (.var 1) .nil))) (.bl true) (.bin false .sub (.var 4) (.var 5)) [((Str.ofString "_law_whole"), 4), ((Str.ofString "_law_part"), 5)]))
 (.cons (.ret (.tup (.cons (.var 2) (.cons (.lc false (.tp [4, 5]) (.zip (.idx (.var 0) (.int 2)) (.call 126 (.cons (.var 1) .nil))) (.bl true) (.bin false .sub (.var 4) (.var 5)) [((Str.ofString "_law_whole"), 4), ((Str.ofString "_law_part"), 5)]) .nil))))
 .nil)))⟩
-- _law_which, id 129
def fi_law_good : FI := ⟨1, 9, none,
 (.cons (.asg (.tp [1, 2]) (.call 128 (.cons (.var 0) .nil)))
 (.cons (.ifS (.or (.cmp .lt (.prim .min1 (.cons (.var 1) .nil)) (.int 0)) (.or (.cmp .lt (.prim .min1 (.cons (.var 2) .nil)) (.int 0)) (.or (.cmp .ne (.prim .sum (.cons (.var 1) .nil)) (.prim .sum (.cons (.var 2) .nil))) (.cmp .gt (.prim .sum (.cons (.idx (.var 0) (.int 1)) .nil)) (.int 9999)))))
  (.cons (.ret (.bl false))
   .nil)
  .nil)
 (.cons (.asg (.nm 3) (.prim .len (.cons (.var 1) .nil)))
 (.cons (.forS (.nm 4) (.rng2 (.int 1) (.bin false .pow (.int 2) (.int 4)))
  (.cons (.asg (.nm 5) (.lc false (.nm 7) (.rng1 (.var 3)) (.cmp .eq (.bin false .band (.bin false .shr (.var 4) (.var 7)) (.int 1)) (.int 1)) (.var 7) [((Str.ofString "_law_at"), 7)]))
   (.cons (.asg (.nm 6) (.lc false (.nm 8) (.rng1 (.prim .len (.cons (.var 2) .nil))) (.cmp .inn .non (.lc false (.nm 7) (.gen (.var 5)) (.bl true) (.idx (.idx (.idx (.var 0) (.int 0)) (.var 7)) (.var 8)) [((Str.ofString "_law_at"), 7)])) (.var 8) [((Str.ofString "_law_to"), 8)]))
   (.cons (.ifS (.cmp .gt (.prim .sum (.cons (.lc false (.nm 7) (.gen (.var 5)) (.bl true) (.idx (.var 1) (.var 7)) [((Str.ofString "_law_at"), 7)]) .nil)) (.prim .sum (.cons (.lc false (.nm 8) (.gen (.var 6)) (.bl true) (.idx (.var 2) (.var 8)) [((Str.ofString "_law_to"), 8)]) .nil)))
    (.cons (.ret (.bl false))
     .nil)
    .nil)
   .nil))))
 (.cons (.ret (.bl true))
 .nil)))))⟩
-- _law_bent, id 133
def fi_law_bent : FI := ⟨3, 16, none,
 (.cons (.asg (.tp [3, 4, 5]) (.var 2))
 (.cons (.asg (.tp [6, 7]) (.tup (.cons (.call 117 (.cons (.var 0) (.cons (.var 1) (.cons (.prim .len (.cons (.var 4) .nil)) .nil)))) (.cons (.call 117 (.cons (.var 0) (.cons (.var 1) (.cons (.prim .len (.cons (.var 5) .nil)) .nil)))) .nil))))
 (.cons (.asg (.nm 8) (.call 117 (.cons (.var 0) (.cons (.var 1) (.cons (.prim .len (.cons (.var 4) .nil)) .nil)))))
 (.cons (.asg (.nm 9) (.call 118 (.cons (.var 0) (.cons (.var 1) (.cons (.lst false (.cons (.int 1) (.cons (.int 1) (.cons (.int 2) (.cons (.int 9) (.cons (.int 300) .nil)))))) .nil)))))
 (.cons (.asg (.nm 10) (.lc true (.nm 14) (.gen (.var 4)) (.bl true) (.var 14) [((Str.ofString "_law_one"), 14)]))
 (.cons (.asg (.nm 11) (.lc true (.nm 14) (.gen (.var 5)) (.bl true) (.var 14) [((Str.ofString "_law_one"), 14)]))
 (.cons (.asg (.nm 12) (.call 117 (.cons (.var 0) (.cons (.var 1) (.cons (.int 5) .nil)))))
 (.cons (.ifS (.cmp .eq (.var 12) (.int 4))
  (.cons (.asg (.nm 9) (.bin false .add (.bin false .sub (.int 9999) (.prim .sum (.cons (.var 4) .nil))) (.call 117 (.cons (.var 0) (.cons (.var 1) (.cons (.int 2) .nil))))))
   .nil)
  .nil)
 (.cons (.ifS (.or (.cmp .eq (.var 12) (.int 0)) (.cmp .eq (.var 12) (.int 4)))
  (.cons (.augS (.var 10) (.var 6) .add (.var 9))
   (.cons (.augS (.var 11) (.var 7) .add (.var 9))
   .nil))
  .nil)
 (.cons (.ifS (.cmp .eq (.var 12) (.int 1))
  (.cons (.sub (.var 10) (.var 6) (.prim .max2 (.cons (.int 0) (.cons (.bin false .sub (.idx (.var 10) (.var 6)) (.var 9)) .nil))))
   (.cons (.augS (.var 10) (.var 8) .add (.bin false .sub (.idx (.var 4) (.var 6)) (.idx (.var 10) (.var 6))))
   .nil))
  .nil)
 (.cons (.ifS (.cmp .eq (.var 12) (.int 2))
  (.cons (.augS (.var 10) (.var 6) .add (.var 9))
   .nil)
  .nil)
 (.cons (.asg (.nm 13) (.lc false (.nm 15) (.gen (.var 3)) (.bl true) (.prim (.list true) (.cons (.var 15) .nil)) [((Str.ofString "_law_row"), 15)]))
 (.cons (.ifS (.cmp .eq (.var 12) (.int 3))
  (.cons (.sub (.idx (.var 13) (.var 6)) (.var 7) (.ifx (.and (.cmp .isn (.idx (.idx (.var 13) (.var 6)) (.var 7)) .non) (.cmp .gt (.var 9) (.int 1))) .non (.var 9)))
   .nil)
  .nil)
 (.cons (.ret (.tup (.cons (.prim .tuple (.cons (.lc false (.nm 15) (.gen (.var 13)) (.bl true) (.prim .tuple (.cons (.var 15) .nil)) [((Str.ofString "_law_row"), 15)]) .nil)) (.cons (.prim .tuple (.cons (.var 10) .nil)) (.cons (.prim .tuple (.cons (.var 11) .nil)) .nil)))))
 .nil))))))))))))))⟩
-- _law_no_sheet, id 134
def fi_law_k04 : FI := ⟨1, 6, none,
 (.cons (.asg (.nm 1) (.lst true (.cons (.int 0) (.cons (.int 0) .nil))))
 (.cons (.asg (.nm 2) (.call 121 (.cons (.var 0) (.cons (.var 1) (.cons (.int 4) (.cons (.int 4) .nil))))))
 (.cons (.asg (.nm 3) (.call 127 (.cons (.var 2) (.cons (.call 122 (.cons (.var 0) (.cons (.var 1) (.cons (.var 2) .nil)))) .nil))))
 (.cons (.forS (.nm 4) (.rng1 (.int 2))
  (.cons (.asg (.nm 3) (.call 133 (.cons (.var 0) (.cons (.var 1) (.cons (.var 3) .nil)))))
   (.cons (.asg (.nm 5) (.call 27 (.cons (.var 3) .nil)))
   (.cons (.ifS (.or (.not (.isI (.var 5) .bool)) (.cmp .ne (.var 5) (.call 132 (.cons (.var 3) .nil))))
    (.cons (.ret (.bl false))
     .nil)
    .nil)
   .nil))))
 (.cons (.ret (.bl true))
 .nil)))))⟩
-- law_k05, id 201
def fi_none : FI := ⟨0, 0, none, .nil⟩
def tbl : List FI := [fi_is_whole, fi_is_shape, fi_none, fi_none, fi_none, fi_none, fi_none, fi_sums_right, fi_sums_below, fi_none, fi_none, fi_none, fi_none, fi_none, fi_none, fi_all_cells, fi_steps_from, fi_reached, fi_road_to, fi_carry, fi_fill, fi_is_sums, fi_is_made, fi_shut_of, fi_open_rows, fi_lefts, fi_first_fill, fi_is_sheet, fi_none, fi_none, fi_none, fi_none, fi_none, fi_none, fi_none, fi_none, fi_none, fi_none, fi_none, fi_none, fi_none, fi_none, fi_none, fi_none, fi_none, fi_none, fi_none, fi_none, fi_none, fi_none, fi_none, fi_none, fi_none, fi_none, fi_none, fi_none, fi_none, fi_none, fi_none, fi_none, fi_none, fi_none, fi_none, fi_none, fi_none, fi_none, fi_none, fi_none, fi_none, fi_none, fi_none, fi_none, fi_none, fi_none, fi_none, fi_none, fi_none, fi_none, fi_none, fi_none, fi_none, fi_none, fi_none, fi_none, fi_none, fi_none, fi_none, fi_none, fi_none, fi_none, fi_none, fi_none, fi_none, fi_none, fi_none, fi_none, fi_none, fi_none, fi_none, fi_none, fi_none, fi_none, fi_none, fi_none, fi_none, fi_none, fi_none, fi_none, fi_none, fi_none, fi_none, fi_none, fi_none, fi_none, fi_none, fi_none, fi_none, fi_law_draw, fi_law_pick, fi_law_cells, fi_law_sized, fi_law_table, fi_law_shut, fi_none, fi_none, fi_law_rights, fi_law_belows, fi_law_sheet, fi_law_left, fi_none, fi_none, fi_none, fi_law_good, fi_law_bent, fi_none, fi_none, fi_none, fi_none, fi_none, fi_none, fi_none, fi_none, fi_none, fi_none, fi_none, fi_none, fi_none, fi_none, fi_none, fi_none, fi_none, fi_none, fi_none, fi_none, fi_none, fi_none, fi_none, fi_none, fi_none, fi_none, fi_none, fi_none, fi_none, fi_none, fi_none, fi_none, fi_none, fi_none, fi_none, fi_none, fi_none, fi_none, fi_none, fi_none, fi_none, fi_none, fi_none, fi_none, fi_none, fi_none, fi_none, fi_none, fi_none, fi_none, fi_none, fi_none, fi_none, fi_none, fi_none, fi_none, fi_none, fi_none, fi_none, fi_none, fi_none, fi_none, fi_none, fi_none, fi_none, fi_none, fi_law_k04, fi_none, fi_none, fi_none, fi_none, fi_none, fi_none, fi_none, fi_none, fi_none, fi_none, fi_none, fi_none, fi_none, fi_none, fi_none, fi_none, fi_none, fi_none, fi_none, fi_none, fi_none, fi_none, fi_none, fi_none, fi_none, fi_none, fi_none, fi_none, fi_none, fi_none, fi_none, fi_none, fi_none, fi_none, fi_none, fi_none, fi_none, fi_none, fi_none, fi_none, fi_none, fi_none, fi_none, fi_none]
def G (k : Nat) : Option FI := tbl[k]?
end Mi
namespace K04
open PySem PySem.Spec PyProof.Rows L2 Mi
abbrev prog := PySem.Challenge.pw_shutcells_k04_whole_is_sheet
def top (i : Nat) : Stmt := prog.main.body.getD i (.Pass ⟨0, 0, 0, 0⟩)
def t_16 : FnT := ⟨((Str.ofString "steps_from"), none), (Str.ofString "steps_from"), (Str.ofString "steps_from"), defArgs (top 1), defBody (top 1), defScope (top 1), [(Str.ofString "held"), (Str.ofString "spot"), (Str.ofString "barred")], [(Str.ofString "held"), (Str.ofString "spot"), (Str.ofString "barred"), (Str.ofString "kind"), (Str.ofString "at"), (Str.ofString "found"), (Str.ofString "cell")], []⟩
theorem b_16 : BindsOk t_16 := .one rfl fun _ _ _ _ _ _ us hl => match us, hl with | [_, _, _], _ => rfl
def t_17 : FnT := ⟨((Str.ofString "reached"), none), (Str.ofString "reached"), (Str.ofString "reached"), defArgs (top 2), defBody (top 2), defScope (top 2), [(Str.ofString "held"), (Str.ofString "starts"), (Str.ofString "barred")], [(Str.ofString "held"), (Str.ofString "starts"), (Str.ofString "barred"), (Str.ofString "ahead"), (Str.ofString "order"), (Str.ofString "at"), (Str.ofString "spot")], []⟩
theorem b_17 : BindsOk t_17 := .one rfl fun _ _ _ _ _ _ us hl => match us, hl with | [_, _, _], _ => rfl
def t_18 : FnT := ⟨((Str.ofString "road_to"), none), (Str.ofString "road_to"), (Str.ofString "road_to"), defArgs (top 3), defBody (top 3), defScope (top 3), [(Str.ofString "ahead"), (Str.ofString "spot")], [(Str.ofString "ahead"), (Str.ofString "spot"), (Str.ofString "road")], []⟩
theorem b_18 : BindsOk t_18 := .one rfl fun _ _ _ _ _ _ us hl => match us, hl with | [_, _], _ => rfl
def t_19 : FnT := ⟨((Str.ofString "carry"), none), (Str.ofString "carry"), (Str.ofString "carry"), defArgs (top 4), defBody (top 4), defScope (top 4), [(Str.ofString "held"), (Str.ofString "road"), (Str.ofString "most")], [(Str.ofString "held"), (Str.ofString "road"), (Str.ofString "most"), (Str.ofString "pairs"), (Str.ofString "much"), (Str.ofString "one"), (Str.ofString "other")], []⟩
theorem b_19 : BindsOk t_19 := .one rfl fun _ _ _ _ _ _ us hl => match us, hl with | [_, _, _], _ => rfl
def t_20 : FnT := ⟨((Str.ofString "fill"), none), (Str.ofString "fill"), (Str.ofString "fill"), defArgs (top 5), defBody (top 5), defScope (top 5), [(Str.ofString "cells"), (Str.ofString "rights"), (Str.ofString "belows")], [(Str.ofString "cells"), (Str.ofString "rights"), (Str.ofString "belows"), (Str.ofString "held"), (Str.ofString "more"), (Str.ofString "want"), (Str.ofString "ahead"), (Str.ofString "ends"), (Str.ofString "road"), (Str.ofString "much"), (Str.ofString "cell"), (Str.ofString "at")], []⟩
theorem b_20 : BindsOk t_20 := .one rfl fun _ _ _ _ _ _ us hl => match us, hl with | [_, _, _], _ => rfl
def t_0 : FnT := ⟨((Str.ofString "is_whole"), none), (Str.ofString "is_whole"), (Str.ofString "is_whole"), defArgs (top 8), defBody (top 8), defScope (top 8), [(Str.ofString "thing"), (Str.ofString "least"), (Str.ofString "most")], [(Str.ofString "thing"), (Str.ofString "least"), (Str.ofString "most")], []⟩
theorem b_0 : BindsOk t_0 := .one rfl fun _ _ _ _ _ _ us hl => match us, hl with | [_, _, _], _ => rfl
def t_1 : FnT := ⟨((Str.ofString "is_shape"), none), (Str.ofString "is_shape"), (Str.ofString "is_shape"), defArgs (top 9), defBody (top 9), defScope (top 9), [(Str.ofString "thing")], [(Str.ofString "thing"), (Str.ofString "row")], []⟩
theorem b_1 : BindsOk t_1 := .one rfl fun _ _ _ _ _ _ us hl => match us, hl with | [_], _ => rfl
def t_7 : FnT := ⟨((Str.ofString "sums_right"), none), (Str.ofString "sums_right"), (Str.ofString "sums_right"), defArgs (top 10), defBody (top 10), defScope (top 10), [(Str.ofString "rows")], [(Str.ofString "rows"), (Str.ofString "row")], []⟩
theorem b_7 : BindsOk t_7 := .one rfl fun _ _ _ _ _ _ us hl => match us, hl with | [_], _ => rfl
def t_8 : FnT := ⟨((Str.ofString "sums_below"), none), (Str.ofString "sums_below"), (Str.ofString "sums_below"), defArgs (top 11), defBody (top 11), defScope (top 11), [(Str.ofString "rows")], [(Str.ofString "rows"), (Str.ofString "at"), (Str.ofString "row")], []⟩
theorem b_8 : BindsOk t_8 := .one rfl fun _ _ _ _ _ _ us hl => match us, hl with | [_], _ => rfl
def t_15 : FnT := ⟨((Str.ofString "all_cells"), none), (Str.ofString "all_cells"), (Str.ofString "all_cells"), defArgs (top 12), defBody (top 12), defScope (top 12), [(Str.ofString "rows")], [(Str.ofString "rows"), (Str.ofString "cells"), (Str.ofString "at"), (Str.ofString "to")], []⟩
theorem b_15 : BindsOk t_15 := .one rfl fun _ _ _ _ _ _ us hl => match us, hl with | [_], _ => rfl
def t_21 : FnT := ⟨((Str.ofString "is_sums"), none), (Str.ofString "is_sums"), (Str.ofString "is_sums"), defArgs (top 14), defBody (top 14), defScope (top 14), [(Str.ofString "thing"), (Str.ofString "many")], [(Str.ofString "thing"), (Str.ofString "many"), (Str.ofString "one")], []⟩
theorem b_21 : BindsOk t_21 := .one rfl fun _ _ _ _ _ _ us hl => match us, hl with | [_, _], _ => rfl
def t_22 : FnT := ⟨((Str.ofString "is_made"), none), (Str.ofString "is_made"), (Str.ofString "is_made"), defArgs (top 15), defBody (top 15), defScope (top 15), [(Str.ofString "thing")], [(Str.ofString "thing"), (Str.ofString "cells"), (Str.ofString "right"), (Str.ofString "below"), (Str.ofString "row"), (Str.ofString "one")], []⟩
theorem b_22 : BindsOk t_22 := .one rfl fun _ _ _ _ _ _ us hl => match us, hl with | [_], _ => rfl
def t_23 : FnT := ⟨((Str.ofString "shut_of"), none), (Str.ofString "shut_of"), (Str.ofString "shut_of"), defArgs (top 16), defBody (top 16), defScope (top 16), [(Str.ofString "sheet")], [(Str.ofString "sheet"), (Str.ofString "at"), (Str.ofString "to")], []⟩
theorem b_23 : BindsOk t_23 := .one rfl fun _ _ _ _ _ _ us hl => match us, hl with | [_], _ => rfl
def t_24 : FnT := ⟨((Str.ofString "open_rows"), none), (Str.ofString "open_rows"), (Str.ofString "open_rows"), defArgs (top 17), defBody (top 17), defScope (top 17), [(Str.ofString "sheet")], [(Str.ofString "sheet"), (Str.ofString "row"), (Str.ofString "one")], []⟩
theorem b_24 : BindsOk t_24 := .one rfl fun _ _ _ _ _ _ us hl => match us, hl with | [_], _ => rfl
def t_25 : FnT := ⟨((Str.ofString "lefts"), none), (Str.ofString "lefts"), (Str.ofString "lefts"), defArgs (top 18), defBody (top 18), defScope (top 18), [(Str.ofString "sheet")], [(Str.ofString "sheet"), (Str.ofString "rows"), (Str.ofString "right"), (Str.ofString "below"), (Str.ofString "whole"), (Str.ofString "part")], []⟩
theorem b_25 : BindsOk t_25 := .one rfl fun _ _ _ _ _ _ us hl => match us, hl with | [_], _ => rfl
def t_26 : FnT := ⟨((Str.ofString "first_fill"), none), (Str.ofString "first_fill"), (Str.ofString "first_fill"), defArgs (top 19), defBody (top 19), defScope (top 19), [(Str.ofString "sheet")], [(Str.ofString "sheet"), (Str.ofString "right"), (Str.ofString "below")], []⟩
theorem b_26 : BindsOk t_26 := .one rfl fun _ _ _ _ _ _ us hl => match us, hl with | [_], _ => rfl
def t_27 : FnT := ⟨((Str.ofString "is_sheet"), none), (Str.ofString "is_sheet"), (Str.ofString "is_sheet"), defArgs (top 20), defBody (top 20), defScope (top 20), [(Str.ofString "thing")], [(Str.ofString "thing")], []⟩
theorem b_27 : BindsOk t_27 := .one rfl fun _ _ _ _ _ _ us hl => match us, hl with | [_], _ => rfl
def t_117 : FnT := ⟨((Str.ofString "_law_draw"), none), (Str.ofString "_law_draw"), (Str.ofString "_law_draw"), defArgs (top 22), defBody (top 22), defScope (top 22), [(Str.ofString "_law_script"), (Str.ofString "_law_town"), (Str.ofString "_law_many")], [(Str.ofString "_law_script"), (Str.ofString "_law_town"), (Str.ofString "_law_many"), (Str.ofString "_law_at"), (Str.ofString "_law_mixed"), (Str.ofString "_law_one")], []⟩
theorem b_117 : BindsOk t_117 := .one rfl fun _ _ _ _ _ _ us hl => match us, hl with | [_, _, _], _ => rfl
def t_118 : FnT := ⟨((Str.ofString "_law_pick"), none), (Str.ofString "_law_pick"), (Str.ofString "_law_pick"), defArgs (top 23), defBody (top 23), defScope (top 23), [(Str.ofString "_law_script"), (Str.ofString "_law_town"), (Str.ofString "_law_some")], [(Str.ofString "_law_script"), (Str.ofString "_law_town"), (Str.ofString "_law_some")], []⟩
theorem b_118 : BindsOk t_118 := .one rfl fun _ _ _ _ _ _ us hl => match us, hl with | [_, _, _], _ => rfl
def t_119 : FnT := ⟨((Str.ofString "_law_cells"), none), (Str.ofString "_law_cells"), (Str.ofString "_law_cells"), defArgs (top 24), defBody (top 24), defScope (top 24), [(Str.ofString "_law_table_here")], [(Str.ofString "_law_table_here"), (Str.ofString "_law_found"), (Str.ofString "_law_at"), (Str.ofString "_law_to")], []⟩
theorem b_119 : BindsOk t_119 := .one rfl fun _ _ _ _ _ _ us hl => match us, hl with | [_], _ => rfl
def t_120 : FnT := ⟨((Str.ofString "_law_sized"), none), (Str.ofString "_law_sized"), (Str.ofString "_law_sized"), defArgs (top 25), defBody (top 25), defScope (top 25), [(Str.ofString "_law_script"), (Str.ofString "_law_town"), (Str.ofString "_law_many"), (Str.ofString "_law_across"), (Str.ofString "_law_top")], [(Str.ofString "_law_script"), (Str.ofString "_law_town"), (Str.ofString "_law_many"), (Str.ofString "_law_across"), (Str.ofString "_law_top"), (Str.ofString "_law_rows"), (Str.ofString "_law_at"), (Str.ofString "_law_to")], []⟩
theorem b_120 : BindsOk t_120 := .one rfl fun _ _ _ _ _ _ us hl => match us, hl with | [_, _, _, _, _], _ => rfl
def t_121 : FnT := ⟨((Str.ofString "_law_table"), none), (Str.ofString "_law_table"), (Str.ofString "_law_table"), defArgs (top 26), defBody (top 26), defScope (top 26), [(Str.ofString "_law_script"), (Str.ofString "_law_town"), (Str.ofString "_law_rows"), (Str.ofString "_law_columns")], [(Str.ofString "_law_script"), (Str.ofString "_law_town"), (Str.ofString "_law_rows"), (Str.ofString "_law_columns"), (Str.ofString "_law_many"), (Str.ofString "_law_across")], []⟩
theorem b_121 : BindsOk t_121 := .one rfl fun _ _ _ _ _ _ us hl => match us, hl with | [_, _, _, _], _ => rfl
def t_122 : FnT := ⟨((Str.ofString "_law_shut"), none), (Str.ofString "_law_shut"), (Str.ofString "_law_shut"), defArgs (top 27), defBody (top 27), defScope (top 27), [(Str.ofString "_law_script"), (Str.ofString "_law_town"), (Str.ofString "_law_table_here")], [(Str.ofString "_law_script"), (Str.ofString "_law_town"), (Str.ofString "_law_table_here"), (Str.ofString "_law_part"), (Str.ofString "_law_cell")], []⟩
theorem b_122 : BindsOk t_122 := .one rfl fun _ _ _ _ _ _ us hl => match us, hl with | [_, _, _], _ => rfl
def t_125 : FnT := ⟨((Str.ofString "_law_rights"), none), (Str.ofString "_law_rights"), (Str.ofString "_law_rights"), defArgs (top 28), defBody (top 28), defScope (top 28), [(Str.ofString "_law_rows")], [(Str.ofString "_law_rows"), (Str.ofString "_law_row")], []⟩
theorem b_125 : BindsOk t_125 := .one rfl fun _ _ _ _ _ _ us hl => match us, hl with | [_], _ => rfl
def t_126 : FnT := ⟨((Str.ofString "_law_belows"), none), (Str.ofString "_law_belows"), (Str.ofString "_law_belows"), defArgs (top 29), defBody (top 29), defScope (top 29), [(Str.ofString "_law_rows")], [(Str.ofString "_law_rows"), (Str.ofString "_law_to"), (Str.ofString "_law_row")], []⟩
theorem b_126 : BindsOk t_126 := .one rfl fun _ _ _ _ _ _ us hl => match us, hl with | [_], _ => rfl
def t_127 : FnT := ⟨((Str.ofString "_law_sheet"), none), (Str.ofString "_law_sheet"), (Str.ofString "_law_sheet"), defArgs (top 30), defBody (top 30), defScope (top 30), [(Str.ofString "_law_table_here"), (Str.ofString "_law_shut_here")], [(Str.ofString "_law_table_here"), (Str.ofString "_law_shut_here"), (Str.ofString "_law_rows"), (Str.ofString "_law_at"), (Str.ofString "_law_to")], []⟩
theorem b_127 : BindsOk t_127 := .one rfl fun _ _ _ _ _ _ us hl => match us, hl with | [_, _], _ => rfl
def t_128 : FnT := ⟨((Str.ofString "_law_left"), none), (Str.ofString "_law_left"), (Str.ofString "_law_left"), defArgs (top 31), defBody (top 31), defScope (top 31), [(Str.ofString "_law_sheet_here")], [(Str.ofString "_law_sheet_here"), (Str.ofString "_law_rows"), (Str.ofString "_law_right"), (Str.ofString "_law_row"), (Str.ofString "_law_whole"), (Str.ofString "_law_part"), (Str.ofString "_law_one")], []⟩
theorem b_128 : BindsOk t_128 := .one rfl fun _ _ _ _ _ _ us hl => match us, hl with | [_], _ => rfl
def t_132 : FnT := ⟨((Str.ofString "_law_good"), none), (Str.ofString "_law_good"), (Str.ofString "_law_good"), defArgs (top 32), defBody (top 32), defScope (top 32), [(Str.ofString "_law_sheet_here")], [(Str.ofString "_law_sheet_here"), (Str.ofString "_law_right"), (Str.ofString "_law_below"), (Str.ofString "_law_many"), (Str.ofString "_law_choice"), (Str.ofString "_law_rows"), (Str.ofString "_law_columns"), (Str.ofString "_law_at"), (Str.ofString "_law_to")], []⟩
theorem b_132 : BindsOk t_132 := .one rfl fun _ _ _ _ _ _ us hl => match us, hl with | [_], _ => rfl
def t_133 : FnT := ⟨((Str.ofString "_law_bent"), none), (Str.ofString "_law_bent"), (Str.ofString "_law_bent"), defArgs (top 33), defBody (top 33), defScope (top 33), [(Str.ofString "_law_script"), (Str.ofString "_law_town"), (Str.ofString "_law_sheet_here")], [(Str.ofString "_law_script"), (Str.ofString "_law_town"), (Str.ofString "_law_sheet_here"), (Str.ofString "_law_cells_here"), (Str.ofString "_law_right"), (Str.ofString "_law_below"), (Str.ofString "_law_at"), (Str.ofString "_law_to"), (Str.ofString "_law_other"), (Str.ofString "_law_much"), (Str.ofString "_law_rights_here"), (Str.ofString "_law_belows_here"), (Str.ofString "_law_what"), (Str.ofString "_law_rows"), (Str.ofString "_law_one"), (Str.ofString "_law_row")], []⟩
theorem b_133 : BindsOk t_133 := .one rfl fun _ _ _ _ _ _ us hl => match us, hl with | [_, _, _], _ => rfl
def t_200 : FnT := ⟨((Str.ofString "law"), none), (Str.ofString "law"), (Str.ofString "law"), defArgs (top 34), defBody (top 34), defScope (top 34), [(Str.ofString "_law_script")], [(Str.ofString "_law_script"), (Str.ofString "_law_town"), (Str.ofString "_law_table_here"), (Str.ofString "_law_sheet_here"), (Str.ofString "_law_k"), (Str.ofString "_law_told")], []⟩
theorem b_200 : BindsOk t_200 := .one rfl fun _ _ _ _ _ _ us hl => match us, hl with | [_], _ => rfl
def xname : Nat → Str := fun n => [(Str.ofString "NoTable"), (Str.ofString "NoShut"), (Str.ofString "NoSheet"), (Str.ofString "NoCell"), (Str.ofString "NoNumber"), (Str.ofString "NoWidth"), (Str.ofString "NoBase"), (Str.ofString "NoMove"), (Str.ofString "NoWay"), (Str.ofString "NoNumbers"), (Str.ofString "NoAsk"), (Str.ofString "NoText"), (Str.ofString "Full"), (Str.ofString "TooMany"), (Str.ofString "Tells"), (Str.ofString "TableError")].getD n Str.empty
def L : LD := ⟨[(16, t_16, fi_steps_from),
  (17, t_17, fi_reached),
  (18, t_18, fi_road_to),
  (19, t_19, fi_carry),
  (20, t_20, fi_fill),
  (0, t_0, fi_is_whole),
  (1, t_1, fi_is_shape),
  (7, t_7, fi_sums_right),
  (8, t_8, fi_sums_below),
  (15, t_15, fi_all_cells),
  (21, t_21, fi_is_sums),
  (22, t_22, fi_is_made),
  (23, t_23, fi_shut_of),
  (24, t_24, fi_open_rows),
  (25, t_25, fi_lefts),
  (26, t_26, fi_first_fill),
  (27, t_27, fi_is_sheet),
  (117, t_117, fi_law_draw),
  (118, t_118, fi_law_pick),
  (119, t_119, fi_law_cells),
  (120, t_120, fi_law_sized),
  (121, t_121, fi_law_table),
  (122, t_122, fi_law_shut),
  (125, t_125, fi_law_rights),
  (126, t_126, fi_law_belows),
  (127, t_127, fi_law_sheet),
  (128, t_128, fi_law_left),
  (132, t_132, fi_law_good),
  (133, t_133, fi_law_bent),
  (200, t_200, fi_law_k04)],
 [((Str.ofString "steps_from"), .fn 16 3 [] (Str.ofString "spot")),
  ((Str.ofString "reached"), .fn 17 3 [] (Str.ofString "starts")),
  ((Str.ofString "road_to"), .fn 18 2 [] (Str.ofString "spot")),
  ((Str.ofString "carry"), .fn 19 3 [] (Str.ofString "road")),
  ((Str.ofString "fill"), .fn 20 3 [] (Str.ofString "rights")),
  ((Str.ofString "is_whole"), .fn 0 3 [] (Str.ofString "least")),
  ((Str.ofString "is_shape"), .fn 1 1 [] Str.empty),
  ((Str.ofString "sums_right"), .fn 7 1 [] Str.empty),
  ((Str.ofString "sums_below"), .fn 8 1 [] Str.empty),
  ((Str.ofString "all_cells"), .fn 15 1 [] Str.empty),
  ((Str.ofString "is_sums"), .fn 21 2 [] (Str.ofString "many")),
  ((Str.ofString "is_made"), .fn 22 1 [] Str.empty),
  ((Str.ofString "shut_of"), .fn 23 1 [] Str.empty),
  ((Str.ofString "open_rows"), .fn 24 1 [] Str.empty),
  ((Str.ofString "lefts"), .fn 25 1 [] Str.empty),
  ((Str.ofString "first_fill"), .fn 26 1 [] Str.empty),
  ((Str.ofString "is_sheet"), .fn 27 1 [] Str.empty),
  ((Str.ofString "_law_draw"), .fn 117 3 [] (Str.ofString "_law_town")),
  ((Str.ofString "_law_pick"), .fn 118 3 [] (Str.ofString "_law_town")),
  ((Str.ofString "_law_cells"), .fn 119 1 [] Str.empty),
  ((Str.ofString "_law_sized"), .fn 120 5 [] (Str.ofString "_law_town")),
  ((Str.ofString "_law_table"), .fn 121 4 [] (Str.ofString "_law_town")),
  ((Str.ofString "_law_shut"), .fn 122 3 [] (Str.ofString "_law_town")),
  ((Str.ofString "_law_rights"), .fn 125 1 [] Str.empty),
  ((Str.ofString "_law_belows"), .fn 126 1 [] Str.empty),
  ((Str.ofString "_law_sheet"), .fn 127 2 [] (Str.ofString "_law_shut_here")),
  ((Str.ofString "_law_left"), .fn 128 1 [] Str.empty),
  ((Str.ofString "_law_good"), .fn 132 1 [] Str.empty),
  ((Str.ofString "_law_bent"), .fn 133 3 [] (Str.ofString "_law_town")),
  ((Str.ofString "law"), .fn 200 1 [] Str.empty),
  ((Str.ofString "MOST"), .int 9999),
  ((Str.ofString "all"), .free),
  ((Str.ofString "bool"), .free),
  ((Str.ofString "dict"), .free),
  ((Str.ofString "int"), .free),
  ((Str.ofString "isinstance"), .free),
  ((Str.ofString "len"), .free),
  ((Str.ofString "list"), .free),
  ((Str.ofString "max"), .free),
  ((Str.ofString "min"), .free),
  ((Str.ofString "range"), .free),
  ((Str.ofString "sum"), .free),
  ((Str.ofString "tuple"), .free),
  ((Str.ofString "zip"), .free)], xname, false, false⟩
theorem binds : BindsAll L.fns := ⟨b_16, b_17, b_18, b_19, b_20, b_0, b_1, b_7, b_8, b_15, b_21, b_22, b_23, b_24, b_25, b_26, b_27, b_117, b_118, b_119, b_120, b_121, b_122, b_125, b_126, b_127, b_128, b_132, b_133, b_200, True.intro⟩
theorem chk : (L.fns.all (chkAny L)) = true := by decide +kernel
theorem gl : gB L = true := by decide +kernel
def loose : List PySem.Str := (["MOST", "_law_belows", "_law_bent", "_law_cells", "_law_draw", "_law_good", "_law_left", "_law_pick", "_law_rights", "_law_sheet", "_law_shut", "_law_sized"] : List PySem.Str) ++ (["_law_table", "all_cells", "carry", "fill", "first_fill", "is_made", "is_shape", "is_sheet", "is_sums", "is_whole", "lefts", "open_rows"] : List PySem.Str) ++ (["reached", "road_to", "shut_of", "steps_from", "sums_below", "sums_right"] : List PySem.Str)
abbrev Rw : PySem.W.OpenRow := PySem.W.OpenLaw.row PySem.Challenge.rw_shutcells_k04_whole_is_sheet
abbrev hk : PySem.W.Hook := He.hookX 5 L.facts L.defs [] [] L.ex
def ob (s : PySem.W.SharedT) : He.AlX := He.obsX 5 L.facts L.defs [] [] L.ex (HandSHeadRun.getT s)
theorem ob_eq (s : PySem.W.SharedT) : ob s = hk.obs s.abs := He.obsX_eq (HandSHeadRun.getT_eq s)
theorem run (w : World) : HandSHeadRun.RunEq Rw (PySem.W.view Rw.prog [34]) hk ob 100000 loose w := by
  intro os
  kernel_rfl
end K04
namespace Mi
open PySem
@[simp] theorem bind_ok {α β : Type} (a : α) (h : MH) (f : α → MH → R β) : R.bind (.ok a h) f = f a h := rfl
@[simp] theorem bind_exn {α β : Type} (c : Nat) (p : Option D) (h : MH) (f : α → MH → R β) : R.bind (.exn c p h : R α) f = .exn c p h := rfl
@[simp] theorem bind_stuck {α β : Type} (f : α → MH → R β) : R.bind (.stuck : R α) f = .stuck := rfl
@[simp] theorem bind_ite {α β : Type} (c : Prop) [Decidable c] (a b : R α) (f : α → MH → R β) : R.bind (if c then a else b) f = if c then R.bind a f else R.bind b f := by split <;> rfl
@[simp] theorem evS_ok {α : Type} (a : α) (h : MH) (f : α → MH → Fl) : evS (.ok a h) f = f a h := rfl
@[simp] theorem evS_exn {α : Type} (c : Nat) (p : Option D) (h : MH) (f : α → MH → Fl) : evS (.exn c p h : R α) f = .exn c p h := rfl
@[simp] theorem evS_ite {α : Type} (c : Prop) [Decidable c] (a b : R α) (f : α → MH → Fl) : evS (if c then a else b) f = if c then evS a f else evS b f := by split <;> rfl
def seqF (r : Fl) (k : Ev → MH → Fl) : Fl := match r with
  | .nx e1 h1 => k e1 h1
  | r => r
@[simp] theorem seqF_nx (e : Ev) (h : MH) (k : Ev → MH → Fl) : seqF (.nx e h) k = k e h := rfl
@[simp] theorem seqF_ret (d : D) (h : MH) (k : Ev → MH → Fl) : seqF (.ret d h) k = .ret d h := rfl
@[simp] theorem seqF_exn (c : Nat) (p : Option D) (h : MH) (k : Ev → MH → Fl) : seqF (.exn c p h) k = .exn c p h := rfl
@[simp] theorem seqF_brk (e : Ev) (h : MH) (k : Ev → MH → Fl) : seqF (.brk e h) k = .brk e h := rfl
@[simp] theorem seqF_cnt (e : Ev) (h : MH) (k : Ev → MH → Fl) : seqF (.cnt e h) k = .cnt e h := rfl
@[simp] theorem seqF_ite (c : Prop) [Decidable c] (a b : Fl) (k : Ev → MH → Fl) : seqF (if c then a else b) k = if c then seqF a k else seqF b k := by split <;> rfl
def retF (keep : Option Nat) (b : Nat) (r : Fl) : R D := match r with
  | .nx _ h1 => fin keep b .non h1
  | .ret d h1 => fin keep b d h1
  | .exn c p h1 => finX keep b c p h1
  | _ => .stuck
@[simp] theorem retF_nx (keep : Option Nat) (b : Nat) (e : Ev) (h : MH) : retF keep b (.nx e h) = fin keep b .non h := rfl
@[simp] theorem retF_ret (keep : Option Nat) (b : Nat) (d : D) (h : MH) : retF keep b (.ret d h) = fin keep b d h := rfl
@[simp] theorem retF_exn (keep : Option Nat) (b : Nat) (c : Nat) (p : Option D) (h : MH) : retF keep b (.exn c p h) = finX keep b c p h := rfl
@[simp] theorem retF_ite (keep : Option Nat) (b : Nat) (c : Prop) [Decidable c] (x y : Fl) : retF keep b (if c then x else y) = if c then retF keep b x else retF keep b y := by split <;> rfl
@[simp] theorem fin_same (b : Nat) (d : D) (h : MH) (e : h.length = b) : fin none b d h = .ok d h := by
  unfold fin
  simp [e]
@[simp] theorem fin_here (keep : Option Nat) (d : D) (h : MH) : fin keep h.length d h = .ok d h := by
  unfold fin
  cases keep <;> simp
@[simp] theorem finX_here (keep : Option Nat) (c : Nat) (h : MH) : finX keep h.length c none h = .exn c none h := by
  unfold finX
  simp
theorem callN_run {P : Nat → Option FI} {f : Nat} {i : FI} (e : P f = some i) (n : Nat) (as : List D) (h : MH) (hl : as.length = i.np) :
    callN P (n + 1) f as h = retF i.keep h.length (exS (callN P n) WF i.body (as.map some ++ List.replicate (i.nn - as.length) none) h) := by
  unfold callN
  rw [e]
  simp only [if_pos hl]
  cases exS (callN P n) WF i.body (as.map some ++ List.replicate (i.nn - as.length) none) h <;> rfl
section
variable {ft : FT} {w : Nat} {e : Ev} {h : MH}
@[simp] theorem exS_nil : exS ft w .nil e h = .nx e h := rfl
@[simp] theorem exS_cons (a b : S) : exS ft w (.cons a b) e h = seqF (exS ft w a e h) (exS ft w b) := by
  show (match exS ft w a e h with
    | .nx e1 h1 => exS ft w b e1 h1
    | r => r) = _
  cases exS ft w a e h <;> rfl
@[simp] theorem exS_asg (t : Tg) (x : E) : exS ft w (.asg t x) e h = evS (evE ft x e h) fun d h => setM t d e h := rfl
@[simp] theorem exS_sub (o i x : E) : exS ft w (.sub o i x) e h = evS (evE ft x e h) fun v h => evS (evE ft o e h) fun a h => evS (evE ft i e h) fun k h => subM a k v e h := rfl
@[simp] theorem exS_aug (i : Nat) (o : Bo) (x : E) : exS ft w (.aug i o x) e h = match vget e i with
    | some a => evS (evE ft x e h) fun b h => augM o i a b e h
    | none => .stuck := rfl
@[simp] theorem exS_augS (o i : E) (p : Bo) (x : E) : exS ft w (.augS o i p x) e h = evS (evE ft o e h) fun a h => evS (evE ft i e h) fun k h => match augI a k h with
    | some u => evS (evE ft x e h) fun w h => augW p u a k w e h
    | none => .stuck := rfl
@[simp] theorem exS_ex (x : E) : exS ft w (.ex x) e h = evS (evE ft x e h) fun _ h => .nx e h := rfl
@[simp] theorem exS_ret (x : E) : exS ft w (.ret x) e h = evS (evE ft x e h) fun d h => .ret d h := rfl
@[simp] theorem exS_retN : exS ft w .retN e h = .ret .non h := rfl
@[simp] theorem exS_if (c : E) (a b : S) : exS ft w (.ifS c a b) e h = evS (evE ft c e h) fun d h => ifK d (exS ft w a e) (exS ft w b e) h := rfl
@[simp] theorem exS_whl (c : E) (b : S) : exS ft w (.whl c b) e h = whL (evE ft c) (exS ft w b) w e h := rfl
def forF (t : Tg) (b : Ev → MH → Fl) (r : R It) (e : Ev) : Fl := match r with
  | .ok (.its xs) h1 => forL t b xs e h1
  | .ok (.hp n w) h1 => forH t b n w (lenH h1 n) 0 e h1
  | .exn c p h1 => .exn c p h1
  | .stuck => .stuck
@[simp] theorem forF_its (t : Tg) (b : Ev → MH → Fl) (xs : List D) (h1 : MH) (e : Ev) : forF t b (.ok (.its xs) h1) e = forL t b xs e h1 := rfl
@[simp] theorem forF_hp (t : Tg) (b : Ev → MH → Fl) (n : Nat) (w : Bool) (h1 : MH) (e : Ev) : forF t b (.ok (.hp n w) h1) e = forH t b n w (lenH h1 n) 0 e h1 := rfl
@[simp] theorem exS_for (t : Tg) (it : E) (b : S) : exS ft w (.forS t it b) e h = forF t (exS ft w b) (evI ft it e h) e := rfl
@[simp] theorem exS_brk : exS ft w .brk e h = .brk e h := rfl
@[simp] theorem exS_cnt : exS ft w .cnt e h = .cnt e h := rfl
@[simp] theorem exS_pass : exS ft w .pass e h = .nx e h := rfl
@[simp] theorem exS_raise (c : Nat) (x : E) : exS ft w (.raise c x) e h = evS (evA ft x e h) fun ds h => raiseM c ds h := rfl
@[simp] theorem raiseM_nil (c : Nat) (h : MH) : raiseM c [] h = .exn c none h := rfl
@[simp] theorem raiseM_one (c : Nat) (d : D) (h : MH) : raiseM c [d] h = .exn c (some d) h := rfl
@[simp] theorem ifK_bl (k : Bool) (a b : MH → Fl) (h : MH) : ifK (.bl k) a b h = if k = true then a h else b h := rfl
@[simp] theorem setM_nm (i : Nat) (d : D) : setM (.nm i) d e h = .nx (e.set i (some d)) h := rfl
@[simp] theorem setM_tp (is : List Nat) (ds : List D) : setM (.tp is) (.tup ds) e h = match setL is ds e with
  | some e1 => .nx e1 h
  | none => .stuck := rfl
@[simp] theorem setL_nil : setL [] [] e = some e := rfl
@[simp] theorem setL_cons (i : Nat) (is : List Nat) (d : D) (ds : List D) : setL (i :: is) (d :: ds) e = setL is ds (e.set i (some d)) := rfl
@[simp] theorem vget_zero (d : D) (e : Ev) : vget (some d :: e) 0 = some d := rfl
@[simp] theorem vget_succ (o : Option D) (e : Ev) (i : Nat) : vget (o :: e) (i + 1) = vget e i := rfl
@[simp] theorem evE_var (i : Nat) : evE ft (.var i) e h = match vget e i with
    | some d => .ok d h
    | none => .stuck := rfl
@[simp] theorem evE_non : evE ft .non e h = .ok .non h := rfl
@[simp] theorem evE_bl (b : Bool) : evE ft (.bl b) e h = .ok (.bl b) h := rfl
@[simp] theorem evE_int (i : Int) : evE ft (.int i) e h = .ok (.int i) h := rfl
@[simp] theorem evE_str (x : Str) : evE ft (.str x) e h = .ok (.str x) h := rfl
@[simp] theorem evE_gI (x : Str) (i : Int) : evE ft (.gI x i) e h = .ok (.int i) h := rfl
@[simp] theorem evE_gS (x s : Str) : evE ft (.gS x s) e h = .ok (.str s) h := rfl
@[simp] theorem evE_tup (es : E) : evE ft (.tup es) e h = (evA ft es e h).bind fun ds h => .ok (.tup ds) h := rfl
@[simp] theorem evE_lst (m : Bool) (es : E) : evE ft (.lst m es) e h = (evA ft es e h).bind fun ds h => mk m ds h := rfl
@[simp] theorem evE_bin (m : Bool) (o : Bo) (a b : E) : evE ft (.bin m o a b) e h = (evE ft a e h).bind fun x h => (evE ft b e h).bind fun y h => bop m o x y h := rfl
@[simp] theorem evE_neg (a : E) : evE ft (.neg a) e h = (evE ft a e h).bind fun x h => negM x h := rfl
@[simp] theorem evE_cmp (o : Co) (a b : E) : evE ft (.cmp o a b) e h = (evE ft a e h).bind fun x h => (evE ft b e h).bind fun y h => cmpM o x y h := rfl
def onB (d : D) (a b : MH → R D) (h : MH) : R D := match d with
  | .bl k => if k = true then a h else b h
  | _ => .stuck
@[simp] theorem onB_bl (k : Bool) (a b : MH → R D) (h : MH) : onB (.bl k) a b h = if k = true then a h else b h := rfl
@[simp] theorem evE_chain (o p : Co) (a b c : E) : evE ft (.chain o p a b c) e h = (evE ft a e h).bind fun x h => (evE ft b e h).bind fun y h => (cmpM o x y h).bind fun k h => onB k (fun h => (evE ft c e h).bind fun z h => cmpM p y z h) (fun h => .ok (.bl false) h) h := rfl
@[simp] theorem evE_and (a b : E) : evE ft (.and a b) e h = (evE ft a e h).bind fun x h => onB x (fun h => evE ft b e h) (fun h => .ok (.bl false) h) h := rfl
@[simp] theorem evE_or (a b : E) : evE ft (.or a b) e h = (evE ft a e h).bind fun x h => onB x (fun h => .ok (.bl true) h) (fun h => evE ft b e h) h := rfl
def notB (d : D) (h : MH) : R D := match d with
  | .bl k => .ok (.bl (!k)) h
  | _ => .stuck
@[simp] theorem notB_bl (k : Bool) (h : MH) : notB (.bl k) h = .ok (.bl (!k)) h := rfl
@[simp] theorem evE_not (a : E) : evE ft (.not a) e h = (evE ft a e h).bind fun x h => notB x h := rfl
@[simp] theorem evE_ifx (c a b : E) : evE ft (.ifx c a b) e h = (evE ft c e h).bind fun x h => onB x (fun h => evE ft a e h) (fun h => evE ft b e h) h := rfl
@[simp] theorem evE_idx (a i : E) : evE ft (.idx a i) e h = (evE ft a e h).bind fun x h => (evE ft i e h).bind fun y h => idxM x y h := rfl
@[simp] theorem evE_call (f : Nat) (es : E) : evE ft (.call f es) e h = (evA ft es e h).bind fun ds h => ft f ds h := rfl
@[simp] theorem evE_prim (p : Pr) (es : E) : evE ft (.prim p es) e h = (evA ft es e h).bind fun ds h => prim p ds h := rfl
@[simp] theorem evE_isI (a : E) (t : Ty) : evE ft (.isI a t) e h = (evE ft a e h).bind fun x h => isM t x h := rfl
@[simp] theorem evE_meth (o : E) (m : Mt) (es : E) : evE ft (.meth o m es) e h = (evE ft o e h).bind fun x h => if tnOf h x = some (recvT m) then (evA ft es e h).bind fun ds h => metD m x ds h else .stuck := rfl
@[simp] theorem evE_lc (m : Bool) (t : Tg) (it c el : E) (own : List (Str × Nat)) : evE ft (.lc m t it c el own) e h = (evI ft it e h).bind fun w h => lcR m (lcB t (evE ft c) (evE ft el) (wipeE e (own.map (·.2)))) w h := rfl
@[simp] theorem evA_nil : evA ft .nil e h = .ok [] h := rfl
@[simp] theorem evA_cons (a r : E) : evA ft (.cons a r) e h = (evE ft a e h).bind fun x h => (evA ft r e h).bind fun xs h => .ok (x :: xs) h := rfl
def onI (d : D) (k : Int → R It) : R It := match d with
  | .int j => k j
  | _ => .stuck
@[simp] theorem onI_int (j : Int) (k : Int → R It) : onI (.int j) k = k j := rfl
def rngM (j : Int) (h : MH) : R It := if decide (j ≤ (big : Int)) && decide (-(2 ^ 60) < j) then .ok (.its ((List.range j.toNat).map fun i => .int (i : Nat))) h else .stuck
def rngL (k : Nat) : List D := (List.range k).map fun (i : Nat) => .int (i : Int)
theorem rngM_nat (k : Nat) (hk : k ≤ 10000) : rngM (k : Int) h = .ok (.its (rngL k)) h := by
  unfold rngM rngL
  rw [if_pos]
  · rw [Int.toNat_natCast]
  · unfold big
    simp only [Bool.and_eq_true, decide_eq_true_eq]
    omega
@[simp] theorem rngL_len (k : Nat) : (rngL k).length = k := by simp [rngL]
theorem rngL_mem {k : Nat} {d : D} (hd : d ∈ rngL k) : ∃ i : Nat, i < k ∧ d = .int (i : Int) := by
  unfold rngL at hd
  obtain ⟨i, hi, rfl⟩ := List.mem_map.mp hd
  exact ⟨i, List.mem_range.mp hi, rfl⟩
@[simp] theorem evI_rng1 (a : E) : evI ft (.rng1 a) e h = (evE ft a e h).bind fun x h => onI x fun j => rngM j h := rfl
@[simp] theorem evI_gen (a : E) : evI ft (.gen a) e h = (evE ft a e h).bind fun d h => match itOf h d with
    | some w => .ok w h
    | none => .stuck := rfl
@[simp] theorem evI_enum (a : E) : evI ft (.enum a) e h = (evE ft a e h).bind fun d h => match enumOf h d with
    | some w => .ok w h
    | none => .stuck := rfl
@[simp] theorem evI_zip (a b : E) : evI ft (.zip a b) e h = (evE ft a e h).bind fun x h => (evE ft b e h).bind fun y h => match plainIts x, plainIts y with
    | some xs, some ys => .ok (.its (zipD xs ys)) h
    | _, _ => .stuck := rfl
@[simp] theorem itOf_tup (xs : List D) : itOf h (.tup xs) = some (.its xs) := rfl
@[simp] theorem itOf_lst (xs : List D) : itOf h (.lst xs) = some (.its xs) := rfl
@[simp] theorem enumOf_tup (xs : List D) : enumOf h (.tup xs) = some (.its (enumL 0 xs)) := rfl
@[simp] theorem enumOf_lst (xs : List D) : enumOf h (.lst xs) = some (.its (enumL 0 xs)) := rfl
@[simp] theorem plainIts_tup (xs : List D) : plainIts (.tup xs) = some xs := rfl
@[simp] theorem plainIts_lst (xs : List D) : plainIts (.lst xs) = some xs := rfl
@[simp] theorem mk_false (xs : List D) : mk false xs h = .ok (.lst xs) h := rfl
@[simp] theorem mk_true (xs : List D) : mk true xs h = .ok (.ref h.length) (h ++ [.lst xs]) := rfl
@[simp] theorem bop_add (m : Bool) (i j : Int) : bop m .add (.int i) (.int j) h = .ok (.int (i + j)) h := rfl
@[simp] theorem bop_sub (m : Bool) (i j : Int) : bop m .sub (.int i) (.int j) h = .ok (.int (i - j)) h := rfl
theorem bop_mul (m : Bool) (i j : Int) (c : (small i || small j || (decide (i.natAbs < 2 ^ 4000) && decide (j.natAbs < 2 ^ 4000))) = true) : bop m .mul (.int i) (.int j) h = .ok (.int (i * j)) h := by
  show (if (small i || small j || (decide (i.natAbs < 2 ^ 4000) && decide (j.natAbs < 2 ^ 4000))) = true then R.ok (D.int (i * j)) h else .stuck) = _
  rw [if_pos c]
theorem bop_fdiv (m : Bool) (i j : Int) (h0 : 0 < j) (h1 : j.natAbs < 2 ^ 8000) : bop m .fdiv (.int i) (.int j) h = .ok (.int (i / j)) h := by
  show (if (decide (0 < j) && decide (j.natAbs < 2 ^ 8000)) = true then R.ok (D.int (i / j)) h else _) = _
  rw [if_pos (by simp [h0, h1])]
theorem bop_mod (m : Bool) (i j : Int) (h0 : 0 < j) : bop m .mod (.int i) (.int j) h = .ok (.int (i % j)) h := by
  show (if 0 < j then R.ok (D.int (i % j)) h else _) = _
  rw [if_pos h0]
theorem bop_pow (m : Bool) (i j : Int) (h0 : (decide (0 ≤ j) && decide (j ≤ 1000000) && small i) = true) : bop m .pow (.int i) (.int j) h = .ok (.int (i ^ j.toNat)) h := by
  show (if (decide (0 ≤ j) && decide (j ≤ 1000000) && small i) = true then R.ok (D.int (i ^ j.toNat)) h else _) = _
  rw [if_pos h0]
@[simp] theorem cmp_lt (i j : Int) : cmpM .lt (.int i) (.int j) h = .ok (.bl (decide (i < j))) h := rfl
@[simp] theorem cmp_le (i j : Int) : cmpM .le (.int i) (.int j) h = .ok (.bl (decide (i ≤ j))) h := rfl
@[simp] theorem cmp_gt (i j : Int) : cmpM .gt (.int i) (.int j) h = .ok (.bl (decide (j < i))) h := rfl
@[simp] theorem cmp_ge (i j : Int) : cmpM .ge (.int i) (.int j) h = .ok (.bl (decide (j ≤ i))) h := rfl
@[simp] theorem cmp_eqI (i j : Int) : cmpM .eq (.int i) (.int j) h = .ok (.bl (decide (i = j))) h := rfl
@[simp] theorem cmp_neI (i j : Int) : cmpM .ne (.int i) (.int j) h = .ok (.bl (!decide (i = j))) h := rfl
@[simp] theorem cmp_isN (d : D) : cmpM .is d .non h = .ok (.bl (isNon d)) h := rfl
@[simp] theorem cmp_isnN (d : D) : cmpM .isn d .non h = .ok (.bl (!isNon d)) h := rfl
@[simp] theorem prim_1 (p : Pr) (a : D) : prim p [a] h = prim1 p a h := rfl
@[simp] theorem prim_2 (p : Pr) (a b : D) : prim p [a, b] h = prim2 p a b h := rfl
@[simp] theorem len_tup (xs : List D) : prim1 .len (.tup xs) h = .ok (.int xs.length) h := rfl
@[simp] theorem len_lst (xs : List D) : prim1 .len (.lst xs) h = .ok (.int xs.length) h := rfl
@[simp] theorem len_scr (ns : List Int) : prim1 .len (.scr ns) h = .ok (.int ns.length) h := by
  show R.ok (D.int ((ns.map D.int).length)) h = _
  rw [List.length_map]
@[simp] theorem tuple_lst (xs : List D) : prim1 .tuple (.lst xs) h = .ok (.tup xs) h := rfl
@[simp] theorem tuple_tup (xs : List D) : prim1 .tuple (.tup xs) h = .ok (.tup xs) h := rfl
@[simp] theorem abs_int (i : Int) : prim1 .abs (.int i) h = .ok (.int (if i < 0 then -i else i)) h := rfl
@[simp] theorem min2_int (i j : Int) : prim2 .min2 (.int i) (.int j) h = .ok (.int (if j < i then j else i)) h := rfl
@[simp] theorem max2_int (i j : Int) : prim2 .max2 (.int i) (.int j) h = .ok (.int (if j > i then j else i)) h := rfl
theorem blsD_map (bs : List Bool) : blsD (bs.map D.bl) = some bs := by
  induction bs with
  | nil => rfl
  | cons b bs ih => simp [blsD, ih]
theorem intsD_map (is : List Int) : intsD (is.map D.int) = some is := by
  induction is with
  | nil => rfl
  | cons b bs ih => simp [intsD, ih]
@[simp] theorem all_lst (bs : List Bool) : prim1 .all (.lst (bs.map D.bl)) h = .ok (.bl (bs.all id)) h := by
  show (match (some (bs.map D.bl)).bind blsD with
    | some bs => R.ok (D.bl (bs.all id)) h
    | none => .stuck) = _
  simp [blsD_map]
@[simp] theorem any_lst (bs : List Bool) : prim1 .any (.lst (bs.map D.bl)) h = .ok (.bl (bs.any id)) h := by
  show (match (some (bs.map D.bl)).bind blsD with
    | some bs => R.ok (D.bl (bs.any id)) h
    | none => .stuck) = _
  simp [blsD_map]
@[simp] theorem sum_lst (is : List Int) : prim1 .sum (.lst (is.map D.int)) h = .ok (.int is.sum) h := by
  show (match (some (is.map D.int)).bind intsD with
    | some bs => R.ok (D.int bs.sum) h
    | none => .stuck) = _
  simp [intsD_map]
@[simp] theorem sum_tup (is : List Int) : prim1 .sum (.tup (is.map D.int)) h = .ok (.int is.sum) h := by
  show (match (some (is.map D.int)).bind intsD with
    | some bs => R.ok (D.int bs.sum) h
    | none => .stuck) = _
  simp [intsD_map]
theorem atI_nat {α : Type} (xs : List α) (i : Nat) (x : α) (e : xs[i]? = some x) : atI xs (i : Int) = some x := by
  have hl := (List.getElem?_eq_some_iff.mp e).1
  unfold atI ixN
  rw [if_pos (by omega), Int.toNat_natCast, if_pos hl]
  exact e
theorem atI_int {α : Type} (xs : List α) (i : Int) (x : α) (h0 : 0 ≤ i) (e : xs[i.toNat]? = some x) : atI xs i = some x := by
  obtain ⟨n, rfl⟩ := Int.eq_ofNat_of_zero_le h0
  exact atI_nat xs n x e
theorem idx_tup (xs : List D) (i : Int) (d : D) (e : atI xs i = some d) : idxM (.tup xs) (.int i) h = .ok d h := by
  show (match atI xs i with
    | some d => R.ok d h
    | none => .stuck) = _
  rw [e]
theorem idx_lst (xs : List D) (i : Int) (d : D) (e : atI xs i = some d) : idxM (.lst xs) (.int i) h = .ok d h := by
  show (match atI xs i with
    | some d => R.ok d h
    | none => .stuck) = _
  rw [e]
theorem idx_scr (xs : List Int) (i : Int) (j : Int) (e : atI xs i = some j) : idxM (.scr xs) (.int i) h = .ok (.int j) h := by
  show (match atI (xs.map D.int) i with
    | some d => R.ok d h
    | none => .stuck) = _
  have : atI (xs.map D.int) i = some (.int j) := by
    unfold atI at e ⊢
    rw [List.length_map]
    cases z : ixN xs.length i with
    | none => rw [z] at e; cases e
    | some k => rw [z] at e; simp only [List.getElem?_map] at e ⊢; rw [e]; rfl
  rw [this]
theorem lcL_map {f : D → MH → R (Option D)} {g : D → D} : ∀ {xs : List D}, (∀ d ∈ xs, f d h = .ok (some (g d)) h) → lcL f xs h = .ok (xs.map g) h
  | [], _ => rfl
  | d :: ds, k => by
    show (match f d h with
      | .ok none h1 => lcL f ds h1
      | .ok (some x) h1 => (match lcL f ds h1 with
        | .ok xs h2 => .ok (x :: xs) h2
        | _ => .stuck)
      | _ => .stuck) = _
    rw [k d (List.mem_cons_self ..)]
    simp only
    rw [lcL_map (xs := ds) fun d hd => k d (List.mem_cons_of_mem _ hd)]
    rfl
theorem lcR_map {m : Bool} {f : D → MH → R (Option D)} {g : D → D} {xs : List D} (k : ∀ d ∈ xs, f d h = .ok (some (g d)) h) : lcR m f (.its xs) h = mk m (xs.map g) h := by
  show (match lcL f xs h with
    | .ok ys h => mk m ys h
    | _ => .stuck) = _
  rw [lcL_map k]
theorem lcL_inv {α : Type} {mkH : α → MH} {I : α → Prop} {Q : D → Prop} {f : D → MH → R (Option D)} : ∀ {xs : List D} {a : α}, (∀ d ∈ xs, ∀ a, I a → ∃ x a', f d (mkH a) = .ok (some x) (mkH a') ∧ I a' ∧ Q x) → I a → ∃ ys a', lcL f xs (mkH a) = .ok ys (mkH a') ∧ I a' ∧ ys.length = xs.length ∧ ∀ y ∈ ys, Q y
  | [], a, _, ia => ⟨[], a, rfl, ia, rfl, fun _ h => nomatch h⟩
  | d :: ds, a, k, ia => by
    obtain ⟨x, a1, e, i1, q⟩ := k d (List.mem_cons_self ..) a ia
    obtain ⟨ys, a2, e2, i2, l, qs⟩ := lcL_inv (xs := ds) (fun d hd => k d (List.mem_cons_of_mem _ hd)) i1
    refine ⟨x :: ys, a2, ?_, i2, by simp [l], fun y hy => ?_⟩
    · show (match f d (mkH a) with
        | .ok none h1 => lcL f ds h1
        | .ok (some x) h1 => (match lcL f ds h1 with
          | .ok xs h2 => .ok (x :: xs) h2
          | _ => .stuck)
        | _ => .stuck) = _
      rw [e]
      simp only
      rw [e2]
    · rcases List.mem_cons.mp hy with z | z
      · rw [z]; exact q
      · exact qs y z
def lcK (c el : MH → R D) (h : MH) : R (Option D) := (c h).bind fun k h => (match k with
    | .bl b => if b = true then (el h).bind fun x h => .ok (some x) h else .ok none h
    | _ => .stuck)
theorem lcB_eq (t : Tg) (c el : Ev → MH → R D) (w0 : Ev) (d : D) (h : MH) : lcB t c el w0 d h = match setT t d w0 with
  | some e1 => lcK (c e1) (el e1) h
  | none => .stuck := by
  unfold lcB lcK
  cases setT t d w0 <;> rfl
@[simp] theorem lcK_true (el : MH → R D) (h : MH) : lcK (fun h => .ok (.bl true) h) el h = (el h).bind fun x h => .ok (some x) h := rfl
@[simp] theorem setT_nm (i : Nat) (d : D) : setT (.nm i) d e = some (e.set i (some d)) := rfl
@[simp] theorem setT_tp (is : List Nat) (ds : List D) : setT (.tp is) (.tup ds) e = setL is ds e := rfl
@[simp] theorem setT_tq (i : Nat) (is : List Nat) (a : D) (ds : List D) : setT (.tq i is) (.tup [a, .tup ds]) e = setL is ds (e.set i (some a)) := rfl
@[simp] theorem wipeE_nil : wipeE e [] = e := rfl
@[simp] theorem wipeE_cons (v : Nat) (vs : List Nat) : wipeE e (v :: vs) = (wipeE e vs).set v none := rfl
theorem lc_nm {ft : FT} {m : Bool} {i : Nat} {el : Ev → MH → R D} {xs : List D} (g : D → D) (k : ∀ d ∈ xs, el (e.set i (some d)) h = .ok (g d) h) : lcR m (lcB (.nm i) (evE ft (.bl true)) el e) (.its xs) h = mk m (xs.map g) h :=
  lcR_map fun d hd => by
    rw [lcB_eq]
    show lcK (fun h => .ok (.bl true) h) (el (e.set i (some d))) h = _
    rw [lcK_true, k d hd]
    rfl
theorem map_bl (xs : List D) (g : D → Bool) : (xs.map fun d => D.bl (g d)) = (xs.map g).map D.bl := by rw [List.map_map]; rfl
theorem map_int (xs : List D) (g : D → Int) : (xs.map fun d => D.int (g d)) = (xs.map g).map D.int := by rw [List.map_map]; rfl
def allB (g : D → Bool) (xs : List D) : Bool := xs.all g
def anyB (g : D → Bool) (xs : List D) : Bool := xs.any g
@[simp] theorem all_map (xs : List D) (g : D → Bool) : prim1 .all (.lst (xs.map fun d => D.bl (g d))) h = .ok (.bl (allB g xs)) h := by
  rw [map_bl, all_lst, List.all_map]
  rfl
@[simp] theorem any_map (xs : List D) (g : D → Bool) : prim1 .any (.lst (xs.map fun d => D.bl (g d))) h = .ok (.bl (anyB g xs)) h := by
  rw [map_bl, any_lst, List.any_map]
  rfl
@[simp] theorem cmp_eqN (a b : Nat) : cmpM .eq (.int (a : Int)) (.int (b : Int)) h = .ok (.bl (decide (a = b))) h := by
  rw [cmp_eqI]
  simp [Int.ofNat_inj]
@[simp] theorem sum_map (xs : List D) (g : D → Int) : prim1 .sum (.lst (xs.map fun d => D.int (g d))) h = .ok (.int (xs.map g).sum) h := by
  rw [map_int, sum_lst]
end
end Mi
namespace Mi
open PySem
section
variable {P : Nat → Option FI} {n : Nat} {h : MH}
def tw (a b : Int) : MO := .lst [.int a, .int b]
theorem atI0 {α : Type} (x : α) (xs : List α) : atI (x :: xs) 0 = some x := rfl
theorem atI1 {α : Type} (x y : α) (xs : List α) : atI (x :: y :: xs) 1 = some y := by
  have : atI (x :: y :: xs) ((1 : Nat) : Int) = some y := atI_nat _ 1 y rfl
  exact this
theorem tw0 (a b : Int) (r : MH) : idxM (.ref 0) (.int 0) (tw a b :: r) = .ok (.int a) (tw a b :: r) := rfl
theorem tw1 (a b : Int) (r : MH) : idxM (.ref 0) (.int 1) (tw a b :: r) = .ok (.int b) (tw a b :: r) := rfl
theorem tws1 (a b v : Int) (e : Ev) (r : MH) : subM (.ref 0) (.int 1) (.int v) e (tw a b :: r) = .nx e (tw a v :: r) := rfl
theorem twa0 (a b : Int) (r : MH) : augI (.ref 0) (.int 0) (tw a b :: r) = some a := rfl
theorem twg0 (a b v : Int) (e : Ev) (r : MH) : augW .add a (.ref 0) (.int 0) (.int v) e (tw a b :: r) = .nx e (tw (a + v) b :: r) := rfl
theorem eqI_nil (ns : List Int) : eqI ns [] = decide (ns = []) := by cases ns <;> rfl
theorem scr_nil (ns : List Int) (h : MH) : cmpM .eq (.scr ns) (.lst []) h = .ok (.bl (decide (ns = []))) h := by
  show (match (match (if (okD 8 (res h 8 (.scr ns)) && okD 8 (res h 8 (.lst []))) = true then some (eqD (res h 8 (.scr ns)) (res h 8 (.lst []))) else none) with
    | some k => some k
    | none => none) with
    | some k => R.ok (D.bl k) h
    | none => .stuck) = _
  show R.ok (D.bl (eqI ns [])) h = _
  rw [eqI_nil]
theorem draw_spec (h117 : P 117 = some fi_law_draw) (ns : List Int) (a b many : Int) (ha : 0 ≤ a) (hb : 0 ≤ b) (hm : 0 < many) (hm2 : many < 2 ^ 60) : ∃ d a' b' : Int, 0 ≤ d ∧ d < many ∧ 0 ≤ a' ∧ 0 ≤ b' ∧
    ∀ r : MH, callN P (n + 1) 117 [.scr ns, .ref 0, .int many] (tw a b :: r) = .ok (.int d) (tw a' b' :: r) := by
  have hn : many.natAbs < 2 ^ 8000 := Nat.lt_of_lt_of_le (show many.natAbs < 2 ^ 60 by omega) (Nat.pow_le_pow_right (by decide) (by decide))
  by_cases c1 : 0 < b
  · refine ⟨b % many, a, b / many, Int.emod_nonneg _ (by omega), Int.emod_lt_of_pos _ hm, ha, Int.ediv_nonneg hb (by omega), fun r => ?_⟩
    rw [callN_run h117 n _ _ rfl]
    simp [fi_law_draw, tw1, tws1, c1, bop_mod _ _ _ hm, bop_fdiv _ _ _ hm hn]
  · by_cases c2 : ns = []
    · refine ⟨a % many, a + 1, b, Int.emod_nonneg _ (by omega), Int.emod_lt_of_pos _ hm, by omega, hb, fun r => ?_⟩
      rw [callN_run h117 n _ _ rfl]
      simp [fi_law_draw, tw1, tw0, twa0, twg0, tws1, c1, c2, scr_nil, bop_mod _ _ _ hm, bop_fdiv _ _ _ hm hn]
    · have hl : 0 < ns.length := List.length_pos_iff.mpr c2
      obtain ⟨y, hy⟩ : ∃ y, atI ns (a % (ns.length : Int)) = some y := by
        have h0 : 0 ≤ a % (ns.length : Int) := Int.emod_nonneg _ (by omega)
        have h1 : a % (ns.length : Int) < ns.length := Int.emod_lt_of_pos _ (by omega)
        exact ⟨_, atI_int ns _ _ h0 (List.getElem?_eq_getElem (by omega))⟩
      have hM : 0 ≤ (y * 1103515245 + 7919 * a + 12345) % 2147483647 ∧ (y * 1103515245 + 7919 * a + 12345) % 2147483647 < 2147483647 := ⟨Int.emod_nonneg _ (by decide), Int.emod_lt_of_pos _ (by decide)⟩
      generalize hmix : (y * 1103515245 + 7919 * a + 12345) % 2147483647 = mix at hM
      have hsm : small mix = true := by
        unfold small
        rw [decide_eq_true_eq]
        have : mix.natAbs < 2147483647 := by omega
        exact Nat.lt_trans this (by decide)
      have dflt : ∀ (x : Int) (r : MH), (a < (ns.length : Int) → atI ns a = some x ∧ ¬ 1000000000000000000 ≤ x) → callN P (n + 1) 117 [.scr ns, .ref 0, .int many] (tw a b :: r) = .ok (.int (mix ^ 5 % 2147483647 % 999983 % many)) (tw (a + 1) b :: r) := fun x r hx => by
        rw [callN_run h117 n _ _ rfl]
        by_cases c3 : a < (ns.length : Int)
        · obtain ⟨e1, e2⟩ := hx c3
          simp [fi_law_draw, tw1, tw0, twa0, twg0, tws1, c1, c2, c3, scr_nil, idx_scr _ _ _ e1, idx_scr _ _ _ hy, bop_pow false 10 18 (by decide), e2, bop_mod _ _ _ hm, bop_mod _ _ _ (show (0 : Int) < ns.length by omega), bop_mul false y 1103515245 (by simp [small]), bop_mul false 7919 a (by simp [small]), bop_mod _ _ _ (show (0 : Int) < 2147483647 by decide), bop_mod _ _ _ (show (0 : Int) < 999983 by decide), hmix, bop_pow false mix 5 (by simp [hsm])]
        · simp [fi_law_draw, tw1, tw0, twa0, twg0, tws1, c1, c2, c3, scr_nil, idx_scr _ _ _ hy, bop_mod _ _ _ hm, bop_mod _ _ _ (show (0 : Int) < ns.length by omega), bop_mul false y 1103515245 (by simp [small]), bop_mul false 7919 a (by simp [small]), bop_mod _ _ _ (show (0 : Int) < 2147483647 by decide), bop_mod _ _ _ (show (0 : Int) < 999983 by decide), hmix, bop_pow false mix 5 (by simp [hsm])]
      by_cases c3 : a < (ns.length : Int)
      · obtain ⟨x, hx⟩ : ∃ x, atI ns a = some x := ⟨_, atI_int ns a _ ha (List.getElem?_eq_getElem (by omega))⟩
        by_cases c4 : 1000000000000000000 ≤ x
        · refine ⟨x % many, a + 1, x / many % (10 ^ 60 * 10 ^ 60), Int.emod_nonneg _ (by omega), Int.emod_lt_of_pos _ hm, by omega, Int.emod_nonneg _ (by decide), fun r => ?_⟩
          rw [callN_run h117 n _ _ rfl]
          simp [fi_law_draw, tw1, tw0, twa0, twg0, tws1, c1, c2, c3, c4, scr_nil, idx_scr _ _ _ hx, bop_pow false 10 18 (by decide), bop_pow false 10 60 (by decide), bop_fdiv _ _ _ hm hn, bop_mod _ _ _ hm, bop_mul false 1000000000000000000000000000000000000000000000000000000000000 1000000000000000000000000000000000000000000000000000000000000 (by decide +kernel), bop_mod _ _ _ (show (0 : Int) < 1000000000000000000000000000000000000000000000000000000000000000000000000000000000000000000000000000000000000000000000000 by decide)]
        · exact ⟨_, a + 1, b, Int.emod_nonneg _ (by omega), Int.emod_lt_of_pos _ hm, by omega, hb, fun r => dflt x r fun _ => ⟨hx, c4⟩⟩
      · exact ⟨_, a + 1, b, Int.emod_nonneg _ (by omega), Int.emod_lt_of_pos _ hm, by omega, hb, fun r => dflt 0 r fun z => absurd z c3⟩
end
end Mi
namespace Mi
open PySem
mutual
/-- data without a place of its own -/
def pl : D → Bool
  | .non => true
  | .bl _ => true
  | .int _ => true
  | .str _ => true
  | .tup xs => plL xs
  | .lst xs => plL xs
  | .dK _ => true
  | .dT _ => true
  | .ref _ => false
  | .scr _ => false
  | .fn _ _ => false
  | .xv _ => false
def plL : List D → Bool
  | [] => true
  | x :: xs => pl x && plL xs
end
theorem plL_mem : ∀ {xs : List D}, plL xs = true → ∀ x ∈ xs, pl x = true
  | y :: ys, h, x, hx => by
    have h : (pl y && plL ys) = true := h
    rw [Bool.and_eq_true] at h
    rcases List.mem_cons.mp hx with z | z
    · rw [z]; exact h.1
    · exact plL_mem h.2 x z
theorem plL_of : ∀ {xs : List D}, (∀ x ∈ xs, pl x = true) → plL xs = true
  | [], _ => rfl
  | y :: ys, h => by
    show (pl y && plL ys) = true
    rw [h y (List.mem_cons_self ..), plL_of fun x hx => h x (List.mem_cons_of_mem _ hx)]
    rfl
def isTu : D → Bool
  | .tup _ => true
  | _ => false
def isIn : D → Bool
  | .int _ => true
  | .bl _ => true
  | _ => false
def isBo : D → Bool
  | .bl _ => true
  | _ => false
section
variable {h : MH} {d : D}
theorem isM_tup (p : pl d = true) : isM .tuple d h = .ok (.bl (isTu d)) h := by cases d <;> first | rfl | cases p
theorem isM_int (p : pl d = true) : isM .int d h = .ok (.bl (isIn d)) h := by cases d <;> first | rfl | cases p
theorem isM_bool (p : pl d = true) : isM .bool d h = .ok (.bl (isBo d)) h := by cases d <;> first | rfl | cases p
end
def whole (d : D) (lo hi : Int) : Bool := match d with
  | .int i => decide (lo ≤ i) && decide (i ≤ hi)
  | _ => false
section
variable {P : Nat → Option FI} {n : Nat} {h : MH}
theorem is_whole_spec (h0 : P 0 = some fi_is_whole) (d : D) (lo hi : Int) (p : pl d = true) : callN P (n + 1) 0 [d, .int lo, .int hi] h = .ok (.bl (whole d lo hi)) h := by
  rw [callN_run h0 n _ _ rfl]
  cases d with
  | int i =>
    by_cases c : lo ≤ i
    · simp [fi_is_whole, isM_int (d := .int i) rfl, isM_bool (d := .int i) rfl, isIn, isBo, whole, c]
    · simp [fi_is_whole, isM_int (d := .int i) rfl, isM_bool (d := .int i) rfl, isIn, isBo, whole, c]
  | bl b => simp [fi_is_whole, isM_int (d := .bl b) rfl, isM_bool (d := .bl b) rfl, isIn, isBo, whole]
  | ref _ => cases p
  | scr _ => cases p
  | fn _ _ => cases p
  | xv _ => cases p
  | _ => simp [fi_is_whole, isM_int p, isM_bool p, isIn, isBo, whole]
def lenT : D → Nat
  | .tup xs => xs.length
  | _ => 0
@[simp] theorem lenT_tup (xs : List D) : lenT (.tup xs) = xs.length := rfl
def rowB (r : D) : Bool := isTu r && (decide (1 ≤ lenT r) && decide (lenT r ≤ 5))
def itemsT : D → List D
  | .tup xs => xs
  | _ => []
@[simp] theorem itemsT_tup (xs : List D) : itemsT (.tup xs) = xs := rfl
def fst0 : List D → D
  | [] => .non
  | x :: _ => x
def shapeB (d : D) : Bool := isTu d && (decide (1 ≤ lenT d) && decide (lenT d ≤ 5)) && allB rowB (itemsT d) && allB (fun r => decide (lenT r = lenT (fst0 (itemsT d)))) (itemsT d)
theorem dec_cast (a b : Nat) : decide ((a : Int) = (b : Int)) = decide (a = b) := by
  rw [decide_eq_decide]
  omega
theorem is_shape_spec (h1 : P 1 = some fi_is_shape) (d : D) (p : pl d = true) : callN P (n + 1) 1 [d] h = .ok (.bl (shapeB d)) h := by
  rw [callN_run h1 n _ _ rfl]
  by_cases c : isTu d = true
  · obtain ⟨xs, rfl⟩ : ∃ xs, d = .tup xs := by
      cases d with
      | tup xs => exact ⟨xs, rfl⟩
      | _ => cases c
    have pm := plL_mem (show plL xs = true from p)
    by_cases c1 : 1 ≤ xs.length
    · have i1 : (1 : Int) ≤ (xs.length : Int) := by omega
      by_cases c2 : xs.length ≤ 5
      · have i2 : (xs.length : Int) ≤ 5 := by omega
        have z0 : atI xs 0 = some (fst0 xs) := by
          cases xs with
          | nil => simp at c1
          | cons a b => rfl
        simp [fi_is_shape, isM_tup p, isTu, i1, i2]
        rw [lc_nm (fun d => .bl (rowB d)) fun d hd => ?_]
        · by_cases c3 : allB rowB xs = true
          · simp [c3]
            have hh : rowB (fst0 xs) = true := by
              cases xs with
              | nil => simp at c1
              | cons a b => exact List.all_eq_true.mp c3 a (List.mem_cons_self ..)
            rw [lc_nm (fun d => .bl (decide (lenT d = lenT (fst0 xs)))) fun d hd => ?_]
            · simp [shapeB, isTu, c1, c2, c3]
              try rfl
            · have hr := List.all_eq_true.mp c3 d hd
              cases d with
              | tup ys =>
                cases q : fst0 xs with
                | tup zs =>
                  simp [idx_tup _ _ _ z0, q]
                  exact dec_cast _ _
                | _ => rw [q] at hh; cases hh
              | _ => cases hr
          · simp [c3, shapeB, isTu, c1, c2]
        · have pd := pm d hd
          cases d with
          | tup ys =>
            by_cases k1 : 1 ≤ ys.length
            · have j1 : (1 : Int) ≤ (ys.length : Int) := by omega
              by_cases k2 : ys.length ≤ 5
              · have j2 : (ys.length : Int) ≤ 5 := by omega
                simp [isM_tup (d := .tup ys) pd, isTu, rowB, k1, j1, k2, j2]
              · have j2 : ¬ (ys.length : Int) ≤ 5 := by omega
                simp [isM_tup (d := .tup ys) pd, isTu, rowB, k1, j1, k2, j2]
            · have j1 : ¬ (1 : Int) ≤ (ys.length : Int) := by omega
              simp [isM_tup (d := .tup ys) pd, isTu, rowB, k1, j1]
          | _ => simp [isM_tup pd, isTu, rowB]
      · have i2 : ¬ (xs.length : Int) ≤ 5 := by omega
        simp [fi_is_shape, isM_tup p, isTu, i1, i2, shapeB, c2]
    · have i1 : ¬ (1 : Int) ≤ (xs.length : Int) := by omega
      simp [fi_is_shape, isM_tup p, isTu, i1, shapeB, c1]
  · simp [fi_is_shape, isM_tup p, c, shapeB]
def intT : D → Int
  | .int i => i
  | _ => 0
def sumT (d : D) : Int := ((itemsT d).map intT).sum
def tableB (d : D) : Bool := shapeB d && allB (fun r => allB (fun x => whole x 0 9999) (itemsT r)) (itemsT d) && decide (((itemsT d).map sumT).sum ≤ 9999)
theorem whole_int {d : D} {a b : Int} (w : whole d a b = true) : ∃ i, d = .int i ∧ a ≤ i ∧ i ≤ b := by
  cases d with
  | int i => exact ⟨i, rfl, by simpa [whole] using w⟩
  | _ => cases w
theorem shape_tup {d : D} (s : shapeB d = true) : ∃ xs, d = .tup xs ∧ 1 ≤ xs.length ∧ xs.length ≤ 5 ∧ (∀ r ∈ xs, ∃ ys, r = .tup ys ∧ 1 ≤ ys.length ∧ ys.length ≤ 5 ∧ ys.length = lenT (fst0 xs)) := by
  unfold shapeB at s
  simp only [Bool.and_eq_true, decide_eq_true_eq, allB, List.all_eq_true] at s
  obtain ⟨⟨⟨s0, s1, s2⟩, s3⟩, s4⟩ := s
  cases d with
  | tup xs =>
    refine ⟨xs, rfl, s1, s2, fun r hr => ?_⟩
    have a := s3 r hr
    have b := s4 r hr
    unfold rowB at a
    simp only [Bool.and_eq_true, decide_eq_true_eq] at a
    cases r with
    | tup ys => exact ⟨ys, rfl, a.2.1, a.2.2, b⟩
    | _ => cases a.1
  | _ => cases s0
end
end Mi
namespace Mi
open PySem
theorem forL_go {A : Type} {t : Tg} {b : Ev → MH → Fl} {E : A → Ev} {M : A → MH} {J : List D → A → Prop} (step : ∀ d ds a, J (d :: ds) a → ∃ e1 a', setT t d (E a) = some e1 ∧ (b e1 (M a) = .nx (E a') (M a') ∨ b e1 (M a) = .cnt (E a') (M a')) ∧ J ds a') : ∀ {xs : List D} {a : A}, J xs a → ∃ a', forL t b xs (E a) (M a) = .nx (E a') (M a') ∧ J [] a'
  | [], a, j => ⟨a, rfl, j⟩
  | d :: ds, a, j => by
    obtain ⟨e1, a', z1, z2, j'⟩ := step d ds a j
    obtain ⟨a2, e2, j2⟩ := forL_go step j'
    refine ⟨a2, ?_, j2⟩
    have run : forL t b (d :: ds) (E a) (M a) = (match setT t d (E a) with
      | none => .stuck
      | some e1 => match b e1 (M a) with
        | .nx e2 h2 => forL t b ds e2 h2
        | .cnt e2 h2 => forL t b ds e2 h2
        | .brk e2 h2 => .nx e2 h2
        | r => r) := rfl
    rw [run, z1]
    simp only
    rcases z2 with z2 | z2 <;> rw [z2] <;> exact e2
section
variable {h t : MH} {xs ys : List D} {d : D}
theorem clL_of {b : Nat} : ∀ {xs : List D}, (∀ x ∈ xs, cl b x = true) → clL b xs = true
  | [], _ => rfl
  | x :: xs, k => by
    show (cl b x && clL b xs) = true
    rw [k x (List.mem_cons_self ..), clL_of fun y hy => k y (List.mem_cons_of_mem _ hy)]
    rfl
theorem mapO_id {f : D → Option D} : ∀ {xs : List D}, (∀ x ∈ xs, f x = some x) → mapO f xs = some xs
  | [], _ => rfl
  | x :: xs, k => by
    simp only [mapO]
    rw [k x (List.mem_cons_self ..)]
    simp only
    rw [mapO_id fun y hy => k y (List.mem_cons_of_mem _ hy)]
theorem clL_mem {b : Nat} : ∀ {xs : List D}, clL b xs = true → ∀ x ∈ xs, cl b x = true
  | y :: ys, k, x, hx => by
    have k : (cl b y && clL b ys) = true := k
    rw [Bool.and_eq_true] at k
    rcases List.mem_cons.mp hx with z | z
    · rw [z]; exact k.1
    · exact clL_mem k.2 x z
theorem fz_cl {b n : Nat} {H : MH} (c : cl b d = true) : fz H b (n + 1) d = some d := by
  unfold fz
  rw [if_pos c]
theorem fin_val (hd : cl h.length d = true) (hc : clH h.length h = true) : fin none h.length d (h ++ t) = .ok d h := by
  unfold fin
  simp only
  by_cases c : (h ++ t).length ≤ h.length
  · rw [if_pos c]
    have : t = [] := by
      rw [List.length_append] at c
      exact List.eq_nil_of_length_eq_zero (by omega)
    rw [this, List.append_nil]
  · rw [if_neg c, fz_cl hd]
    simp only [List.take_left]
    rw [if_pos hc]
theorem fin_ref {j : Nat} (e : t[j]? = some (.lst xs)) (hx : clL h.length xs = true) (hc : clH h.length h = true) : fin none h.length (.ref (h.length + j)) (h ++ t) = .ok (.lst xs) h := by
  have hj := (List.getElem?_eq_some_iff.mp e).1
  unfold fin
  simp only
  rw [if_neg (by rw [List.length_append]; omega)]
  have : fz (h ++ t) h.length 5 (.ref (h.length + j)) = some (.lst xs) := by
    unfold fz
    rw [if_neg (by simp [cl])]
    simp only
    rw [List.getElem?_append_right (by omega), Nat.add_sub_cancel_left, e]
    simp only
    rw [mapO_id fun x hx' => fz_cl (clL_mem hx x hx')]
    rfl
  rw [this]
  simp only [List.take_left]
  rw [if_pos hc]
theorem fin_ref0 (hx : clL h.length xs = true) (hc : clH h.length h = true) : fin none h.length (.ref h.length) (h ++ [.lst xs]) = .ok (.lst xs) h := fin_ref (t := [.lst xs]) (j := 0) rfl hx hc
theorem ext_last (b : xs.length + ys.length ≤ big) : metD .extend (.ref h.length) [.lst ys] (h ++ [.lst xs]) = .ok .non (h ++ [.lst (xs ++ ys)]) := by
  show (match (h ++ [MO.lst xs])[h.length]? with
    | some (.lst xs') => (match lits (h ++ [MO.lst xs]) (.lst ys) with
      | some ys => if xs'.length + ys.length ≤ big then R.ok D.non ((h ++ [MO.lst xs]).set h.length (.lst (xs' ++ ys))) else .stuck
      | none => .stuck)
    | _ => .stuck) = _
  rw [List.getElem?_append_right (Nat.le_refl _), Nat.sub_self]
  show (if xs.length + ys.length ≤ big then R.ok D.non ((h ++ [MO.lst xs]).set h.length (.lst (xs ++ ys))) else .stuck) = _
  rw [if_pos b, List.set_append_right _ _ (Nat.le_refl _), Nat.sub_self]
  rfl
theorem app_last (b : xs.length < big) : metD .append (.ref h.length) [d] (h ++ [.lst xs]) = .ok .non (h ++ [.lst (xs ++ [d])]) := by
  show (match (h ++ [MO.lst xs])[h.length]? with
    | some (.lst xs') => if xs'.length < big then R.ok D.non ((h ++ [MO.lst xs]).set h.length (.lst (xs' ++ [d]))) else .stuck
    | _ => .stuck) = _
  rw [List.getElem?_append_right (Nat.le_refl _), Nat.sub_self]
  show (if xs.length < big then R.ok D.non ((h ++ [MO.lst xs]).set h.length (.lst (xs ++ [d]))) else .stuck) = _
  rw [if_pos b, List.set_append_right _ _ (Nat.le_refl _), Nat.sub_self]
  rfl
theorem tn_last : tnOf (h ++ [.lst xs]) (.ref h.length) = some .list := by
  show (match (h ++ [MO.lst xs])[h.length]? with
    | some (.lst _) => some Tn.list
    | some (.dK false _) => some .dict
    | some (.dT false _) => some .dict
    | _ => none) = _
  rw [List.getElem?_append_right (Nat.le_refl _), Nat.sub_self]
  rfl
def lastO (o : Option D) (xs : List D) : Option D := xs.foldl (fun _ d => some d) o
theorem forL_acc {tg : Tg} {b : Ev → MH → Fl} (E : Option D → Ev) (f : D → List D) : ∀ {zs : List D} {o : Option D} {acc : List D}, (∀ acc o, ∀ d ∈ zs, acc.length + (f d).length ≤ big → ∃ e1, setT tg d (E o) = some e1 ∧ (b e1 (h ++ [.lst acc]) = .nx (E (some d)) (h ++ [.lst (acc ++ f d)]) ∨ b e1 (h ++ [.lst acc]) = .cnt (E (some d)) (h ++ [.lst (acc ++ f d)]))) →
    acc.length + (zs.flatMap f).length ≤ big → forL tg b zs (E o) (h ++ [.lst acc]) = .nx (E (lastO o zs)) (h ++ [.lst (acc ++ zs.flatMap f)])
  | [], o, acc, _, _ => by
    show Fl.nx _ _ = _
    simp [lastO]
  | d :: ds, o, acc, k, hb => by
    rw [List.flatMap_cons, List.length_append] at hb
    obtain ⟨e1, z1, z2⟩ := k acc o d (List.mem_cons_self ..) (by omega)
    have run : forL tg b (d :: ds) (E o) (h ++ [.lst acc]) = (match setT tg d (E o) with
      | none => .stuck
      | some e1 => match b e1 (h ++ [.lst acc]) with
        | .nx e2 h2 => forL tg b ds e2 h2
        | .cnt e2 h2 => forL tg b ds e2 h2
        | .brk e2 h2 => .nx e2 h2
        | r => r) := rfl
    rw [run, z1]
    have ih := forL_acc (tg := tg) (b := b) E f (zs := ds) (o := some d) (acc := acc ++ f d) (fun acc o d hd => k acc o d (List.mem_cons_of_mem _ hd)) (by rw [List.length_append]; omega)
    have e : forL tg b ds (E (some d)) (h ++ [.lst (acc ++ f d)]) = .nx (E (lastO o (d :: ds))) (h ++ [.lst (acc ++ (d :: ds).flatMap f)]) := by
      rw [ih, List.flatMap_cons, List.append_assoc]
      rfl
    simp only
    rcases z2 with z2 | z2 <;> rw [z2] <;> exact e
theorem items_last : items (h ++ [.lst xs]) (.ref h.length) = some xs := by
  have e : (h ++ [MO.lst xs])[h.length]? = some (.lst xs) := by
    rw [List.getElem?_append_right (Nat.le_refl _), Nat.sub_self]
    rfl
  unfold items
  simp only [e]
theorem tuple_last : prim1 .tuple (.ref h.length) (h ++ [.lst xs]) = .ok (.tup xs) (h ++ [.lst xs]) := by
  show tupleD (.ref h.length) (h ++ [.lst xs]) = _
  unfold tupleD
  rw [items_last]
def cellsRow (C : Nat) (d : D) : List D := (rngL C).map fun x => .tup [d, x]
def cellsD (R C : Nat) : List D := (rngL R).flatMap (cellsRow C)
theorem cellsRow_len (C : Nat) (d : D) : (cellsRow C d).length = C := by simp [cellsRow]
theorem flat_len (C : Nat) : ∀ (ds : List D), (ds.flatMap (cellsRow C)).length = ds.length * C
  | [] => by simp
  | d :: ds => by
    rw [List.flatMap_cons, List.length_append, flat_len C ds, cellsRow_len, List.length_cons, Nat.succ_mul]
    omega
theorem cellsD_cl (b R C : Nat) : clL b (cellsD R C) = true := clL_of fun x hx => by
  unfold cellsD cellsRow at hx
  simp only [List.mem_flatMap, List.mem_map] at hx
  obtain ⟨d, hd, j, hj, rfl⟩ := hx
  obtain ⟨_, _, rfl⟩ := rngL_mem hd
  obtain ⟨_, _, rfl⟩ := rngL_mem hj
  rfl
end
section
variable {P : Nat → Option FI} {n : Nat} {h : MH}
def cellsBody (nm : Str) : S :=
 (.cons (.asg (.nm 1) (.lst true .nil))
 (.cons (.forS (.nm 2) (.rng1 (.prim .len (.cons (.var 0) .nil)))
  (.cons (.ex (.meth (.var 1) .extend (.cons (.lc false (.nm 3) (.rng1 (.prim .len (.cons (.idx (.var 0) (.int 0)) .nil))) (.bl true) (.tup (.cons (.var 2) (.cons (.var 3) .nil))) [(nm, 3)]) .nil)))
   .nil))
 (.cons (.ret (.var 1))
 .nil)))
theorem cells_run (f : Nat) (i : FI) (hi : P f = some i) (hnp : i.np = 1) (hnn : i.nn = 4) (hk : i.keep = none) (nm : Str) (hb : i.body = cellsBody nm) (x : D) (rows cols : List D) (hx : x = .tup rows) (hr : rows.length ≤ 100) (hr0 : 1 ≤ rows.length) (h0 : fst0 rows = .tup cols) (hcl : cols.length ≤ 100) (hc : clH h.length h = true) :
    callN P (n + 1) f [x] h = .ok (.lst (cellsD rows.length cols.length)) h := by
  subst hx
  rw [callN_run hi n [.tup rows] h (by rw [hnp]; rfl), hb, hk, hnn]
  have z0 : atI rows 0 = some (fst0 rows) := by
    cases rows with
    | nil => simp at hr0
    | cons a b => rfl
  simp [cellsBody, rngM_nat _ (show rows.length ≤ 10000 by omega)]
  rw [forL_acc (fun o => [some (.tup rows), some (.ref h.length), o, none]) (cellsRow cols.length) (fun acc o d hd hb => ⟨_, rfl, .inl ?_⟩) ?_]
  · simp
    exact fin_ref0 (cellsD_cl _ _ _) hc
  · rw [flat_len]
    simp
    unfold big
    have : rows.length * cols.length ≤ 100 * 100 := Nat.mul_le_mul hr hcl
    omega
  · simp [tn_last, recvT, idx_tup _ _ _ z0, h0, rngM_nat _ (show cols.length ≤ 10000 by omega)]
    rw [lc_nm (fun x => .tup [d, x]) fun x hx => by simp]
    rw [cellsRow_len] at hb
    have e : (rngL cols.length).map (fun x => .tup [d, x]) = cellsRow cols.length d := rfl
    rw [e]
    simp [ext_last (show acc.length + (cellsRow cols.length d).length ≤ big by rw [cellsRow_len]; exact hb)]
end
end Mi
namespace Mi
open PySem
section
variable {P : Nat → Option FI} {n : Nat} {h r : MH}
def clR (r : MH) : Prop := clH (r.length + 1) r = true
theorem clR.tw (c : clR r) (a b : Int) : clH (tw a b :: r).length (tw a b :: r) = true := by
  show (clO (r.length + 1) (Mi.tw a b) && clH (r.length + 1) r) = true
  rw [show clO (r.length + 1) (Mi.tw a b) = true from rfl, c]
  rfl
theorem mem_atI {xs : List D} {d : Int} (h0 : 0 ≤ d) (h1 : d < xs.length) : ∃ x, atI xs d = some x ∧ x ∈ xs := by
  have hl : d.toNat < xs.length := by omega
  exact ⟨xs[d.toNat], atI_int xs d _ h0 (List.getElem?_eq_getElem hl), List.getElem_mem hl⟩
theorem pick_spec (h117 : P 117 = some fi_law_draw) (h118 : P 118 = some fi_law_pick) (ns : List Int) (a b : Int) (xs : List D) (ha : 0 ≤ a) (hb : 0 ≤ b) (hx : 0 < xs.length) (hx2 : xs.length < 2 ^ 60) : ∃ x a' b', x ∈ xs ∧ 0 ≤ a' ∧ 0 ≤ b' ∧
    ∀ r : MH, callN P (n + 2) 118 [.scr ns, .ref 0, .lst xs] (tw a b :: r) = .ok x (tw a' b' :: r) := by
  obtain ⟨d, a', b', d0, d1, a0, b0, e⟩ := draw_spec (n := n) h117 ns a b (xs.length : Int) ha hb (by omega) (by omega)
  obtain ⟨x, e1, m⟩ := mem_atI d0 d1
  refine ⟨x, a', b', m, a0, b0, fun r => ?_⟩
  rw [callN_run h118 (n + 1) _ _ rfl]
  simp [fi_law_pick, e r, idx_lst _ _ _ e1]
def rowD (ys : List Int) : D := .tup (ys.map D.int)
def tabD (rows : List (List Int)) : D := .tup (rows.map rowD)
def RowIn (C : Nat) (top : Int) (ys : List Int) : Prop := ys.length = C ∧ ∀ y ∈ ys, 0 ≤ y ∧ y < top
structure TabIn (R C : Nat) (top : Int) (rows : List (List Int)) : Prop where
  len : rows.length = R
  row : ∀ ys ∈ rows, RowIn C top ys
theorem ints_of {top : Int} : ∀ {xs : List D}, (∀ x ∈ xs, ∃ i : Int, x = .int i ∧ 0 ≤ i ∧ i < top) → ∃ ys : List Int, xs = ys.map D.int ∧ ∀ y ∈ ys, 0 ≤ y ∧ y < top
  | [], _ => ⟨[], rfl, fun _ h => nomatch h⟩
  | x :: xs, k => by
    obtain ⟨i, rfl, h0, h1⟩ := k x (List.mem_cons_self ..)
    obtain ⟨ys, rfl, q⟩ := ints_of fun y hy => k y (List.mem_cons_of_mem _ hy)
    exact ⟨i :: ys, rfl, fun y hy => by
      rcases List.mem_cons.mp hy with z | z
      · rw [z]; exact ⟨h0, h1⟩
      · exact q y z⟩
theorem rows_of {C : Nat} {top : Int} : ∀ {xs : List D}, (∀ x ∈ xs, ∃ ys, x = rowD ys ∧ RowIn C top ys) → ∃ rows : List (List Int), xs = rows.map rowD ∧ ∀ y ∈ rows, RowIn C top y
  | [], _ => ⟨[], rfl, fun _ h => nomatch h⟩
  | x :: xs, k => by
    obtain ⟨i, rfl, h0⟩ := k x (List.mem_cons_self ..)
    obtain ⟨ys, rfl, q⟩ := rows_of fun y hy => k y (List.mem_cons_of_mem _ hy)
    exact ⟨i :: ys, rfl, fun y hy => by
      rcases List.mem_cons.mp hy with z | z
      · rw [z]; exact h0
      · exact q y z⟩
theorem row_cl (b : Nat) (ys : List Int) : cl b (rowD ys) = true := clL_of fun x hx => by
  obtain ⟨i, _, rfl⟩ := List.mem_map.mp hx
  rfl
theorem tab_cl (b : Nat) (rows : List (List Int)) : cl b (tabD rows) = true := clL_of fun x hx => by
  obtain ⟨i, _, rfl⟩ := List.mem_map.mp hx
  exact row_cl b i
theorem sized_spec (h117 : P 117 = some fi_law_draw) (h120 : P 120 = some fi_law_sized) (ns : List Int) (a b : Int) (R C : Nat) (top : Int) (ha : 0 ≤ a) (hb : 0 ≤ b) (hR : R ≤ 100) (hC : C ≤ 100) (ht : 0 < top) (ht2 : top < 2 ^ 60) (hc : clR r) :
    ∃ rows a' b', TabIn R C top rows ∧ 0 ≤ a' ∧ 0 ≤ b' ∧ callN P (n + 2) 120 [.scr ns, .ref 0, .int R, .int C, .int top] (tw a b :: r) = .ok (tabD rows) (tw a' b' :: r) := by
  rw [callN_run h120 (n + 1) _ _ rfl]
  simp [fi_law_sized, rngM_nat _ (show R ≤ 10000 by omega)]
  have go := forL_go (t := .nm 6) (b := exS (callN P (n + 1)) WF
    (.cons (.ex (.meth (.var 5) .append (.cons (.prim .tuple (.cons (.lc false (.nm 7) (.rng1 (.var 3)) (.bl true) (.call 117 (.cons (.var 0) (.cons (.var 1) (.cons (.var 4) .nil)))) [((Str.ofString "_law_to"), 7)]) .nil)) .nil))) .nil))
    (E := fun (s : Int × Int × List D × Option D) => [some (.scr ns), some (.ref 0), some (.int R), some (.int C), some (.int top), some (.ref (r.length + 1)), s.2.2.2, none])
    (M := fun s => tw s.1 s.2.1 :: (r ++ [.lst s.2.2.1]))
    (J := fun ds s => 0 ≤ s.1 ∧ 0 ≤ s.2.1 ∧ s.2.2.1.length + ds.length = R ∧ ∀ x ∈ s.2.2.1, ∃ ys, x = rowD ys ∧ RowIn C top ys)
    (fun d ds s j => ?_) (xs := rngL R) (a := (a, b, [], none)) ⟨ha, hb, by simp, fun _ h => nomatch h⟩
  · obtain ⟨⟨a', b', acc, o⟩, e, j1, j2, j3, j4⟩ := go
    simp only at e j1 j2 j3 j4
    obtain ⟨rows, rfl, hrow⟩ := rows_of j4
    have l : rows.length = R := by simpa using j3
    refine ⟨rows, ⟨l, hrow⟩, a', j1, b', j2, ?_⟩
    rw [e]
    have tl := tuple_last (h := tw a' b' :: r) (xs := rows.map rowD)
    simp only [List.length_cons, List.cons_append] at tl
    simp [tl]
    exact fin_val (h := tw a' b' :: r) (t := [.lst (rows.map rowD)]) (tab_cl _ _) (hc.tw a' b')
  · obtain ⟨a1, b1, acc, o⟩ := s
    obtain ⟨j1, j2, j3, j4⟩ := j
    simp only at j1 j2 j3 j4
    obtain ⟨ys, ⟨a2, b2⟩, e, ⟨i1, i2⟩, l, q⟩ := lcL_inv (mkH := fun p : Int × Int => tw p.1 p.2 :: (r ++ [.lst acc])) (I := fun p => 0 ≤ p.1 ∧ 0 ≤ p.2) (Q := fun x => ∃ i : Int, x = .int i ∧ 0 ≤ i ∧ i < top)
      (f := lcB (.nm 7) (evE (callN P (n + 1)) (.bl true)) (evE (callN P (n + 1)) (.call 117 (.cons (.var 0) (.cons (.var 1) (.cons (.var 4) .nil))))) [some (.scr ns), some (.ref 0), some (.int R), some (.int C), some (.int top), some (.ref (r.length + 1)), some d, none]) (xs := rngL C) (a := (a1, b1))
      (fun d' hd p ip => by
        obtain ⟨x, a', b', x0, x1, a0, b0, e⟩ := draw_spec (n := n) h117 ns p.1 p.2 top ip.1 ip.2 ht ht2
        refine ⟨.int x, (a', b'), ?_, ⟨a0, b0⟩, x, rfl, x0, x1⟩
        rw [lcB_eq]
        simp only [setT_nm]
        show lcK (fun h => .ok (.bl true) h) _ _ = _
        rw [lcK_true]
        simp [e]) ⟨j1, j2⟩
    obtain ⟨zs, rfl, hz⟩ := ints_of q
    refine ⟨_, (a2, b2, acc ++ [rowD zs], some d), rfl, .inl ?_, i1, i2, ?_, ?_⟩
    · have tn := tn_last (h := tw a1 b1 :: r) (xs := acc)
      have ap := app_last (h := tw a2 b2 :: r) (xs := acc) (d := rowD zs) (by unfold big; simp at j3; omega)
      simp only [List.length_cons, List.cons_append] at tn ap
      simp only at e
      simp [tn, recvT, rngM_nat _ (show C ≤ 10000 by omega), lcR, e]
      exact by rw [show D.tup (zs.map D.int) = rowD zs from rfl, ap]; rfl
    · simp at j3 ⊢
      omega
    · intro x hx
      rcases List.mem_append.mp hx with hx | hx
      · exact j4 x hx
      · rw [List.mem_singleton.mp hx]
        exact ⟨zs, rfl, by simpa using l, hz⟩
end
end Mi
namespace Mi
open PySem
theorem intT_map (ys : List Int) : (ys.map D.int).map intT = ys := by
  rw [List.map_map]
  exact List.map_id' _ |>.symm ▸ by
    induction ys with
    | nil => rfl
    | cons y ys ih => simp [intT, ih]
theorem sumT_row (ys : List Int) : sumT (rowD ys) = ys.sum := by
  show ((ys.map D.int).map intT).sum = _
  rw [intT_map]
theorem tab_tableS {R C : Nat} {top : Int} {rows : List (List Int)} (t : TabIn R C top rows) (hR : 1 ≤ R) (hR2 : R ≤ 5) (hC : 1 ≤ C) (hC2 : C ≤ 5) (ht : top ≤ 10000) (hs : (rows.map List.sum).sum ≤ 9999) : tableB (tabD rows) = true := by
  have hl := t.len
  have hf : fst0 (rows.map rowD) = rowD (rows.headD []) := by
    cases rows with
    | nil => simp at hl; omega
    | cons a b => rfl
  have hfl : (rows.headD []).length = C := by
    cases rows with
    | nil => simp at hl; omega
    | cons a b => exact (t.row a (List.mem_cons_self ..)).1
  have lr : ∀ ys : List Int, lenT (rowD ys) = ys.length := fun ys => by show (ys.map D.int).length = _; simp
  have sh : shapeB (tabD rows) = true := by
    unfold shapeB
    show (isTu (.tup (rows.map rowD)) && (decide (1 ≤ lenT (.tup (rows.map rowD))) && decide (lenT (.tup (rows.map rowD)) ≤ 5)) && allB rowB (rows.map rowD) && allB (fun r => decide (lenT r = lenT (fst0 (rows.map rowD)))) (rows.map rowD)) = true
    simp only [isTu, lenT_tup, List.length_map, hl, hR, hR2, decide_true, Bool.true_and, Bool.and_true, allB, List.all_map, Bool.and_eq_true, List.all_eq_true, Function.comp_apply, decide_eq_true_eq, hf, lr, hfl]
    refine ⟨fun ys hy => ?_, fun ys hy => (t.row ys hy).1⟩
    have := (t.row ys hy).1
    simp [rowB, lr, this, hC, hC2]
    rfl
  unfold tableB
  rw [sh]
  show (true && allB (fun r => allB (fun x => whole x 0 9999) (itemsT r)) (rows.map rowD) && decide (((rows.map rowD).map sumT).sum ≤ 9999)) = true
  have e : (rows.map rowD).map sumT = rows.map List.sum := by
    rw [List.map_map]
    exact List.map_congr_left fun ys _ => sumT_row ys
  rw [e]
  simp only [Bool.true_and, Bool.and_eq_true, decide_eq_true_eq, allB, List.all_map, List.all_eq_true, Function.comp_apply]
  refine ⟨fun ys hy x hx => ?_, by omega⟩
  have hx : x ∈ ys.map D.int := hx
  obtain ⟨i, hi, rfl⟩ := List.mem_map.mp hx
  obtain ⟨i0, i1⟩ := (t.row ys hy).2 i hi
  simp only [whole, Bool.and_eq_true, decide_eq_true_eq]
  omega
section
variable {h : MH}
variable {P : Nat → Option FI} {n : Nat}
end
end Mi
namespace Mi
open PySem
end Mi
namespace Mi
open PySem
abbrev Tab := List (List Int)
def gridH (rows : Tab) : MH := rows.map fun ys => MO.lst (ys.map D.int)
def refs (b k : Nat) : List D := (List.range' b k).map D.ref
@[simp] theorem gridH_len (rows : Tab) : (gridH rows).length = rows.length := by simp [gridH]
@[simp] theorem refs_len (b k : Nat) : (refs b k).length = k := by simp [refs]
def addAt (rows : Tab) (i j : Nat) (v : Int) : Tab := rows.set i ((rows.getD i []).set j ((rows.getD i []).getD j 0 + v))
theorem grid_at {h t : MH} {rows : Tab} {i : Nat} (hi : i < rows.length) : (h ++ (gridH rows ++ t))[h.length + i]? = some (.lst (rows[i].map D.int)) := by
  rw [List.getElem?_append_right (by omega), Nat.add_sub_cancel_left, List.getElem?_append_left (by simpa using hi)]
  simp [gridH, hi]
theorem augI_of {H : MH} {n : Nat} {xs : List D} {i x : Int} (e : H[n]? = some (.lst xs)) (a : atI xs i = some (.int x)) : augI (.ref n) (.int i) H = some x := by
  unfold augI idxD
  simp only [isRef, if_true, e, idxI, Option.bind, a, isInt]
theorem ixN_nat {n j : Nat} (h : j < n) : ixN n (j : Int) = some j := by
  unfold ixN
  split <;> (try omega)
  all_goals (simp; try omega)
theorem subD_of {H : MH} {n : Nat} {xs : List D} {j : Nat} {v : D} (e : H[n]? = some (.lst xs)) (hj : j < xs.length) : subD (.ref n) (.int (j : Int)) v H = some (H.set n (.lst (xs.set j v))) := by
  unfold subD subL
  simp only [e, ixN_nat hj, Option.map]
theorem grid_set {h t : MH} {rows : Tab} {i : Nat} (ys : List Int) (hi : i < rows.length) : (h ++ (gridH rows ++ t)).set (h.length + i) (.lst (ys.map D.int)) = h ++ (gridH (rows.set i ys) ++ t) := by
  rw [List.set_append_right (h := by omega), Nat.add_sub_cancel_left, List.set_append_left (h := by simpa using hi)]
  simp [gridH, List.map_set]
theorem addAt_eq {rows : Tab} {i j : Nat} {v : Int} (hi : i < rows.length) (hj : j < rows[i].length) : addAt rows i j v = rows.set i (rows[i].set j (rows[i][j] + v)) := by
  unfold addAt
  simp [List.getD, hi, hj]
theorem grid_add {h t : MH} {rows : Tab} {i j : Nat} {v : Int} {e : Ev} (hi : i < rows.length) (hj : j < rows[i].length) : augW .add rows[i][j] (.ref (h.length + i)) (.int (j : Int)) (.int v) e (h ++ (gridH rows ++ t)) = .nx e (h ++ (gridH (addAt rows i j v) ++ t)) := by
  unfold augW augO
  simp only [isInt, bop_add, subD_of (grid_at hi) (show j < (rows[i].map D.int).length by simpa using hj)]
  rw [show (rows[i].map D.int).set j (.int (rows[i][j] + v)) = (rows[i].set j (rows[i][j] + v)).map D.int by rw [List.map_set], grid_set _ hi, addAt_eq hi hj]
theorem grid_sub {h t : MH} {rows : Tab} {i j : Nat} {v : Int} {e : Ev} (hi : i < rows.length) (hj : j < rows[i].length) : augW .sub rows[i][j] (.ref (h.length + i)) (.int (j : Int)) (.int v) e (h ++ (gridH rows ++ t)) = .nx e (h ++ (gridH (addAt rows i j (-v)) ++ t)) := by
  unfold augW augO
  simp only [isInt, bop_sub, subD_of (grid_at hi) (show j < (rows[i].map D.int).length by simpa using hj)]
  rw [show (rows[i].map D.int).set j (.int (rows[i][j] - v)) = (rows[i].set j (rows[i][j] - v)).map D.int by rw [List.map_set], grid_set _ hi, addAt_eq hi hj, Int.sub_eq_add_neg]
theorem grid_augI {h t : MH} {rows : Tab} {i j : Nat} (hi : i < rows.length) (hj : j < rows[i].length) : augI (.ref (h.length + i)) (.int (j : Int)) (h ++ (gridH rows ++ t)) = some (rows[i][j]) := augI_of (grid_at hi) (atI_nat _ j _ (by simp [hj]))
end Mi
namespace Mi
open PySem
section
variable {P : Nat → Option FI} {n : Nat} {h : MH}
def mv (rows : Tab) (r s c d : Nat) (m : Int) : Tab := addAt (addAt (addAt (addAt rows r c m) s d m) r d (-m)) s c (-m)
theorem addAt_len (rows : Tab) (i j : Nat) (v : Int) : (addAt rows i j v).length = rows.length := by simp [addAt]
end
end Mi
namespace Mi
open PySem
def at2 (rows : Tab) (i j : Nat) : Int := (rows.getD i []).getD j 0
def i1 (a b : Nat) : Int := if a = b then 1 else 0
theorem addAt_rows {C : Nat} {rows : Tab} (lc : ∀ k < rows.length, (rows.getD k []).length = C) (i j : Nat) (v : Int) : ∀ k < (addAt rows i j v).length, ((addAt rows i j v).getD k []).length = C := by
  intro k hk
  rw [addAt_len] at hk
  have := lc k hk
  unfold addAt
  by_cases e : k = i
  · subst e
    simp [List.getD, hk] at this ⊢
    exact this
  · simp [List.getD, List.getElem?_set, show ¬ i = k from fun q => e q.symm] at this ⊢
    exact this
end Mi
namespace Mi
open PySem
theorem grid_st {C : Nat} {h : MH} {rs : Tab} (q : ∀ k < rs.length, (rs.getD k []).length = C) {i j : Nat} {v : Int} {e : Ev} (hi : i < rs.length) (hj : j < C) : augI (.ref (h.length + i)) (.int (j : Int)) (h ++ gridH rs) = some (at2 rs i j) ∧ augW .add (at2 rs i j) (.ref (h.length + i)) (.int (j : Int)) (.int v) e (h ++ gridH rs) = .nx e (h ++ gridH (addAt rs i j v)) ∧ augW .sub (at2 rs i j) (.ref (h.length + i)) (.int (j : Int)) (.int v) e (h ++ gridH rs) = .nx e (h ++ gridH (addAt rs i j (-v))) := by
  have l := q i hi
  rw [show rs.getD i [] = rs[i] by simp [List.getD, hi]] at l
  have hj' : j < rs[i].length := by omega
  have e2 : at2 rs i j = rs[i][j] := by simp [at2, List.getD, hi, hj']
  have a1 := grid_augI (h := h) (t := []) hi hj'
  have a2 := grid_add (h := h) (t := []) (v := v) (e := e) hi hj'
  have a3 := grid_sub (h := h) (t := []) (v := v) (e := e) hi hj'
  rw [List.append_nil] at a1 a2 a3
  rw [List.append_nil] at a2 a3
  rw [e2]
  exact ⟨a1, a2, a3⟩
end Mi
namespace Mi
open PySem
section
variable {P : Nat → Option FI} {n : Nat}
end
end Mi
namespace Mi
def okE (K : Nat → Bool) : E → Bool
  | .call f es => K f && okE K es
  | .omet o _ _ f es => K f && okE K o && okE K es
  | .callV fs a es => fs.all K && okE K a && okE K es
  | .mkI _ f es => K f && okE K es
  | .lenO o _ _ f => K f && okE K o
  | .eqO _ a b _ _ f => K f && okE K a && okE K b
  | .isX a _ => okE K a
  | .cons a r => okE K a && okE K r
  | .tup es => okE K es
  | .lst _ es => okE K es
  | .bin _ _ a b => okE K a && okE K b
  | .neg a => okE K a
  | .cmp _ a b => okE K a && okE K b
  | .chain _ _ a b c => okE K a && okE K b && okE K c
  | .and a b => okE K a && okE K b
  | .or a b => okE K a && okE K b
  | .not a => okE K a
  | .ifx c a b => okE K c && okE K a && okE K b
  | .idx a i => okE K a && okE K i
  | .sl _ a lo hi => okE K a && okE K lo && okE K hi
  | .rev _ a => okE K a
  | .prim _ es => okE K es
  | .isI a _ => okE K a
  | .meth o _ es => okE K o && okE K es
  | .fld o _ _ _ => okE K o
  | .lc _ _ it c e _ => okE K it && okE K c && okE K e
  | .zipL _ a b => okE K a && okE K b
  | .gen a => okE K a
  | .rng1 a => okE K a
  | .rng2 a b => okE K a && okE K b
  | .enum a => okE K a
  | .zip a b => okE K a && okE K b
  | _ => true
def okS (K : Nat → Bool) : S → Bool
  | .cons a b => okS K a && okS K b
  | .asg _ e => okE K e
  | .sub o i e => okE K o && okE K i && okE K e
  | .fld o _ _ _ e => okE K o && okE K e
  | .aug _ _ e => okE K e
  | .augS o i _ e => okE K o && okE K i && okE K e
  | .ex e => okE K e
  | .ret e => okE K e
  | .ifS c a b => okE K c && okS K a && okS K b
  | .whl c b => okE K c && okS K b
  | .forS _ it b => okE K it && okS K b
  | .forD _ _ b => okS K b
  | .raise _ e => okE K e
  | .tryS k _ f _ b => (decide (k ≠ 0) || K f) && okS K b
  | _ => true
section
variable {K : Nat → Bool} {ft gt : FT} (ag : ∀ f, K f = true → ft f = gt f)
include ag
theorem evAgree : ∀ x : E, okE K x = true → (evE ft x = evE gt x) ∧ (evA ft x = evA gt x) ∧ (evI ft x = evI gt x) := by
  intro x
  induction x with
  | call f es ih =>
    intro h
    simp only [okE, Bool.and_eq_true] at h
    obtain ⟨h1, h2⟩ := h
    obtain ⟨_, a, _⟩ := ih h2
    refine ⟨?_, ?_, ?_⟩ <;> (funext e h; simp only [evE, evA, evI, a, ag f h1])
  | callV fs a es i1 i2 =>
    intro h
    simp only [okE, Bool.and_eq_true] at h
    obtain ⟨⟨h1, h2⟩, h3⟩ := h
    obtain ⟨a', _, _⟩ := i1 h2
    obtain ⟨_, b, _⟩ := i2 h3
    have k : ∀ x p, fnOf fs x = some p → ft p.1 = gt p.1 := by
      intro x p e
      cases x with
      | fn f dl =>
        unfold fnOf at e
        by_cases c : fs.contains f = true
        · simp only [if_pos c] at e
          cases e
          exact ag f (List.all_eq_true.mp h1 f (by simpa using c))
        · simp only [if_neg c] at e; cases e
      | _ => cases e
    have go : evE ft (.callV fs a es) = evE gt (.callV fs a es) := by
      funext e m
      simp only [evE, a', b]
      cases evE gt a e m with
      | ok x m1 =>
        show (match fnOf fs x with
          | some p => (evA gt es e m1).bind fun ds h => ft p.1 (ds ++ p.2.map D.int) h
          | none => .stuck) = (match fnOf fs x with
          | some p => (evA gt es e m1).bind fun ds h => gt p.1 (ds ++ p.2.map D.int) h
          | none => .stuck)
        cases z : fnOf fs x with
        | none => rfl
        | some p => simp only [k x p z]
      | _ => rfl
    exact ⟨go, by funext e m; simp only [evA], by funext e m; simp only [evI]⟩
  | mkI c f es i1 =>
    intro h
    simp only [okE, Bool.and_eq_true] at h
    obtain ⟨h1, h2⟩ := h
    obtain ⟨_, b, _⟩ := i1 h2
    refine ⟨?_, ?_, ?_⟩ <;> (funext e h; simp only [evE, evA, evI, b, mkN, ag f h1])
  | lenO o x c f i1 =>
    intro h
    simp only [okE, Bool.and_eq_true] at h
    obtain ⟨h1, h2⟩ := h
    obtain ⟨b, _, _⟩ := i1 h2
    refine ⟨?_, ?_, ?_⟩ <;> (funext e h; simp only [evE, evA, evI, b, ag f h1])
  | eqO n a b x c f i1 i2 =>
    intro h
    simp only [okE, Bool.and_eq_true] at h
    obtain ⟨⟨h1, h2⟩, h3⟩ := h
    obtain ⟨x1, _, _⟩ := i1 h2
    obtain ⟨x2, _, _⟩ := i2 h3
    refine ⟨?_, ?_, ?_⟩ <;> (funext e h; simp only [evE, evA, evI, x1, x2, ag f h1])
  | omet o x c f es i1 i2 =>
    intro h
    simp only [okE, Bool.and_eq_true] at h
    obtain ⟨⟨h1, h2⟩, h3⟩ := h
    obtain ⟨a, _, _⟩ := i1 h2
    obtain ⟨_, b, _⟩ := i2 h3
    refine ⟨?_, ?_, ?_⟩ <;> (funext e h; simp only [evE, evA, evI, a, b, ag f h1])
  | lc m t it c el own i1 i2 i3 =>
    intro h
    simp only [okE, Bool.and_eq_true] at h
    obtain ⟨⟨h1, h2⟩, h3⟩ := h
    obtain ⟨_, _, a⟩ := i1 h1
    obtain ⟨b, _, _⟩ := i2 h2
    obtain ⟨c', _, _⟩ := i3 h3
    refine ⟨?_, ?_, ?_⟩ <;> (funext e h; simp only [evE, evA, evI, a, b, c'])
  | chain o p a b c i1 i2 i3 =>
    intro h
    simp only [okE, Bool.and_eq_true] at h
    obtain ⟨⟨h1, h2⟩, h3⟩ := h
    obtain ⟨x1, y1, z1⟩ := i1 h1
    obtain ⟨x2, y2, z2⟩ := i2 h2
    obtain ⟨x3, y3, z3⟩ := i3 h3
    refine ⟨?_, ?_, ?_⟩ <;> (funext e h; simp only [evE, evA, evI, x1, x2, x3])
  | ifx a b c i1 i2 i3 =>
    intro h
    simp only [okE, Bool.and_eq_true] at h
    obtain ⟨⟨h1, h2⟩, h3⟩ := h
    obtain ⟨x1, y1, z1⟩ := i1 h1
    obtain ⟨x2, y2, z2⟩ := i2 h2
    obtain ⟨x3, y3, z3⟩ := i3 h3
    refine ⟨?_, ?_, ?_⟩ <;> (funext e h; simp only [evE, evA, evI, x1, x2, x3])
  | sl m a b c i1 i2 i3 =>
    intro h
    simp only [okE, Bool.and_eq_true] at h
    obtain ⟨⟨h1, h2⟩, h3⟩ := h
    obtain ⟨x1, y1, z1⟩ := i1 h1
    obtain ⟨x2, y2, z2⟩ := i2 h2
    obtain ⟨x3, y3, z3⟩ := i3 h3
    refine ⟨?_, ?_, ?_⟩ <;> (funext e h; simp only [evE, evA, evI, x1, y2, y3])
  | cons a b i1 i2 | bin _ _ a b i1 i2 | cmp _ a b i1 i2 | and a b i1 i2 | or a b i1 i2 | idx a b i1 i2 | meth a _ b i1 i2 | zipL _ a b i1 i2 | rng2 a b i1 i2 | zip a b i1 i2 =>
    intro h
    simp only [okE, Bool.and_eq_true] at h
    obtain ⟨h1, h2⟩ := h
    obtain ⟨x1, y1, z1⟩ := i1 h1
    obtain ⟨x2, y2, z2⟩ := i2 h2
    refine ⟨?_, ?_, ?_⟩ <;> (funext e h; simp only [evE, evA, evI, x1, x2, y1, y2, z1, z2])
  | tup a i1 | lst _ a i1 | neg a i1 | not a i1 | rev _ a i1 | prim _ a i1 | isI a _ i1 | fld a _ _ _ i1 | isX a _ i1 | gen a i1 | rng1 a i1 | enum a i1 =>
    intro h
    simp only [okE] at h
    obtain ⟨x1, y1, z1⟩ := i1 h
    refine ⟨?_, ?_, ?_⟩ <;> (funext e h; simp only [evE, evA, evI, x1, y1, z1])
  | _ =>
    intro _
    refine ⟨?_, ?_, ?_⟩ <;> (funext e h; simp only [evE, evA, evI])
theorem exAgree (W : Nat) : ∀ x : S, okS K x = true → exS ft W x = exS gt W x := by
  intro x
  induction x with
  | cons a b i1 i2 =>
    intro h
    simp only [okS, Bool.and_eq_true] at h
    funext e m
    simp only [exS, i1 h.1, i2 h.2]
  | ifS c a b i1 i2 =>
    intro h
    simp only [okS, Bool.and_eq_true] at h
    obtain ⟨⟨h1, h2⟩, h3⟩ := h
    funext e m
    simp only [exS, i1 h2, i2 h3, (evAgree ag c h1).1]
  | whl c b i1 =>
    intro h
    simp only [okS, Bool.and_eq_true] at h
    funext e m
    simp only [exS, i1 h.2, (evAgree ag c h.1).1]
  | forS t it b i1 =>
    intro h
    simp only [okS, Bool.and_eq_true] at h
    funext e m
    simp only [exS, i1 h.2, (evAgree ag it h.1).2.2]
  | forD t i b i1 =>
    intro h
    simp only [okS] at h
    funext e m
    simp only [exS, i1 h]
  | tryS k i f x b i1 =>
    intro h
    simp only [okS, Bool.and_eq_true, Bool.or_eq_true, decide_eq_true_eq] at h
    funext e m
    simp only [exS, i1 h.2]
    cases exS gt W b e m with
    | exn c p h1 =>
      rcases h.1 with z | z
      · cases k with
        | zero => exact absurd rfl z
        | succ k => cases k <;> rfl
      · simp only [tryM, ag f z]
    | _ => rfl
  | asg _ x | aug _ _ x | ex x | ret x | raise _ x =>
    intro h
    simp only [okS] at h
    funext e m
    simp only [exS, (evAgree ag x h).1, (evAgree ag x h).2.1]
  | fld o _ _ _ x =>
    intro h
    simp only [okS, Bool.and_eq_true] at h
    funext e m
    simp only [exS, (evAgree ag o h.1).1, (evAgree ag x h.2).1]
  | sub o i x =>
    intro h
    simp only [okS, Bool.and_eq_true] at h
    funext e m
    simp only [exS, (evAgree ag o h.1.1).1, (evAgree ag i h.1.2).1, (evAgree ag x h.2).1]
  | augS o i _ x =>
    intro h
    simp only [okS, Bool.and_eq_true] at h
    funext e m
    simp only [exS, (evAgree ag o h.1.1).1, (evAgree ag i h.1.2).1, (evAgree ag x h.2).1]
  | _ =>
    intro _
    funext e m
    simp only [exS]
end
theorem callAgree {K : Nat → Bool} {P Q : Nat → Option FI} (eq : ∀ f, K f = true → P f = Q f) (cl : ∀ f i, K f = true → P f = some i → okS K i.body = true) : ∀ (n f : Nat), K f = true → callN P n f = callN Q n f
  | 0, _, _ => rfl
  | n + 1, f, k => by
    funext as h
    unfold callN
    rw [← eq f k]
    cases z : P f with
    | none => rfl
    | some i => simp only [exAgree (fun g hg => callAgree eq cl n g hg) WF i.body (cl f i k z)]
def AllEq (P Q : Nat → Option FI) : List Nat → Prop
  | [] => True
  | k :: r => P k = Q k ∧ AllEq P Q r
theorem AllEq.mem {P Q : Nat → Option FI} : ∀ {l : List Nat}, AllEq P Q l → ∀ f ∈ l, P f = Q f
  | k :: r, h, f, m => by
    rcases List.mem_cons.mp m with z | z
    · rw [z]; exact h.1
    · exact AllEq.mem h.2 f z
def closedB (P : Nat → Option FI) (l : List Nat) : Bool := l.all fun f => match P f with
  | some i => okS (fun g => l.contains g) i.body
  | none => true
theorem part_eq {P Q : Nat → Option FI} (l : List Nat) (e : AllEq P Q l) (c : closedB P l = true) (n f : Nat) (hf : l.contains f = true) : callN P n f = callN Q n f :=
  callAgree (K := fun g => l.contains g) (fun g hg => e.mem g (by simpa using hg)) (fun g i hg hi => by
    have := List.all_eq_true.mp c g (by simpa using hg)
    rw [hi] at this
    exact this) n f hf
end Mi
namespace Mi
def sumN : Nat → (Nat → Int) → Int
  | 0, _ => 0
  | n + 1, f => sumN n f + f n
theorem sumN_congr {f g : Nat → Int} : ∀ {n : Nat}, (∀ k, k < n → f k = g k) → sumN n f = sumN n g
  | 0, _ => rfl
  | n + 1, h => by
    simp only [sumN]
    rw [sumN_congr fun k hk => h k (by omega), h n (by omega)]
theorem sumN_zero : ∀ {n : Nat} {f : Nat → Int}, (∀ k, k < n → f k = 0) → sumN n f = 0
  | 0, _, _ => rfl
  | n + 1, f, h => by
    simp only [sumN]
    rw [sumN_zero fun k hk => h k (by omega), h n (by omega)]
    rfl
theorem sumN_add (f g : Nat → Int) : ∀ n, sumN n (fun k => f k + g k) = sumN n f + sumN n g
  | 0 => rfl
  | n + 1 => by simp only [sumN, sumN_add f g n]; omega
theorem sumN_sub (f g : Nat → Int) : ∀ n, sumN n (fun k => f k - g k) = sumN n f - sumN n g
  | 0 => rfl
  | n + 1 => by simp only [sumN, sumN_sub f g n]; omega
theorem sumN_mul (c : Int) (f : Nat → Int) : ∀ n, sumN n (fun k => c * f k) = c * sumN n f
  | 0 => by simp [sumN]
  | n + 1 => by simp only [sumN, sumN_mul c f n, Int.mul_add]
theorem sumN_le {f g : Nat → Int} : ∀ {n : Nat}, (∀ k, k < n → f k ≤ g k) → sumN n f ≤ sumN n g
  | 0, _ => Int.le_refl _
  | n + 1, h => by
    have := sumN_le (n := n) fun k hk => h k (by omega)
    have := h n (by omega)
    simp only [sumN]; omega
theorem sumN_nonneg {f : Nat → Int} {n : Nat} (h : ∀ k, k < n → 0 ≤ f k) : 0 ≤ sumN n f := by
  have := sumN_le (f := fun _ => 0) (g := f) h
  rw [sumN_zero fun _ _ => rfl] at this
  exact this
theorem sumN_const (c : Int) : ∀ n : Nat, sumN n (fun _ => c) = n * c
  | 0 => by simp [sumN]
  | n + 1 => by
    simp only [sumN, sumN_const c n]
    rw [Int.natCast_add, Int.add_mul]; simp
theorem sumN_upd (f : Nat → Int) (i : Nat) (v : Int) : ∀ n, sumN n (fun k => if k = i then v else f k) = sumN n f + (if i < n then v - f i else 0)
  | 0 => by simp [sumN]
  | n + 1 => by
    simp only [sumN, sumN_upd f i v n]
    by_cases h : n = i
    · subst h
      simp; omega
    · by_cases h2 : i < n
      · simp [h, h2, show i < n + 1 by omega]; omega
      · simp [h, h2, show ¬ i < n + 1 by omega]
theorem sumN_ge_one {f : Nat → Int} : ∀ {n : Nat}, (∀ k, k < n → 0 ≤ f k) → ∀ i, i < n → f i ≤ sumN n f
  | 0, _, i, hi => absurd hi (by omega)
  | n + 1, h, i, hi => by
    simp only [sumN]
    have h0 := sumN_nonneg (n := n) fun k hk => h k (by omega)
    by_cases e : i = n
    · subst e; omega
    · have := sumN_ge_one (n := n) (fun k hk => h k (by omega)) i (by omega)
      have := h n (by omega)
      omega
theorem sumN_eq_zero {f : Nat → Int} {n : Nat} (h : ∀ k, k < n → 0 ≤ f k) (hs : sumN n f = 0) : ∀ k, k < n → f k = 0 := fun k hk => by
  have := sumN_ge_one h k hk
  have := h k hk
  omega
theorem sumN_swap (f : Nat → Nat → Int) (C : Nat) : ∀ R, sumN R (fun i => sumN C fun j => f i j) = sumN C (fun j => sumN R fun i => f i j)
  | 0 => by simp only [sumN]; rw [sumN_zero fun _ _ => rfl]
  | R + 1 => by simp only [sumN, sumN_swap f C R, sumN_add]
theorem sumN_list (f : Nat → Int) : ∀ n, ((List.range n).map f).sum = sumN n f
  | 0 => rfl
  | n + 1 => by
    rw [List.range_succ, List.map_append, List.sum_append_int, sumN_list f n]
    simp [sumN]
abbrev Gd := Nat → Nat → Int
def rsum (C : Nat) (T : Gd) (i : Nat) : Int := sumN C (T i)
def csum (R : Nat) (T : Gd) (j : Nat) : Int := sumN R fun i => T i j
def upd (T : Gd) (i j : Nat) (v : Int) : Gd := fun a b => if a = i ∧ b = j then v else T a b
theorem upd_same (T : Gd) (i j : Nat) (v : Int) : upd T i j v i j = v := by simp [upd]
theorem upd_ne (T : Gd) {i j a b : Nat} (v : Int) (h : ¬ (a = i ∧ b = j)) : upd T i j v a b = T a b := by simp [upd, h]
theorem rsum_upd (C : Nat) (T : Gd) (i j : Nat) (v : Int) (hj : j < C) (a : Nat) : rsum C (upd T i j v) a = rsum C T a + if a = i then v - T i j else 0 := by
  unfold rsum
  by_cases h : a = i
  · subst h
    have : upd T a j v a = fun k => if k = j then v else T a k := by
      funext k; simp [upd]
    rw [this, sumN_upd]
    simp [hj]
  · have : upd T i j v a = T a := by
      funext k; simp [upd, h]
    rw [this]
    simp [h]
theorem csum_upd (R : Nat) (T : Gd) (i j : Nat) (v : Int) (hi : i < R) (b : Nat) : csum R (upd T i j v) b = csum R T b + if b = j then v - T i j else 0 := by
  unfold csum
  by_cases h : b = j
  · subst h
    have : (fun i' => upd T i b v i' b) = fun k => if k = i then v else T k b := by
      funext k; simp [upd]
    rw [this, sumN_upd (fun k => T k b)]
    simp [hi]
  · have : (fun i' => upd T i j v i' b) = fun k => T k b := by
      funext k; simp [upd, h]
    rw [this]
    simp [h]
abbrev Spot := Bool × Nat
abbrev Cell := Nat × Nat
structure Net where
  R : Nat
  C : Nat
  p : Nat → Nat → Bool
  bar : Option Cell
def Net.E (N : Net) (T : Gd) : Spot → Spot → Prop
  | (true, i), (false, j) => i < N.R ∧ j < N.C ∧ N.p i j = true ∧ N.bar ≠ some (i, j)
  | (false, j), (true, i) => i < N.R ∧ j < N.C ∧ N.p i j = true ∧ N.bar ≠ some (i, j) ∧ 0 < T i j
  | _, _ => False
def Road (N : Net) (T : Gd) : List Spot → Prop
  | [] => True
  | [_] => True
  | a :: b :: r => N.E T a b ∧ Road N T (b :: r)
def pushE (T : Gd) (d : Int) : Spot → Spot → Gd
  | (true, i), (false, j) => upd T i j (T i j + d)
  | (false, j), (true, i) => upd T i j (T i j - d)
  | _, _ => T
def pushR (T : Gd) (d : Int) : List Spot → Gd
  | [] => T
  | [_] => T
  | a :: b :: r => pushR (pushE T d a b) d (b :: r)
def Cap (T : Gd) (d : Int) : List Spot → Prop
  | [] => True
  | [_] => True
  | a :: b :: r => (match a, b with
    | (false, j), (true, i) => d ≤ T i j
    | _, _ => True) ∧ Cap T d (b :: r)
def lastS (s : Spot) : List Spot → Spot
  | [] => s
  | t :: r => lastS t r
def iS (a b : Spot) (d : Int) : Int := if a = b then d else 0
theorem rsum_pushE {N : Net} {T : Gd} {d : Int} {a b : Spot} (h : N.E T a b) (i : Nat) : rsum N.C (pushE T d a b) i = rsum N.C T i + iS a (true, i) d - iS b (true, i) d := by
  obtain ⟨x, k⟩ := a; obtain ⟨y, l⟩ := b
  cases x <;> cases y <;> simp only [Net.E] at h
  · obtain ⟨h1, h2, h3, h4, h5⟩ := h
    simp only [pushE, rsum_upd _ _ _ _ _ h2, iS]
    by_cases z : i = l
    · subst z; simp; omega
    · have : ¬ l = i := fun q => z q.symm
      simp [z, this]
  · obtain ⟨h1, h2, h3, h4⟩ := h
    simp only [pushE, rsum_upd _ _ _ _ _ h2, iS]
    by_cases z : i = k
    · subst z; simp; omega
    · have : ¬ k = i := fun q => z q.symm
      simp [z, this]
theorem csum_pushE {N : Net} {T : Gd} {d : Int} {a b : Spot} (h : N.E T a b) (j : Nat) : csum N.R (pushE T d a b) j = csum N.R T j - iS a (false, j) d + iS b (false, j) d := by
  obtain ⟨x, k⟩ := a; obtain ⟨y, l⟩ := b
  cases x <;> cases y <;> simp only [Net.E] at h
  · obtain ⟨h1, h2, h3, h4, h5⟩ := h
    simp only [pushE, csum_upd _ _ _ _ _ h1, iS]
    by_cases z : j = k
    · subst z; simp; omega
    · have : ¬ k = j := fun q => z q.symm
      simp [z, this]
  · obtain ⟨h1, h2, h3, h4⟩ := h
    simp only [pushE, csum_upd _ _ _ _ _ h1, iS]
    by_cases z : j = l
    · subst z; simp; omega
    · have : ¬ l = j := fun q => z q.symm
      simp [z, this]
def cellOf : Spot → Spot → Option Cell
  | (true, i), (false, j) => some (i, j)
  | (false, j), (true, i) => some (i, j)
  | _, _ => none
theorem pushE_ne {T : Gd} {d : Int} {a b : Spot} {i j : Nat} (h : cellOf a b ≠ some (i, j)) : pushE T d a b i j = T i j := by
  obtain ⟨x, k⟩ := a; obtain ⟨y, l⟩ := b
  cases x <;> cases y <;> simp only [cellOf] at h <;> simp only [pushE]
  · exact upd_ne _ _ fun z => h (by rw [z.1, z.2])
  · exact upd_ne _ _ fun z => h (by rw [z.1, z.2])
theorem cell_ne {a b u v : Spot} {c : Cell} (hu : u ≠ a) (hv : v ≠ a) (h : cellOf u v = some c) : cellOf a b ≠ some c := by
  obtain ⟨x, k⟩ := a; obtain ⟨y, l⟩ := b; obtain ⟨z, m⟩ := u; obtain ⟨w, n⟩ := v
  cases x <;> cases y <;> cases z <;> cases w <;> simp [cellOf] at * <;> grind
theorem road_mono {N : Net} {T T' : Gd} : ∀ {r : List Spot}, (∀ u v c, u ∈ r → v ∈ r → cellOf u v = some c → T' c.1 c.2 = T c.1 c.2) → Road N T r → Road N T' r
  | [], _, _ => True.intro
  | [_], _, _ => True.intro
  | a :: b :: r, k, h => by
    refine ⟨?_, road_mono (fun u v c hu hv => k u v c (List.mem_cons_of_mem _ hu) (List.mem_cons_of_mem _ hv)) h.2⟩
    have e := h.1
    have k := k a b
    obtain ⟨x, m⟩ := a; obtain ⟨y, n⟩ := b
    cases x <;> cases y <;> simp only [Net.E, cellOf] at e k ⊢
    · have := k (n, m) (by simp) (by simp) rfl
      simp only at this
      rw [this]; exact e
    · exact e
theorem cap_mono {T T' : Gd} {d : Int} : ∀ {r : List Spot}, (∀ u v c, u ∈ r → v ∈ r → cellOf u v = some c → T' c.1 c.2 = T c.1 c.2) → Cap T d r → Cap T' d r
  | [], _, _ => True.intro
  | [_], _, _ => True.intro
  | a :: b :: r, k, h => by
    refine ⟨?_, cap_mono (fun u v c hu hv => k u v c (List.mem_cons_of_mem _ hu) (List.mem_cons_of_mem _ hv)) h.2⟩
    have e := h.1
    have k := k a b
    obtain ⟨x, m⟩ := a; obtain ⟨y, n⟩ := b
    cases x <;> cases y <;> simp only [cellOf] at e k ⊢
    · have := k (n, m) (by simp) (by simp) rfl
      simp only at this
      rw [this]; exact e
theorem push_keep {T : Gd} {d : Int} {a b : Spot} {r : List Spot} (nd : (a :: b :: r).Nodup) : ∀ u v (c : Cell), u ∈ b :: r → v ∈ b :: r → cellOf u v = some c → pushE T d a b c.1 c.2 = T c.1 c.2 := fun u v c hu hv e => by
  have na := (List.nodup_cons.mp nd).1
  exact pushE_ne (cell_ne (fun z => na (z ▸ hu)) (fun z => na (z ▸ hv)) e)
theorem pushR_rsum {N : Net} {d : Int} (i : Nat) : ∀ {r : List Spot} {T : Gd} {a : Spot}, (a :: r).Nodup → Road N T (a :: r) → rsum N.C (pushR T d (a :: r)) i = rsum N.C T i + iS a (true, i) d - iS (lastS a r) (true, i) d
  | [], T, a, _, _ => by simp only [pushR, lastS]; omega
  | b :: r, T, a, nd, h => by
    have := pushR_rsum (N := N) (d := d) i (r := r) (T := pushE T d a b) (a := b) (List.nodup_cons.mp nd).2 (road_mono (push_keep nd) h.2)
    simp only [pushR, lastS]
    rw [this, rsum_pushE h.1]
    omega
theorem pushR_csum {N : Net} {d : Int} (j : Nat) : ∀ {r : List Spot} {T : Gd} {a : Spot}, (a :: r).Nodup → Road N T (a :: r) → csum N.R (pushR T d (a :: r)) j = csum N.R T j - iS a (false, j) d + iS (lastS a r) (false, j) d
  | [], T, a, _, _ => by simp only [pushR, lastS]; omega
  | b :: r, T, a, nd, h => by
    have := pushR_csum (N := N) (d := d) j (r := r) (T := pushE T d a b) (a := b) (List.nodup_cons.mp nd).2 (road_mono (push_keep nd) h.2)
    simp only [pushR, lastS]
    rw [this, csum_pushE h.1]
    omega
theorem pushR_nonneg {d : Int} (hd : 0 ≤ d) : ∀ {r : List Spot} {T : Gd} {a : Spot}, (a :: r).Nodup → Cap T d (a :: r) → (∀ i j, 0 ≤ T i j) → ∀ i j, 0 ≤ pushR T d (a :: r) i j
  | [], T, a, _, _, h => h
  | b :: r, T, a, nd, c, h => by
    refine pushR_nonneg hd (r := r) (T := pushE T d a b) (a := b) (List.nodup_cons.mp nd).2 (cap_mono (push_keep nd) c.2) ?_
    intro i j
    have c := c.1
    obtain ⟨x, m⟩ := a; obtain ⟨y, n⟩ := b
    cases x <;> cases y <;> simp only [pushE] at c ⊢
    · exact h i j
    · unfold upd
      have := h i j
      split
      · omega
      · exact this
    · unfold upd
      have := h i j
      split
      · rename_i q; obtain ⟨rfl, rfl⟩ := q; omega
      · exact this
    · exact h i j
theorem pushR_keep {N : Net} {d : Int} {i j : Nat} (hk : N.p i j = false ∨ N.bar = some (i, j)) : ∀ {r : List Spot} {T : Gd} {a : Spot}, (a :: r).Nodup → Road N T (a :: r) → pushR T d (a :: r) i j = T i j
  | [], T, a, _, _ => rfl
  | b :: r, T, a, nd, h => by
    have := pushR_keep (N := N) (d := d) hk (r := r) (T := pushE T d a b) (a := b) (List.nodup_cons.mp nd).2 (road_mono (push_keep nd) h.2)
    show pushR (pushE T d a b) d (b :: r) i j = _
    rw [this]
    refine pushE_ne fun z => ?_
    have e := h.1
    obtain ⟨x, m⟩ := a; obtain ⟨y, n⟩ := b
    cases x <;> cases y <;> simp only [cellOf] at z <;> simp only [Net.E] at e <;> cases z <;> rcases hk with q | q <;> simp_all
def Clo (N : Net) (T : Gd) (S : Spot → Prop) : Prop := ∀ u v, S u → N.E T u v → S v
structure Like (N : Net) (T U : Gd) : Prop where
  row : ∀ i, i < N.R → rsum N.C U i = rsum N.C T i
  col : ∀ j, j < N.C → csum N.R U j = csum N.R T j
  opn : ∀ i j, i < N.R → j < N.C → N.p i j = false → U i j = T i j
  nn : ∀ i j, i < N.R → j < N.C → 0 ≤ U i j
end Mi
namespace Mi
abbrev Tree := List (Spot × Option Spot)
def keysT (l : Tree) : List Spot := l.map (·.1)
def Net.ok (N : Net) : Spot → Prop
  | (true, i) => i < N.R
  | (false, j) => j < N.C
structure TreeOk (N : Net) (T : Gd) (starts : List Spot) (l : Tree) : Prop where
  nd : (keysT l).Nodup
  top : ∀ (k : Nat) s, l[k]? = some (s, none) → s ∈ starts
  stp : ∀ (k : Nat) s q, l[k]? = some (s, some q) → N.E T q s ∧ ∃ k', k' < k ∧ ∃ o, l[k']? = some (q, o)
  st : ∀ s ∈ starts, s ∈ keysT l
  val : ∀ s ∈ keysT l, N.ok s
theorem Net.E.ok {N : Net} {T : Gd} {a b : Spot} (h : N.E T a b) : N.ok b := by
  obtain ⟨x, i⟩ := a; obtain ⟨y, j⟩ := b
  cases x <;> cases y <;> simp [Net.E, Net.ok] at h ⊢
  · exact h.1
  · exact h.2.1
theorem spots_len {N : Net} {l : List Spot} (nd : l.Nodup) (v : ∀ s ∈ l, N.ok s) : l.length ≤ N.R + N.C := by
  have := List.Nodup.length_le_of_subset (l₂ := (List.range N.R).map (fun i => (true, i)) ++ (List.range N.C).map (fun i => (false, i))) nd fun s hs => by
    obtain ⟨x, i⟩ := s
    have := v _ hs
    cases x <;> simp [Net.ok] at this ⊢ <;> exact this
  simpa using this
theorem TreeOk.len {N : Net} {T : Gd} {starts : List Spot} {l : Tree} (h : TreeOk N T starts l) : l.length ≤ N.R + N.C := by
  have := spots_len h.nd h.val
  simpa [keysT] using this
theorem keysT_map (l : List Spot) (o : Option Spot) : keysT (l.map fun s => (s, o)) = l := by
  unfold keysT
  rw [List.map_map]
  exact List.map_id' l
theorem TreeOk.init {N : Net} {T : Gd} {starts : List Spot} (nd : starts.Nodup) (v : ∀ s ∈ starts, N.ok s) : TreeOk N T starts (starts.map fun s => (s, none)) where
  nd := by rw [keysT_map]; exact nd
  top := fun k s h => by
    rw [List.getElem?_map] at h
    cases z : starts[k]? with
    | none => rw [z] at h; cases h
    | some y => rw [z] at h; cases h; exact List.mem_of_getElem? z
  stp := fun k s q h => by
    rw [List.getElem?_map] at h
    cases z : starts[k]? with
    | none => rw [z] at h; cases h
    | some y => rw [z] at h; cases h
  st := fun s h => by rw [keysT_map]; exact h
  val := fun s h => v s (by rw [keysT_map] at h; exact h)
theorem TreeOk.add {N : Net} {T : Gd} {starts : List Spot} {l : Tree} (h : TreeOk N T starts l) {q s : Spot} (hq : q ∈ keysT l) (e : N.E T q s) (hs : s ∉ keysT l) : TreeOk N T starts (l ++ [(s, some q)]) where
  nd := by
    unfold keysT at *
    rw [List.map_append]
    exact List.nodup_append.mpr ⟨h.nd, by simp, fun a ha b hb => by
      simp at hb; subst hb; exact fun z => hs (z ▸ ha)⟩
  top := fun k s' z => by
    by_cases hk : k < l.length
    · rw [List.getElem?_append_left hk] at z; exact h.top k s' z
    · rw [List.getElem?_append_right (by omega)] at z
      have : k - l.length = 0 := by
        have := (List.getElem?_eq_some_iff.mp z).1
        simp at this; omega
      rw [this] at z; cases z
  stp := fun k s' q' z => by
    by_cases hk : k < l.length
    · rw [List.getElem?_append_left hk] at z
      obtain ⟨a, k', b, o, c⟩ := h.stp k s' q' z
      exact ⟨a, k', b, o, by rw [List.getElem?_append_left (by omega)]; exact c⟩
    · rw [List.getElem?_append_right (by omega)] at z
      have : k - l.length = 0 := by
        have := (List.getElem?_eq_some_iff.mp z).1
        simp at this; omega
      rw [this] at z
      cases z
      refine ⟨e, ?_⟩
      obtain ⟨⟨q', o⟩, m, rfl⟩ := List.mem_map.mp hq
      obtain ⟨k', hk', e'⟩ := List.getElem_of_mem m
      exact ⟨k', by omega, o, by rw [List.getElem?_append_left hk', List.getElem?_eq_getElem hk', e']⟩
  st := fun s' z => by
    have := h.st s' z
    unfold keysT at *
    rw [List.map_append]
    exact List.mem_append_left _ this
  val := fun s' z => by
    unfold keysT at z
    rw [List.map_append] at z
    rcases List.mem_append.mp z with z | z
    · exact h.val s' z
    · simp at z; subst z; exact e.ok
theorem lookup_of_nd {l : Tree} (nd : (keysT l).Nodup) {k : Nat} {s : Spot} {o : Option Spot} (e : l[k]? = some (s, o)) : l.lookup s = some o := by
  induction l generalizing k with
  | nil => simp at e
  | cons p l ih =>
    obtain ⟨s', o'⟩ := p
    rw [List.lookup_cons]
    unfold keysT at nd
    rw [List.map_cons, List.nodup_cons] at nd
    cases k with
    | zero => simp at e; obtain ⟨rfl, rfl⟩ := e; simp
    | succ k =>
      rw [List.getElem?_cons_succ] at e
      have : s ∈ l.map (·.1) := List.mem_map.mpr ⟨_, List.mem_of_getElem? e, rfl⟩
      have ne : ¬ s = s' := fun z => nd.1 (z ▸ this)
      have : (s == s') = false := by simpa using ne
      rw [this]
      exact ih nd.2 e
theorem lookup_at {l : Tree} {s : Spot} {o : Option Spot} (e : l.lookup s = some o) : ∃ k : Nat, l[k]? = some (s, o) := by
  induction l with
  | nil => simp at e
  | cons p l ih =>
    obtain ⟨s', o'⟩ := p
    rw [List.lookup_cons] at e
    by_cases z : (s == s') = true
    · rw [z] at e; simp at e z; subst e; subst z; exact ⟨0, rfl⟩
    · have z : (s == s') = false := by simpa using z
      rw [z] at e
      obtain ⟨k, hk⟩ := ih e
      exact ⟨k + 1, hk⟩
theorem lookup_some {l : Tree} {s : Spot} (h : s ∈ keysT l) : ∃ o, l.lookup s = some o := by
  induction l with
  | nil => cases h
  | cons p l ih =>
    obtain ⟨s', o'⟩ := p
    rw [List.lookup_cons]
    by_cases z : (s == s') = true
    · rw [z]; exact ⟨_, rfl⟩
    · have z' : (s == s') = false := by simpa using z
      rw [z']
      refine ih ?_
      unfold keysT at h
      rw [List.map_cons] at h
      rcases List.mem_cons.mp h with q | q
      · simp at z; exact absurd q z
      · exact q
theorem lookup_none {l : Tree} {s : Spot} (h : s ∉ keysT l) : l.lookup s = none := by
  cases z : l.lookup s with
  | none => rfl
  | some o =>
    obtain ⟨k, hk⟩ := lookup_at z
    exact absurd (List.mem_map.mpr ⟨_, List.mem_of_getElem? hk, rfl⟩) h
structure Back (N : Net) (T : Gd) (l : Tree) (to s : Spot) (r : List Spot) (k : Nat) : Prop where
  at_ : ∃ o, l[k]? = some (s, o)
  road : Road N T (s :: r)
  nd : (s :: r).Nodup
  lst : lastS s r = to
  far : ∀ x ∈ r, ∃ k', k < k' ∧ ∃ o, l[k']? = some (x, o)
theorem Back.init {N : Net} {T : Gd} {l : Tree} {to : Spot} (h : to ∈ keysT l) : ∃ k, Back N T l to to [] k := by
  obtain ⟨o, e⟩ := lookup_some h
  obtain ⟨k, hk⟩ := lookup_at e
  exact ⟨k, ⟨o, hk⟩, True.intro, by simp, rfl, fun _ h => nomatch h⟩
theorem Back.step {N : Net} {T : Gd} {starts : List Spot} {l : Tree} {to s q : Spot} {r : List Spot} {k : Nat} (t : TreeOk N T starts l) (b : Back N T l to s r k) (e : l.lookup s = some (some q)) : ∃ k', k' < k ∧ Back N T l to q (s :: r) k' := by
  obtain ⟨o, ho⟩ := b.at_
  have := lookup_of_nd t.nd ho
  rw [e] at this
  cases this
  obtain ⟨e1, k', hk, o', e2⟩ := t.stp k s q ho
  have far : ∀ x ∈ s :: r, ∃ k'', k' < k'' ∧ ∃ o, l[k'']? = some (x, o) := fun x hx => by
    rcases List.mem_cons.mp hx with z | z
    · subst z; exact ⟨k, hk, _, ho⟩
    · obtain ⟨k'', h1, h2⟩ := b.far x z; exact ⟨k'', by omega, h2⟩
  refine ⟨k', hk, ⟨o', e2⟩, ⟨e1, b.road⟩, List.nodup_cons.mpr ⟨fun m => ?_, b.nd⟩, b.lst, far⟩
  obtain ⟨k'', h1, o'', h2⟩ := far q m
  have k1 : (keysT l)[k']? = some q := by unfold keysT; rw [List.getElem?_map, e2]; rfl
  have k2 : (keysT l)[k'']? = some q := by unfold keysT; rw [List.getElem?_map, h2]; rfl
  obtain ⟨b1, c1⟩ := List.getElem?_eq_some_iff.mp k1
  obtain ⟨b2, c2⟩ := List.getElem?_eq_some_iff.mp k2
  have := (List.pairwise_iff_getElem.mp t.nd) k' k'' b1 b2 h1
  exact this (by rw [c1, c2])
theorem Back.top {N : Net} {T : Gd} {starts : List Spot} {l : Tree} {to s : Spot} {r : List Spot} {k : Nat} (t : TreeOk N T starts l) (b : Back N T l to s r k) (e : l.lookup s = some none) : s ∈ starts := by
  obtain ⟨o, ho⟩ := b.at_
  have := lookup_of_nd t.nd ho
  rw [e] at this
  cases this
  exact t.top k s ho
end Mi
namespace Mi
def ind (S : Spot → Prop) [DecidablePred S] (s : Spot) : Int := if S s then 1 else 0
theorem cut_eq {R C : Nat} {D : Gd} (S : Spot → Prop) [DecidablePred S] :
    sumN R (fun i => sumN C fun j => D i j * (ind S (true, i) - ind S (false, j))) = sumN R (fun i => ind S (true, i) * rsum C D i) - sumN C (fun j => ind S (false, j) * csum R D j) := by
  have e1 : (fun i => sumN C fun j => D i j * (ind S (true, i) - ind S (false, j))) = fun i => (sumN C fun j => ind S (true, i) * D i j) - sumN C fun j => ind S (false, j) * D i j := by
    funext i
    rw [← sumN_sub]
    refine sumN_congr fun j _ => ?_
    rw [Int.mul_sub, Int.mul_comm, Int.mul_comm (D i j)]
  rw [e1, sumN_sub, sumN_swap (fun i j => ind S (false, j) * D i j)]
  have a : sumN R (fun i => sumN C fun j => ind S (true, i) * D i j) = sumN R (fun i => ind S (true, i) * rsum C D i) := sumN_congr fun i hi => by
    rw [sumN_mul]; rfl
  have b : sumN C (fun j => sumN R fun i => ind S (false, j) * D i j) = sumN C (fun j => ind S (false, j) * csum R D j) := sumN_congr fun j hj => by
    rw [sumN_mul]; rfl
  rw [a, b]
structure Short (N : Net) (r b : Nat → Int) (S : Spot → Prop) [DecidablePred S] : Prop where
  cl : ∀ i j, i < N.R → j < N.C → N.p i j = true → S (true, i) → S (false, j)
  lt : sumN N.C (fun j => ind S (false, j) * b j) < sumN N.R (fun i => ind S (true, i) * r i)
structure Fills (N : Net) (r b : Nat → Int) (T : Gd) : Prop where
  nn : ∀ i j, 0 ≤ T i j
  opn : ∀ i j, i < N.R → j < N.C → N.p i j = false → T i j = 0
  row : ∀ i, i < N.R → rsum N.C T i = r i
  col : ∀ j, j < N.C → csum N.R T j = b j
theorem Short.no {N : Net} {r b : Nat → Int} {S : Spot → Prop} [DecidablePred S] (h : Short N r b S) {T : Gd} (f : Fills N r b T) : False := by
  have e := cut_eq (R := N.R) (C := N.C) (D := T) S
  have e1 : sumN N.R (fun i => ind S (true, i) * rsum N.C T i) = sumN N.R (fun i => ind S (true, i) * r i) := sumN_congr fun i hi => by rw [f.row i hi]
  have e2 : sumN N.C (fun j => ind S (false, j) * csum N.R T j) = sumN N.C (fun j => ind S (false, j) * b j) := sumN_congr fun i hi => by rw [f.col i hi]
  have le : sumN N.R (fun i => sumN N.C fun j => T i j * (ind S (true, i) - ind S (false, j))) ≤ sumN N.R (fun _ => 0) := sumN_le fun i hi => by
    have : sumN N.C (fun j => T i j * (ind S (true, i) - ind S (false, j))) ≤ sumN N.C (fun _ => 0) := sumN_le fun j hj => by
      by_cases p : N.p i j = true
      · by_cases s1 : S (true, i)
        · have s2 := h.cl i j hi hj p s1
          simp [ind, s1, s2]
        · have := f.nn i j
          by_cases s2 : S (false, j)
          · simp [ind, s1, s2]; omega
          · simp [ind, s1, s2]
      · have p : N.p i j = false := by simpa using p
        rw [f.opn i j hi hj p]
        simp
    rw [sumN_zero (f := fun _ => 0) fun _ _ => rfl] at this
    exact this
  rw [sumN_zero (f := fun _ => 0) fun _ _ => rfl] at le
  have := h.lt
  omega
theorem short_of {N : Net} {T : Gd} {r b : Nat → Int} {S : Spot → Prop} [DecidablePred S] (hbar : N.bar = none) (cl : Clo N T S) (t0 : ∀ i j, 0 ≤ T i j) (opn : ∀ i j, i < N.R → j < N.C → N.p i j = false → T i j = 0)
    (st : ∀ i, i < N.R → 0 < r i - rsum N.C T i → S (true, i)) (hr : ∀ i, i < N.R → 0 ≤ r i - rsum N.C T i) (hb : ∀ j, j < N.C → S (false, j) → b j - csum N.R T j = 0) (pos : 0 < sumN N.R (fun i => r i - rsum N.C T i)) : Short N r b S where
  cl := fun i j hi hj p s => cl (true, i) (false, j) s ⟨hi, hj, p, by rw [hbar]; exact fun z => nomatch z⟩
  lt := by
    have e := cut_eq (R := N.R) (C := N.C) (D := T) S
    have z : sumN N.R (fun i => sumN N.C fun j => T i j * (ind S (true, i) - ind S (false, j))) = 0 := sumN_zero fun i hi => sumN_zero fun j hj => by
      by_cases p : N.p i j = true
      · by_cases s1 : S (true, i)
        · have s2 : S (false, j) := cl (true, i) (false, j) s1 ⟨hi, hj, p, by rw [hbar]; exact fun z => nomatch z⟩
          simp [ind, s1, s2]
        · by_cases s2 : S (false, j)
          · have : ¬ 0 < T i j := fun z => s1 (cl (false, j) (true, i) s2 ⟨hi, hj, p, (by rw [hbar]; exact fun z => nomatch z), z⟩)
            have := t0 i j
            have : T i j = 0 := by omega
            rw [this]; simp
          · simp [ind, s1, s2]
      · have p : N.p i j = false := by simpa using p
        rw [opn i j hi hj p]
        simp
    have e1 : sumN N.R (fun i => ind S (true, i) * r i) = sumN N.R (fun i => ind S (true, i) * rsum N.C T i) + sumN N.R (fun i => r i - rsum N.C T i) := by
      rw [← sumN_add]
      refine sumN_congr fun i hi => ?_
      by_cases s : S (true, i)
      · simp [ind, s]; omega
      · have : ¬ 0 < r i - rsum N.C T i := fun z => s (st i hi z)
        have := hr i hi
        simp [ind, s]; omega
    have e2 : sumN N.C (fun j => ind S (false, j) * b j) = sumN N.C (fun j => ind S (false, j) * csum N.R T j) := sumN_congr fun j hj => by
      by_cases s : S (false, j)
      · have := hb j hj s
        have : b j = csum N.R T j := by omega
        rw [this]
      · simp [ind, s]
    omega
theorem push_fills {N : Net} {T : Gd} {r : List Spot} {i j : Nat} {d : Int} (nd : ((true, i) :: r).Nodup) (rd : Road N T ((true, i) :: r)) (la : lastS (true, i) r = (false, j)) (k : Nat) :
    rsum N.C (pushR T d ((true, i) :: r)) k = rsum N.C T k + (if k = i then d else 0) ∧ csum N.R (pushR T d ((true, i) :: r)) k = csum N.R T k + (if k = j then d else 0) := by
  rw [pushR_rsum k nd rd, pushR_csum k nd rd, la]
  simp only [iS]
  constructor
  · by_cases h : k = i
    · subst h; simp
    · have : ¬ i = k := fun z => h z.symm
      simp [h, this]
  · by_cases h : k = j
    · subst h; simp
    · have : ¬ j = k := fun z => h z.symm
      simp [h, this]
theorem Like.refl {N : Net} {T : Gd} (t0 : ∀ i j, 0 ≤ T i j) : Like N T T := ⟨fun _ _ => rfl, fun _ _ => rfl, fun _ _ _ _ _ => rfl, fun i j _ _ => t0 i j⟩
theorem Like.trans {N : Net} {T U V : Gd} (a : Like N T U) (b : Like N U V) : Like N T V := ⟨fun i h => (b.row i h).trans (a.row i h), fun i h => (b.col i h).trans (a.col i h), fun i j h1 h2 h3 => (b.opn i j h1 h2 h3).trans (a.opn i j h1 h2 h3), b.nn⟩
theorem Like.symm {N : Net} {T U : Gd} (a : Like N T U) (t0 : ∀ i j, i < N.R → j < N.C → 0 ≤ T i j) : Like N U T := ⟨fun i h => (a.row i h).symm, fun i h => (a.col i h).symm, fun i j h1 h2 h3 => (a.opn i j h1 h2 h3).symm, t0⟩
end Mi
namespace Mi
open PySem
def Ok {α : Type} (r : R α) (Q : α → MH → Prop) : Prop := ∃ a h, r = .ok a h ∧ Q a h
@[simp] theorem Ok_ok {α : Type} (a : α) (h : MH) (Q : α → MH → Prop) : Ok (.ok a h) Q ↔ Q a h := ⟨fun ⟨_, _, e, q⟩ => by cases e; exact q, fun q => ⟨_, _, rfl, q⟩⟩
theorem Ok.mono {α : Type} {r : R α} {Q Q' : α → MH → Prop} (o : Ok r Q) (k : ∀ a h, Q a h → Q' a h) : Ok r Q' := by
  obtain ⟨a, h, e, q⟩ := o; exact ⟨a, h, e, k a h q⟩
theorem runG {f : Nat} {n : Nat} {as : List D} {h : MH} (i : FI) (e : G f = some i) (hl : as.length = i.np) :
    callN G (n + 1) f as h = retF i.keep h.length (exS (callN G n) WF i.body (as.map some ++ List.replicate (i.nn - as.length) none) h) := callN_run e n as h hl
def Fl.go (r : Fl) (N : Ev → MH → Prop) (Q : Fl → Prop) : Prop := match r with
  | .nx e h => N e h
  | .cnt e h => N e h
  | .ret d h => Q (.ret d h)
  | .exn c p h => Q (.exn c p h)
  | _ => False
section
variable {N : Ev → MH → Prop} {Q : Fl → Prop} {e : Ev} {h : MH}
@[simp] theorem go_nx : (Fl.nx e h).go N Q ↔ N e h := Iff.rfl
@[simp] theorem go_cnt : (Fl.cnt e h).go N Q ↔ N e h := Iff.rfl
@[simp] theorem go_ret {d : D} : (Fl.ret d h).go N Q ↔ Q (.ret d h) := Iff.rfl
@[simp] theorem go_exn {c : Nat} {p : Option D} : (Fl.exn c p h).go N Q ↔ Q (.exn c p h) := Iff.rfl
end
theorem forL_wp {α : Type} {t : Tg} {b : Ev → MH → Fl} {xs : List D} {e : Ev} {h : MH} {fl : Fl} (hf : forL t b xs e h = fl) (l : List α) (enc : α → D) (I : List α → Ev → MH → Prop) (Q : Fl → Prop) (hx : xs = l.map enc) (h0 : I [] e h)
    (step : ∀ pre x post e h, l = pre ++ x :: post → I pre e h → ∃ e1, setT t (enc x) e = some e1 ∧ (b e1 h).go (I (pre ++ [x])) Q) :
    (∃ e' h', fl = .nx e' h' ∧ I l e' h') ∨ Q fl := by
  subst hf
  subst hx
  have key : ∀ (post pre : List α) (e : Ev) (h : MH), l = pre ++ post → I pre e h → (∃ e' h', forL t b (post.map enc) e h = .nx e' h' ∧ I l e' h') ∨ Q (forL t b (post.map enc) e h) := by
    intro post
    induction post with
    | nil => intro pre e h hl i; rw [List.append_nil] at hl; subst hl; exact .inl ⟨e, h, rfl, i⟩
    | cons x post ih =>
      intro pre e h hl i
      obtain ⟨e1, z1, z2⟩ := step pre x post e h hl i
      have run : forL t b ((x :: post).map enc) e h = (match b e1 h with
          | .nx e2 h2 => forL t b (post.map enc) e2 h2
          | .cnt e2 h2 => forL t b (post.map enc) e2 h2
          | .brk e2 h2 => .nx e2 h2
          | r => r) := by
        show (match setT t (enc x) e with
          | none => Fl.stuck
          | some e1 => match b e1 h with
            | .nx e2 h2 => forL t b (post.map enc) e2 h2
            | .cnt e2 h2 => forL t b (post.map enc) e2 h2
            | .brk e2 h2 => .nx e2 h2
            | r => r) = _
        rw [z1]
      rw [run]
      have hl' : l = (pre ++ [x]) ++ post := by rw [hl]; simp
      cases y : b e1 h with
      | nx e2 h2 => rw [y] at z2; exact ih _ _ _ hl' z2
      | cnt e2 h2 => rw [y] at z2; exact ih _ _ _ hl' z2
      | ret d h2 => rw [y] at z2; exact .inr z2
      | exn c p h2 => rw [y] at z2; exact .inr z2
      | brk _ _ => rw [y] at z2; exact z2.elim
      | stuck => rw [y] at z2; exact z2.elim
  exact key l [] e h rfl h0
theorem forL_nx {α : Type} {t : Tg} {b : Ev → MH → Fl} {xs : List D} {e : Ev} {h : MH} {fl : Fl} (hf : forL t b xs e h = fl) (l : List α) (enc : α → D) (I : List α → Ev → MH → Prop) (hx : xs = l.map enc) (h0 : I [] e h)
    (step : ∀ pre x post e h, l = pre ++ x :: post → I pre e h → ∃ e1, setT t (enc x) e = some e1 ∧ (b e1 h).go (I (pre ++ [x])) fun _ => False) :
    ∃ e' h', fl = .nx e' h' ∧ I l e' h' := by
  rcases forL_wp hf l enc I (fun _ => False) hx h0 step with z | z
  · exact z
  · exact z.elim
theorem whL_wp {c : Ev → MH → R D} {b : Ev → MH → Fl} {W : Nat} {e : Ev} {h : MH} {fl : Fl} (hf : whL c b W e h = fl) (I : Nat → Ev → MH → Prop) (N : Ev → MH → Prop) (Q : Fl → Prop) (m0 : Nat) (hm : m0 < W) (h0 : I m0 e h)
    (step : ∀ m e h, I m e h → (∃ h1, c e h = .ok (.bl false) h1 ∧ N e h1) ∨ (∃ h1, c e h = .ok (.bl true) h1 ∧ (b e h1).go (fun e' h' => ∃ m', m' < m ∧ I m' e' h') Q)) :
    (∃ e' h', fl = .nx e' h' ∧ N e' h') ∨ Q fl := by
  subst hf
  induction W generalizing m0 e h with
  | zero => omega
  | succ W ih =>
    have run : whL c b (W + 1) e h = (match c e h with
      | .ok (.bl k) h1 => if k = true then (match b e h1 with
        | .nx e2 h2 => whL c b W e2 h2
        | .cnt e2 h2 => whL c b W e2 h2
        | .brk e2 h2 => .nx e2 h2
        | r => r) else .nx e h1
      | .exn k p h1 => .exn k p h1
      | _ => .stuck) := rfl
    rw [run]
    rcases step m0 e h h0 with ⟨h1, z1, z2⟩ | ⟨h1, z1, z2⟩
    · rw [z1]; exact .inl ⟨e, h1, rfl, z2⟩
    · rw [z1]
      simp only [if_true]
      cases y : b e h1 with
      | nx e2 h2 => rw [y] at z2; obtain ⟨m', l, i⟩ := z2; exact ih m' (by omega) i
      | cnt e2 h2 => rw [y] at z2; obtain ⟨m', l, i⟩ := z2; exact ih m' (by omega) i
      | ret d h2 => rw [y] at z2; exact .inr z2
      | exn c p h2 => rw [y] at z2; exact .inr z2
      | brk _ _ => rw [y] at z2; exact z2.elim
      | stuck => rw [y] at z2; exact z2.elim
section
variable {α : Type} {t : Tg} {c el : Ev → MH → R D} {e : Ev} {h : MH} {m : Bool} {xs : List D} {ft : FT}
theorem lcM (l : List α) (enc : α → D) (g : α → D) (hx : xs = l.map enc) (k : ∀ a ∈ l, ∃ e1, setT t (enc a) e = some e1 ∧ el e1 h = .ok (g a) h) : lcR m (lcB t (evE ft (.bl true)) el e) (.its xs) h = mk m (l.map g) h := by
  subst hx
  have : lcL (lcB t (evE ft (.bl true)) el e) (l.map enc) h = .ok (l.map g) h := by
    induction l with
    | nil => rfl
    | cons a l ih =>
      obtain ⟨e1, z, q⟩ := k a (List.mem_cons_self ..)
      show (match lcB t (evE ft (.bl true)) el e (enc a) h with
        | .ok none h1 => lcL _ (l.map enc) h1
        | .ok (some x) h1 => (match lcL _ (l.map enc) h1 with
          | .ok xs h2 => .ok (x :: xs) h2
          | _ => .stuck)
        | _ => .stuck) = _
      rw [lcB_eq, z]
      show (match lcK (fun h => .ok (.bl true) h) (el e1) h with
        | .ok none h1 => lcL _ (l.map enc) h1
        | .ok (some x) h1 => (match lcL _ (l.map enc) h1 with
          | .ok xs h2 => .ok (x :: xs) h2
          | _ => .stuck)
        | _ => .stuck) = _
      rw [lcK_true, q]
      simp only [bind_ok]
      rw [ih fun b hb => k b (List.mem_cons_of_mem _ hb)]
      rfl
  unfold lcR
  simp only [this]
theorem lcF (l : List α) (enc : α → D) (p : α → Bool) (g : α → D) (hx : xs = l.map enc) (k : ∀ a ∈ l, ∃ e1, setT t (enc a) e = some e1 ∧ c e1 h = .ok (.bl (p a)) h ∧ (p a = true → el e1 h = .ok (g a) h)) : lcR m (lcB t c el e) (.its xs) h = mk m ((l.filter p).map g) h := by
  subst hx
  have : lcL (lcB t c el e) (l.map enc) h = .ok ((l.filter p).map g) h := by
    induction l with
    | nil => rfl
    | cons a l ih =>
      obtain ⟨e1, z, q, q2⟩ := k a (List.mem_cons_self ..)
      have ih := ih fun b hb => k b (List.mem_cons_of_mem _ hb)
      show (match lcB t c el e (enc a) h with
        | .ok none h1 => lcL _ (l.map enc) h1
        | .ok (some x) h1 => (match lcL _ (l.map enc) h1 with
          | .ok xs h2 => .ok (x :: xs) h2
          | _ => .stuck)
        | _ => .stuck) = _
      rw [lcB_eq, z]
      show (match lcK (c e1) (el e1) h with
        | .ok none h1 => lcL _ (l.map enc) h1
        | .ok (some x) h1 => (match lcL _ (l.map enc) h1 with
          | .ok xs h2 => .ok (x :: xs) h2
          | _ => .stuck)
        | _ => .stuck) = _
      unfold lcK
      rw [q]
      by_cases pa : p a = true
      · simp only [bind_ok, pa, if_true, q2 pa]
        rw [ih]
        simp [pa]
      · have pa : p a = false := by simpa using pa
        simp only [bind_ok, pa]
        simp [pa, ih]
  unfold lcR
  simp only [this]
theorem lcS {r : R D} (hf : lcR m (lcB t c el e) (.its xs) h = r) (l : List α) (enc : α → D) (I : List α → List D → MH → Prop) (hx : xs = l.map enc) (h0 : I [] [] h)
    (step : ∀ pre x post ys h, l = pre ++ x :: post → I pre ys h → ∃ e1, setT t (enc x) e = some e1 ∧ ∃ o h', lcK (c e1) (el e1) h = .ok o h' ∧ I (pre ++ [x]) (ys ++ o.toList) h') :
    ∃ ys h', r = mk m ys h' ∧ I l ys h' := by
  subst hf
  subst hx
  have key : ∀ (post pre : List α) (ys : List D) (h : MH), l = pre ++ post → I pre ys h → ∃ zs h', lcL (lcB t c el e) (post.map enc) h = .ok zs h' ∧ I l (ys ++ zs) h' := by
    intro post
    induction post with
    | nil => intro pre ys h hl i; rw [List.append_nil] at hl; subst hl; exact ⟨[], h, rfl, by simpa using i⟩
    | cons x post ih =>
      intro pre ys h hl i
      obtain ⟨e1, z, o, h', q, i'⟩ := step pre x post ys h hl i
      obtain ⟨zs, h2, w, i2⟩ := ih (pre ++ [x]) _ h' (by rw [hl]; simp) i'
      have one : lcB t c el e (enc x) h = .ok o h' := by rw [lcB_eq, z]; exact q
      refine ⟨o.toList ++ zs, h2, ?_, by rw [← List.append_assoc]; exact i2⟩
      show (match lcB t c el e (enc x) h with
        | .ok none h1 => lcL _ (post.map enc) h1
        | .ok (some x) h1 => (match lcL _ (post.map enc) h1 with
          | .ok xs h2 => .ok (x :: xs) h2
          | _ => .stuck)
        | _ => .stuck) = _
      rw [one]
      cases o with
      | none => simpa using w
      | some y => simp [w]
  obtain ⟨zs, h', w, i⟩ := key l [] [] h rfl h0
  refine ⟨zs, h', ?_, by simpa using i⟩
  unfold lcR
  simp only [w]
end
section
variable {h t H : MH} {β : Type}
@[simp] theorem hget (k : Nat) : (h ++ t)[h.length + k]? = t[k]? := by
  rw [List.getElem?_append_right (by omega), Nat.add_sub_cancel_left]
@[simp] theorem hget0 : (h ++ t)[h.length]? = t[0]? := hget 0
@[simp] theorem hset (k : Nat) (o : MO) : (h ++ t).set (h.length + k) o = h ++ t.set k o := by
  rw [List.set_append_right _ _ (by omega), Nat.add_sub_cancel_left]
@[simp] theorem hset0 (o : MO) : (h ++ t).set h.length o = h ++ t.set 0 o := hset 0 o
def refL (o : Option MO) (k : List D → R β) : R β := match o with
  | some (.lst xs) => k xs
  | _ => .stuck
@[simp] theorem refL_some (xs : List D) (k : List D → R β) : refL (some (.lst xs)) k = k xs := rfl
@[simp] theorem len_ref (n : Nat) : prim1 .len (.ref n) H = refL H[n]? fun xs => .ok (.int xs.length) H := by
  show (match items H (.ref n) with
    | some xs => R.ok (D.int xs.length) H
    | none => .stuck) = _
  cases z : H[n]? with
  | none => simp [items, refL, z]
  | some o => cases o <;> simp [items, refL, z]
@[simp] theorem tuple_ref (n : Nat) : prim1 .tuple (.ref n) H = refL H[n]? fun xs => .ok (.tup xs) H := by
  show tupleD (.ref n) H = _
  cases z : H[n]? with
  | none => simp [tupleD, items, refL, z]
  | some o => cases o <;> simp [tupleD, items, refL, z]
@[simp] theorem list_ref (m : Bool) (n : Nat) : prim1 (.list m) (.ref n) H = refL H[n]? fun xs => mk m xs H := by
  show listD m (.ref n) H = _
  cases z : H[n]? with
  | none => simp [listD, items, refL, z]
  | some o => cases o <;> simp [listD, items, refL, z]
@[simp] theorem list_lst (m : Bool) (xs : List D) : prim1 (.list m) (.lst xs) H = mk m xs H := rfl
@[simp] theorem list_tup (m : Bool) (xs : List D) : prim1 (.list m) (.tup xs) H = mk m xs H := rfl
@[simp] theorem sum_ref (n : Nat) : prim1 .sum (.ref n) H = refL H[n]? fun xs => prim1 .sum (.lst xs) H := by
  show sumD (.ref n) H = refL H[n]? fun xs => sumD (.lst xs) H
  cases z : H[n]? with
  | none => simp [sumD, items, refL, z]
  | some o => cases o <;> simp [sumD, items, refL, z]
@[simp] theorem min_ref (n : Nat) : prim1 .min1 (.ref n) H = refL H[n]? fun xs => prim1 .min1 (.lst xs) H := by
  show bestD minI (.ref n) H = refL H[n]? fun xs => bestD minI (.lst xs) H
  cases z : H[n]? with
  | none => simp [bestD, lits, refL, z]
  | some o => cases o <;> simp [bestD, lits, refL, z]
theorem app_ref (n : Nat) (x : D) : metD .append (.ref n) [x] H = refL H[n]? fun xs => if xs.length < big then .ok .non (H.set n (.lst (xs ++ [x]))) else .stuck := by
  show appD n x H = _
  cases z : H[n]? with
  | none => simp [appD, refL, z]
  | some o => cases o <;> simp [appD, refL, z]
def tnO : Option MO → Option Tn
  | some (.lst _) => some .list
  | some (.dK false _) => some .dict
  | some (.dT false _) => some .dict
  | _ => none
@[simp] theorem tn_ref (n : Nat) : tnOf H (.ref n) = tnO H[n]? := by
  show (match H[n]? with
    | some (.lst _) => some Tn.list
    | some (.dK false _) => some .dict
    | some (.dT false _) => some .dict
    | _ => none) = _
  cases H[n]? with
  | none => rfl
  | some o => cases o with
    | dK l k => cases l <;> rfl
    | dT l k => cases l <;> rfl
    | _ => rfl
@[simp] theorem tnO_lst (xs : List D) : tnO (some (.lst xs)) = some .list := rfl
@[simp] theorem tnO_dT (kvs : List (List Ky × D)) : tnO (some (.dT false kvs)) = some .dict := rfl
@[simp] theorem recvT_app : recvT .append = .list := rfl
@[simp] theorem recvT_ext : recvT .extend = .list := rfl
@[simp] theorem recvT_get : recvT .get = .dict := rfl
def idxO (o : Option MO) (i : D) (H : MH) : R D := match o with
  | some (.lst xs) => idxM (.lst xs) i H
  | some (.dT _ kvs) => idxM (.dT kvs) i H
  | some (.dK _ kvs) => idxM (.dK kvs) i H
  | _ => .stuck
@[simp] theorem idx_refO (n : Nat) (i : D) : idxM (.ref n) i H = idxO H[n]? i H := by
  show (match (match H[n]? with
    | some (.lst xs) => idxI (some xs) i
    | _ => (dget H (.ref n) i).bind id) with
    | some d => R.ok d H
    | none => .stuck) = _
  cases z : H[n]? with
  | none => simp [dget, idxO, z]
  | some o => cases o <;> simp [dget, idxO, z] <;> rfl
@[simp] theorem idxO_lst (xs : List D) (i : D) : idxO (some (.lst xs)) i H = idxM (.lst xs) i H := rfl
@[simp] theorem idxO_dT (l : Bool) (kvs : List (List Ky × D)) (i : D) : idxO (some (.dT l kvs)) i H = idxM (.dT kvs) i H := rfl
def onO {α : Type} (o : Option α) (k : α → R β) : R β := match o with
  | some a => k a
  | none => .stuck
@[simp] theorem onO_some {α : Type} (a : α) (k : α → R β) : onO (some a) k = k a := rfl
theorem idx_dT (kvs : List (List Ky × D)) (ds : List D) : idxM (.dT kvs) (.tup ds) H = onO ((ksOf ds).bind fun q => lookK kvs q) fun d => .ok d H := by
  show (match (((ktup (.tup ds)).map fun q => lookK kvs q).bind id) with
    | some d => R.ok d H
    | none => .stuck) = _
  show (match (((ksOf ds).map fun q => lookK kvs q).bind id) with
    | some d => R.ok d H
    | none => .stuck) = _
  cases ksOf ds with
  | none => rfl
  | some q => show (match lookK kvs q with
    | some d => R.ok d H
    | none => .stuck) = onO (lookK kvs q) _; cases lookK kvs q <;> rfl
theorem nin_dT (l : Bool) (kvs : List (List Ky × D)) (ds : List D) (n : Nat) (e : H[n]? = some (.dT l kvs)) (q : List Ky) (hq : ksOf ds = some q) : cmpM .nin (.tup ds) (.ref n) H = .ok (.bl (!(lookK kvs q).isSome)) H := by
  show (match (inD H (.tup ds) (.ref n)).map not with
    | some k => R.ok (D.bl k) H
    | none => .stuck) = _
  unfold inD dget
  simp only [e]
  have : ktup (.tup ds) = some q := hq
  rw [this]
  rfl
theorem in_dTv (kvs : List (List Ky × D)) (ds : List D) (q : List Ky) (hq : ksOf ds = some q) : cmpM .inn (.tup ds) (.dT kvs) H = .ok (.bl (lookK kvs q).isSome) H := by
  show (match (dget H (.dT kvs) (.tup ds)).map Option.isSome with
    | some k => R.ok (D.bl k) H
    | none => .stuck) = _
  unfold dget
  have : ktup (.tup ds) = some q := hq
  rw [this]
  rfl
theorem sub_dT (kvs : List (List Ky × D)) (ds : List D) (v : D) (e : Ev) (n : Nat) (z : H[n]? = some (.dT false kvs)) (b : kvs.length < big) (q : List Ky) (hq : ksOf ds = some q) : subM (.ref n) (.tup ds) v e H = .nx e (H.set n (.dT false (putK kvs q v))) := by
  have k : subD (.ref n) (.tup ds) v H = some (H.set n (.dT false (putK kvs q v))) := by
    show (match H[n]? with
      | some (.lst xs) => subL n xs (.tup ds) v H
      | _ => dput H (.ref n) (.tup ds) v) = _
    rw [z]
    unfold dput
    simp only [z, if_pos b]
    have : ktup (.tup ds) = some q := hq
    rw [this]
    rfl
  unfold subM
  rw [k]
theorem sub_lst (xs : List D) (j : Nat) (v : D) (e : Ev) (n : Nat) (z : H[n]? = some (.lst xs)) (hj : j < xs.length) : subM (.ref n) (.int (j : Int)) v e H = .nx e (H.set n (.lst (xs.set j v))) := by
  have ix : ixN xs.length (j : Int) = some j := by
    unfold ixN
    split <;> (try omega)
    all_goals (simp; try omega)
  have k : subD (.ref n) (.int (j : Int)) v H = some (H.set n (.lst (xs.set j v))) := by
    show (match H[n]? with
      | some (.lst xs) => subL n xs (.int (j : Int)) v H
      | _ => dput H (.ref n) (.int (j : Int)) v) = _
    rw [z]
    show (ixN xs.length (j : Int)).map _ = _
    rw [ix]
    rfl
  unfold subM
  rw [k]
theorem aug_dT {p : Bo} (kvs : List (List Ky × D)) (ds : List D) (u : Int) (n : Nat) (z : H[n]? = some (.dT false kvs)) (q : List Ky) (hq : ksOf ds = some q) (hu : lookK kvs q = some (.int u)) : augI (.ref n) (.tup ds) H = some u := by
  have e : idxM (.ref n) (.tup ds) H = .ok (.int u) H := by
    rw [idx_refO, z, idxO_dT, idx_dT, hq]
    simp [hu]
  unfold augI
  simp only [isRef, if_true]
  have : idxD (.ref n) (.tup ds) H = some (.int u) := by
    unfold idxM at e
    cases y : idxD (.ref n) (.tup ds) H with
    | none => rw [y] at e; cases e
    | some d => rw [y] at e; cases e; rfl
  rw [this]
  rfl
theorem aug_lst (xs : List D) (i u : Int) (n : Nat) (z : H[n]? = some (.lst xs)) (hu : atI xs i = some (.int u)) : augI (.ref n) (.int i) H = some u := by
  unfold augI idxD
  simp only [isRef, if_true, z, idxI, Option.bind, hu, isInt]
theorem augW_add (u w : Int) (x k : D) (e : Ev) : augW .add u x k (.int w) e H = subM x k (.int (u + w)) e H := by
  unfold augW augO subM
  simp only [isInt, bop_add]
theorem augW_sub (u w : Int) (x k : D) (e : Ev) : augW .sub u x k (.int w) e H = subM x k (.int (u - w)) e H := by
  unfold augW augO subM
  simp only [isInt, bop_sub]
@[simp] theorem evE_slT {ft : FT} {e : Ev} (m : Bool) (a lo hi : E) : evE ft (.sl m a lo hi) e H = (evE ft a e H).bind fun x h => (evA ft lo e h).bind fun l h => onO (partI l) fun lo => (evA ft hi e h).bind fun u h => onO (partI u) fun hi => slD m x lo hi h := by
  show ((evE ft a e H).bind fun x h => (evA ft lo e h).bind fun l h => match partI l with
    | some lo => (evA ft hi e h).bind fun u h => (match partI u with
      | some hi => slD m x lo hi h
      | none => .stuck)
    | none => .stuck) = _
  congr 1; funext x h; congr 1; funext l h; cases partI l with
  | none => rfl
  | some lo => show (evA ft hi e h).bind _ = (evA ft hi e h).bind _; congr 1; funext u h; cases partI u <;> rfl
@[simp] theorem partI_nil : partI [] = some none := rfl
@[simp] theorem partI_one (i : Int) : partI [.int i] = some (some i) := rfl
theorem slD_lst (m : Bool) (xs : List D) (lo hi : Option Int) : slD m (.lst xs) lo hi H = mk m (cutL xs lo hi) H := rfl
@[simp] theorem add_lst (m : Bool) (xs ys : List D) : bop m .add (.lst xs) (.lst ys) H = if xs.length + ys.length ≤ big then mk m (xs ++ ys) H else .stuck := rfl
@[simp] theorem add_tup (m : Bool) (xs ys : List D) : bop m .add (.tup xs) (.tup ys) H = if xs.length + ys.length ≤ big then .ok (.tup (xs ++ ys)) H else .stuck := rfl
theorem cut1 {α : Type} (x : α) (xs : List α) : cutL (x :: xs) (some 1) none = xs := by
  unfold cutL cutI
  simp
@[simp] theorem lits_lst (xs : List D) : lits H (.lst xs) = some xs := rfl
@[simp] theorem evE_zipL {ft : FT} {e : Ev} (a b : E) : evE ft (.zipL false a b) e H = (evE ft a e H).bind fun x h => (evE ft b e h).bind fun y h => onO (lits h x) fun xs => onO (lits h y) fun ys => .ok (.lst (zipD xs ys)) h := by
  show ((evE ft a e H).bind fun x h => (evE ft b e h).bind fun y h => match lits h x, lits h y with
    | some xs, some ys => R.ok (D.lst (zipD xs ys)) h
    | _, _ => .stuck) = _
  congr 1; funext x h; congr 1; funext y h; cases lits h x with
  | none => rfl
  | some xs => cases lits h y <;> rfl
end
end Mi
namespace Mi
open PySem
theorem res_ok : ∀ (n : Nat) (h : MH) (d : D), okD n d = true → res h n d = d
  | 0, h, d, k => by cases d <;> first | rfl | (simp [okD] at k)
  | n + 1, h, d, k => by
    cases d with
    | tup xs =>
      have k : xs.all (okD n) = true := k
      rw [List.all_eq_true] at k
      show D.tup (xs.map (res h n)) = .tup xs
      congr 1
      conv => rhs; rw [← List.map_id xs]
      exact List.map_congr_left fun x hx => res_ok n h x (k x hx)
    | lst xs =>
      have k : xs.all (okD n) = true := k
      rw [List.all_eq_true] at k
      show D.lst (xs.map (res h n)) = .lst xs
      congr 1
      conv => rhs; rw [← List.map_id xs]
      exact List.map_congr_left fun x hx => res_ok n h x (k x hx)
    | _ => first | rfl | (simp [okD] at k)
theorem eqq_ok {h : MH} {a b : D} (ha : okD 8 a = true) (hb : okD 8 b = true) : eqq h a b = some (eqD a b) := by
  unfold eqq
  rw [res_ok 8 h a ha, res_ok 8 h b hb, ha, hb]
  rfl
theorem cmp_eqO {h : MH} {a b : D} (ha : okD 8 a = true) (hb : okD 8 b = true) : cmpM .eq a b h = .ok (.bl (eqD a b)) h := by
  show (match eqq h a b with
    | some k => R.ok (D.bl k) h
    | none => .stuck) = _
  rw [eqq_ok ha hb]
mutual
/-- data without True, False among what is compared -/
def can : D → Bool
  | .non => true
  | .int _ => true
  | .str _ => true
  | .tup xs => canL xs
  | .lst xs => canL xs
  | _ => false
def canL : List D → Bool
  | [] => true
  | x :: xs => can x && canL xs
end
mutual
theorem eqD_iff : ∀ (a b : D), can a = true → can b = true → (eqD a b = true ↔ a = b)
  | a, b, ha, hb => by
    cases a with
    | tup xs => cases b with
      | tup ys =>
        have := eqL_iff xs ys ha hb
        show eqL xs ys = true ↔ _
        rw [this]; simp
      | _ => simp [eqD]
    | lst xs => cases b with
      | lst ys =>
        have := eqL_iff xs ys ha hb
        show eqL xs ys = true ↔ _
        rw [this]; simp
      | scr ns => simp [can] at hb
      | _ => simp [eqD]
    | non => cases b <;> simp [eqD]
    | int i => cases b with
      | bl x => simp [can] at hb
      | _ => simp [eqD]
    | str x => cases b <;> simp [eqD]
    | _ => simp [can] at ha
theorem eqL_iff : ∀ (a b : List D), canL a = true → canL b = true → (eqL a b = true ↔ a = b)
  | [], [], _, _ => by simp [eqL]
  | [], y :: ys, _, _ => by simp [eqL]
  | x :: xs, [], _, _ => by simp [eqL]
  | x :: xs, y :: ys, ha, hb => by
    have ha : (can x && canL xs) = true := ha
    have hb : (can y && canL ys) = true := hb
    rw [Bool.and_eq_true] at ha hb
    have i1 := eqD_iff x y ha.1 hb.1
    have i2 := eqL_iff xs ys ha.2 hb.2
    show (eqD x y && eqL xs ys) = true ↔ _
    rw [Bool.and_eq_true, i1, i2]
    simp
end
theorem okL_map {α : Type} (n : Nat) (l : List α) (f : α → D) (h : ∀ a ∈ l, okD n (f a) = true) : (l.map f).all (okD n) = true := List.all_eq_true.mpr fun x hx => by
  obtain ⟨a, ha, rfl⟩ := List.mem_map.mp hx
  exact h a ha
theorem clL_map {α : Type} (b : Nat) (l : List α) (f : α → D) (h : ∀ a ∈ l, cl b (f a) = true) : clL b (l.map f) = true := by
  induction l with
  | nil => rfl
  | cons x l ih =>
    show (cl b (f x) && clL b (l.map f)) = true
    rw [h x (List.mem_cons_self ..), ih fun y hy => h y (List.mem_cons_of_mem _ hy)]
    rfl
mutual
theorem cl_mono {b c : Nat} (h : b ≤ c) : ∀ d : D, cl b d = true → cl c d = true
  | d, k => by
    cases d with
    | ref n => simp only [cl, decide_eq_true_eq] at k ⊢; omega
    | tup xs => exact clL_mono h xs k
    | lst xs => exact clL_mono h xs k
    | dK kvs => exact clK_mono h kvs k
    | dT kvs => exact clT_mono h kvs k
    | _ => rfl
theorem clL_mono {b c : Nat} (h : b ≤ c) : ∀ xs : List D, clL b xs = true → clL c xs = true
  | [], _ => rfl
  | x :: xs, k => by
    have k : (cl b x && clL b xs) = true := k
    rw [Bool.and_eq_true] at k
    show (cl c x && clL c xs) = true
    rw [cl_mono h x k.1, clL_mono h xs k.2]; rfl
theorem clK_mono {b c : Nat} (h : b ≤ c) : ∀ xs : List (Ky × D), clK b xs = true → clK c xs = true
  | [], _ => rfl
  | (q, x) :: xs, k => by
    have k : (cl b x && clK b xs) = true := k
    rw [Bool.and_eq_true] at k
    show (cl c x && clK c xs) = true
    rw [cl_mono h x k.1, clK_mono h xs k.2]; rfl
theorem clT_mono {b c : Nat} (h : b ≤ c) : ∀ xs : List (List Ky × D), clT b xs = true → clT c xs = true
  | [], _ => rfl
  | (q, x) :: xs, k => by
    have k : (cl b x && clT b xs) = true := k
    rw [Bool.and_eq_true] at k
    show (cl c x && clT c xs) = true
    rw [cl_mono h x k.1, clT_mono h xs k.2]; rfl
end
theorem clO_mono {b c : Nat} (h : b ≤ c) (o : MO) (k : clO b o = true) : clO c o = true := by
  cases o with
  | lst xs => exact clL_mono h xs k
  | dK l kvs => exact clK_mono h kvs k
  | dT l kvs => exact clT_mono h kvs k
  | ins c' fs =>
    have k : (fs.all fun p => cl b p.2) = true := k
    show (fs.all fun p => cl c p.2) = true
    rw [List.all_eq_true] at k ⊢
    exact fun x hx => cl_mono h _ (k x hx)
theorem clH_mono {b c : Nat} (h : b ≤ c) (m : MH) (k : clH b m = true) : clH c m = true := by
  unfold clH at *
  rw [List.all_eq_true] at k ⊢
  exact fun x hx => clO_mono h _ (k x hx)
theorem clH_app {h t : MH} (k : clH h.length h = true) (kt : clH (h.length + t.length) t = true) : clH (h ++ t).length (h ++ t) = true := by
  rw [List.length_append]
  have := clH_mono (c := h.length + t.length) (by omega) h k
  unfold clH at *
  rw [List.all_append, this, kt]; rfl
@[simp] theorem clH_nil (b : Nat) : clH b [] = true := rfl
@[simp] theorem clH_cons (b : Nat) (o : MO) (t : MH) : clH b (o :: t) = (clO b o && clH b t) := rfl
@[simp] theorem clO_lst (b : Nat) (xs : List D) : clO b (.lst xs) = clL b xs := rfl
@[simp] theorem clO_dT (b : Nat) (l : Bool) (xs : List (List Ky × D)) : clO b (.dT l xs) = clT b xs := rfl
def cellD (c : Cell) : D := .tup [.int (c.1 : Nat), .int (c.2 : Nat)]
theorem row_col : (Str.ofString "row" = Str.ofString "column") = False := by
  simp only [eq_iff_iff, iff_false]; decide
theorem col_row : (Str.ofString "column" = Str.ofString "row") = False := by
  simp only [eq_iff_iff, iff_false]; decide
theorem row_ok : PyData.strOk (Str.ofString "row") = true := by decide +kernel
theorem col_ok : PyData.strOk (Str.ofString "column") = true := by decide +kernel
def kindS (b : Bool) : Str := if b then Str.ofString "row" else Str.ofString "column"
theorem kindS_ok (b : Bool) : PyData.strOk (kindS b) = true := by cases b <;> decide +kernel
theorem kindS_inj (a b : Bool) : kindS a = kindS b ↔ a = b := by cases a <;> cases b <;> decide
def spotD (s : Spot) : D := .tup [.str (kindS s.1), .int (s.2 : Nat)]
theorem spotD_row (i : Nat) : D.tup [.str (Str.ofString "row"), .int (i : Nat)] = spotD (true, i) := rfl
theorem spotD_col (i : Nat) : D.tup [.str (Str.ofString "column"), .int (i : Nat)] = spotD (false, i) := rfl
theorem cellD_inj {s t : Cell} : cellD s = cellD t ↔ s = t := by
  obtain ⟨a, i⟩ := s; obtain ⟨b, j⟩ := t
  simp [cellD, Int.ofNat_inj]
@[simp] theorem spot_cl (b : Nat) (s : Spot) : cl b (spotD s) = true := rfl
@[simp] theorem cell_cl (b : Nat) (s : Cell) : cl b (cellD s) = true := rfl
@[simp] theorem spots_cl (b : Nat) (l : List Spot) : clL b (l.map spotD) = true := clL_map _ _ _ fun _ _ => rfl
@[simp] theorem cells_cl (b : Nat) (l : List Cell) : clL b (l.map cellD) = true := clL_map _ _ _ fun _ _ => rfl
def cellK (c : Cell) : List Ky := [.inl (c.1 : Nat), .inl (c.2 : Nat)]
def spotK (s : Spot) : List Ky := [.inr (kindS s.1), .inl (s.2 : Nat)]
theorem ks_cell (i j : Nat) : ksOf [.int (i : Nat), .int (j : Nat)] = some (cellK (i, j)) := rfl
theorem cellK_inj {s t : Cell} : cellK s = cellK t ↔ s = t := by
  obtain ⟨a, i⟩ := s; obtain ⟨b, j⟩ := t
  simp [cellK, Int.ofNat_inj]
theorem spotK_inj {s t : Spot} : spotK s = spotK t ↔ s = t := by
  obtain ⟨a, i⟩ := s; obtain ⟨b, j⟩ := t
  simp [spotK, kindS_inj, Int.ofNat_inj]
section
variable {h : MH}
@[simp] theorem idx_cell0 (c : Cell) : idxM (cellD c) (.int 0) h = .ok (.int (c.1 : Nat)) h := rfl
@[simp] theorem idx_cell1 (c : Cell) : idxM (cellD c) (.int 1) h = .ok (.int (c.2 : Nat)) h := rfl
@[simp] theorem idx_spot0 (s : Spot) : idxM (spotD s) (.int 0) h = .ok (.str (kindS s.1)) h := rfl
@[simp] theorem idx_spot1 (s : Spot) : idxM (spotD s) (.int 1) h = .ok (.int (s.2 : Nat)) h := rfl
@[simp] theorem cmp_kind_row (b : Bool) : cmpM .eq (.str (kindS b)) (.str (Str.ofString "row")) h = .ok (.bl b) h := by
  rw [cmp_eqO (a := .str (kindS b)) (b := .str (Str.ofString "row")) (kindS_ok b) row_ok]
  cases b <;> simp [eqD, kindS, col_row]
@[simp] theorem cmp_kind_col (b : Bool) : cmpM .eq (.str (kindS b)) (.str (Str.ofString "column")) h = .ok (.bl (!b)) h := by
  rw [cmp_eqO (a := .str (kindS b)) (b := .str (Str.ofString "column")) (kindS_ok b) col_ok]
  cases b <;> simp [eqD, kindS, row_col]
end
theorem lookK_map {κ α : Type} [BEq κ] [LawfulBEq κ] (ek : κ → List Ky) (inj : ∀ a b, ek a = ek b → a = b) (ev : α → D) (q : κ) : ∀ (l : List (κ × α)), lookK (l.map fun p => (ek p.1, ev p.2)) (ek q) = (l.lookup q).map ev
  | [] => rfl
  | (k, v) :: l => by
    simp only [List.map_cons, lookK, List.lookup_cons]
    by_cases h : k = q
    · subst h; simp
    · have h1 : ¬ ek k = ek q := fun z => h (inj _ _ z)
      have h2 : (q == k) = false := by simpa using fun z => h z.symm
      rw [if_neg h1, h2]
      exact lookK_map ek inj ev q l
theorem putK_new {κ α : Type} [DecidableEq κ] {kvs : List (κ × α)} {q : κ} {v : α} (h : lookK kvs q = none) : putK kvs q v = kvs ++ [(q, v)] := by
  unfold putK
  rw [if_neg]
  intro z
  rw [List.any_eq_true] at z
  obtain ⟨⟨k, w⟩, m, e⟩ := z
  simp at e
  subst e
  induction kvs with
  | nil => cases m
  | cons p r ih =>
    obtain ⟨k', w'⟩ := p
    simp only [lookK] at h
    by_cases c : k' = k
    · rw [if_pos c] at h; cases h
    · rw [if_neg c] at h
      rcases List.mem_cons.mp m with y | y
      · cases y; exact c rfl
      · exact ih y h
def heldK (cs : List Cell) (T : Gd) : List (List Ky × D) := cs.map fun c => (cellK c, .int (T c.1 c.2))
theorem held_look {cs : List Cell} {T : Gd} {c : Cell} (h : c ∈ cs) : lookK (heldK cs T) (cellK c) = some (.int (T c.1 c.2)) := by
  induction cs with
  | nil => cases h
  | cons x cs ih =>
    simp only [heldK, List.map_cons, lookK]
    by_cases e : x = c
    · subst e; simp
    · rw [if_neg fun z => e (cellK_inj.mp z)]
      exact ih ((List.mem_cons.mp h).resolve_left fun z => e z.symm)
theorem held_put {cs : List Cell} {T : Gd} {c : Cell} {v : Int} (h : c ∈ cs) : putK (heldK cs T) (cellK c) (.int v) = heldK cs (upd T c.1 c.2 v) := by
  unfold putK
  rw [if_pos (by
    rw [List.any_eq_true]
    exact ⟨(cellK c, .int (T c.1 c.2)), List.mem_map.mpr ⟨c, h, rfl⟩, by simp⟩)]
  unfold heldK
  rw [List.map_map]
  refine List.map_congr_left fun x _ => ?_
  simp only [Function.comp_apply]
  by_cases e : x = c
  · subst e; simp [upd]
  · rw [if_neg fun z => e (cellK_inj.mp z)]
    rw [upd_ne _ _ fun z => e (Prod.ext z.1 z.2)]
@[simp] theorem held_len (cs : List Cell) (T : Gd) : (heldK cs T).length = cs.length := by simp [heldK]
theorem held_keys (cs : List Cell) (T : Gd) : (heldK cs T).map (fun p => D.tup (p.1.map kyD)) = cs.map cellD := by
  simp [heldK, cellK, cellD, kyD, List.map_map, Function.comp_def]
theorem clT_map {α : Type} (b : Nat) (l : List α) (f : α → List Ky × D) (h : ∀ a ∈ l, cl b (f a).2 = true) : clT b (l.map f) = true := by
  induction l with
  | nil => rfl
  | cons x l ih =>
    show (cl b (f x).2 && clT b (l.map f)) = true
    rw [h x (List.mem_cons_self ..), ih fun y hy => h y (List.mem_cons_of_mem _ hy)]
    rfl
@[simp] theorem held_cl (b : Nat) (cs : List Cell) (T : Gd) : clT b (heldK cs T) = true := clT_map b _ _ fun _ _ => rfl
structure Shut (N : Net) (cs : List Cell) : Prop where
  mem : ∀ i j, (i, j) ∈ cs ↔ i < N.R ∧ j < N.C ∧ N.p i j = true
  len : cs.length ≤ 100
  nd : cs.Nodup
section
variable {h : MH} {cs : List Cell} {T : Gd} {c : Cell}
theorem idx_held (hc : c ∈ cs) : idxM (.dT (heldK cs T)) (cellD c) h = .ok (.int (T c.1 c.2)) h := by
  unfold cellD
  rw [idx_dT, ks_cell]
  show onO (lookK (heldK cs T) (cellK c)) _ = _
  rw [held_look hc]
  rfl
end
theorem unlock_dT {H : MH} {n : Nat} {kvs : List (List Ky × D)} (e : H[n]? = some (.dT true kvs)) : unlock H n = some (H.set n (.dT false kvs)) := by
  unfold unlock
  rw [e]
theorem forD_wp {α : Type} {ft : FT} {W : Nat} {t : Tg} {i n : Nat} {bS : S} {e : Ev} {h : MH} {fl : Fl} {kvs : List (List Ky × D)} (hf : exS ft W (.forD t i bS) e h = fl) (hv : vget e i = some (.ref n)) (hn : h[n]? = some (.dT false kvs)) (l : List α) (enc : α → D) (hx : kvs.map (fun p => D.tup (p.1.map kyD)) = l.map enc)
    (I : List α → Ev → MH → Prop) (h0 : I [] e (h.set n (.dT true kvs))) (hl : ∀ e' h', I l e' h' → h'[n]? = some (.dT true kvs))
    (step : ∀ pre x post e h, l = pre ++ x :: post → I pre e h → ∃ e1, setT t (enc x) e = some e1 ∧ (exS ft W bS e1 h).go (I (pre ++ [x])) fun _ => False) :
    ∃ e' h', fl = .nx e' (h'.set n (.dT false kvs)) ∧ I l e' h' := by
  have run : exS ft W (.forD t i bS) e h = (match vget e i with
    | some (.ref n) => (match keysH h n with
      | some (xs, h2) => (match forL t (exS ft W bS) xs e h2 with
        | .nx e3 h3 => (match unlock h3 n with
          | some h4 => .nx e3 h4
          | none => .stuck)
        | _ => .stuck)
      | none => .stuck)
    | _ => .stuck) := rfl
  rw [run, hv] at hf
  have kh : keysH h n = some (l.map enc, h.set n (.dT true kvs)) := by
    unfold keysH
    rw [hn]
    simp only
    rw [hx]
  simp only [kh] at hf
  obtain ⟨e', h', z, i'⟩ := forL_nx (rfl : forL t (exS ft W bS) (l.map enc) e (h.set n (.dT true kvs)) = _) l enc I rfl h0 step
  rw [z] at hf
  simp only [unlock_dT (hl e' h' i')] at hf
  exact ⟨e', h', hf.symm, i'⟩
end Mi
namespace Mi
open PySem
def barD : Option Cell → D
  | none => .non
  | some c => cellD c
def stp (T : Gd) (bar : Option Cell) (s : Spot) (c : Cell) : List Spot :=
  if some c = bar then [] else (if s.1 = true ∧ c.1 = s.2 then [(false, c.2)] else []) ++ (if s.1 = false ∧ c.2 = s.2 ∧ 0 < T c.1 c.2 then [(true, c.1)] else [])
def steps (cs : List Cell) (T : Gd) (bar : Option Cell) (s : Spot) : List Spot := cs.flatMap (stp T bar s)
theorem steps_mem {N : Net} {cs : List Cell} {T : Gd} (S : Shut N cs) (s t : Spot) : t ∈ steps cs T N.bar s ↔ N.E T s t := by
  unfold steps stp
  obtain ⟨x, i⟩ := s; obtain ⟨y, j⟩ := t
  simp only [List.mem_flatMap]
  constructor
  · rintro ⟨⟨a, b⟩, m, h⟩
    have m := (S.mem a b).mp m
    split at h
    · cases h
    · rename_i nb
      have nb : N.bar ≠ some (a, b) := fun z => nb z.symm
      cases x
      · simp at h
        obtain ⟨⟨rfl, h2⟩, rfl, rfl⟩ := h
        exact ⟨m.1, m.2.1, m.2.2, nb, h2⟩
      · simp at h
        obtain ⟨rfl, rfl, rfl⟩ := h
        exact ⟨m.1, m.2.1, m.2.2, nb⟩
  · intro h
    cases x <;> cases y <;> simp only [Net.E] at h
    · obtain ⟨h1, h2, h3, h4, h5⟩ := h
      refine ⟨(j, i), (S.mem j i).mpr ⟨h1, h2, h3⟩, ?_⟩
      rw [if_neg fun z => h4 z.symm]
      simp [h5]
    · obtain ⟨h1, h2, h3, h4⟩ := h
      refine ⟨(i, j), (S.mem i j).mpr ⟨h1, h2, h3⟩, ?_⟩
      rw [if_neg fun z => h4 z.symm]
      simp
theorem cmp_cell_bar (c : Cell) (b : Option Cell) (h : MH) : cmpM .eq (cellD c) (barD b) h = .ok (.bl (decide (some c = b))) h := by
  cases b with
  | none => rfl
  | some d =>
    rw [cmp_eqO (by rfl) (by rfl)]
    congr 2
    rw [Bool.eq_iff_iff, eqD_iff _ _ (by rfl) (by rfl)]
    show cellD c = cellD d ↔ _
    rw [cellD_inj]; simp
section
variable {n : Nat} {h : MH}
theorem stp_len (T : Gd) (bar : Option Cell) (s : Spot) (c : Cell) : (stp T bar s c).length ≤ 1 := by
  unfold stp
  split
  · simp
  · rw [List.length_append]
    split <;> split <;> simp <;> simp_all
theorem set_self {α : Type} {l : List α} {k : Nat} {x : α} (e : l[k]? = some x) : l.set k x = l := by
  obtain ⟨hk, e⟩ := List.getElem?_eq_some_iff.mp e
  rw [← e]
  exact List.set_getElem_self hk
theorem steps_from_spec {k : Nat} {cs : List Cell} {T : Gd} (hk : h[k]? = some (.dT false (heldK cs T))) (hc : clH h.length h = true) (hcs : cs.length ≤ 100) (s : Spot) (bar : Option Cell) :
    callN G (n + 1) 16 [.ref k, spotD s, barD bar] h = .ok (.lst ((steps cs T bar s).map spotD)) h := by
  rw [runG fi_steps_from rfl rfl]
  have kl : k < h.length := (List.getElem?_eq_some_iff.mp hk).1
  simp only [fi_steps_from]
  simp [spotD]
  generalize hf : exS _ _ (S.forD _ _ _) _ _ = fl
  have hk' : (h ++ [MO.lst []])[k]? = some (.dT false (heldK cs T)) := by rw [List.getElem?_append_left kl]; exact hk
  generalize hH : h.set k (.dT true (heldK cs T)) = H
  have hl : h.length = H.length := by rw [← hH]; simp
  have Hk : ∀ t, (H ++ t)[k]? = some (.dT true (heldK cs T)) := fun t => by rw [List.getElem?_append_left (by omega), ← hH]; simp [kl]
  obtain ⟨I, hI⟩ : ∃ I : List Cell → Ev → MH → Prop, ∀ pre e h', I pre e h' ↔ ∃ o acc, e = [some (.ref k), some (spotD s), some (barD bar), some (.str (kindS s.1)), some (.int (s.2 : Nat)), some (.ref H.length), o] ∧ h' = H ++ [.lst (acc.map spotD)] ∧ acc.length ≤ pre.length ∧ acc = pre.flatMap (stp T bar s) := ⟨_, fun _ _ _ => Iff.rfl⟩
  obtain ⟨e', h', rfl, i'⟩ := forD_wp hf rfl hk' cs cellD (held_keys cs T) I
    ((hI _ _ _).mpr ⟨none, [], by rw [hl]; rfl, by rw [List.set_append_left _ _ kl, hH]; rfl, by simp, rfl⟩)
    (fun e' h' i => by obtain ⟨o, acc, _, z, _⟩ := (hI _ _ _).mp i; rw [z]; exact Hk _)
    (fun pre x post e h' hpre i => by
      obtain ⟨o, acc, rfl, rfl, z3, z4⟩ := (hI _ _ _).mp i
      refine ⟨_, rfl, ?_⟩
      have hx : x ∈ cs := by rw [hpre]; simp
      have lp : pre.length ≤ cs.length := by rw [hpre]; simp
      have lb : acc.length < big := by unfold big; omega
      have step : ∀ acc' o', stp T bar s x = acc' → I (pre ++ [x]) [some (.ref k), some (spotD s), some (barD bar), some (.str (kindS s.1)), some (.int (s.2 : Nat)), some (.ref H.length), o'] (H ++ [.lst ((acc ++ acc').map spotD)]) := fun acc' o' e => (hI _ _ _).mpr ⟨_, _, rfl, rfl, by have := stp_len T bar s x; rw [e] at this; simp; omega, by rw [← e, z4]; simp⟩
      clear hf
      by_cases c1 : some x = bar
      · have := step [] (some (cellD x)) (by simp [stp, c1])
        simpa [cmp_cell_bar, c1] using this
      · by_cases c2 : s.1 = true
        · by_cases c3 : x.1 = s.2
          · have := step [(false, x.2)] (some (cellD x)) (by simp [stp, c1, c2, c3])
            simpa [cmp_cell_bar, c1, c2, c3, app_ref, lb, spotD_col] using this
          · have := step [] (some (cellD x)) (by simp [stp, c1, c2, c3])
            simpa [cmp_cell_bar, c1, c2, c3, Int.ofNat_inj] using this
        · have c2 : s.1 = false := by simpa using c2
          by_cases c3 : s.2 = x.2
          · by_cases c4 : 0 < T x.1 x.2
            · have := step [(true, x.1)] (some (cellD x)) (by simp [stp, c1, c2, c3, c4])
              simpa [cmp_cell_bar, c1, c2, c3, Hk, idx_held hx, c4, app_ref, lb, spotD_row] using this
            · have := step [] (some (cellD x)) (by simp [stp, c1, c2, c3, c4])
              simpa [cmp_cell_bar, c1, c2, c3, Hk, idx_held hx, c4] using this
          · have c3' : ¬ x.2 = s.2 := fun z => c3 z.symm
            have := step [] (some (cellD x)) (by simp [stp, c1, c2, c3'])
            simpa [cmp_cell_bar, c1, c2, c3', Int.ofNat_inj] using this)
  obtain ⟨o, acc, rfl, rfl, la, rfl⟩ := (hI _ _ _).mp i'
  have hb : (H ++ [MO.lst ((cs.flatMap (stp T bar s)).map spotD)]).set k (.dT false (heldK cs T)) = h ++ [MO.lst ((cs.flatMap (stp T bar s)).map spotD)] := by
    rw [List.set_append_left _ _ (by omega), ← hH, List.set_set]
    congr 1
    exact set_self hk
  rw [hb, ← hl]
  simp
  exact fin_ref0 (clL_map _ _ _ fun _ _ => rfl) hc
def optS : Option Spot → D
  | none => .non
  | some s => spotD s
def treeK (l : Tree) : List (List Ky × D) := l.map fun p => (spotK p.1, optS p.2)
theorem tree_look (l : Tree) (s : Spot) : lookK (treeK l) (spotK s) = (l.lookup s).map optS := lookK_map spotK (fun _ _ => spotK_inj.mp) optS s l
@[simp] theorem tree_len (l : Tree) : (treeK l).length = l.length := by simp [treeK]
@[simp] theorem tree_cl (b : Nat) (l : Tree) : clT b (treeK l) = true := clT_map b _ _ fun a _ => by cases a.2 <;> rfl
theorem merge_nd {κ α : Type} [DecidableEq κ] : ∀ (r kvs : List (κ × α)), (kvs.map (·.1) ++ r.map (·.1)).Nodup → merge kvs r = kvs ++ r
  | [], kvs, _ => by simp [merge]
  | (k, v) :: r, kvs, nd => by
    have nk : lookK kvs k = none := by
      have : k ∉ kvs.map (·.1) := fun m => by
        have := (List.nodup_append.mp nd).2.2 k m k (by simp)
        exact this rfl
      clear nd
      induction kvs with
      | nil => rfl
      | cons p kvs ih =>
        obtain ⟨k', v'⟩ := p
        simp only [lookK]
        rw [if_neg fun z => this (by simp [z])]
        exact ih fun m => this (by simp [m])
    unfold merge
    rw [putK_new nk, merge_nd r (kvs ++ [(k, v)]) (by simpa using nd)]
    simp
theorem prsT_map {α : Type} (l : List α) (f : α → D) (k : α → List Ky) (v : α → D) (e : ∀ a ∈ l, ∃ ks, f a = .tup [.tup ks, v a] ∧ ksOf ks = some (k a)) : prsT (l.map f) = some (l.map fun a => (k a, v a)) := by
  induction l with
  | nil => rfl
  | cons a l ih =>
    obtain ⟨ks, e1, e2⟩ := e a (List.mem_cons_self ..)
    simp only [List.map_cons, e1, prsT, e2]
    rw [ih fun b hb => e b (List.mem_cons_of_mem _ hb)]
theorem dict_true (xs : List D) (ps : List (List Ky × D)) (e : prsT xs = some ps) (nd : (ps.map (·.1)).Nodup) : prim1 (.dict true) (.lst xs) h = .ok (.ref h.length) (h ++ [.dT false ps]) := by
  show (match prsT xs with
    | some ps => if true then R.ok (D.ref h.length) (h ++ [MO.dT false (merge [] ps)]) else R.ok (D.dT (merge [] ps)) h
    | none => R.stuck) = _
  rw [e]
  simp only [if_true]
  rw [merge_nd ps [] (by simpa using nd)]
  rfl
theorem look_keys (l : Tree) (s : Spot) : (l.lookup s).isSome = decide (s ∈ keysT l) := by
  by_cases c : s ∈ keysT l
  · obtain ⟨o, e⟩ := lookup_some c
    rw [e]; simp [c]
  · rw [lookup_none c]; simp [c]
theorem nin_tree {H : MH} {m : Nat} {l : Tree} {b : Bool} (s : Spot) (e : H[m]? = some (.dT b (treeK l))) : cmpM .nin (spotD s) (.ref m) H = .ok (.bl (!decide (s ∈ keysT l))) H := by
  unfold spotD
  rw [nin_dT b (treeK l) _ m e (spotK s) rfl, tree_look, Option.isSome_map, look_keys]
theorem in_treeV {H : MH} {l : Tree} (s : Spot) : cmpM .inn (spotD s) (.dT (treeK l)) H = .ok (.bl (decide (s ∈ keysT l))) H := by
  unfold spotD
  rw [in_dTv (treeK l) _ (spotK s) rfl, tree_look, Option.isSome_map, look_keys]
theorem idx_tree {H : MH} {l : Tree} {s : Spot} {o : Option Spot} (e : l.lookup s = some o) : idxM (.dT (treeK l)) (spotD s) H = .ok (optS o) H := by
  unfold spotD
  rw [idx_dT]
  show onO (lookK (treeK l) (spotK s)) _ = _
  rw [tree_look, e]
  rfl
theorem sub_tree {H : MH} {m : Nat} {l : Tree} {s : Spot} {q : Option Spot} {e : Ev} (z : H[m]? = some (.dT false (treeK l))) (hs : s ∉ keysT l) (b : l.length < big) : subM (.ref m) (spotD s) (optS q) e H = .nx e (H.set m (.dT false (treeK (l ++ [(s, q)])))) := by
  unfold spotD
  rw [sub_dT (treeK l) _ _ _ m z (by simpa using b) (spotK s) rfl]
  rw [putK_new (by rw [tree_look, lookup_none hs]; rfl)]
  simp [treeK]
theorem clH_two {h : MH} (hc : clH h.length h = true) (l : Tree) (ss : List Spot) : clH (h ++ [MO.dT false (treeK l), .lst (ss.map spotD)]).length (h ++ [MO.dT false (treeK l), .lst (ss.map spotD)]) = true := clH_app hc (by simp)
theorem fin_dT {h t : MH} {l : Bool} {kvs : List (List Ky × D)} {j : Nat} (e : t[j]? = some (.dT false kvs)) (hx : clT h.length kvs = true) (hc : clH h.length h = true) : fin none h.length (.ref (h.length + j)) (h ++ t) = .ok (.dT kvs) h := by
  have hj := (List.getElem?_eq_some_iff.mp e).1
  unfold fin
  simp only
  rw [if_neg (by rw [List.length_append]; omega)]
  have : fz (h ++ t) h.length 5 (.ref (h.length + j)) = some (.dT kvs) := by
    unfold fz
    rw [if_neg (by simp [cl])]
    simp only [hget, e]
    rw [if_pos hx]
  rw [this]
  simp only [List.take_left]
  rw [if_pos hc]
theorem reached_spec {k : Nat} {N : Net} {cs : List Cell} {T : Gd} (S : Shut N cs) (hk : h[k]? = some (.dT false (heldK cs T))) (hc : clH h.length h = true) (hR : N.R ≤ 100) (hC : N.C ≤ 100) (starts : List Spot) (snd : starts.Nodup) (sok : ∀ s ∈ starts, N.ok s) :
    ∃ l : Tree, callN G (n + 2) 17 [.ref k, .lst (starts.map spotD), barD N.bar] h = .ok (.dT (treeK l)) h ∧ TreeOk N T starts l ∧ Clo N T (fun s => s ∈ keysT l) := by
  rw [runG fi_reached rfl rfl]
  have kl : k < h.length := (List.getElem?_eq_some_iff.mp hk).1
  have sl := spots_len snd sok
  simp only [fi_reached]
  simp
  rw [lcM starts spotD (fun s => .tup [spotD s, .non]) rfl (fun s _ => ⟨_, rfl, by simp⟩)]
  simp
  have pr : prsT (starts.map fun s => D.tup [spotD s, .non]) = some (treeK (starts.map fun s => (s, none))) := by
    rw [prsT_map starts (fun s => .tup [spotD s, .non]) spotK (fun _ => .non) fun a _ => ⟨[.str (kindS a.1), .int (a.2 : Nat)], rfl, rfl⟩]
    simp [treeK, optS, Function.comp_def]
  have nd0 : ∀ l : Tree, (keysT l).Nodup → ((treeK l).map (·.1)).Nodup := fun l nd => by
    have : (treeK l).map (·.1) = (keysT l).map spotK := by simp [treeK, keysT, Function.comp_def]
    rw [this]
    exact List.Pairwise.map _ (fun a b ne z => ne (spotK_inj.mp z)) nd
  rw [dict_true _ _ pr (nd0 _ (by rw [keysT_map]; exact snd))]
  simp
  generalize hf : whL _ _ _ _ _ = fl
  obtain ⟨J, hJ⟩ : ∃ J : Nat → Ev → MH → Prop, ∀ m e h', J m e h' ↔ ∃ (at_ : Nat) (l : Tree) (o : Option D), e = [some (.ref k), some (.lst (starts.map spotD)), some (barD N.bar), some (.ref h.length), some (.ref (h.length + 1)), some (.int (at_ : Nat)), o] ∧ h' = h ++ [.dT false (treeK l), .lst ((keysT l).map spotD)] ∧ TreeOk N T starts l ∧ at_ ≤ l.length ∧ (∀ i, i < at_ → ∀ u, (keysT l)[i]? = some u → ∀ v, N.E T u v → v ∈ keysT l) ∧ m = N.R + N.C - at_ := ⟨_, fun _ _ _ => Iff.rfl⟩
  have t0 : TreeOk N T starts (starts.map fun s => (s, none)) := .init snd sok
  rcases whL_wp hf J (fun e h' => ∃ (l : Tree) (at_ : Nat) (o : Option D), e = [some (.ref k), some (.lst (starts.map spotD)), some (barD N.bar), some (.ref h.length), some (.ref (h.length + 1)), some (.int (at_ : Nat)), o] ∧ h' = h ++ [.dT false (treeK l), .lst ((keysT l).map spotD)] ∧ TreeOk N T starts l ∧ Clo N T (fun s => s ∈ keysT l)) (fun _ => False) (N.R + N.C) (by unfold WF; omega)
    ((hJ _ _ _).mpr ⟨0, _, none, rfl, by rw [keysT_map], t0, by simp, fun i hi => absurd hi (by omega), by simp⟩)
    (fun m e h' j => by
      obtain ⟨at_, l, o, rfl, rfl, tr, al, cl, rfl⟩ := (hJ _ _ _).mp j
      have kl2 : (keysT l).length = l.length := by simp [keysT]
      have tl := tr.len
      by_cases c : at_ < l.length
      · right
        refine ⟨_, by simp [kl2, Int.ofNat_lt, c]; rfl, ?_⟩
        have Hk : (h ++ [MO.dT false (treeK l), .lst ((keysT l).map spotD)])[k]? = some (.dT false (heldK cs T)) := by rw [List.getElem?_append_left kl]; exact hk
        have ec : (keysT l)[at_]? = some (keysT l)[at_] := List.getElem?_eq_getElem (by omega)
        have ia : ∀ (l' : Tree) (t : Tree) (H : MH), l' = l ++ t → idxM (.lst ((keysT l').map spotD)) (.int (at_ : Nat)) H = .ok (spotD (keysT l)[at_]) H := fun l' t H e => idx_lst _ _ _ (atI_nat _ _ _ (by
          rw [e]; unfold keysT; rw [List.getElem?_map, List.map_append, List.getElem?_append_left (by simpa using c)]
          have := ec; unfold keysT at this; rw [this]; rfl))
        simp [ia l [] _ (by simp), steps_from_spec Hk (clH_two hc _ _) S.len]
        generalize hf2 : forL _ _ _ _ _ = fl2
        obtain ⟨I, hI⟩ : ∃ I : List Spot → Ev → MH → Prop, ∀ pre e h', I pre e h' ↔ ∃ (l' t : Tree) (o : Option D), e = [some (.ref k), some (.lst (starts.map spotD)), some (barD N.bar), some (.ref h.length), some (.ref (h.length + 1)), some (.int (at_ : Nat)), o] ∧ h' = h ++ [.dT false (treeK l'), .lst ((keysT l').map spotD)] ∧ TreeOk N T starts l' ∧ l' = l ++ t ∧ ∀ v ∈ pre, v ∈ keysT l' := ⟨_, fun _ _ _ => Iff.rfl⟩
        obtain ⟨e2, h2, rfl, i2⟩ := forL_nx hf2 (steps cs T N.bar (keysT l)[at_]) spotD I rfl ((hI _ _ _).mpr ⟨l, [], o, rfl, rfl, tr, by simp, fun _ h => nomatch h⟩)
          (fun pre x post e h' hpre i => by
            obtain ⟨l', t, o, rfl, rfl, tr', rfl, hv⟩ := (hI _ _ _).mp i
            refine ⟨_, rfl, ?_⟩
            have hx : N.E T (keysT l)[at_] x := (steps_mem S _ _).mp (by rw [hpre]; simp)
            have tl' := tr'.len
            clear hf hf2
            have nt := nin_tree (H := h ++ [MO.dT false (treeK (l ++ t)), .lst ((keysT (l ++ t)).map spotD)]) (m := h.length) (l := l ++ t) (b := false) x (by simp)
            by_cases c2 : x ∈ keysT (l ++ t)
            · have : I (pre ++ [x]) _ _ := (hI _ _ _).mpr ⟨l ++ t, t, some (spotD x), rfl, rfl, tr', rfl, fun v hv' => by
                rcases List.mem_append.mp hv' with z | z
                · exact hv v z
                · rw [List.mem_singleton.mp z]; exact c2⟩
              simpa [nt, c2] using this
            · have : I (pre ++ [x]) _ _ := (hI _ _ _).mpr ⟨l ++ (t ++ [(x, some (keysT l)[at_])]), t ++ [(x, some (keysT l)[at_])], some (spotD x), rfl, rfl, by
                rw [← List.append_assoc]
                exact tr'.add (by unfold keysT; rw [List.map_append]; exact List.mem_append_left _ (List.getElem_mem _)) hx c2, rfl, fun v hv' => by
                rw [← List.append_assoc]
                rcases List.mem_append.mp hv' with z | z
                · have := hv v z; unfold keysT at this ⊢; rw [List.map_append]; exact List.mem_append_left _ this
                · rw [List.mem_singleton.mp z]; unfold keysT; simp⟩
              have st := fun e => sub_tree (H := h ++ [.dT false (treeK (l ++ t)), .lst ((keysT (l ++ t)).map spotD)]) (m := h.length) (l := l ++ t) (s := x) (q := some (keysT l)[at_]) (e := e) (hget0) c2 (by unfold big; simp at tl' ⊢; omega)
              simp only [optS] at st
              have kk : (keysT (l ++ t)).length < big := by unfold big; simp [keysT] at tl' ⊢; omega
              simp [nt, c2, ia (l ++ t) t _ rfl, st, app_ref, kk]
              simpa [keysT] using this)
        obtain ⟨l', t, o, rfl, rfl, tr', rfl, hv⟩ := (hI _ _ _).mp i2
        have : J (N.R + N.C - (at_ + 1)) _ _ := (hJ _ _ _).mpr ⟨at_ + 1, l ++ t, o, rfl, rfl, tr', by simp; omega, fun i hi u hu v hv' => by
          unfold keysT at hu ⊢
          rw [List.map_append] at hu ⊢
          rw [List.getElem?_append_left (by simp; omega)] at hu
          by_cases q : i < at_
          · exact List.mem_append_left _ (cl i q u hu v hv')
          · have : i = at_ := by omega
            subst this
            have hu : (keysT l)[i]? = some u := hu
            rw [ec] at hu
            cases hu
            have := hv v ((steps_mem S _ _).mpr hv')
            unfold keysT at this
            rw [List.map_append] at this
            exact this, rfl⟩
        simp
        exact ⟨N.R + N.C - (at_ + 1), by omega, by simpa using this⟩
      · left
        refine ⟨_, by simp [kl2, Int.ofNat_lt, c], l, at_, o, rfl, rfl, tr, fun u v hu hv => ?_⟩
        obtain ⟨i, hi, e⟩ := List.getElem_of_mem hu
        exact cl i (by omega) u (by rw [List.getElem?_eq_getElem hi, e]) v hv) with ⟨e', h', rfl, l, at_, o, rfl, rfl, tr, cl⟩ | z
  · refine ⟨l, ?_, tr, cl⟩
    simp
    exact fin_dT (j := 0) (l := false) rfl (tree_cl _ _) hc
  · exact z.elim
end
end Mi
namespace Mi
open PySem
section
variable {n : Nat} {h : MH}
@[simp] theorem idx_lst0 (x : D) (xs : List D) : idxM (.lst (x :: xs)) (.int 0) h = .ok x h := idx_lst _ _ _ (atI0 x xs)
@[simp] theorem idx_tup0 (x : D) (xs : List D) : idxM (.tup (x :: xs)) (.int 0) h = .ok x h := idx_tup _ _ _ (atI0 x xs)
@[simp] theorem idx_tup1 (x y : D) (xs : List D) : idxM (.tup (x :: y :: xs)) (.int 1) h = .ok y h := idx_tup _ _ _ (atI1 x y xs)
@[simp] theorem isNon_spot (s : Spot) : isNon (spotD s) = false := rfl
@[simp] theorem isNon_cell (s : Cell) : isNon (cellD s) = false := rfl
theorem Back.len {N : Net} {T : Gd} {l : Tree} {to s : Spot} {r : List Spot} {k : Nat} (b : Back N T l to s r k) (nd : (keysT l).Nodup) : (s :: r).length ≤ l.length := by
  have := List.Nodup.length_le_of_subset (l₂ := keysT l) b.nd fun x hx => by
    rcases List.mem_cons.mp hx with z | z
    · subst z
      obtain ⟨o, e⟩ := b.at_
      exact List.mem_map.mpr ⟨_, List.mem_of_getElem? e, rfl⟩
    · obtain ⟨k', _, o, e⟩ := b.far x z
      exact List.mem_map.mpr ⟨_, List.mem_of_getElem? e, rfl⟩
  simpa [keysT] using this
theorem road_to_spec {N : Net} {T : Gd} {starts : List Spot} {l : Tree} (t : TreeOk N T starts l) (hR : N.R ≤ 100) (hC : N.C ≤ 100) (to : Spot) (hto : to ∈ keysT l) :
    ∃ a r, callN G (n + 1) 18 [.dT (treeK l), spotD to] h = .ok (.lst ((a :: r).map spotD)) h ∧ a ∈ starts ∧ Road N T (a :: r) ∧ (a :: r).Nodup ∧ lastS a r = to := by
  rw [runG fi_road_to rfl rfl]
  simp only [fi_road_to]
  simp [-Prod.exists, -List.nodup_cons]
  generalize hf : whL _ _ _ _ _ = fl
  have tl := t.len
  obtain ⟨J, hJ⟩ : ∃ J : Nat → Ev → MH → Prop, ∀ m e h', J m e h' ↔ ∃ (s : Spot) (r : List Spot), e = [some (.dT (treeK l)), some (spotD to), some (.lst ((s :: r).map spotD))] ∧ h' = h ∧ Back N T l to s r m := ⟨_, fun _ _ _ => Iff.rfl⟩
  obtain ⟨k0, b0⟩ := Back.init (N := N) (T := T) hto
  have kl : ∀ {s r k}, Back N T l to s r k → k < l.length := fun b => by
    obtain ⟨o, e⟩ := b.at_
    exact (List.getElem?_eq_some_iff.mp e).1
  rcases whL_wp hf J (fun e h' => ∃ (s : Spot) (r : List Spot) (k : Nat), e = [some (.dT (treeK l)), some (spotD to), some (.lst ((s :: r).map spotD))] ∧ h' = h ∧ Back N T l to s r k ∧ l.lookup s = some none) (fun _ => False) k0 (by have := kl b0; unfold WF; omega) ((hJ _ _ _).mpr ⟨to, [], rfl, rfl, b0⟩)
    (fun m e h' j => by
      obtain ⟨s, r, rfl, rfl, b⟩ := (hJ _ _ _).mp j
      have bl := b.len t.nd
      obtain ⟨o, ho⟩ := b.at_
      have lo := lookup_of_nd t.nd ho
      cases o with
      | none =>
        left
        exact ⟨_, by simp [idx_tree lo, optS, isNon], s, r, m, rfl, rfl, b, lo⟩
      | some q =>
        right
        refine ⟨_, by simp [idx_tree lo, optS]; rfl, ?_⟩
        obtain ⟨k', hk, b'⟩ := b.step t lo
        have := (hJ k' [some (.dT (treeK l)), some (spotD to), some (.lst ((q :: s :: r).map spotD))] h').mpr ⟨q, s :: r, rfl, rfl, b'⟩
        simp at bl
        have l1 : 1 + (r.length + 1) ≤ big := by unfold big; omega
        simp [idx_tree lo, optS, l1]
        exact ⟨k', hk, by simpa using this⟩) with ⟨e', h', rfl, s, r, k, rfl, rfl, b, lo⟩ | z
  · refine ⟨s, r, by simp, b.top t lo, b.road, b.nd, b.lst⟩
  · exact z.elim
def prs : Spot → List Spot → List (Spot × Spot)
  | _, [] => []
  | a, b :: r => (a, b) :: prs b r
def prD (p : Spot × Spot) : D := .tup [spotD p.1, spotD p.2]
theorem zip_prs : ∀ (a : Spot) (r : List Spot), zipD ((a :: r).map spotD) (r.map spotD) = (prs a r).map prD
  | a, [] => rfl
  | a, b :: r => by
    show D.tup [spotD a, spotD b] :: zipD ((b :: r).map spotD) (r.map spotD) = _
    rw [zip_prs b r]
    rfl
theorem pushR_fold (d : Int) : ∀ (r : List Spot) (a : Spot) (T : Gd), pushR T d (a :: r) = (prs a r).foldl (fun T p => pushE T d p.1 p.2) T
  | [], a, T => rfl
  | b :: r, a, T => by
    show pushR (pushE T d a b) d (b :: r) = _
    rw [pushR_fold d r b]
    rfl
theorem road_prs {N : Net} {T : Gd} : ∀ {r : List Spot} {a : Spot}, Road N T (a :: r) → ∀ p ∈ prs a r, N.E T p.1 p.2
  | [], a, _, p, h => nomatch h
  | b :: r, a, k, p, h => by
    rcases List.mem_cons.mp h with z | z
    · rw [z]; exact k.1
    · exact road_prs k.2 p z
theorem cap_prs {T : Gd} {d : Int} : ∀ {r : List Spot} {a : Spot}, (∀ p ∈ prs a r, p.1.1 = false → d ≤ T p.2.2 p.1.2) → Cap T d (a :: r)
  | [], a, _ => True.intro
  | b :: r, a, k => by
    refine ⟨?_, cap_prs fun p hp => k p (List.mem_cons_of_mem _ hp)⟩
    have := k (a, b) (List.mem_cons_self ..)
    obtain ⟨x, i⟩ := a; obtain ⟨y, j⟩ := b
    cases x <;> cases y <;> simp at this ⊢
    exact this
theorem E_kinds {N : Net} {T : Gd} {cs : List Cell} (S : Shut N cs) {u v : Spot} (e : N.E T u v) : (u.1 = true ∧ v.1 = false ∧ (u.2, v.2) ∈ cs) ∨ (u.1 = false ∧ v.1 = true ∧ (v.2, u.2) ∈ cs ∧ 0 < T v.2 u.2) := by
  obtain ⟨x, i⟩ := u; obtain ⟨y, j⟩ := v
  cases x <;> cases y <;> simp only [Net.E] at e
  · exact .inr ⟨rfl, rfl, (S.mem _ _).mpr ⟨e.1, e.2.1, e.2.2.1⟩, e.2.2.2.2⟩
  · exact .inl ⟨rfl, rfl, (S.mem _ _).mpr ⟨e.1, e.2.1, e.2.2.1⟩⟩
theorem cellD_mk (i j : Nat) : D.tup [.int (i : Nat), .int (j : Nat)] = cellD (i, j) := rfl
theorem augI_held {H : MH} {m : Nat} {cs : List Cell} {T : Gd} {c : Cell} (e : H[m]? = some (.dT false (heldK cs T))) (hc : c ∈ cs) : augI (.ref m) (cellD c) H = some (T c.1 c.2) :=
  aug_dT (p := .add) (heldK cs T) _ _ m e (cellK c) rfl (held_look hc)
theorem sub_held {H : MH} {m : Nat} {cs : List Cell} {T : Gd} {c : Cell} {v : Int} {e : Ev} (z : H[m]? = some (.dT false (heldK cs T))) (hc : c ∈ cs) (hl : cs.length ≤ 100) : subM (.ref m) (cellD c) (.int v) e H = .nx e (H.set m (.dT false (heldK cs (upd T c.1 c.2 v)))) := by
  unfold cellD
  rw [sub_dT (heldK cs T) _ _ _ m z (by simp; unfold big; omega) (cellK c) rfl, held_put hc]
theorem carry_spec {N : Net} {T : Gd} {cs : List Cell} (S : Shut N cs) {k : Nat} (hk : h[k]? = some (.dT false (heldK cs T))) (hc : clH h.length h = true) {a : Spot} {r : List Spot} (rd : Road N T (a :: r)) (most : Int) (hm : 1 ≤ most) :
    ∃ d, callN G (n + 1) 19 [.ref k, .lst ((a :: r).map spotD), .int most] h = .ok (.int d) (h.set k (.dT false (heldK cs (pushR T d (a :: r))))) ∧ 1 ≤ d ∧ d ≤ most ∧ Cap T d (a :: r) := by
  rw [runG fi_carry rfl rfl]
  have kl : k < h.length := (List.getElem?_eq_some_iff.mp hk).1
  simp only [fi_carry]
  simp [slD_lst, cut1]
  have zp := zip_prs a r
  rw [List.map_cons] at zp
  rw [zp]
  generalize hf : forL _ _ _ _ _ = fl
  obtain ⟨I, hI⟩ : ∃ I : List (Spot × Spot) → Ev → MH → Prop, ∀ pre e h', I pre e h' ↔ ∃ (d : Int) (o1 o2 : Option D), e = [some (.ref k), some (.lst (spotD a :: r.map spotD)), some (.int most), some (.lst ((prs a r).map prD)), some (.int d), o1, o2] ∧ h' = h ∧ 1 ≤ d ∧ d ≤ most ∧ ∀ p ∈ pre, p.1.1 = false → d ≤ T p.2.2 p.1.2 := ⟨_, fun _ _ _ => Iff.rfl⟩
  obtain ⟨e1, h1, rfl, i1⟩ := forL_nx hf (prs a r) prD I rfl ((hI _ _ _).mpr ⟨most, none, none, rfl, rfl, hm, Int.le_refl _, fun _ h => nomatch h⟩)
    (fun pre x post e h' hpre i => by
      obtain ⟨d, o1, o2, rfl, rfl, d1, d2, hd⟩ := (hI _ _ _).mp i
      refine ⟨_, rfl, ?_⟩
      have hx : N.E T x.1 x.2 := road_prs rd x (by rw [hpre]; simp)
      clear hf
      rcases E_kinds S hx with ⟨k1, k2, k3⟩ | ⟨k1, k2, k3, k4⟩
      · have := (hI (pre ++ [x]) [some (.ref k), some (.lst (spotD a :: r.map spotD)), some (.int most), some (.lst ((prs a r).map prD)), some (.int d), some (spotD x.1), some (spotD x.2)] h').mpr ⟨d, _, _, rfl, rfl, d1, d2, fun p hp z => by
          rcases List.mem_append.mp hp with q | q
          · exact hd p q z
          · rw [List.mem_singleton.mp q, k1] at z; cases z⟩
        simpa [k1] using this
      · have := fun d' (e1 : d' ≤ d) (e2 : d' ≤ T x.2.2 x.1.2) (e3 : 1 ≤ d') => (hI (pre ++ [x]) [some (.ref k), some (.lst (spotD a :: r.map spotD)), some (.int most), some (.lst ((prs a r).map prD)), some (.int d'), some (spotD x.1), some (spotD x.2)] h').mpr ⟨d', _, _, rfl, rfl, e3, by omega, fun p hp z => by
          rcases List.mem_append.mp hp with q | q
          · have := hd p q z; omega
          · rw [List.mem_singleton.mp q]; exact e2⟩
        have ix := idx_held (h := h') (T := T) k3
        simp only [cellD] at ix
        by_cases c : T x.2.2 x.1.2 < d
        · have := this _ (by omega) (Int.le_refl _) (by omega)
          simpa [k1, hk, ix, c] using this
        · have := this d (by omega) (by omega) d1
          simpa [k1, hk, ix, c] using this)
  obtain ⟨d, o1, o2, rfl, rfl, d1, d2, hd⟩ := (hI _ _ _).mp i1
  clear hf
  simp
  generalize hf : forL _ _ _ _ _ = fl
  have cp : Cap T d (a :: r) := cap_prs hd
  obtain ⟨I2, hI2⟩ : ∃ I : List (Spot × Spot) → Ev → MH → Prop, ∀ pre e h', I pre e h' ↔ ∃ (o1 o2 : Option D), e = [some (.ref k), some (.lst (spotD a :: r.map spotD)), some (.int most), some (.lst ((prs a r).map prD)), some (.int d), o1, o2] ∧ h' = h1.set k (.dT false (heldK cs (pre.foldl (fun T p => pushE T d p.1 p.2) T))) := ⟨_, fun _ _ _ => Iff.rfl⟩
  obtain ⟨e2, h2, rfl, i2⟩ := forL_nx hf (prs a r) prD I2 rfl ((hI2 _ _ _).mpr ⟨o1, o2, rfl, by rw [List.foldl_nil, set_self hk]⟩)
    (fun pre x post e h' hpre i => by
      obtain ⟨o1, o2, rfl, rfl⟩ := (hI2 _ _ _).mp i
      refine ⟨_, rfl, ?_⟩
      have hx : N.E T x.1 x.2 := road_prs rd x (by rw [hpre]; simp)
      clear hf
      have := (hI2 (pre ++ [x]) [some (.ref k), some (.lst (spotD a :: r.map spotD)), some (.int most), some (.lst ((prs a r).map prD)), some (.int d), some (spotD x.1), some (spotD x.2)] _).mpr ⟨_, _, rfl, rfl⟩
      rw [List.foldl_append] at this
      generalize hT : pre.foldl (fun T p => pushE T d p.1 p.2) T = T' at this
      have Hk : (h1.set k (.dT false (heldK cs T')))[k]? = some (.dT false (heldK cs T')) := by simp [kl]
      have sb := fun (c : Cell) (hc : c ∈ cs) (v : Int) (e : Ev) => sub_held (v := v) (e := e) Hk hc S.len
      have ai := fun (c : Cell) (hc : c ∈ cs) => augI_held Hk hc
      rcases E_kinds S hx with ⟨k1, k2, k3⟩ | ⟨k1, k2, k3, k4⟩
      · have s1 := sb _ k3
        have a1 := ai _ k3
        simp only [cellD] at s1 a1
        have pe : pushE T' d x.1 x.2 = upd T' x.1.2 x.2.2 (T' x.1.2 x.2.2 + d) := by
          obtain ⟨⟨u, i⟩, ⟨v, j⟩⟩ := x
          simp only at k1 k2
          subst k1 k2
          rfl
        simpa [k1, a1, augW_add, s1, pe] using this
      · have s1 := sb _ k3
        have a1 := ai _ k3
        simp only [cellD] at s1 a1
        have pe : pushE T' d x.1 x.2 = upd T' x.2.2 x.1.2 (T' x.2.2 x.1.2 - d) := by
          obtain ⟨⟨u, i⟩, ⟨v, j⟩⟩ := x
          simp only at k1 k2
          subst k1 k2
          rfl
        simpa [k1, a1, augW_sub, s1, pe] using this)
  obtain ⟨o1, o2, rfl, rfl⟩ := (hI2 _ _ _).mp i2
  refine ⟨d, ?_, d1, d2, cp⟩
  rw [pushR_fold]
  simp
end
end Mi
namespace Mi
open PySem
def vec (n : Nat) (f : Nat → Int) : List D := (List.range n).map fun k => .int (f k)
@[simp] theorem vec_len (n : Nat) (f : Nat → Int) : (vec n f).length = n := by simp [vec]
@[simp] theorem vec_cl (b n : Nat) (f : Nat → Int) : clL b (vec n f) = true := clL_map _ _ _ fun _ _ => rfl
theorem vec_get {n : Nat} {f : Nat → Int} {k : Nat} (h : k < n) : (vec n f)[k]? = some (.int (f k)) := by simp [vec, h]
theorem vec_at {n : Nat} {f : Nat → Int} {k : Nat} (h : k < n) : atI (vec n f) (k : Int) = some (.int (f k)) := atI_nat _ _ _ (vec_get h)
theorem vec_set (n : Nat) (f : Nat → Int) (i : Nat) (v : Int) : (vec n f).set i (.int v) = vec n fun k => if k = i then v else f k := by
  refine List.ext_getElem (by simp) fun k h1 h2 => ?_
  rw [List.getElem_set]
  simp [vec]
  by_cases c : i = k
  · subst c; simp
  · have : ¬ k = i := fun z => c z.symm
    simp [c, this]
theorem vec_ints (n : Nat) (f : Nat → Int) : vec n f = ((List.range n).map f).map D.int := by simp [vec]
section
variable {n : Nat} {h : MH}
theorem idx_vecL {m : Nat} {f : Nat → Int} {k : Nat} (hk : k < m) : idxM (.lst (vec m f)) (.int (k : Nat)) h = .ok (.int (f k)) h := idx_lst _ _ _ (vec_at hk)
theorem idx_vecT {m : Nat} {f : Nat → Int} {k : Nat} (hk : k < m) : idxM (.tup (vec m f)) (.int (k : Nat)) h = .ok (.int (f k)) h := idx_tup _ _ _ (vec_at hk)
@[simp] theorem sum_vecL (m : Nat) (f : Nat → Int) : prim1 .sum (.lst (vec m f)) h = .ok (.int (sumN m f)) h := by
  rw [vec_ints, sum_lst, sumN_list]
@[simp] theorem sum_vecT (m : Nat) (f : Nat → Int) : prim1 .sum (.tup (vec m f)) h = .ok (.int (sumN m f)) h := by
  rw [vec_ints, sum_tup, sumN_list]
theorem minI_le : ∀ (l : List Int) (i : Int), minI i l ≤ i ∧ (∀ j ∈ l, minI i l ≤ j) ∧ (minI i l = i ∨ minI i l ∈ l)
  | [], i => by simp [minI]
  | j :: l, i => by
    obtain ⟨a, b, c⟩ := minI_le l (if j < i then j else i)
    simp only [minI]
    by_cases q : j < i
    · simp only [q, if_true] at a b c ⊢
      refine ⟨by omega, fun k hk => ?_, ?_⟩
      · rcases List.mem_cons.mp hk with z | z
        · rw [z]; exact a
        · exact b k z
      · rcases c with z | z
        · right; rw [z]; simp
        · right; exact List.mem_cons_of_mem _ z
    · simp only [q, if_false] at a b c ⊢
      refine ⟨a, fun k hk => ?_, ?_⟩
      · rcases List.mem_cons.mp hk with z | z
        · rw [z]; omega
        · exact b k z
      · rcases c with z | z
        · left; exact z
        · right; exact List.mem_cons_of_mem _ z
theorem min_vec {m : Nat} (hm : 0 < m) (f : Nat → Int) : ∃ v, (∀ h : MH, prim1 .min1 (.lst (vec m f)) h = .ok (.int v) h) ∧ (∀ k, k < m → v ≤ f k) ∧ ∃ k, k < m ∧ v = f k := by
  obtain ⟨m, rfl⟩ : ∃ k, m = k + 1 := ⟨m - 1, by omega⟩
  obtain ⟨a, b, c⟩ := minI_le ((List.range m).map fun k => f (k + 1)) (f 0)
  refine ⟨minI (f 0) ((List.range m).map fun k => f (k + 1)), fun h => ?_, fun k hk => ?_, ?_⟩
  · show (match (some (vec (m + 1) f)).bind intsD with
      | some (i :: is) => R.ok (D.int (minI i is)) h
      | _ => .stuck) = _
    have : intsD (vec (m + 1) f) = some (f 0 :: (List.range m).map fun k => f (k + 1)) := by
      rw [vec_ints, intsD_map, List.range_succ_eq_map]
      simp
    simp [this]
  · cases k with
    | zero => exact a
    | succ k => exact b _ (List.mem_map.mpr ⟨k, List.mem_range.mpr (by omega), rfl⟩)
  · rcases c with z | z
    · exact ⟨0, by omega, z⟩
    · obtain ⟨k, hk, e⟩ := List.mem_map.mp z
      exact ⟨k + 1, by have := List.mem_range.mp hk; omega, e.symm⟩
theorem cmp_eq_nil (xs : List D) (ok : xs.all (okD 7) = true) : cmpM .eq (.lst xs) (.lst []) h = .ok (.bl xs.isEmpty) h := by
  rw [cmp_eqO (a := .lst xs) (b := .lst []) ok rfl]
  cases xs <;> rfl
def NoFill (N : Net) (r b : Nat → Int) : Prop := (∃ i, i < N.R ∧ r i < 0) ∨ (∃ j, j < N.C ∧ b j < 0) ∨ ∃ (S : Spot → Prop) (d : DecidablePred S), Short N r b S
theorem NoFill.no {N : Net} {r b : Nat → Int} (k : NoFill N r b) {T : Gd} (f : Fills N r b T) : False := by
  rcases k with ⟨i, hi, z⟩ | ⟨j, hj, z⟩ | ⟨S, d, z⟩
  · have := f.row i hi
    have : 0 ≤ rsum N.C T i := sumN_nonneg fun k _ => f.nn i k
    omega
  · have := f.col j hj
    have : 0 ≤ csum N.R T j := sumN_nonneg fun k _ => f.nn k j
    omega
  · exact z.no f
def zeroG : Gd := fun _ _ => 0
theorem rsum_zero (C i : Nat) : rsum C zeroG i = 0 := sumN_zero fun _ _ => rfl
theorem csum_zero (R j : Nat) : csum R zeroG j = 0 := sumN_zero fun _ _ => rfl
theorem sum_rows_cols (R C : Nat) (T : Gd) : sumN R (rsum C T) = sumN C (csum R T) := sumN_swap T C R
theorem fin_some1 {d : D} {o : MO} {t : MH} (hd : cl (h.length + 1) d = true) (ho : clO (h.length + 1) o = true) (hc : clH h.length h = true) : fin (some 1) h.length d (h ++ o :: t) = .ok d (h ++ [o]) := by
  unfold fin
  simp only
  by_cases c : (h ++ o :: t).length ≤ h.length + 1
  · rw [if_pos c]
    have : t = [] := by
      rw [List.length_append, List.length_cons] at c
      exact List.eq_nil_of_length_eq_zero (by omega)
    rw [this]
  · rw [if_neg c]
    have : (h ++ o :: t).take (h.length + 1) = h ++ [o] := by
      rw [List.take_append, List.take_of_length_le (by omega)]
      simp
    rw [this, hd]
    have k : clH (h.length + 1) (h ++ [o]) = true := by
      have := clH_app (h := h) (t := [o]) hc (by simp [ho])
      simpa using this
    rw [k]
    rfl
theorem augI_vec {H : MH} {m k c : Nat} {f : Nat → Int} (z : H[m]? = some (.lst (vec c f))) (hk : k < c) : augI (.ref m) (.int (k : Nat)) H = some (f k) := aug_lst _ _ _ _ z (vec_at hk)
theorem sub_vec {H : MH} {m k c : Nat} {f : Nat → Int} {v : Int} {e : Ev} (z : H[m]? = some (.lst (vec c f))) (hk : k < c) : subM (.ref m) (.int (k : Nat)) (.int v) e H = .nx e (H.set m (.lst (vec c fun x => if x = k then v else f x))) := by
  rw [sub_lst _ _ _ _ _ z (by simpa using hk), vec_set]
theorem fill_spec {N : Net} {cs : List Cell} (S : Shut N cs) (hb : N.bar = none) (hc : clH h.length h = true) (hR0 : 0 < N.R) (hC0 : 0 < N.C) (hR : N.R ≤ 100) (hC : N.C ≤ 100) (r b : Nat → Int) (hsum : sumN N.R r = sumN N.C b) (hmost : sumN N.R r ≤ 9999) :
    ∃ (T : Gd) (d : D), callN G (n + 3) 20 [.lst (cs.map cellD), .lst (vec N.R r), .lst (vec N.C b)] h = .ok d (h ++ [.dT false (heldK cs T)]) ∧ ((d = .ref h.length ∧ Fills N r b T) ∨ (d = .non ∧ NoFill N r b)) := by
  rw [runG fi_fill rfl rfl]
  simp only [fi_fill]
  simp
  rw [lcM cs cellD (fun s => .tup [cellD s, .int 0]) rfl (fun s _ => ⟨_, rfl, by simp⟩)]
  simp
  have pr : prsT (cs.map fun s => D.tup [cellD s, .int 0]) = some (heldK cs zeroG) := by
    rw [prsT_map cs (fun s => .tup [cellD s, .int 0]) cellK (fun _ => .int 0) fun a _ => ⟨[.int (a.1 : Nat), .int (a.2 : Nat)], rfl, rfl⟩]
    rfl
  have nd0 : ((heldK cs zeroG).map (·.1)).Nodup := by
    have : (heldK cs zeroG).map (·.1) = cs.map cellK := by simp [heldK, Function.comp_def]
    rw [this]
    exact List.Pairwise.map _ (fun a b ne z => ne (cellK_inj.mp z)) S.nd
  rw [dict_true _ _ pr nd0]
  obtain ⟨v1, m1, m2, i0, m3, m4⟩ := min_vec hR0 r
  obtain ⟨v2, m5, m6, j0, m7, m8⟩ := min_vec hC0 b
  have fn := fun (T : Gd) (t : MH) => fin_some1 (d := .non) (o := .dT false (heldK cs T)) (t := t) rfl (held_cl _ _ _) hc
  simp [m1, m5, -Prod.exists]
  by_cases c1 : v1 < 0
  · simp [c1, fn]
    exact ⟨zeroG, .non, ⟨rfl, rfl⟩, .inr ⟨rfl, .inl ⟨i0, m3, by omega⟩⟩⟩
  by_cases c2 : v2 < 0
  · simp [c1, c2, fn]
    exact ⟨zeroG, .non, ⟨rfl, rfl⟩, .inr ⟨rfl, .inr (.inl ⟨j0, m7, by omega⟩)⟩⟩
  simp [c1, c2]
  generalize hf : whL _ _ _ _ _ = fl
  have r0 : ∀ i, i < N.R → 0 ≤ r i := fun i hi => by have := m2 i hi; omega
  have b0 : ∀ j, j < N.C → 0 ≤ b j := fun j hj => by have := m6 j hj; omega
  obtain ⟨J, hJ⟩ : ∃ J : Nat → Ev → MH → Prop, ∀ m e h', J m e h' ↔ ∃ (T : Gd) (more want : Nat → Int) (o6 o7 o8 o9 : Option D), e = [some (.lst (cs.map cellD)), some (.lst (vec N.R r)), some (.lst (vec N.C b)), some (.ref h.length), some (.ref (h.length + 1)), some (.ref (h.length + 2)), o6, o7, o8, o9, none, none] ∧ h' = h ++ [.dT false (heldK cs T), .lst (vec N.R more), .lst (vec N.C want)] ∧ (∀ i j, 0 ≤ T i j) ∧ (∀ i j, i < N.R → j < N.C → N.p i j = false → T i j = 0) ∧ (∀ i, i < N.R → more i = r i - rsum N.C T i ∧ 0 ≤ more i) ∧ (∀ j, j < N.C → want j = b j - csum N.R T j ∧ 0 ≤ want j) ∧ m = (sumN N.R more).toNat := ⟨_, fun _ _ _ => Iff.rfl⟩
  obtain ⟨Q, hQ⟩ : ∃ Q : Fl → Prop, ∀ fl, Q fl ↔ ∃ (T : Gd) (more want : Nat → Int), fl = .ret .non (h ++ [.dT false (heldK cs T), .lst (vec N.R more), .lst (vec N.C want)]) ∧ NoFill N r b := ⟨_, fun _ => Iff.rfl⟩
  rcases whL_wp hf J (fun e h' => ∃ (T : Gd) (more want : Nat → Int) (o6 o7 o8 o9 : Option D), e = [some (.lst (cs.map cellD)), some (.lst (vec N.R r)), some (.lst (vec N.C b)), some (.ref h.length), some (.ref (h.length + 1)), some (.ref (h.length + 2)), o6, o7, o8, o9, none, none] ∧ h' = h ++ [.dT false (heldK cs T), .lst (vec N.R more), .lst (vec N.C want)] ∧ Fills N r b T) Q _ (by
      show (sumN N.R r).toNat < WF
      unfold WF; omega) ((hJ _ _ _).mpr ⟨zeroG, r, b, none, none, none, none, rfl, rfl, fun _ _ => Int.le_refl _, fun _ _ _ _ _ => rfl, fun i hi => by rw [rsum_zero]; have := r0 i hi; omega, fun j hj => by rw [csum_zero]; have := b0 j hj; omega, rfl⟩)
    (fun m e h' j => by
      obtain ⟨T, more, want, o6, o7, o8, o9, rfl, rfl, t0, topn, hmore, hwant, rfl⟩ := (hJ _ _ _).mp j
      have smore : sumN N.R more = sumN N.R r - sumN N.R (rsum N.C T) := by
        rw [← sumN_sub]
        exact sumN_congr fun i hi => (hmore i hi).1
      have swant : sumN N.C want = sumN N.C b - sumN N.C (csum N.R T) := by
        rw [← sumN_sub]
        exact sumN_congr fun i hi => (hwant i hi).1
      have srt := sum_rows_cols N.R N.C T
      by_cases c : 0 < sumN N.R more
      · right
        refine ⟨_, by simp [c]; rfl, ?_⟩
        simp [rngM_nat _ (show N.R ≤ 10000 by omega), rngM_nat _ (show N.C ≤ 10000 by omega)]
        rw [lcF (xs := rngL N.R) (List.range N.R) (fun (i : Nat) => .int (i : Int)) (fun i => decide (0 < more i)) (fun i => spotD (true, i)) rfl (fun i hi => by exact ⟨_, rfl, by simp [idx_vecL (List.mem_range.mp hi)], fun _ => by simp [spotD_row]⟩)]
        have est : ((List.range N.R).filter fun i => decide (0 < more i)).map (fun i => spotD (true, i)) = (((List.range N.R).filter fun i => decide (0 < more i)).map fun i => ((true, i) : Spot)).map spotD := by rw [List.map_map]; rfl
        rw [est]
        generalize hst : (((List.range N.R).filter fun i => decide (0 < more i)).map fun i => ((true, i) : Spot)) = starts
        have stm : ∀ s, s ∈ starts ↔ ∃ i, i < N.R ∧ 0 < more i ∧ s = (true, i) := fun s => by
          rw [← hst]
          simp only [List.mem_map, List.mem_filter, List.mem_range, decide_eq_true_eq]
          exact ⟨fun ⟨i, ⟨a, b⟩, e⟩ => ⟨i, a, b, e.symm⟩, fun ⟨i, a, b, e⟩ => ⟨i, ⟨a, b⟩, e.symm⟩⟩
        have stn : starts.Nodup := by
          rw [← hst]
          exact List.Pairwise.map _ (fun a b ne z => ne (by cases z; rfl)) (List.Pairwise.filter _ List.nodup_range)
        have H0 : (h ++ [MO.dT false (heldK cs T), .lst (vec N.R more), .lst (vec N.C want)])[h.length]? = some (.dT false (heldK cs T)) := by simp
        have Hc : clH (h ++ [MO.dT false (heldK cs T), .lst (vec N.R more), .lst (vec N.C want)]).length (h ++ [MO.dT false (heldK cs T), .lst (vec N.R more), .lst (vec N.C want)]) = true := clH_app hc (by simp)
        obtain ⟨l, e1, tr, clo⟩ := reached_spec (n := n) S H0 Hc hR hC starts stn (fun s hs => by
          obtain ⟨i, hi, _, rfl⟩ := (stm s).mp hs
          exact hi)
        rw [hb] at e1
        have e1 : callN G (n + 2) 17 [.ref h.length, .lst (starts.map spotD), .non] _ = _ := e1
        simp [e1, rngM_nat _ (show N.C ≤ 10000 by omega)]
        rw [lcF (xs := rngL N.C) (List.range N.C) (fun (i : Nat) => .int (i : Int)) (fun j => decide (0 < want j) && decide ((false, j) ∈ keysT l)) (fun i => .int (i : Int)) rfl (fun j hj => by
          exact ⟨_, rfl, by
            by_cases q : 0 < want j
            · simp [idx_vecL (List.mem_range.mp hj), q, spotD_col, in_treeV]
            · simp [idx_vecL (List.mem_range.mp hj), q], fun _ => by simp⟩)]
        simp only [mk_false]
        generalize hends : ((List.range N.C).filter fun j => decide (0 < want j) && decide ((false, j) ∈ keysT l)) = ends
        have endm : ∀ j, j ∈ ends ↔ j < N.C ∧ 0 < want j ∧ (false, j) ∈ keysT l := fun j => by
          rw [← hends]
          simp only [List.mem_filter, List.mem_range, Bool.and_eq_true, decide_eq_true_eq]
        simp [cmp_eq_nil _ (okL_map 7 ends (fun (i : Nat) => D.int (i : Int)) fun _ _ => rfl)]
        cases ends with
        | nil =>
          simp
          refine (hQ _).mpr ⟨T, more, want, rfl, .inr (.inr ⟨fun s => s ∈ keysT l, inferInstance, short_of hb clo t0 topn (fun i hi z => tr.st _ ((stm _).mpr ⟨i, hi, by rw [(hmore i hi).1]; exact z, rfl⟩)) (fun i hi => by have := hmore i hi; omega) (fun j hj s => ?_) ?_⟩)⟩
          · have := hwant j hj
            have : ¬ 0 < want j := fun z => by
              have := (endm j).mpr ⟨hj, z, s⟩
              cases this
            omega
          · rw [sumN_sub]; omega
        | cons j0 rest =>
          obtain ⟨jc, jw, jk⟩ := (endm j0).mp (List.mem_cons_self ..)
          obtain ⟨a, rr, e2, am, rd, nd, la⟩ := road_to_spec (n := n + 1) (h := h ++ [MO.dT false (heldK cs T), .lst (vec N.R more), .lst (vec N.C want)]) tr hR hC (false, j0) jk
          obtain ⟨i0, ic, iw, rfl⟩ := (stm a).mp am
          obtain ⟨d, e3, d1, d2, cap⟩ := carry_spec (n := n + 1) S H0 Hc rd (if want j0 < more i0 then want j0 else more i0) (by split <;> omega)
          have d2 : d ≤ more i0 ∧ d ≤ want j0 := by split at d2 <;> omega
          simp only [List.map_cons] at e3
          simp [e2, e3, spotD_col, idx_vecL ic, idx_vecL jc]
          have pf := push_fills (d := d) nd rd la
          have nx : J (sumN N.R fun x => if x = i0 then more i0 - d else more x).toNat _ _ := (hJ _ _ _).mpr ⟨pushR T d ((true, i0) :: rr), fun x => if x = i0 then more i0 - d else more x, fun x => if x = j0 then want j0 - d else want x, some (.dT (treeK l)), some (.lst (D.int (j0 : Nat) :: rest.map fun (i : Nat) => D.int (i : Int))), some (.lst (spotD (true, i0) :: rr.map spotD)), some (.int d), rfl, rfl, pushR_nonneg (by omega) nd cap t0, fun i j hi hj p => by rw [pushR_keep (.inl p) nd rd]; exact topn i j hi hj p, fun i hi => by
              have := hmore i hi
              rw [(pf i).1]
              by_cases q : i = i0
              · subst q; simp; omega
              · simp [q]; omega, fun j hj => by
              have := hwant j hj
              rw [(pf j).2]
              by_cases q : j = j0
              · subst q; simp; omega
              · simp [q]; omega, rfl⟩
          have A1 := augI_vec (H := h ++ [.dT false (heldK cs (pushR T d ((true, i0) :: rr))), .lst (vec N.R more), .lst (vec N.C want)]) (m := h.length + 1) (c := N.R) (f := more) (by simp) ic
          have A2 := sub_vec (H := h ++ [.dT false (heldK cs (pushR T d ((true, i0) :: rr))), .lst (vec N.R more), .lst (vec N.C want)]) (m := h.length + 1) (c := N.R) (f := more) (v := more i0 - d) (e := [some (.lst (cs.map cellD)), some (.lst (vec N.R r)), some (.lst (vec N.C b)), some (.ref h.length), some (.ref (h.length + 1)), some (.ref (h.length + 2)), some (.dT (treeK l)), some (.lst (D.int (j0 : Nat) :: rest.map fun (i : Nat) => D.int (i : Int))), some (.lst (spotD (true, i0) :: rr.map spotD)), some (.int d), none, none]) (by simp) ic
          have A3 := augI_vec (H := h ++ [.dT false (heldK cs (pushR T d ((true, i0) :: rr))), .lst (vec N.R fun x => if x = i0 then more i0 - d else more x), .lst (vec N.C want)]) (m := h.length + 2) (c := N.C) (f := want) (by simp) jc
          have A4 := sub_vec (H := h ++ [.dT false (heldK cs (pushR T d ((true, i0) :: rr))), .lst (vec N.R fun x => if x = i0 then more i0 - d else more x), .lst (vec N.C want)]) (m := h.length + 2) (c := N.C) (f := want) (v := want j0 - d) (e := [some (.lst (cs.map cellD)), some (.lst (vec N.R r)), some (.lst (vec N.C b)), some (.ref h.length), some (.ref (h.length + 1)), some (.ref (h.length + 2)), some (.dT (treeK l)), some (.lst (D.int (j0 : Nat) :: rest.map fun (i : Nat) => D.int (i : Int))), some (.lst (spotD (true, i0) :: rr.map spotD)), some (.int d), none, none]) (by simp) jc
          simp only [hset, hset0, List.set_cons_succ, List.set_cons_zero] at A2 A4
          simp [A1, augW_sub, A2, A3, A4]
          refine ⟨_, ?_, nx⟩
          rw [sumN_upd more i0 (more i0 - d) N.R, if_pos ic]
          omega
      · left
        refine ⟨_, by simp [c], T, more, want, o6, o7, o8, o9, rfl, rfl, t0, topn, fun i hi => ?_, fun j hj => ?_⟩
        · have z := sumN_eq_zero (fun k hk => (hmore k hk).2) (by have := sumN_nonneg (fun k hk => (hmore k hk).2 : ∀ k, k < N.R → 0 ≤ more k); omega) i hi
          have := hmore i hi
          omega
        · have s0 : sumN N.R more = 0 := by have := sumN_nonneg (fun k hk => (hmore k hk).2 : ∀ k, k < N.R → 0 ≤ more k); omega
          have z := sumN_eq_zero (fun k hk => (hwant k hk).2) (by omega) j hj
          have := hwant j hj
          omega) with ⟨e', h', rfl, T, more, want, o6, o7, o8, o9, rfl, rfl, F⟩ | q
  · simp
    refine ⟨T, .ref h.length, ?_, .inl ⟨rfl, F⟩⟩
    exact fin_some1 (by simp [cl]) (held_cl _ _ _) hc
  · obtain ⟨T, more, want, rfl, nf⟩ := (hQ _).mp q
    simp [fn]
    exact ⟨T, .non, ⟨rfl, rfl⟩, .inr ⟨rfl, nf⟩⟩
end
end Mi
namespace Mi
open PySem
section
variable {n : Nat} {h : MH}
end
end Mi
namespace Mi
open PySem
def gridD (o i : List D → D) (R C : Nat) (f : Gd) : D := o ((List.range R).map fun a => i (vec C (f a)))
def tabF (R C : Nat) (f : Gd) : D := .tup ((List.range R).map fun a => .tup (vec C (f a)))
def optD : Option Int → D
  | none => .non
  | some v => .int v
abbrev Qd := Nat → Nat → Option Int
def cellsQ (R C : Nat) (q : Qd) : D := .tup ((List.range R).map fun i => .tup ((List.range C).map fun j => optD (q i j)))
structure Sh where
  R : Nat
  C : Nat
  q : Qd
  r : Nat → Int
  b : Nat → Int
def shD (s : Sh) : D := .tup [cellsQ s.R s.C s.q, .tup (vec s.R s.r), .tup (vec s.C s.b)]
structure Sh.Made (s : Sh) : Prop where
  R1 : 1 ≤ s.R
  R5 : s.R ≤ 5
  C1 : 1 ≤ s.C
  C5 : s.C ≤ 5
  qv : ∀ i j, i < s.R → j < s.C → ∀ v, s.q i j = some v → 0 ≤ v ∧ v ≤ 9999
  rv : ∀ i, i < s.R → 0 ≤ s.r i ∧ s.r i ≤ 9999
  bv : ∀ j, j < s.C → 0 ≤ s.b j ∧ s.b j ≤ 9999
  sm : sumN s.R s.r ≤ 9999
  eq : sumN s.R s.r = sumN s.C s.b
def Sh.net (s : Sh) (bar : Option Cell) : Net := ⟨s.R, s.C, fun i j => (s.q i j).isNone, bar⟩
def Sh.o (s : Sh) : Gd := fun i j => (s.q i j).getD 0
def Sh.lr (s : Sh) (i : Nat) : Int := s.r i - rsum s.C s.o i
def Sh.lb (s : Sh) (j : Nat) : Int := s.b j - csum s.R s.o j
def cellsL (R C : Nat) : List Cell := (List.range R).flatMap fun i => (List.range C).map fun j => (i, j)
theorem cellsL_mem {R C : Nat} (c : Cell) : c ∈ cellsL R C ↔ c.1 < R ∧ c.2 < C := by
  obtain ⟨i, j⟩ := c
  simp [cellsL]
theorem cellsD_eq (R C : Nat) : cellsD R C = (cellsL R C).map cellD := by
  unfold cellsD cellsRow cellsL rngL
  simp [List.flatMap_map, List.map_flatMap, Function.comp_def, cellD]
theorem cellsL_len (R C : Nat) : (cellsL R C).length = R * C := by
  unfold cellsL
  induction R with
  | zero => simp
  | succ R ih =>
    rw [List.range_succ, List.flatMap_append, List.length_append, ih, Nat.succ_mul]
    simp
theorem cellsL_nd (R C : Nat) : (cellsL R C).Nodup := by
  unfold cellsL
  refine List.pairwise_flatMap.mpr ⟨fun i _ => List.Pairwise.map _ (fun a b ne z => ne (by cases z; rfl)) List.nodup_range, ?_⟩
  refine List.Pairwise.imp ?_ List.nodup_range
  intro a b ne x hx y hy
  simp at hx hy
  obtain ⟨_, _, rfl⟩ := hx
  obtain ⟨_, _, rfl⟩ := hy
  intro z
  cases z
  exact ne rfl
def shutL (R C : Nat) (p : Nat → Nat → Bool) : List Cell := (cellsL R C).filter fun c => p c.1 c.2
theorem shut_net (N : Net) (hR : N.R ≤ 5) (hC : N.C ≤ 5) : Shut N (shutL N.R N.C N.p) where
  mem := fun i j => by
    unfold shutL
    rw [List.mem_filter, cellsL_mem]
    simp [and_assoc]
  len := by
    have := List.length_filter_le (fun c : Cell => N.p c.1 c.2) (cellsL N.R N.C)
    rw [cellsL_len] at this
    have : N.R * N.C ≤ 5 * 5 := Nat.mul_le_mul hR hC
    unfold shutL
    omega
  nd := List.Pairwise.filter _ (cellsL_nd _ _)
def Sh.cs (s : Sh) : List Cell := shutL s.R s.C fun i j => (s.q i j).isNone
theorem Sh.shut {s : Sh} (m : s.Made) (bar : Option Cell) : Shut (s.net bar) s.cs := shut_net (s.net bar) m.R5 m.C5
section
variable {n : Nat} {h : MH} {R C : Nat}
theorem idx_rngT {α : Type} {m : Nat} (g : Nat → D) {k : Nat} (hk : k < m) : idxM (.tup ((List.range m).map g)) (.int (k : Nat)) h = .ok (g k) h := idx_tup _ _ _ (atI_nat _ _ _ (by simp [hk]))
theorem idx_rngL {m : Nat} (g : Nat → D) {k : Nat} (hk : k < m) : idxM (.lst ((List.range m).map g)) (.int (k : Nat)) h = .ok (g k) h := idx_lst _ _ _ (atI_nat _ _ _ (by simp [hk]))
theorem idx_tabF {f : Gd} {i : Nat} (hi : i < R) : idxM (tabF R C f) (.int (i : Nat)) h = .ok (.tup (vec C (f i))) h := idx_rngT (α := Unit) _ hi
theorem idx_tabF0 {f : Gd} (hi : 0 < R) : idxM (tabF R C f) (.int 0) h = .ok (.tup (vec C (f 0))) h := idx_tabF (i := 0) hi
theorem idx_q {q : Qd} {i : Nat} (hi : i < R) : idxM (cellsQ R C q) (.int (i : Nat)) h = .ok (.tup ((List.range C).map fun j => optD (q i j))) h := idx_rngT (α := Unit) _ hi
theorem idx_qr {q : Qd} {i j : Nat} (hj : j < C) : idxM (.tup ((List.range C).map fun j => optD (q i j))) (.int (j : Nat)) h = .ok (optD (q i j)) h := idx_rngT (α := Unit) (fun j => optD (q i j)) hj
@[simp] theorem idx_sh0 (s : Sh) : idxM (shD s) (.int 0) h = .ok (cellsQ s.R s.C s.q) h := rfl
@[simp] theorem idx_sh1 (s : Sh) : idxM (shD s) (.int 1) h = .ok (.tup (vec s.R s.r)) h := rfl
@[simp] theorem idx_sh2 (s : Sh) : idxM (shD s) (.int 2) h = .ok (.tup (vec s.C s.b)) h := rfl
@[simp] theorem len_tab (f : Gd) : prim1 .len (tabF R C f) h = .ok (.int (R : Nat)) h := by simp [tabF]
@[simp] theorem len_q (q : Qd) : prim1 .len (cellsQ R C q) h = .ok (.int (R : Nat)) h := by simp [cellsQ]
@[simp] theorem itOf_tab (f : Gd) : itOf h (tabF R C f) = some (.its ((List.range R).map fun a => .tup (vec C (f a)))) := rfl
@[simp] theorem itOf_q (q : Qd) : itOf h (cellsQ R C q) = some (.its ((List.range R).map fun i => .tup ((List.range C).map fun j => optD (q i j)))) := rfl
theorem sums_right_spec {o i : List D → D} (ho : o = .tup ∨ o = .lst) (hi : i = .tup ∨ i = .lst) (f : Gd) : callN G (n + 1) 7 [gridD o i R C f] h = .ok (.lst (vec R (rsum C f))) h := by
  rw [runG fi_sums_right rfl rfl]
  rcases ho with rfl | rfl <;> rcases hi with rfl | rfl <;>
  · simp only [fi_sums_right, gridD]
    simp
    rw [lcM (List.range R) _ (fun a => .int (rsum C f a)) rfl (fun a _ => by exact ⟨_, rfl, by simp [rsum]⟩)]
    simp
    rfl
theorem sums_below_spec {o i : List D → D} (ho : o = .tup ∨ o = .lst) (hi : i = .tup ∨ i = .lst) (f : Gd) (hR : 0 < R) (hC : C ≤ 100) : callN G (n + 1) 8 [gridD o i R C f] h = .ok (.lst (vec C (csum R f))) h := by
  rw [runG fi_sums_below rfl rfl]
  rcases ho with rfl | rfl <;> rcases hi with rfl | rfl <;>
  · simp only [fi_sums_below, gridD]
    have z0 := fun g => idx_rngT (α := Unit) (h := h) g hR
    have z1 := fun g => idx_rngL (h := h) g hR
    simp only [Int.natCast_zero, Int.ofNat_zero] at z0 z1
    simp [z0, z1, rngM_nat _ (show C ≤ 10000 by omega)]
    rw [lcM (xs := rngL C) (List.range C) (fun (j : Nat) => .int (j : Int)) (fun j => .int (csum R f j)) rfl (fun j hj => by
      refine ⟨_, rfl, ?_⟩
      simp
      rw [lcM (List.range R) _ (fun a => .int (f a j)) rfl (fun a _ => by exact ⟨_, rfl, by simp [idx_vecT (List.mem_range.mp hj), idx_vecL (List.mem_range.mp hj)]⟩)]
      have := sum_vecL (h := h) R (fun a => f a j)
      simp [vec] at this
      simp [this, csum])]
    simp
    rfl
end
end Mi
namespace Mi
open PySem
def sumsB (d : D) (n : Nat) : Bool := isTu d && decide (lenT d = n) && allB (fun x => whole x 0 9999) (itemsT d)
def madeB (d : D) : Bool := match d with
  | .tup [c, r, b] => shapeB c && (sumsB r (lenT c) && sumsB b (lenT (fst0 (itemsT c)))) && allB (fun row => allB (fun x => isNon x || whole x 0 9999) (itemsT row)) (itemsT c) && (decide (sumT r ≤ 9999) && decide (sumT r = sumT b))
  | _ => false
section
variable {n : Nat} {h : MH}
theorem whole_spec (d : D) (lo hi : Int) (p : pl d = true) : callN G (n + 1) 0 [d, .int lo, .int hi] h = .ok (.bl (whole d lo hi)) h := is_whole_spec rfl d lo hi p
theorem shape_spec (d : D) (p : pl d = true) : callN G (n + 1) 1 [d] h = .ok (.bl (shapeB d)) h := is_shape_spec rfl d p
theorem is_sums_spec (d : D) (m : Nat) (p : pl d = true) : callN G (n + 2) 21 [d, .int (m : Nat)] h = .ok (.bl (sumsB d m)) h := by
  rw [runG fi_is_sums rfl rfl]
  simp only [fi_is_sums]
  by_cases c : isTu d = true
  · obtain ⟨xs, rfl⟩ : ∃ xs, d = .tup xs := by
      cases d with
      | tup xs => exact ⟨xs, rfl⟩
      | _ => cases c
    have px := plL_mem (show plL xs = true from p)
    simp [isM_tup p, c]
    by_cases c2 : xs.length = m
    · simp [c2]
      rw [lcM xs id (fun d => .bl (whole d 0 9999)) (by simp) (fun d hd => by exact ⟨_, rfl, by simp [whole_spec d 0 9999 (px d hd)]⟩)]
      simp [sumsB, c2, isTu]
    · simp [c2, sumsB, Int.ofNat_inj]
  · simp [isM_tup p, c, sumsB]
theorem sums_ints {d : D} {m : Nat} (w : sumsB d m = true) : ∃ f : Nat → Int, d = .tup (vec m f) ∧ ∀ k, k < m → 0 ≤ f k ∧ f k ≤ 9999 := by
  unfold sumsB at w
  simp only [Bool.and_eq_true, decide_eq_true_eq] at w
  obtain ⟨⟨w1, w2⟩, w3⟩ := w
  cases d with
  | tup xs =>
    have w2 : xs.length = m := w2
    have w3 : allB (fun x => whole x 0 9999) xs = true := w3
    refine ⟨fun k => intT (xs.getD k .non), ?_, fun k hk => ?_⟩
    · congr 1
      refine List.ext_getElem (by simp [w2]) fun k h1 h2 => ?_
      have := List.all_eq_true.mp w3 xs[k] (List.getElem_mem h1)
      obtain ⟨i, e, _⟩ := whole_int this
      simp [vec, h1, e, intT]
    · have hk : k < xs.length := by omega
      have := List.all_eq_true.mp w3 xs[k] (List.getElem_mem hk)
      obtain ⟨i, e, a, b⟩ := whole_int this
      simp [hk, e, intT]
      omega
  | _ => cases w1
theorem sum_tupV (m : Nat) (f : Nat → Int) : sumT (.tup (vec m f)) = sumN m f := by
  unfold sumT
  rw [← sumN_list]
  simp [vec, intT, Function.comp_def]
theorem is_made_spec (d : D) (p : pl d = true) : callN G (n + 3) 22 [d] h = .ok (.bl (madeB d)) h := by
  rw [runG fi_is_made rfl rfl]
  simp only [fi_is_made]
  by_cases c : isTu d = true
  · obtain ⟨xs, rfl⟩ : ∃ xs, d = .tup xs := by
      cases d with
      | tup xs => exact ⟨xs, rfl⟩
      | _ => cases c
    have px := plL_mem (show plL xs = true from p)
    by_cases c2 : xs.length = 3
    · obtain ⟨cc, r, b, rfl⟩ : ∃ a b c, xs = [a, b, c] := by
        match xs, c2 with
        | [a, b, c], _ => exact ⟨a, b, c, rfl⟩
      have p0 := px cc (by simp)
      have p1 := px r (by simp)
      have p2 := px b (by simp)
      simp [isM_tup p, isTu, cmp_neI, shape_spec cc p0]
      by_cases c3 : shapeB cc = true
      · obtain ⟨rows, rfl, l1, l2, l3⟩ := shape_tup c3
        have z0 : idxM (.tup rows) (.int 0) = fun h => .ok (fst0 rows) h := by
          funext h
          cases rows with
          | nil => simp at l1
          | cons a b => simp [fst0]
        have prs := plL_mem (show plL rows = true from p0)
        obtain ⟨ys0, e0, _⟩ := l3 (fst0 rows) (by cases rows with
          | nil => simp at l1
          | cons a b => simp [fst0])
        simp [c3, is_sums_spec r rows.length p1]
        by_cases c4 : sumsB r rows.length = true
        · simp [c4, z0, e0, is_sums_spec b ys0.length p2]
          by_cases c5 : sumsB b ys0.length = true
          · simp [c5]
            obtain ⟨fr, rfl, _⟩ := sums_ints c4
            obtain ⟨fb, rfl, _⟩ := sums_ints c5
            generalize hf : forL _ _ _ _ _ = fl
            obtain ⟨I, hI⟩ : ∃ I : List D → Ev → MH → Prop, ∀ pre e h', I pre e h' ↔ ∃ o : Option D, e = [some (.tup [.tup rows, .tup (vec rows.length fr), .tup (vec ys0.length fb)]), some (.tup rows), some (.tup (vec rows.length fr)), some (.tup (vec ys0.length fb)), o, none] ∧ h' = h ∧ ∀ row ∈ pre, allB (fun x => isNon x || whole x 0 9999) (itemsT row) = true := ⟨_, fun _ _ _ => Iff.rfl⟩
            obtain ⟨Q, hQ⟩ : ∃ Q : Fl → Prop, ∀ fl, Q fl ↔ fl = .ret (.bl false) h ∧ ∃ row ∈ rows, allB (fun x => isNon x || whole x 0 9999) (itemsT row) = false := ⟨_, fun _ => Iff.rfl⟩
            rcases forL_wp hf rows id I Q (by simp) ((hI _ _ _).mpr ⟨none, rfl, rfl, fun _ h => nomatch h⟩) (fun pre x post e h' hpre i => by
              obtain ⟨o, rfl, rfl, hp⟩ := (hI _ _ _).mp i
              refine ⟨_, rfl, ?_⟩
              have hx : x ∈ rows := by rw [hpre]; simp
              obtain ⟨ys, rfl, _⟩ := l3 x hx
              have py := plL_mem (show plL ys = true from prs _ hx)
              simp
              rw [lcM ys id (fun d => .bl (isNon d || whole d 0 9999)) (by simp) (fun d hd => by
                refine ⟨_, rfl, ?_⟩
                cases z : isNon d <;> simp [z, whole_spec d 0 9999 (py d hd)])]
              clear hf
              by_cases c6 : allB (fun x => isNon x || whole x 0 9999) ys = true
              · have := (hI (pre ++ [.tup ys]) [some (.tup [.tup rows, .tup (vec rows.length fr), .tup (vec ys0.length fb)]), some (.tup rows), some (.tup (vec rows.length fr)), some (.tup (vec ys0.length fb)), some (.tup ys), none] h').mpr ⟨_, rfl, rfl, fun row hr => by
                  rcases List.mem_append.mp hr with z | z
                  · exact hp row z
                  · rw [List.mem_singleton.mp z]; exact c6⟩
                simpa [c6] using this
              · have : Q (.ret (.bl false) h') := (hQ _).mpr ⟨rfl, _, hx, by simpa using c6⟩
                simpa [c6] using this) with ⟨e', h', rfl, i'⟩ | q
            · obtain ⟨o, rfl, rfl, hp⟩ := (hI _ _ _).mp i'
              have ha : allB (fun row => allB (fun x => isNon x || whole x 0 9999) (itemsT row)) rows = true := List.all_eq_true.mpr hp
              simp
              have lx : lenT (D.tup rows) = rows.length := rfl
              simp [madeB, c3, c4, c5, ha, e0, sum_tupV]
              by_cases c7 : sumN rows.length fr ≤ 9999 <;> simp [c7]
            · obtain ⟨rfl, row, hr, ha⟩ := (hQ _).mp q
              have ha : allB (fun row => allB (fun x => isNon x || whole x 0 9999) (itemsT row)) rows = false := by
                rw [← Bool.not_eq_true]
                intro z
                have z2 : allB (fun x => isNon x || whole x 0 9999) (itemsT row) = true := List.all_eq_true.mp z row hr
                rw [ha] at z2
                cases z2
              simp [madeB, ha]
          · simp [c5, madeB, e0]
        · simp [c4, madeB]
      · simp [c3, madeB]
    · have : madeB (.tup xs) = false := by
        unfold madeB
        split
        · rename_i e
          cases e
          exact absurd rfl c2
        · rfl
      have c2' : ¬ (xs.length : Int) = 3 := by omega
      simp [isM_tup p, isTu, c2', this]
  · have : madeB d = false := by
      unfold madeB
      split
      · exact absurd rfl c
      · rfl
    simp [isM_tup p, c, this]
theorem optD_pl (o : Option Int) : pl (optD o) = true := by cases o <;> rfl
theorem vec_pl (m : Nat) (f : Nat → Int) : plL (vec m f) = true := plL_of fun x hx => by
  obtain ⟨i, _, rfl⟩ := List.mem_map.mp hx
  rfl
theorem q_pl (R C : Nat) (q : Qd) : pl (cellsQ R C q) = true := plL_of fun x hx => by
  obtain ⟨i, _, rfl⟩ := List.mem_map.mp hx
  exact plL_of fun y hy => by
    obtain ⟨j, _, rfl⟩ := List.mem_map.mp hy
    exact optD_pl _
theorem sh_pl (s : Sh) : pl (shD s) = true := plL_of fun x hx => by
  rcases List.mem_cons.mp hx with z | hx
  · rw [z]; exact q_pl _ _ _
  · rcases List.mem_cons.mp hx with z | hx
    · rw [z]; exact vec_pl _ _
    · rw [List.mem_singleton.mp hx]; exact vec_pl _ _
theorem shape_q {R C : Nat} (q : Qd) (h1 : 1 ≤ R) (h2 : R ≤ 5) (h3 : 1 ≤ C) (h4 : C ≤ 5) : shapeB (cellsQ R C q) = true := by
  have hf : fst0 ((List.range R).map fun i => D.tup ((List.range C).map fun j => optD (q i j))) = .tup ((List.range C).map fun j => optD (q 0 j)) := by
    obtain ⟨k, rfl⟩ : ∃ k, R = k + 1 := ⟨R - 1, by omega⟩
    rw [List.range_succ_eq_map]
    rfl
  unfold shapeB
  show (isTu (.tup ((List.range R).map fun i => D.tup ((List.range C).map fun j => optD (q i j)))) && (decide (1 ≤ lenT (.tup ((List.range R).map fun i => D.tup ((List.range C).map fun j => optD (q i j))))) && decide (lenT (.tup ((List.range R).map fun i => D.tup ((List.range C).map fun j => optD (q i j)))) ≤ 5)) && allB rowB ((List.range R).map fun i => D.tup ((List.range C).map fun j => optD (q i j))) && allB (fun r => decide (lenT r = lenT (fst0 ((List.range R).map fun i => D.tup ((List.range C).map fun j => optD (q i j)))))) ((List.range R).map fun i => D.tup ((List.range C).map fun j => optD (q i j)))) = true
  rw [hf]
  simp [isTu, allB, rowB, h1, h2, h3, h4]
theorem sums_vec {m : Nat} {f : Nat → Int} (h : ∀ k, k < m → 0 ≤ f k ∧ f k ≤ 9999) : sumsB (.tup (vec m f)) m = true := by
  unfold sumsB
  simp only [isTu, lenT_tup, vec_len, decide_true, Bool.true_and, itemsT_tup, Bool.and_true]
  refine List.all_eq_true.mpr fun x hx => ?_
  obtain ⟨i, hi, rfl⟩ := List.mem_map.mp hx
  have := h i (List.mem_range.mp hi)
  simp [whole, this]
theorem Sh.Made.b {s : Sh} (m : s.Made) : madeB (shD s) = true := by
  have l1 : lenT (cellsQ s.R s.C s.q) = s.R := by simp [cellsQ]
  have l2 : lenT (fst0 (itemsT (cellsQ s.R s.C s.q))) = s.C := by
    obtain ⟨k, e⟩ : ∃ k, s.R = k + 1 := ⟨s.R - 1, by have := m.R1; omega⟩
    unfold cellsQ
    rw [e, List.range_succ_eq_map]
    simp [fst0]
  unfold madeB shD
  simp only [shape_q s.q m.R1 m.R5 m.C1 m.C5, l1, l2, sums_vec m.rv, sums_vec m.bv, sum_tupV, Bool.and_true, Bool.true_and]
  have a : allB (fun row => allB (fun x => isNon x || whole x 0 9999) (itemsT row)) (itemsT (cellsQ s.R s.C s.q)) = true := by
    refine List.all_eq_true.mpr fun x hx => ?_
    obtain ⟨i, hi, rfl⟩ := List.mem_map.mp hx
    refine List.all_eq_true.mpr fun x hx => ?_
    obtain ⟨j, hj, rfl⟩ := List.mem_map.mp hx
    cases z : s.q i j with
    | none => rfl
    | some v =>
      have := m.qv i j (List.mem_range.mp hi) (List.mem_range.mp hj) v z
      simp [optD, isNon, whole, this]
  rw [a]
  simp [m.sm, m.eq]
  rw [← m.eq]; exact m.sm
def dOpt : D → Option Int
  | .int v => some v
  | _ => none
theorem made_sh {d : D} (w : madeB d = true) : ∃ s : Sh, d = shD s ∧ s.Made := by
  unfold madeB at w
  split at w
  · rename_i c r b
    simp only [Bool.and_eq_true, decide_eq_true_eq] at w
    obtain ⟨⟨⟨w1, w2, w3⟩, w4⟩, w5, w6⟩ := w
    obtain ⟨rows, rfl, l1, l2, l3⟩ := shape_tup w1
    obtain ⟨ys0, e0, y1, y2, _⟩ := l3 (fst0 rows) (by cases rows with
      | nil => simp at l1
      | cons a b => simp [fst0])
    have w2 : sumsB r rows.length = true := w2
    have w3 : sumsB b (lenT (fst0 rows)) = true := w3
    rw [e0] at w3
    obtain ⟨fr, rfl, fr1⟩ := sums_ints w2
    obtain ⟨fb, rfl, fb1⟩ := sums_ints (m := ys0.length) w3
    rw [sum_tupV] at w5 w6
    rw [sum_tupV] at w6
    have w4 := fun row hr => List.all_eq_true.mp w4 row hr
    have cell : ∀ i, i < rows.length → ∃ ys, rows.getD i .non = .tup ys ∧ ys.length = ys0.length ∧ ∀ j, j < ys0.length → ys.getD j .non = optD (dOpt (ys.getD j .non)) ∧ ∀ v, dOpt (ys.getD j .non) = some v → 0 ≤ v ∧ v ≤ 9999 := fun i hi => by
      have m : rows[i] ∈ rows := List.getElem_mem hi
      obtain ⟨ys, e, _, _, l4⟩ := l3 _ m
      rw [e0] at l4
      have ww := List.all_eq_true.mp (w4 _ m)
      rw [e] at ww
      refine ⟨ys, by simp [hi, e], l4, fun j hj => ?_⟩
      have hj : j < ys.length := by rw [l4]; exact hj
      have := ww ys[j] (List.getElem_mem hj)
      simp only [Bool.or_eq_true] at this
      have g : ys.getD j .non = ys[j] := by simp [hj]
      rw [g]
      rcases this with q | q
      · cases z : ys[j] with
        | non => exact ⟨rfl, fun v h => nomatch h⟩
        | _ => rw [z] at q; cases q
      · obtain ⟨v, e, a, b⟩ := whole_int q
        rw [e]
        exact ⟨rfl, fun v h => by cases h; exact ⟨a, b⟩⟩
    refine ⟨⟨rows.length, ys0.length, fun i j => dOpt ((itemsT (rows.getD i .non)).getD j .non), fr, fb⟩, ?_, l1, l2, y1, y2, ?_, fr1, fb1, w5, w6⟩
    · unfold shD cellsQ
      congr 2
      congr 1
      refine List.ext_getElem (by simp) fun i h1 h2 => ?_
      obtain ⟨ys, e1, e2, e3⟩ := cell i h1
      have g : rows.getD i .non = rows[i] := by simp [h1]
      rw [g] at e1
      simp only [List.getElem_map, List.getElem_range, g, e1, itemsT_tup]
      congr 1
      refine List.ext_getElem (by simp [e2]) fun j h3 h4 => ?_
      have := (e3 j (by omega)).1
      simp only [List.getElem_map, List.getElem_range]
      rw [← this]
      simp [h3]
    · intro i j hi hj v hv
      obtain ⟨ys, e1, e2, e3⟩ := cell i hi
      simp only [e1, itemsT_tup] at hv
      exact (e3 j hj).2 v hv
  · cases w
end
end Mi
namespace Mi
open PySem
section
variable {n : Nat} {h : MH}
theorem open_rows_spec (s : Sh) : callN G (n + 1) 24 [shD s] h = .ok (gridD .lst .lst s.R s.C s.o) h := by
  rw [runG fi_open_rows rfl rfl]
  simp only [fi_open_rows]
  simp
  rw [lcM (List.range s.R) _ (fun i => .lst (vec s.C (s.o i))) rfl (fun i _ => by
    refine ⟨_, rfl, ?_⟩
    simp
    rw [lcM (List.range s.C) _ (fun j => .int (s.o i j)) rfl (fun j _ => by
      refine ⟨_, rfl, ?_⟩
      unfold Sh.o
      cases z : s.q i j <;> simp [optD, isNon])]
    rfl)]
  simp [gridD]
theorem zip_rng (f g : Nat → D) (m : Nat) : zipD ((List.range m).map f) ((List.range m).map g) = (List.range m).map fun i => .tup [f i, g i] := by
  generalize List.range m = l
  induction l with
  | nil => rfl
  | cons a l ih => simp only [List.map_cons, zipD, ih]
theorem lefts_spec (s : Sh) (h1 : 0 < s.R) (h2 : s.C ≤ 100) : callN G (n + 2) 25 [shD s] h = .ok (.tup [.lst (vec s.R s.lr), .lst (vec s.C s.lb)]) h := by
  rw [runG fi_lefts rfl rfl]
  simp only [fi_lefts]
  have e1 := fun (k : Nat) => open_rows_spec (n := n + k) (h := h) s
  simp [open_rows_spec s, sums_right_spec (C := s.C) (.inr rfl) (.inr rfl), sums_below_spec (R := s.R) (.inr rfl) (.inr rfl) s.o h1 h2]
  rw [show zipD (vec s.R s.r) (vec s.R (rsum s.C s.o)) = _ from zip_rng _ _ _]
  rw [lcM (List.range s.R) _ (fun i => .int (s.lr i)) rfl (fun i _ => by exact ⟨_, rfl, by simp [Sh.lr]⟩)]
  simp [sums_below_spec (R := s.R) (.inr rfl) (.inr rfl) s.o h1 h2]
  rw [show zipD (vec s.C s.b) (vec s.C (csum s.R s.o)) = _ from zip_rng _ _ _]
  rw [lcM (List.range s.C) _ (fun i => .int (s.lb i)) rfl (fun i _ => by exact ⟨_, rfl, by simp [Sh.lb]⟩)]
  simp [vec]
theorem all_cells_spec {g : Nat → List D} {R C : Nat} (hR0 : 0 < R) (hR : R ≤ 100) (hC : C ≤ 100) (hg : (g 0).length = C) (hc : clH h.length h = true) : callN G (n + 1) 15 [.tup ((List.range R).map fun i => .tup (g i))] h = .ok (.lst ((cellsL R C).map cellD)) h := by
  have := cells_run (n := n) (h := h) (P := G) 15 fi_all_cells rfl rfl rfl rfl (Str.ofString "to") rfl (.tup ((List.range R).map fun i => .tup (g i))) ((List.range R).map fun i => .tup (g i)) (g 0) rfl (by simpa using hR) (by simp; omega) (by
    obtain ⟨k, rfl⟩ : ∃ k, R = k + 1 := ⟨R - 1, by omega⟩
    rw [List.range_succ_eq_map]
    rfl) (by omega) hc
  rw [this, hg]
  simp [cellsD_eq]
theorem law_cells_spec {g : Nat → List D} {R C : Nat} (hR0 : 0 < R) (hR : R ≤ 100) (hC : C ≤ 100) (hg : (g 0).length = C) (hc : clH h.length h = true) : callN G (n + 1) 119 [.tup ((List.range R).map fun i => .tup (g i))] h = .ok (.lst ((cellsL R C).map cellD)) h := by
  have := cells_run (n := n) (h := h) (P := G) 119 fi_law_cells rfl rfl rfl rfl (Str.ofString "_law_to") rfl (.tup ((List.range R).map fun i => .tup (g i))) ((List.range R).map fun i => .tup (g i)) (g 0) rfl (by simpa using hR) (by simp; omega) (by
    obtain ⟨k, rfl⟩ : ∃ k, R = k + 1 := ⟨R - 1, by omega⟩
    rw [List.range_succ_eq_map]
    rfl) (by omega) hc
  rw [this, hg]
  simp [cellsD_eq]
theorem isNon_optD (o : Option Int) : isNon (optD o) = o.isNone := by cases o <;> rfl
theorem shut_of_spec {s : Sh} (m : s.Made) (hc : clH h.length h = true) : callN G (n + 2) 23 [shD s] h = .ok (.lst (s.cs.map cellD)) h := by
  rw [runG fi_shut_of rfl rfl]
  have a := all_cells_spec (n := n) (h := h) (g := fun i => (List.range s.C).map fun j => optD (s.q i j)) (R := s.R) (C := s.C) (by have := m.R1; omega) (by have := m.R5; omega) (by have := m.C5; omega) (by simp) hc
  have a : callN G (n + 1) 15 [cellsQ s.R s.C s.q] h = _ := a
  simp only [fi_shut_of]
  simp [a]
  rw [lcF (cellsL s.R s.C) cellD (fun c => (s.q c.1 c.2).isNone) cellD rfl (fun c hc' => by
    have ⟨c1, c2⟩ := (cellsL_mem c).mp hc'
    exact ⟨_, rfl, by simp [idx_q c1, idx_qr c2, isNon_optD], fun _ => by simp; rfl⟩)]
  simp
  rfl
theorem lr_le {s : Sh} (m : s.Made) : sumN s.R s.lr ≤ 9999 ∧ sumN s.R s.lr = sumN s.C s.lb := by
  have e1 : sumN s.R s.lr = sumN s.R s.r - sumN s.R (rsum s.C s.o) := by rw [← sumN_sub]; rfl
  have e2 : sumN s.C s.lb = sumN s.C s.b - sumN s.C (csum s.R s.o) := by rw [← sumN_sub]; rfl
  have e3 := sum_rows_cols s.R s.C s.o
  have p : 0 ≤ sumN s.R (rsum s.C s.o) := sumN_nonneg fun i hi => sumN_nonneg fun j hj => by
    unfold Sh.o
    cases z : s.q i j with
    | none => simp
    | some v => have := m.qv i j hi hj v z; simp; omega
  have := m.sm
  have := m.eq
  omega
theorem first_fill_spec {s : Sh} (m : s.Made) (hc : clH h.length h = true) :
    ∃ (T : Gd) (d : D), callN G (n + 4) 26 [shD s] h = .ok d (h ++ [.dT false (heldK s.cs T)]) ∧ ((d = .ref h.length ∧ Fills (s.net none) s.lr s.lb T) ∨ (d = .non ∧ NoFill (s.net none) s.lr s.lb)) := by
  rw [runG fi_first_fill rfl rfl]
  simp only [fi_first_fill]
  have a := m.R1
  have b := m.C1
  have a5 := m.R5
  have b5 := m.C5
  obtain ⟨s1, s2⟩ := lr_le m
  simp [lefts_spec s (by omega) (by omega), shut_of_spec m hc, -Prod.exists]
  obtain ⟨T, d, e, k⟩ := fill_spec (n := n) (h := h) (Sh.shut m none) rfl hc (by show 0 < s.R; omega) (by show 0 < s.C; omega) (by show s.R ≤ 100; omega) (by show s.C ≤ 100; omega) s.lr s.lb s2 s1
  have e : callN G (n + 3) 20 [.lst (s.cs.map cellD), .lst (vec s.R s.lr), .lst (vec s.C s.lb)] h = _ := e
  simp [e]
  refine ⟨T, d, ?_, k⟩
  refine fin_some1 ?_ (held_cl _ _ _) hc
  rcases k with ⟨rfl, _⟩ | ⟨rfl, _⟩ <;> simp [cl]
def Sh.Good (s : Sh) : Prop := ∃ T, Fills (s.net none) s.lr s.lb T
theorem is_sheet_spec {s : Sh} (m : s.Made) (hc : clH h.length h = true) :
    ∃ b, callN G (n + 5) 27 [shD s] h = .ok (.bl b) h ∧ (b = true → s.Good) ∧ (b = false → NoFill (s.net none) s.lr s.lb) := by
  rw [runG fi_is_sheet rfl rfl]
  simp only [fi_is_sheet]
  obtain ⟨T, d, e, k⟩ := first_fill_spec (n := n) m hc
  simp [is_made_spec _ (sh_pl s), m.b, e]
  rcases k with ⟨rfl, f⟩ | ⟨rfl, f⟩
  · exact .inr ⟨fin_val rfl hc, ⟨T, f⟩⟩
  · exact .inl ⟨fin_val rfl hc, f⟩
theorem is_sheet_bad {d : D} (p : pl d = true) (w : madeB d = false) : callN G (n + 5) 27 [d] h = .ok (.bl false) h := by
  rw [runG fi_is_sheet rfl rfl]
  simp only [fi_is_sheet]
  simp [is_made_spec _ p, w]
structure Sh.Agr (s : Sh) (U : Gd) : Prop where
  nn : ∀ i j, i < s.R → j < s.C → 0 ≤ U i j
  opn : ∀ i j, i < s.R → j < s.C → ∀ v, s.q i j = some v → U i j = v
  row : ∀ i, i < s.R → rsum s.C U i = s.r i
  col : ∀ j, j < s.C → csum s.R U j = s.b j
def Sh.part (s : Sh) (U : Gd) : Gd := fun i j => if i < s.R ∧ j < s.C ∧ s.q i j = none then U i j else 0
theorem Sh.Agr.fills {s : Sh} {U : Gd} (a : s.Agr U) : Fills (s.net none) s.lr s.lb (s.part U) where
  nn := fun i j => by
    unfold Sh.part
    split
    · rename_i c; exact a.nn i j c.1 c.2.1
    · exact Int.le_refl _
  opn := fun i j hi hj p => by
    unfold Sh.part
    rw [if_neg]
    rintro ⟨_, _, z⟩
    simp [Sh.net, z] at p
  row := fun i hi => by
    have : rsum s.C U i = rsum s.C s.o i + rsum s.C (s.part U) i := by
      unfold rsum
      rw [← sumN_add]
      refine sumN_congr fun j hj => ?_
      unfold Sh.o Sh.part
      cases z : s.q i j with
      | none => have h1 : i < s.R := hi; have h2 : j < s.C := hj; simp [h1, h2]
      | some v => simp [a.opn i j hi hj v z]
    have e := a.row i hi
    show rsum s.C (s.part U) i = s.lr i
    unfold Sh.lr
    omega
  col := fun j hj => by
    have : csum s.R U j = csum s.R s.o j + csum s.R (s.part U) j := by
      unfold csum
      rw [← sumN_add]
      refine sumN_congr fun i hi => ?_
      unfold Sh.o Sh.part
      cases z : s.q i j with
      | none => have h1 : i < s.R := hi; have h2 : j < s.C := hj; simp [h1, h2]
      | some v => simp [a.opn i j hi hj v z]
    have e := a.col j hj
    show csum s.R (s.part U) j = s.lb j
    unfold Sh.lb
    omega
theorem Sh.Good.of {s : Sh} {U : Gd} (a : s.Agr U) : s.Good := ⟨_, a.fills⟩
end
end Mi
namespace Mi
open PySem
section
variable {n : Nat} {h : MH}
@[simp] theorem optD_some (v : Int) : optD (some v) = .int v := rfl
@[simp] theorem optD_none : optD none = .non := rfl
@[simp] theorem isNon_int (v : Int) : isNon (.int v) = false := rfl
@[simp] theorem isNon_non : isNon .non = true := rfl
end
end Mi
namespace Mi
open PySem
section
variable {n : Nat} {h : MH}
theorem inL_ok {x : D} {xs : List D} (hx : okD 8 x = true) (hxs : xs.all (okD 8) = true) : inL h x xs = some (xs.any fun y => eqD y x) := by
  unfold inL
  have e : xs.map (res h 8) = xs := by
    conv => rhs; rw [← List.map_id xs]
    exact List.map_congr_left fun y hy => res_ok 8 h y (List.all_eq_true.mp hxs y hy)
  rw [e, res_ok 8 h x hx, hx, hxs]
  rfl
theorem any_cells (c : Cell) (cs : List Cell) : (cs.map cellD).any (fun y => eqD y (cellD c)) = decide (c ∈ cs) := by
  induction cs with
  | nil => rfl
  | cons a cs ih =>
    rw [List.map_cons, List.any_cons, ih]
    have : eqD (cellD a) (cellD c) = decide (a = c) := by
      rw [Bool.eq_iff_iff, eqD_iff _ _ (by rfl) (by rfl)]
      simp [cellD_inj]
    rw [this]
    by_cases z : a = c
    · subst z; simp
    · have : ¬ c = a := fun q => z q.symm
      simp [z, this]
theorem ok_cells (k : Nat) (cs : List Cell) : (cs.map cellD).all (okD (k + 1)) = true := okL_map (k + 1) cs cellD fun _ _ => by cases k <;> rfl
theorem in_cellsT (c : Cell) (cs : List Cell) : cmpM .inn (cellD c) (.tup (cs.map cellD)) h = .ok (.bl (decide (c ∈ cs))) h := by
  show (match inL h (cellD c) (cs.map cellD) with
    | some k => R.ok (D.bl k) h
    | none => .stuck) = _
  rw [inL_ok (by rfl) (ok_cells 7 cs), any_cells]
theorem draw_ok (ns : List Int) {a b : Int} (ha : 0 ≤ a) (hb : 0 ≤ b) {m : Nat} (hm : 0 < m) (hm2 : m < 2 ^ 60) : ∃ (d : Nat) (a' b' : Int), d < m ∧ 0 ≤ a' ∧ 0 ≤ b' ∧ ∀ r : MH, callN G (n + 1) 117 [.scr ns, .ref 0, .int (m : Nat)] (tw a b :: r) = .ok (.int (d : Nat)) (tw a' b' :: r) := by
  obtain ⟨d, a', b', d0, d1, a0, b0, e⟩ := draw_spec (P := G) (n := n) rfl ns a b (m : Int) ha hb (by omega) (by omega)
  exact ⟨d.toNat, a', b', by omega, a0, b0, fun r => by rw [e r, Int.toNat_of_nonneg d0]⟩
theorem pick_ok (ns : List Int) {a b : Int} (ha : 0 ≤ a) (hb : 0 ≤ b) (xs : List D) (hx : 0 < xs.length) (hx2 : xs.length < 2 ^ 60) : ∃ x a' b', x ∈ xs ∧ 0 ≤ a' ∧ 0 ≤ b' ∧ ∀ r : MH, callN G (n + 2) 118 [.scr ns, .ref 0, .lst xs] (tw a b :: r) = .ok x (tw a' b' :: r) := pick_spec rfl rfl ns a b xs ha hb hx hx2
@[simp] theorem optD_cl (b : Nat) (o : Option Int) : cl b (optD o) = true := by cases o <;> rfl
@[simp] theorem q_cl (b R C : Nat) (q : Qd) : cl b (cellsQ R C q) = true := clL_map b _ _ fun i _ => show cl b (.tup _) = true from clL_map b _ _ fun j _ => optD_cl b _
@[simp] theorem sh_cl (b : Nat) (s : Sh) : cl b (shD s) = true := by
  show (cl b (cellsQ s.R s.C s.q) && (cl b (.tup (vec s.R s.r)) && (cl b (.tup (vec s.C s.b)) && true))) = true
  rw [q_cl]
  show (true && (clL b (vec s.R s.r) && (clL b (vec s.C s.b) && true))) = true
  rw [vec_cl, vec_cl]
  rfl
structure TabOk (R C : Nat) (f : Gd) : Prop where
  R1 : 1 ≤ R
  R5 : R ≤ 5
  C1 : 1 ≤ C
  C5 : C ≤ 5
  nn : ∀ i j, i < R → j < C → 0 ≤ f i j
  sm : sumN R (rsum C f) ≤ 9999
theorem TabOk.le {R C : Nat} {f : Gd} (t : TabOk R C f) {i j : Nat} (hi : i < R) (hj : j < C) : f i j ≤ 9999 := by
  have a : f i j ≤ rsum C f i := sumN_ge_one (fun k hk => t.nn i k hi hk) j hj
  have b : rsum C f i ≤ sumN R (rsum C f) := sumN_ge_one (fun k hk => sumN_nonneg fun l hl => t.nn k l hk hl : ∀ k, k < R → 0 ≤ rsum C f k) i hi
  have := t.sm
  omega
def rowsOf (R C : Nat) (f : Gd) : List (List Int) := (List.range R).map fun i => (List.range C).map fun j => f i j
theorem tabD_rows (R C : Nat) (f : Gd) : tabD (rowsOf R C f) = tabF R C f := by
  unfold tabD rowsOf tabF
  rw [List.map_map]
  congr 1
  refine List.map_congr_left fun i _ => ?_
  simp [rowD, vec]
theorem rowsOf_in {R C : Nat} {f : Gd} {top : Int} (h : ∀ i j, i < R → j < C → 0 ≤ f i j ∧ f i j < top) : TabIn R C top (rowsOf R C f) where
  len := by simp [rowsOf]
  row := fun ys hy => by
    obtain ⟨i, hi, rfl⟩ := List.mem_map.mp hy
    refine ⟨by simp, fun y hy => ?_⟩
    obtain ⟨j, hj, rfl⟩ := List.mem_map.mp hy
    exact h i j (List.mem_range.mp hi) (List.mem_range.mp hj)
theorem rows_sum (R C : Nat) (f : Gd) : ((rowsOf R C f).map List.sum).sum = sumN R (rsum C f) := by
  unfold rowsOf
  rw [List.map_map, ← sumN_list]
  congr 1
  refine List.map_congr_left fun i _ => ?_
  simp only [Function.comp_apply]
  exact sumN_list (f i) C
theorem TabOk.tb {R C : Nat} {f : Gd} (t : TabOk R C f) : tableB (tabF R C f) = true := by
  rw [← tabD_rows]
  exact tab_tableS (rowsOf_in (top := 10000) fun i j hi hj => ⟨t.nn i j hi hj, by have := t.le hi hj; omega⟩) t.R1 t.R5 t.C1 t.C5 (Int.le_refl _) (by rw [rows_sum]; exact t.sm)
@[simp] theorem tabF_cl (b R C : Nat) (f : Gd) : cl b (tabF R C f) = true := clL_map _ _ _ fun _ _ => vec_cl _ _ _
theorem tabD_F {R C : Nat} {top : Int} {rows : List (List Int)} (t : TabIn R C top rows) : tabD rows = tabF R C (fun i j => (rows.getD i []).getD j 0) ∧ ∀ i j, i < R → j < C → 0 ≤ (rows.getD i []).getD j 0 ∧ (rows.getD i []).getD j 0 < top := by
  constructor
  · unfold tabD tabF
    congr 1
    refine List.ext_getElem (by simp [t.len]) fun i h1 h2 => ?_
    have hi : i < rows.length := by simpa using h1
    have := (t.row rows[i] (List.getElem_mem hi)).1
    simp only [List.getElem_map, List.getElem_range, rowD, vec]
    congr 1
    refine List.ext_getElem (by simp [this]) fun j h3 h4 => ?_
    have hj : j < rows[i].length := by simpa using h3
    simp [hi, hj]
  · intro i j hi hj
    have hi : i < rows.length := by rw [t.len]; exact hi
    have l := t.row rows[i] (List.getElem_mem hi)
    have hj : j < rows[i].length := by rw [l.1]; exact hj
    have := l.2 rows[i][j] (List.getElem_mem hj)
    simp [hi, hj]
    exact this
theorem sized_ok (ns : List Int) {a b : Int} (ha : 0 ≤ a) (hb : 0 ≤ b) (R C : Nat) {top : Nat} (hR : R ≤ 100) (hC : C ≤ 100) (ht : 0 < top) (ht2 : top < 2 ^ 60) {r : MH} (hc : clR r) :
    ∃ f a' b', (∀ i j, i < R → j < C → 0 ≤ f i j ∧ f i j < (top : Int)) ∧ 0 ≤ a' ∧ 0 ≤ b' ∧ callN G (n + 2) 120 [.scr ns, .ref 0, .int R, .int C, .int top] (tw a b :: r) = .ok (tabF R C f) (tw a' b' :: r) := by
  obtain ⟨rows, a', b', t, a0, b0, e⟩ := sized_spec (P := G) (n := n) rfl rfl ns a b R C (top : Int) ha hb hR hC (by omega) (by omega) hc
  obtain ⟨e2, k⟩ := tabD_F t
  exact ⟨_, a', b', k, a0, b0, by rw [e, e2]⟩
theorem sum_top {R C : Nat} {f : Gd} {top : Int} (h : ∀ i j, i < R → j < C → 0 ≤ f i j ∧ f i j < top) : sumN R (rsum C f) ≤ R * (C * (top - 1)) := by
  have : sumN R (rsum C f) ≤ sumN R (fun _ => C * (top - 1)) := sumN_le fun i hi => by
    have : rsum C f i ≤ sumN C (fun _ => top - 1) := sumN_le fun j hj => by have := h i j hi hj; omega
    rw [sumN_const] at this
    exact this
  rw [sumN_const] at this
  exact this
theorem table_ok (ns : List Int) {a b : Int} (ha : 0 ≤ a) (hb : 0 ≤ b) {rows cols : Nat} (hr : 0 < rows) (hr5 : rows ≤ 5) (hcl : 0 < cols) (hc5 : cols ≤ 5) {r : MH} (hc : clR r) :
    ∃ R C f a' b', TabOk R C f ∧ R ≤ rows ∧ C ≤ cols ∧ 0 ≤ a' ∧ 0 ≤ b' ∧ callN G (n + 3) 121 [.scr ns, .ref 0, .int (rows : Nat), .int (cols : Nat)] (tw a b :: r) = .ok (tabF R C f) (tw a' b' :: r) := by
  obtain ⟨d1, a1, b1, l1, a1', b1', e1⟩ := draw_ok (n := n + 1) ns ha hb hr (by omega)
  obtain ⟨d2, a2, b2, l2, a2', b2', e2⟩ := draw_ok (n := n + 1) ns a1' b1' hcl (by omega)
  have hRC : (1 + d1) * (1 + d2) ≤ 5 * 5 := Nat.mul_le_mul (by omega) (by omega)
  have hRC0 : 0 < (1 + d1) * (1 + d2) := Nat.mul_pos (by omega) (by omega)
  obtain ⟨x, a3, b3, m3, a3', b3', e3⟩ := pick_ok (n := n) ns a2' b2' [.int 2, .int 3, .int 10, .int (9999 / ((1 + d1 : Int) * (1 + d2)) + 1)] (by simp) (by simp)
  obtain ⟨top, rfl, t1, t2⟩ : ∃ top : Nat, x = .int (top : Nat) ∧ 0 < top ∧ ((1 + d1) * (1 + d2) * (top - 1) ≤ 9999) := by
    simp only [List.mem_cons, List.not_mem_nil, or_false] at m3
    rcases m3 with rfl | rfl | rfl | rfl
    · exact ⟨2, rfl, by decide, by omega⟩
    · exact ⟨3, rfl, by decide, by omega⟩
    · exact ⟨10, rfl, by decide, by omega⟩
    · refine ⟨9999 / ((1 + d1) * (1 + d2)) + 1, by simp, Nat.succ_pos _, ?_⟩
      have := Nat.mul_div_le 9999 ((1 + d1) * (1 + d2))
      simpa using this
  have t3 : top < 2 ^ 60 := by
    have : 1 * (top - 1) ≤ (1 + d1) * (1 + d2) * (top - 1) := Nat.mul_le_mul (by omega) (Nat.le_refl _)
    omega
  obtain ⟨f, a4, b4, k, a4', b4', e4⟩ := sized_ok (n := n) ns a3' b3' (1 + d1) (1 + d2) (by omega) (by omega) t1 t3 hc
  refine ⟨1 + d1, 1 + d2, f, a4, b4, ⟨by omega, by omega, by omega, by omega, fun i j hi hj => (k i j hi hj).1, ?_⟩, by omega, by omega, a4', b4', ?_⟩
  · have := sum_top k
    have e : ((1 + d1 : Nat) : Int) * (((1 + d2 : Nat) : Int) * ((top : Int) - 1)) = (((1 + d1) * (1 + d2) * (top - 1) : Nat) : Int) := by
      rw [Int.natCast_mul, Int.natCast_mul, Int.mul_assoc]
      congr 2
      omega
    rw [e] at this
    omega
  · rw [runG fi_law_table rfl rfl]
    simp only [fi_law_table]
    have cm : bop false .mul (.int (1 + (d1 : Int))) (.int (1 + (d2 : Int))) = fun h => .ok (.int ((1 + (d1 : Int)) * (1 + d2))) h := by
      funext h
      refine bop_mul _ _ _ ?_
      have : (1 + (d1 : Int)).natAbs < 2 ^ 64 := by omega
      simp [small, this]
    have hp : 0 < (1 + (d1 : Int)) * (1 + d2) := Int.mul_pos (by omega) (by omega)
    have cd := fun h => bop_fdiv (h := h) false 9999 ((1 + (d1 : Int)) * (1 + d2)) hp (by
      have : ((1 + (d1 : Int)) * (1 + d2)).natAbs = (1 + d1) * (1 + d2) := by
        have : ((1 + d1 : Int)) * (1 + d2) = (((1 + d1) * (1 + d2) : Nat) : Int) := by simp
        rw [this]; rfl
      rw [this]
      exact Nat.lt_of_le_of_lt hRC (Nat.lt_of_lt_of_le (by decide : 5 * 5 < 2 ^ 60) (Nat.pow_le_pow_right (by decide) (by decide))))
    have e4 : callN G (n + 2) 120 [.scr ns, .ref 0, .int (1 + (d1 : Int)), .int (1 + (d2 : Int)), .int top] (tw a3 b3 :: r) = .ok (tabF (1 + d1) (1 + d2) f) (tw a4 b4 :: r) := by
      have c1 : (1 + (d1 : Int)) = ((1 + d1 : Nat) : Int) := by simp
      have c2 : (1 + (d2 : Int)) = ((1 + d2 : Nat) : Int) := by simp
      rw [c1, c2]; exact e4
    simp [e1 r, e2 r, cm, cd, e3 r, e4]
def mkSh (R C : Nat) (f : Gd) (p : Nat → Nat → Bool) : Sh := ⟨R, C, fun i j => if p i j = true then none else some (f i j), rsum C f, csum R f⟩
theorem TabOk.made {R C : Nat} {f : Gd} (t : TabOk R C f) (p : Nat → Nat → Bool) : (mkSh R C f p).Made where
  R1 := t.R1
  R5 := t.R5
  C1 := t.C1
  C5 := t.C5
  qv := fun i j hi hj v hv => by
    simp only [mkSh] at hv
    split at hv
    · cases hv
    · cases hv; exact ⟨t.nn i j hi hj, t.le hi hj⟩
  rv := fun i hi => by
    have a := sumN_nonneg fun k hk => t.nn i k hi hk
    have b : rsum C f i ≤ sumN R (rsum C f) := sumN_ge_one (fun k hk => sumN_nonneg fun l hl => t.nn k l hk hl : ∀ k, k < R → 0 ≤ rsum C f k) i hi
    have := t.sm
    exact ⟨a, by show rsum C f i ≤ 9999; omega⟩
  bv := fun j hj => by
    have a := sumN_nonneg fun k hk => t.nn k j hk hj
    have b : csum R f j ≤ sumN C (csum R f) := sumN_ge_one (fun k hk => sumN_nonneg fun l hl => t.nn l k hl hk : ∀ k, k < C → 0 ≤ csum R f k) j hj
    have := t.sm
    have e := sum_rows_cols R C f
    exact ⟨a, by show csum R f j ≤ 9999; omega⟩
  sm := t.sm
  eq := sum_rows_cols R C f
theorem sub_filter {α : Type} [DecidableEq α] : ∀ {l s : List α}, l.Nodup → s.Sublist l → l.filter (fun c => decide (c ∈ s)) = s := by
  intro l s nd sub
  induction sub with
  | slnil => rfl
  | @cons s l a sub ih =>
    have na := (List.nodup_cons.mp nd)
    rw [List.filter_cons, if_neg (by simpa using fun z => na.1 (sub.subset z))]
    exact ih na.2
  | @cons_cons s l a sub ih =>
    have na := (List.nodup_cons.mp nd)
    rw [List.filter_cons, if_pos (by simp)]
    congr 1
    have e : l.filter (fun c => decide (c ∈ a :: s)) = l.filter fun c => decide (c ∈ s) := List.filter_congr fun x hx => by
      have : ¬ x = a := fun z => na.1 (z ▸ hx)
      simp [this]
    rw [e]
    exact ih na.2
theorem sub_shutL {R C : Nat} {s : List Cell} (sub : s.Sublist (cellsL R C)) : shutL R C (fun i j => decide ((i, j) ∈ s)) = s := (List.filter_congr fun c _ => by simp).trans (sub_filter (cellsL_nd R C) sub)
theorem law_cellsF {R C : Nat} {f : Gd} (h0 : 0 < R) (h1 : R ≤ 100) (h2 : C ≤ 100) (hc : clH h.length h = true) : callN G (n + 1) 119 [tabF R C f] h = .ok (.lst ((cellsL R C).map cellD)) h := law_cells_spec (g := fun i => vec C (f i)) h0 h1 h2 (by simp) hc
theorem shut_ok (ns : List Int) {a b : Int} (ha : 0 ≤ a) (hb : 0 ≤ b) {R C : Nat} {f : Gd} (h0 : 0 < R) (h1 : R ≤ 100) (h2 : C ≤ 100) {r : MH} (hc : clR r) :
    ∃ p a' b', 0 ≤ a' ∧ 0 ≤ b' ∧ callN G (n + 3) 122 [.scr ns, .ref 0, tabF R C f] (tw a b :: r) = .ok (.tup ((shutL R C p).map cellD)) (tw a' b' :: r) := by
  obtain ⟨x, a1, b1, m1, a1', b1', e1⟩ := pick_ok (n := n) ns ha hb [.int 1, .int 2, .int 2, .int 4] (by simp) (by simp)
  obtain ⟨part, rfl, p1, p2⟩ : ∃ top : Nat, x = .int (top : Nat) ∧ 0 < top ∧ top < 2 ^ 60 := by
    simp only [List.mem_cons, List.not_mem_nil, or_false] at m1
    rcases m1 with rfl | rfl | rfl | rfl
    · exact ⟨1, rfl, by decide, by decide⟩
    · exact ⟨2, rfl, by decide, by decide⟩
    · exact ⟨2, rfl, by decide, by decide⟩
    · exact ⟨4, rfl, by decide, by decide⟩
  rw [runG fi_law_shut rfl rfl]
  simp only [fi_law_shut]
  have lc := law_cellsF (n := n + 1) (f := f) h0 h1 h2 (hc.tw a1 b1)
  simp [e1 r, lc]
  generalize hf : lcR _ _ _ _ = res
  obtain ⟨I, hI⟩ : ∃ I : List Cell → List D → MH → Prop, ∀ pre ys h', I pre ys h' ↔ ∃ (s : List Cell) (a b : Int), ys = s.map cellD ∧ s.Sublist pre ∧ 0 ≤ a ∧ 0 ≤ b ∧ h' = tw a b :: r := ⟨_, fun _ _ _ => Iff.rfl⟩
  obtain ⟨ys, h', rfl, i'⟩ := lcS hf (cellsL R C) cellD I rfl ((hI _ _ _).mpr ⟨[], a1, b1, rfl, .slnil, a1', b1', rfl⟩)
    (fun pre x post ys h' hpre i => by
      obtain ⟨s, a, b, rfl, sub, ha, hb, rfl⟩ := (hI _ _ _).mp i
      refine ⟨_, rfl, ?_⟩
      obtain ⟨d, a2, b2, d1, a2', b2', e2⟩ := draw_ok (n := n + 1) ns ha hb p1 p2
      by_cases z : d = 0
      · refine ⟨some (cellD x), tw a2 b2 :: r, by simp [lcK, e2 r, z], (hI _ _ _).mpr ⟨s ++ [x], a2, b2, by simp, sub.append (List.Sublist.refl _), a2', b2', rfl⟩⟩
      · refine ⟨none, tw a2 b2 :: r, by simp [lcK, e2 r, z], (hI _ _ _).mpr ⟨s, a2, b2, by simp, sub.trans (List.sublist_append_left _ _), a2', b2', rfl⟩⟩)
  obtain ⟨s, a2, b2, rfl, sub, ha2, hb2, rfl⟩ := (hI _ _ _).mp i'
  refine ⟨fun i j => decide ((i, j) ∈ s), a2, ha2, b2, hb2, ?_⟩
  rw [sub_shutL sub]
  simp
theorem rights_spec {o i : List D → D} (ho : o = .tup ∨ o = .lst) (hi : i = .tup ∨ i = .lst) {R C : Nat} (f : Gd) : callN G (n + 1) 125 [gridD o i R C f] h = .ok (.lst (vec R (rsum C f))) h := by
  rw [runG fi_law_rights rfl rfl]
  rcases ho with rfl | rfl <;> rcases hi with rfl | rfl <;>
  · simp only [fi_law_rights, gridD]
    simp
    rw [lcM (List.range R) _ (fun a => .int (rsum C f a)) rfl (fun a _ => by exact ⟨_, rfl, by simp [rsum]⟩)]
    simp
    rfl
theorem belows_spec {o i : List D → D} (ho : o = .tup ∨ o = .lst) (hi : i = .tup ∨ i = .lst) {R C : Nat} (f : Gd) (hR : 0 < R) (hC : C ≤ 100) : callN G (n + 1) 126 [gridD o i R C f] h = .ok (.lst (vec C (csum R f))) h := by
  rw [runG fi_law_belows rfl rfl]
  rcases ho with rfl | rfl <;> rcases hi with rfl | rfl <;>
  · simp only [fi_law_belows, gridD]
    have z0 := fun g => idx_rngT (α := Unit) (h := h) g hR
    have z1 := fun g => idx_rngL (h := h) g hR
    simp only [Int.natCast_zero, Int.ofNat_zero] at z0 z1
    simp [z0, z1, rngM_nat _ (show C ≤ 10000 by omega)]
    rw [lcM (xs := rngL C) (List.range C) (fun (j : Nat) => .int (j : Int)) (fun j => .int (csum R f j)) rfl (fun j hj => by
      refine ⟨_, rfl, ?_⟩
      simp
      rw [lcM (List.range R) _ (fun a => .int (f a j)) rfl (fun a _ => by exact ⟨_, rfl, by simp [idx_vecT (List.mem_range.mp hj), idx_vecL (List.mem_range.mp hj)]⟩)]
      have := sum_vecL (h := h) R (fun a => f a j)
      simp [vec] at this
      simp [this, csum])]
    simp
    rfl
theorem law_sheet_spec {R C : Nat} {f : Gd} {cs : List Cell} (h0 : 0 < R) (h1 : R ≤ 100) (h2 : C ≤ 100) (hc : clH h.length h = true) : callN G (n + 2) 127 [tabF R C f, .tup (cs.map cellD)] h = .ok (shD (mkSh R C f fun i j => decide ((i, j) ∈ cs))) h := by
  rw [runG fi_law_sheet rfl rfl]
  simp only [fi_law_sheet]
  simp [rngM_nat _ (show R ≤ 10000 by omega)]
  generalize hf : forL _ _ _ _ _ = fl
  obtain ⟨I, hI⟩ : ∃ I : List Nat → Ev → MH → Prop, ∀ pre e h', I pre e h' ↔ ∃ (o3 : Option D), e = [some (tabF R C f), some (.tup (cs.map cellD)), some (.ref h.length), o3, none] ∧ h' = h ++ [.lst (pre.map fun i => .tup ((List.range C).map fun j => optD ((mkSh R C f fun i j => decide ((i, j) ∈ cs)).q i j)))] := ⟨_, fun _ _ _ => Iff.rfl⟩
  obtain ⟨e', h', rfl, i'⟩ := forL_nx hf (List.range R) (fun (i : Nat) => .int (i : Int)) I rfl ((hI _ _ _).mpr ⟨none, rfl, rfl⟩)
    (fun pre i post e h' hpre ii => by
      obtain ⟨o3, rfl, rfl⟩ := (hI _ _ _).mp ii
      refine ⟨_, rfl, ?_⟩
      have hi : i < R := List.mem_range.mp (by rw [hpre]; simp)
      have lp : pre.length < big := by
        have : (List.range R).length = R := by simp
        rw [hpre] at this
        simp at this
        unfold big; omega
      clear hf
      have := (hI (pre ++ [i]) [some (tabF R C f), some (.tup (cs.map cellD)), some (.ref h.length), some (.int (i : Nat)), none] _).mpr ⟨_, rfl, rfl⟩
      simp [idx_tabF0 h0, rngM_nat _ (show C ≤ 10000 by omega)]
      rw [lcM (xs := rngL C) (List.range C) (fun (j : Nat) => .int (j : Int)) (fun j => optD ((mkSh R C f fun i j => decide ((i, j) ∈ cs)).q i j)) rfl (fun j hj => by
        refine ⟨_, rfl, ?_⟩
        have hj := List.mem_range.mp hj
        by_cases z : (i, j) ∈ cs
        · simp [cellD_mk, in_cellsT, z, mkSh]
        · simp [cellD_mk, in_cellsT, z, mkSh, idx_tabF hi, idx_vecT hj])]
      simp [app_ref, lp]
      simpa using this)
  obtain ⟨o3, rfl, rfl⟩ := (hI _ _ _).mp i'
  have r1 := rights_spec (n := n) (h := h ++ [.lst ((List.range R).map fun i => .tup ((List.range C).map fun j => optD ((mkSh R C f fun i j => decide ((i, j) ∈ cs)).q i j)))]) (R := R) (C := C) (.inl rfl) (.inl rfl) f
  have r2 := belows_spec (n := n) (h := h ++ [.lst ((List.range R).map fun i => .tup ((List.range C).map fun j => optD ((mkSh R C f fun i j => decide ((i, j) ∈ cs)).q i j)))]) (R := R) (C := C) (.inl rfl) (.inl rfl) f h0 h2
  have r1 : callN G (n + 1) 125 [tabF R C f] _ = _ := r1
  have r2 : callN G (n + 1) 126 [tabF R C f] _ = _ := r2
  simp [r1, r2]
  exact fin_val (sh_cl _ (mkSh R C f fun i j => decide ((i, j) ∈ cs))) hc
end
end Mi
namespace Mi
open PySem
section
variable {n : Nat} {h : MH}
def Says (r : R D) (h : MH) (P : Prop) : Prop := ∃ b, r = .ok (.bl b) h ∧ (b = true ↔ P)
@[simp] theorem says_ok (b : Bool) (P : Prop) : Says (.ok (.bl b) h) h P ↔ (b = true ↔ P) := ⟨fun ⟨_, e, q⟩ => by cases e; exact q, fun q => ⟨b, rfl, q⟩⟩
end
end Mi
namespace Mi
open PySem
section
variable {n : Nat} {h : MH}
end
end Mi
namespace Mi
open PySem
theorem fin_topG (b : Bool) (H : MH) : fin none 0 (.bl b) H = .ok (.bl b) [] := by
  unfold fin
  simp only
  by_cases c : H.length ≤ 0
  · rw [if_pos c, List.eq_nil_of_length_eq_zero (by omega : H.length = 0)]
  · rw [if_neg c, fz_cl rfl]
    rfl
theorem tw_mk : (MO.lst [.int 0, .int 0]) = tw 0 0 := rfl
theorem clR_nil : clR [] := rfl
theorem clTw1 (a b : Int) : clH ([tw a b] : MH).length [tw a b] = true := rfl
theorem mem_shutL {R C : Nat} {p : Nat → Nat → Bool} (c : Cell) : c ∈ shutL R C p ↔ c.1 < R ∧ c.2 < C ∧ p c.1 c.2 = true := by
  unfold shutL
  rw [List.mem_filter, cellsL_mem, and_assoc]
theorem mkSh_congr {R C : Nat} {f : Gd} {p q : Nat → Nat → Bool} (h : ∀ i j, i < R → j < C → p i j = q i j) : shD (mkSh R C f p) = shD (mkSh R C f q) := by
  unfold shD
  congr 2
  unfold cellsQ
  congr 1
  refine List.map_congr_left fun i hi => ?_
  congr 1
  refine List.map_congr_left fun j hj => ?_
  simp only [mkSh, h i j (List.mem_range.mp hi) (List.mem_range.mp hj)]
theorem law_sheet_p {n : Nat} {h : MH} {R C : Nat} {f : Gd} {p : Nat → Nat → Bool} (h0 : 0 < R) (h1 : R ≤ 100) (h2 : C ≤ 100) (hc : clH h.length h = true) : callN G (n + 2) 127 [tabF R C f, .tup ((shutL R C p).map cellD)] h = .ok (shD (mkSh R C f p)) h := by
  rw [law_sheet_spec h0 h1 h2 hc]
  congr 1
  refine mkSh_congr fun i j hi hj => ?_
  cases z : p i j <;> simp [mem_shutL, hi, hj, z]
theorem Says.yes {r : R D} {h : MH} {P : Prop} (s : Says r h P) (p : P) : r = .ok (.bl true) h := by
  obtain ⟨b, e, q⟩ := s
  rw [e, q.mpr p]
theorem Says.no {r : R D} {h : MH} {P : Prop} (s : Says r h P) (p : ¬ P) : r = .ok (.bl false) h := by
  obtain ⟨b, e, q⟩ := s
  cases b with
  | true => exact absurd (q.mp rfl) p
  | false => exact e
end Mi
namespace Mi
open PySem
section
variable {n : Nat} {h : MH}
@[simp] theorem isNon_tab' (R C : Nat) (f : Gd) : isNon (tabF R C f) = false := rfl
@[simp] theorem cmp_eq_bl' (a b : Bool) (h : MH) : cmpM .eq (.bl a) (.bl b) h = .ok (.bl (a == b)) h := by cases a <;> cases b <;> rfl
@[simp] theorem cmp_ne_bl' (a b : Bool) (h : MH) : cmpM .ne (.bl a) (.bl b) h = .ok (.bl (!(a == b))) h := by cases a <;> cases b <;> rfl
end
end Mi
namespace Mi
end Mi
namespace Mi
open PySem
section
variable {n : Nat} {h : MH}
def offL (m : Nat) (P : Nat → Bool) : List Nat := (List.range m).filter fun i => !P i
def natsD (l : List Nat) : D := .tup (l.map fun (i : Nat) => .int (i : Int))
def fenceD (s : Sh) (P : Spot → Bool) : D := .tup [natsD (offL s.R fun i => P (true, i)), natsD (offL s.C fun j => P (false, j))]
end
end Mi
namespace Mi
open PySem
section
variable {n : Nat} {h : MH}
@[simp] theorem fence_0 (s : Sh) (P : Spot → Bool) : idxM (fenceD s P) (.int 0) h = .ok (natsD (offL s.R fun i => P (true, i))) h := idx_tup0 _ _
@[simp] theorem fence_1 (s : Sh) (P : Spot → Bool) : idxM (fenceD s P) (.int 1) h = .ok (natsD (offL s.C fun j => P (false, j))) h := idx_tup1 _ _ _
end
end Mi
namespace Mi
open PySem
section
variable {n : Nat} {h : MH}
structure Wf (R C : Nat) (A : Tab) : Prop where
  R : A.length = R
  C : ∀ k < A.length, (A.getD k []).length = C
theorem Wf.add {R C : Nat} {A : Tab} (w : Wf R C A) (i j : Nat) (v : Int) : Wf R C (addAt A i j v) := ⟨by rw [addAt_len]; exact w.R, addAt_rows w.C i j v⟩
theorem Wf.st {R C : Nat} {A : Tab} (w : Wf R C A) {i j : Nat} (hi : i < R) (hj : j < C) (a b v : Int) (e : Ev) :
    augI (.ref (1 + i)) (.int (j : Int)) (tw a b :: gridH A) = some (at2 A i j) ∧ augW .add (at2 A i j) (.ref (1 + i)) (.int (j : Int)) (.int v) e (tw a b :: gridH A) = .nx e (tw a b :: gridH (addAt A i j v)) ∧ augW .sub (at2 A i j) (.ref (1 + i)) (.int (j : Int)) (.int v) e (tw a b :: gridH A) = .nx e (tw a b :: gridH (addAt A i j (-v))) :=
  grid_st (h := [tw a b]) w.C (by rw [w.R]; exact hi) hj
end
end Mi
namespace Mi
open PySem
section
variable {n : Nat} {h : MH}
end
end Mi
namespace Mi
open PySem
section
variable {n : Nat} {h : MH}
end
end Mi
namespace Mi
open PySem
section
variable {n : Nat} {h : MH}
end
end Mi
namespace Mi
open PySem
section
variable {ft : FT} {w : Nat} {e : Ev} {h : MH}
@[simp] theorem negM_int (i : Int) : negM (.int i) h = .ok (.int (-i)) h := rfl
@[simp] theorem evE_gF (x : Str) (f : Nat) (dl : List Int) : evE ft (.gF x f dl) e h = .ok (.fn f dl) h := rfl
@[simp] theorem evE_callV (fs : List Nat) (a es : E) : evE ft (.callV fs a es) e h = (evE ft a e h).bind fun x h => onO (fnOf fs x) fun p => (evA ft es e h).bind fun ds h => ft p.1 (ds ++ p.2.map .int) h := by
  show ((evE ft a e h).bind fun x h => match fnOf fs x with
    | some p => (evA ft es e h).bind fun ds h => ft p.1 (ds ++ p.2.map .int) h
    | none => .stuck) = _
  congr 1; funext x h; cases fnOf fs x <;> rfl
@[simp] theorem fnOf_fn (fs : List Nat) (f : Nat) (dl : List Int) : fnOf fs (.fn f dl) = if fs.contains f = true then some (f, dl) else none := rfl
@[simp] theorem evE_isX (a : E) (c : Nat) : evE ft (.isX a c) e h = (evE ft a e h).bind fun x h => isXM c x h := rfl
@[simp] theorem evE_rev (m : Bool) (a : E) : evE ft (.rev m a) e h = (evE ft a e h).bind fun x h => revD m x h := rfl
@[simp] theorem revD_tup (m : Bool) (xs : List D) : revD m (.tup xs) h = .ok (.tup xs.reverse) h := rfl
@[simp] theorem revD_lst (m : Bool) (xs : List D) : revD m (.lst xs) h = mk m xs.reverse h := rfl
@[simp] theorem idx_l0 (x : D) (xs : List D) : idxM (.lst (x :: xs)) (.int 0) h = .ok x h := idx_lst _ _ _ (atI_nat _ 0 _ rfl)
@[simp] theorem idx_l1 (x y : D) (xs : List D) : idxM (.lst (x :: y :: xs)) (.int 1) h = .ok y h := idx_lst _ _ _ (atI_nat _ 1 _ rfl)
@[simp] theorem idx_l2 (x y z : D) (xs : List D) : idxM (.lst (x :: y :: z :: xs)) (.int 2) h = .ok z h := idx_lst _ _ _ (atI_nat _ 2 _ rfl)
@[simp] theorem idx_l3 (x y z u : D) (xs : List D) : idxM (.lst (x :: y :: z :: u :: xs)) (.int 3) h = .ok u h := idx_lst _ _ _ (atI_nat _ 3 _ rfl)
@[simp] theorem idx_l4 (x y z u v : D) (xs : List D) : idxM (.lst (x :: y :: z :: u :: v :: xs)) (.int 4) h = .ok v h := idx_lst _ _ _ (atI_nat _ 4 _ rfl)
@[simp] theorem exS_try (k i f : Nat) (x : Str) (b : S) : exS ft w (.tryS k i f x b) e h = tryM ft k f x (exS ft w b e h) := rfl
@[simp] theorem tryM_ret (k f : Nat) (x : Str) (d : D) : tryM ft k f x (.ret d h) = .ret d h := rfl
@[simp] theorem tryM_nx (k f : Nat) (x : Str) : tryM ft k f x (.nx e h) = .nx e h := rfl
@[simp] theorem tryM_ite (k f : Nat) (x : Str) (c : Prop) [Decidable c] (a b : Fl) : tryM ft k f x (if c then a else b) = if c then tryM ft k f x a else tryM ft k f x b := by split <;> rfl
end
end Mi
namespace Mi
open PySem
section
variable {n : Nat} {h : MH}
end
end Mi
namespace Mi
open PySem
section
variable {n : Nat} {h : MH}
end
end Mi
namespace Mi
open PySem
section
variable {n : Nat} {h : MH}
end
end Mi
namespace Mi
open PySem
section
variable {ft : FT} {e : Ev}
end
end Mi
namespace Mi
open PySem
section
variable {n : Nat}
end
end Mi
namespace Mi
open PySem
def bitB (c : Int) (i : Nat) : Bool := decide ((c / 2 ^ i) % 2 = 1)
def rowsC (s : Sh) (c : Int) : List Nat := (List.range s.R).filter (bitB c)
def colsC (s : Sh) (c : Int) : List Nat := (List.range s.C).filter fun j => (rowsC s c).any fun i => (s.q i j).isNone
def sumL (l : List Nat) (f : Nat → Int) : Int := (l.map f).sum
structure GoodC (s : Sh) : Prop where
  r0 : ∀ i, i < s.R → 0 ≤ s.lr i
  b0 : ∀ j, j < s.C → 0 ≤ s.lb j
  eq : sumN s.R s.lr = sumN s.C s.lb
  le : sumN s.R s.r ≤ 9999
  ch : ∀ k, k < 15 → sumL (rowsC s (1 + (k : Nat))) s.lr ≤ sumL (colsC s (1 + (k : Nat))) s.lb
theorem minI_neg {m : Nat} (f : Nat → Int) (hm : 0 < m) (h : MH) : ∃ v : Int, prim1 .min1 (.lst (vec m f)) h = .ok (.int v) h ∧ (v < 0 ↔ ∃ i, i < m ∧ f i < 0) := by
  obtain ⟨k, rfl⟩ : ∃ k, m = k + 1 := ⟨m - 1, by omega⟩
  have e : vec (k + 1) f = .int (f 0) :: ((List.range k).map fun i => f (i + 1)).map D.int := by
    simp [vec, List.range_succ_eq_map]
  obtain ⟨q1, q2, q3⟩ := minI_le ((List.range k).map fun i => f (i + 1)) (f 0)
  refine ⟨minI (f 0) ((List.range k).map fun i => f (i + 1)), ?_, ?_⟩
  · rw [e]
    have := intsD_map (f 0 :: (List.range k).map fun i => f (i + 1))
    show (match (lits h (.lst (.int (f 0) :: ((List.range k).map fun i => f (i + 1)).map D.int))).bind intsD with
      | some (i :: is) => R.ok (D.int (minI i is)) h
      | _ => .stuck) = _
    rw [lits_lst]
    have : (some (D.int (f 0) :: ((List.range k).map fun i => f (i + 1)).map D.int)).bind intsD = some (f 0 :: (List.range k).map fun i => f (i + 1)) := this
    rw [this]
  · constructor
    · intro hv
      rcases q3 with z | z
      · exact ⟨0, by omega, by omega⟩
      · obtain ⟨i, hi, e⟩ := List.mem_map.mp z
        exact ⟨i + 1, by have := List.mem_range.mp hi; omega, by omega⟩
    · rintro ⟨i, hi, hf⟩
      cases i with
      | zero => omega
      | succ i =>
        have := q2 (f (i + 1)) (List.mem_map.mpr ⟨i, List.mem_range.mpr (by omega), rfl⟩)
        omega
section
variable {n : Nat} {h : MH}
theorem law_left0_spec (s : Sh) (h1 : 0 < s.R) (h2 : s.C ≤ 100) : callN G (n + 2) 128 [shD s] h = .ok (.tup [.lst (vec s.R s.lr), .lst (vec s.C s.lb)]) h := by
  rw [runG fi_law_left rfl rfl]
  simp only [fi_law_left]
  simp
  rw [lcM (List.range s.R) _ (fun i => .lst (vec s.C (s.o i))) rfl (fun i _ => by
    refine ⟨[some (shD s), none, none, some (.tup ((List.range s.C).map fun j => optD (s.q i j))), none, none, none], rfl, ?_⟩
    simp
    rw [lcM (List.range s.C) _ (fun j => .int (s.o i j)) rfl (fun j _ => by
      refine ⟨_, rfl, ?_⟩
      unfold Sh.o
      cases z : s.q i j <;> simp [optD, isNon])]
    rfl)]
  have e5 := fun H : MH => rights_spec (n := n) (h := H) (R := s.R) (C := s.C) (.inr rfl) (.inr rfl) s.o
  have e6 := fun H : MH => belows_spec (n := n) (h := H) (R := s.R) (C := s.C) (.inr rfl) (.inr rfl) s.o h1 h2
  have eg : D.lst ((List.range s.R).map fun i => D.lst (vec s.C (s.o i))) = gridD .lst .lst s.R s.C s.o := rfl
  simp [eg, e5, e6]
  rw [show zipD (vec s.R s.r) (vec s.R (rsum s.C s.o)) = _ from zip_rng _ _ _]
  rw [lcM (List.range s.R) _ (fun i => .int (s.lr i)) rfl (fun i _ => by exact ⟨_, rfl, by simp [Sh.lr]⟩)]
  simp [eg, e5, e6]
  rw [show zipD (vec s.C s.b) (vec s.C (csum s.R s.o)) = _ from zip_rng _ _ _]
  rw [lcM (List.range s.C) _ (fun i => .int (s.lb i)) rfl (fun i _ => by exact ⟨_, rfl, by simp [Sh.lb]⟩)]
  simp [vec]
theorem rng2_15 {ft : FT} {e : Ev} (a b : E) (ea : evE ft a e h = .ok (.int 1) h) (eb : evE ft b e h = .ok (.int 16) h) : evI ft (.rng2 a b) e h = .ok (.its ((List.range 15).map fun (k : Nat) => .int (1 + (k : Int)))) h := by
  show ((evE ft a e h).bind fun x h => (evE ft b e h).bind fun y h => match x, y with
    | .int i, .int j => if decide (j ≤ (big : Int)) && decide (-(2 ^ 60) < j) && decide (0 ≤ i) && decide (i ≤ (big : Int)) then R.ok (It.its ((List.range (j - i).toNat).map fun k => D.int (i + (k : Nat)))) h else .stuck
    | _, _ => .stuck) = _
  rw [ea]
  simp only [bind_ok]
  rw [eb]
  rfl
theorem non_in {l : List Nat} (g : Nat → Option Int) : cmpM .inn .non (.lst (l.map fun i => optD (g i))) h = .ok (.bl (l.any fun i => (g i).isNone)) h := by
  have e : inL h .non (l.map fun i => optD (g i)) = some ((l.map fun i => optD (g i)).any fun y => eqD y .non) := inL_ok rfl (okL_map 8 _ _ fun i _ => by cases g i <;> rfl)
  have e2 : ((l.map fun i => optD (g i)).any fun y => eqD y .non) = l.any fun i => (g i).isNone := by
    rw [List.any_map]
    congr 1
    funext i
    show eqD (optD (g i)) .non = _
    cases g i <;> rfl
  show (match inL h .non (l.map fun i => optD (g i)) with
    | some k => R.ok (D.bl k) h
    | none => .stuck) = _
  rw [e, e2]
theorem law_good_spec (s : Sh) (R1 : 1 ≤ s.R) (R4 : s.R ≤ 5) (C1 : 1 ≤ s.C) (C4 : s.C ≤ 5) : ∃ b, callN G (n + 3) 132 [shD s] h = .ok (.bl b) h ∧ (b = true ↔ GoodC s) := by
  obtain ⟨b, hb⟩ : ∃ b : Bool, b = true ↔ GoodC s := by
    by_cases g : GoodC s
    · exact ⟨true, by simp [g]⟩
    · exact ⟨false, by simp [g]⟩
  have no : ¬ GoodC s → b = false := fun k => by
    cases b with
    | false => rfl
    | true => exact (k (hb.mp rfl)).elim
  have yes : GoodC s → b = true := hb.mpr
  refine ⟨b, ?_, hb⟩
  clear hb
  rw [runG fi_law_good rfl rfl]
  simp only [fi_law_good]
  have e1 := law_left0_spec (n := n) (h := h) s (by omega) (by omega)
  obtain ⟨u, e2, k2⟩ := minI_neg s.lr (show 0 < s.R by omega) h
  obtain ⟨v, e3, k3⟩ := minI_neg s.lb (show 0 < s.C by omega) h
  simp [e1, e2]
  by_cases q1 : u < 0
  · have bf := no fun g => by
      obtain ⟨i, hi, z⟩ := k2.mp q1
      have := g.r0 i hi
      omega
    simp [q1, bf]
  simp [q1, e3]
  by_cases q2 : v < 0
  · have bf := no fun g => by
      obtain ⟨i, hi, z⟩ := k3.mp q2
      have := g.b0 i hi
      omega
    simp [q2, bf]
  simp [q2]
  by_cases q3 : sumN s.R s.lr = sumN s.C s.lb
  · by_cases q4 : 9999 < sumN s.R s.r
    · have bf := no fun g => by
        have := g.le
        omega
      simp [q3, q4, bf]
    simp [q3, q4]
    generalize hf : forF _ _ _ _ = fl
    have pw : ∀ H, bop false .pow (.int 2) (.int 4) H = .ok (.int 16) H := fun H => bop_pow _ _ _ (by decide)
    rw [rng2_15 _ _ (by simp) (by simp [pw])] at hf
    simp only [forF_its] at hf
    obtain ⟨I, hI⟩ : ∃ I : List Nat → Ev → MH → Prop, ∀ pre e h', I pre e h' ↔ ∃ (o4 o5 o6 : Option D), e = [some (shD s), some (.lst (vec s.R s.lr)), some (.lst (vec s.C s.lb)), some (.int (s.R : Nat)), o4, o5, o6, none, none] ∧ h' = h ∧ ∀ k ∈ pre, sumL (rowsC s (1 + (k : Nat))) s.lr ≤ sumL (colsC s (1 + (k : Nat))) s.lb := ⟨_, fun _ _ _ => Iff.rfl⟩
    obtain ⟨Q, hQ⟩ : ∃ Q : Fl → Prop, ∀ fl, Q fl ↔ fl = .ret (.bl false) h ∧ ∃ k, k < 15 ∧ ¬ sumL (rowsC s (1 + (k : Nat))) s.lr ≤ sumL (colsC s (1 + (k : Nat))) s.lb := ⟨_, fun _ => Iff.rfl⟩
    rcases forL_wp hf (List.range 15) (fun (k : Nat) => .int (1 + (k : Int))) I Q rfl ((hI _ _ _).mpr ⟨none, none, none, rfl, rfl, fun _ z => by simp at z⟩) (fun pre k post e h' hpre ii => by
      obtain ⟨o4, o5, o6, rfl, rfl, al⟩ := (hI _ _ _).mp ii
      have hk : k < 15 := List.mem_range.mp (by rw [hpre]; simp)
      refine ⟨_, rfl, ?_⟩
      clear hf ii
      have sh : ∀ (i : Nat) H, bop false .shr (.int (1 + (k : Int))) (.int (i : Nat)) H = .ok (.int ((1 + (k : Int)) / 2 ^ i)) H := fun i H => by
        show (if (0 : Int) ≤ (i : Int) then R.ok (D.int ((1 + (k : Int)) / 2 ^ ((i : Int)).toNat)) H else .stuck) = _
        rw [if_pos (by omega), Int.toNat_natCast]
      have bd : ∀ (i : Nat) H, bop false .band (.int ((1 + (k : Int)) / 2 ^ i)) (.int 1) H = .ok (.int (((1 + (k : Int)) / 2 ^ i) % 2)) H := fun i H => by
        show (if (decide ((0 : Int) ≤ (1 + (k : Int)) / 2 ^ i) && decide ((1 : Int) = 1)) = true then R.ok (D.int (((1 + (k : Int)) / 2 ^ i) % 2)) H else .stuck) = _
        rw [if_pos]
        simp only [decide_true, Bool.and_true, decide_eq_true_eq]
        exact Int.ediv_nonneg (by omega) (Int.pow_nonneg (by decide))
      simp [rngM_nat _ (show s.R ≤ 10000 by omega)]
      rw [lcF (xs := rngL s.R) (List.range s.R) (fun (i : Nat) => .int (i : Int)) (bitB (1 + (k : Int))) (fun (i : Nat) => .int (i : Int)) rfl (fun i _ => by
        exact ⟨_, rfl, by simp [sh, bd, bitB], fun _ => by simp⟩)]
      have er : (List.range s.R).filter (bitB (1 + (k : Int))) = rowsC s (1 + (k : Int)) := rfl
      simp [er, rngM_nat _ (show s.C ≤ 10000 by omega)]
      have rin : ∀ i ∈ rowsC s (1 + (k : Int)), i < s.R := fun i hi => List.mem_range.mp (List.mem_filter.mp hi).1
      rw [lcF (xs := rngL s.C) (List.range s.C) (fun (j : Nat) => .int (j : Int)) (fun j => (rowsC s (1 + (k : Int))).any fun i => (s.q i j).isNone) (fun (j : Nat) => .int (j : Int)) rfl (fun j hj => by
        have hj := List.mem_range.mp hj
        refine ⟨_, rfl, ?_, fun _ => by simp⟩
        simp
        rw [lcM (rowsC s (1 + (k : Int))) (fun (i : Nat) => .int (i : Int)) (fun i => optD (s.q i j)) rfl (fun i hi => by
          exact ⟨_, rfl, by simp [idx_q (rin i hi), idx_qr hj]⟩)]
        simp [non_in])]
      have ec : ((List.range s.C).filter fun j => (rowsC s (1 + (k : Int))).any fun i => (s.q i j).isNone) = colsC s (1 + (k : Int)) := rfl
      have cin : ∀ j ∈ colsC s (1 + (k : Int)), j < s.C := fun j hj => List.mem_range.mp (List.mem_filter.mp hj).1
      simp [ec]
      have lv : ∀ (m i : Nat) (f : Nat → Int) H, i < m → idxM (.lst (vec m f)) (.int (i : Nat)) H = .ok (.int (f i)) H := fun m i f H hi => idx_lst _ _ _ (vec_at hi)
      rw [lcM (rowsC s (1 + (k : Int))) (fun (i : Nat) => .int (i : Int)) (fun i => .int (s.lr i)) rfl (fun i hi => by
        exact ⟨_, rfl, by simp [lv s.R i s.lr _ (rin i hi)]⟩)]
      have sl : ∀ (l : List Nat) (f : Nat → Int) H, prim1 .sum (.lst (l.map fun i => .int (f i))) H = .ok (.int (sumL l f)) H := fun l f H => by
        have := sum_lst (h := H) (l.map f)
        rw [List.map_map] at this
        exact this
      simp [sl]
      rw [lcM (colsC s (1 + (k : Int))) (fun (i : Nat) => .int (i : Int)) (fun i => .int (s.lb i)) rfl (fun i hi => by
        exact ⟨_, rfl, by simp [lv s.C i s.lb _ (cin i hi)]⟩)]
      simp [sl]
      by_cases z : sumL (colsC s (1 + (k : Int))) s.lb < sumL (rowsC s (1 + (k : Int))) s.lr
      · simp [z]
        exact (hQ _).mpr ⟨rfl, k, hk, by omega⟩
      · simp [z]
        refine (hI _ _ _).mpr ⟨_, _, _, rfl, rfl, fun x hx => ?_⟩
        rcases List.mem_append.mp hx with y | y
        · exact al x y
        · rw [List.mem_singleton.mp y]; omega) with ⟨e', h', rfl, i'⟩ | q
    · obtain ⟨o4, o5, o6, rfl, rfl, al⟩ := (hI _ _ _).mp i'
      have bt := yes (by
        refine ⟨fun i hi => ?_, fun j hj => ?_, q3, by omega, fun k hk => al k (List.mem_range.mpr hk)⟩
        · have : ¬ s.lr i < 0 := fun z => q1 (k2.mpr ⟨i, hi, z⟩)
          omega
        · have : ¬ s.lb j < 0 := fun z => q2 (k3.mpr ⟨j, hj, z⟩)
          omega)
      simp [bt]
    · obtain ⟨rfl, k, hk, z⟩ := (hQ _).mp q
      have bf := no fun g => z (g.ch k hk)
      simp [bf]
  · have bf := no fun g => q3 g.eq
    simp [q3, bf]
end
end Mi
namespace Mi
open PySem
theorem sumL_filter (p : Nat → Bool) (f : Nat → Int) : ∀ n, sumL ((List.range n).filter p) f = sumN n fun i => (if p i = true then 1 else 0) * f i
  | 0 => rfl
  | n + 1 => by
    have ih := sumL_filter p f n
    unfold sumL at ih ⊢
    rw [List.range_succ, List.filter_append, List.map_append, List.sum_append, ih]
    show _ = sumN n _ + _
    congr 1
    by_cases z : p n = true
    · simp [z]
    · simp [z]
theorem bits4 : ∀ p0 p1 p2 p3 : Bool, (p0 || p1 || p2 || p3) = true → ∃ k, k < 15 ∧ bitB (1 + (k : Nat)) 0 = p0 ∧ bitB (1 + (k : Nat)) 1 = p1 ∧ bitB (1 + (k : Nat)) 2 = p2 ∧ bitB (1 + (k : Nat)) 3 = p3 := by
  intro p0 p1 p2 p3 h
  refine ⟨(if p0 then 1 else 0) + (if p1 then 2 else 0) + (if p2 then 4 else 0) + (if p3 then 8 else 0) - 1, ?_⟩
  revert h
  cases p0 <;> cases p1 <;> cases p2 <;> cases p3 <;> decide +kernel
structure QOk (s : Sh) : Prop where
  R1 : 1 ≤ s.R
  R4 : s.R ≤ 4
  C1 : 1 ≤ s.C
  C4 : s.C ≤ 4
  qv : ∀ i j, i < s.R → j < s.C → ∀ v, s.q i j = some v → 0 ≤ v ∧ v ≤ 9999
theorem QOk.o0 {s : Sh} (k : QOk s) {i j : Nat} (hi : i < s.R) (hj : j < s.C) : 0 ≤ s.o i j := by
  unfold Sh.o
  cases z : s.q i j with
  | none => exact Int.le_refl _
  | some v => exact (k.qv i j hi hj v z).1
theorem GoodC.made {s : Sh} (g : GoodC s) (k : QOk s) : s.Made := by
  have r0 : ∀ i, i < s.R → 0 ≤ s.r i := fun i hi => by
    have h1 := g.r0 i hi
    have h2 : 0 ≤ rsum s.C s.o i := sumN_nonneg fun j hj => k.o0 hi hj
    unfold Sh.lr at h1
    omega
  have b0 : ∀ j, j < s.C → 0 ≤ s.b j := fun j hj => by
    have h1 := g.b0 j hj
    have h2 : 0 ≤ csum s.R s.o j := sumN_nonneg fun i hi => k.o0 hi hj
    unfold Sh.lb at h1
    omega
  have e1 : sumN s.R s.lr = sumN s.R s.r - sumN s.R (rsum s.C s.o) := sumN_sub _ _ _
  have e2 : sumN s.C s.lb = sumN s.C s.b - sumN s.C (csum s.R s.o) := sumN_sub _ _ _
  have e3 := sum_rows_cols s.R s.C s.o
  have e4 := g.eq
  have eq : sumN s.R s.r = sumN s.C s.b := by omega
  have le := g.le
  refine ⟨k.R1, by have := k.R4; omega, k.C1, by have := k.C4; omega, k.qv, fun i hi => ⟨r0 i hi, ?_⟩, fun j hj => ⟨b0 j hj, ?_⟩, le, eq⟩
  · have := sumN_ge_one r0 i hi
    omega
  · have := sumN_ge_one b0 j hj
    omega
theorem GoodC.fill {s : Sh} (g : GoodC s) (k : QOk s) : ¬ NoFill (s.net none) s.lr s.lb := by
  rintro (⟨i, hi, z⟩ | ⟨j, hj, z⟩ | ⟨S, d, cl, lt⟩)
  · have := g.r0 i hi; omega
  · have := g.b0 j hj; omega
  · have lb0 : ∀ j, j < s.C → 0 ≤ ind S (false, j) * s.lb j := fun j hj => by
      have := g.b0 j hj
      unfold ind
      split <;> omega
    have h0 : 0 ≤ sumN s.C (fun j => ind S (false, j) * s.lb j) := sumN_nonneg lb0
    have lt : sumN s.C (fun j => ind S (false, j) * s.lb j) < sumN s.R (fun i => ind S (true, i) * s.lr i) := lt
    have P : ∃ p : Nat → Bool, ∀ i, p i = true ↔ (i < s.R ∧ S (true, i)) := ⟨fun i => @decide (i < s.R ∧ S (true, i)) (Classical.propDecidable _), fun i => by simp⟩
    obtain ⟨p, hp⟩ := P
    have some_ : (p 0 || p 1 || p 2 || p 3) = true := by
      refine Classical.byContradiction fun no => ?_
      simp only [Bool.or_eq_true, not_or] at no
      have : sumN s.R (fun i => ind S (true, i) * s.lr i) = 0 := sumN_zero fun i hi => by
        have hn : ¬ S (true, i) := fun z => by
          have := (hp i).mpr ⟨hi, z⟩
          have i4 : i < 4 := by have := k.R4; omega
          rcases (show i = 0 ∨ i = 1 ∨ i = 2 ∨ i = 3 by omega) with rfl | rfl | rfl | rfl
          · exact no.1.1.1 this
          · exact no.1.1.2 this
          · exact no.1.2 this
          · exact no.2 this
        simp [ind, hn]
      omega
    obtain ⟨c, hc, b0, b1, b2, b3⟩ := bits4 (p 0) (p 1) (p 2) (p 3) some_
    have bit : ∀ i, i < s.R → (bitB (1 + (c : Nat)) i = true ↔ S (true, i)) := fun i hi => by
      have i4 : i < 4 := by have := k.R4; omega
      have e : bitB (1 + (c : Nat)) i = p i := by
        rcases (show i = 0 ∨ i = 1 ∨ i = 2 ∨ i = 3 by omega) with rfl | rfl | rfl | rfl
        · exact b0
        · exact b1
        · exact b2
        · exact b3
      rw [e, hp]
      exact ⟨fun z => z.2, fun z => ⟨hi, z⟩⟩
    have ch := g.ch c hc
    unfold colsC rowsC at ch
    rw [sumL_filter, sumL_filter] at ch
    have l1 : sumN s.R (fun i => (if bitB (1 + (c : Nat)) i = true then 1 else 0) * s.lr i) = sumN s.R (fun i => ind S (true, i) * s.lr i) := sumN_congr fun i hi => by
      congr 1
      unfold ind
      by_cases z : S (true, i)
      · rw [if_pos ((bit i hi).mpr z), if_pos z]
      · rw [if_neg fun y => z ((bit i hi).mp y), if_neg z]
    rw [l1] at ch
    have l2 : sumN s.C (fun j => (if (((List.range s.R).filter (bitB (1 + (c : Nat)))).any fun i => (s.q i j).isNone) = true then 1 else 0) * s.lb j) ≤ sumN s.C (fun j => ind S (false, j) * s.lb j) := sumN_le fun j hj => by
      have hl := g.b0 j hj
      by_cases z : (((List.range s.R).filter (bitB (1 + (c : Nat)))).any fun i => (s.q i j).isNone) = true
      · obtain ⟨i, hi, qn⟩ := List.any_eq_true.mp z
        obtain ⟨hi1, hi2⟩ := List.mem_filter.mp hi
        have hi1 := List.mem_range.mp hi1
        have sj : S (false, j) := cl i j hi1 hj qn ((bit i hi1).mp hi2)
        rw [if_pos z]
        simp [ind, sj]
      · rw [if_neg z]
        have := lb0 j hj
        omega
    omega
theorem GoodC.of {s : Sh} (m : s.Made) (g : s.Good) (k : QOk s) : GoodC s := by
  obtain ⟨T, f⟩ := g
  refine ⟨fun i hi => ?_, fun j hj => ?_, (lr_le m).2, m.sm, fun c hc => ?_⟩
  · have := f.row i hi
    have h0 : 0 ≤ rsum s.C T i := sumN_nonneg fun j _ => f.nn i j
    have this : rsum s.C T i = s.lr i := this
    omega
  · have := f.col j hj
    have h0 : 0 ≤ csum s.R T j := sumN_nonneg fun i _ => f.nn i j
    have this : csum s.R T j = s.lb j := this
    omega
  · refine Classical.byContradiction fun no => ?_
    let S : Spot → Prop := fun x => if x.1 = true then bitB (1 + (c : Nat)) x.2 = true else ((rowsC s (1 + (c : Nat))).any fun i => (s.q i x.2).isNone) = true
    have dS : DecidablePred S := fun x => by
      show Decidable (if x.1 = true then _ else _)
      exact inferInstance
    have sh : Short (s.net none) s.lr s.lb S := by
      constructor
      · intro i j hi hj p s1
        have s1 : bitB (1 + (c : Nat)) i = true := s1
        show ((rowsC s (1 + (c : Nat))).any fun i => (s.q i j).isNone) = true
        exact List.any_eq_true.mpr ⟨i, List.mem_filter.mpr ⟨List.mem_range.mpr hi, s1⟩, p⟩
      · have no : sumL (colsC s (1 + (c : Nat))) s.lb < sumL (rowsC s (1 + (c : Nat))) s.lr := by omega
        unfold colsC at no
        unfold rowsC at no
        rw [sumL_filter, sumL_filter] at no
        have x1 : ∀ j, ind S (false, j) = if (((List.range s.R).filter (bitB (1 + (c : Nat)))).any fun i => (s.q i j).isNone) = true then 1 else 0 := fun j => by
          unfold ind
          by_cases z : (((List.range s.R).filter (bitB (1 + (c : Nat)))).any fun i => (s.q i j).isNone) = true
          · rw [if_pos z, if_pos (show S (false, j) from z)]
          · rw [if_neg z, if_neg (show ¬ S (false, j) from z)]
        have x2 : ∀ i, ind S (true, i) = if bitB (1 + (c : Nat)) i = true then 1 else 0 := fun i => by
          unfold ind
          by_cases z : bitB (1 + (c : Nat)) i = true
          · rw [if_pos z, if_pos (show S (true, i) from z)]
          · rw [if_neg z, if_neg (show ¬ S (true, i) from z)]
        simp only [x1, x2]
        exact no
    exact sh.no f
theorem rng_inj {α : Type} {m m' : Nat} {f g : Nat → α} (e : (List.range m).map f = (List.range m').map g) : m = m' ∧ ∀ i, i < m → f i = g i := by
  have l := congrArg List.length e
  simp at l
  subst l
  exact ⟨rfl, fun i hi => List.map_inj_left.mp e i (List.mem_range.mpr hi)⟩
theorem made_of {s : Sh} (R1 : 1 ≤ s.R) (w : madeB (shD s) = true) : s.Made := by
  obtain ⟨u, e, m⟩ := made_sh w
  unfold shD at e
  simp only [D.tup.injEq, List.cons.injEq, and_true] at e
  obtain ⟨e1, e2, e3⟩ := e
  unfold cellsQ at e1
  simp only [D.tup.injEq] at e1
  obtain ⟨hR, k1⟩ := rng_inj e1
  have k1 : ∀ i, i < s.R → (List.range s.C).map (fun j => optD (s.q i j)) = (List.range u.C).map fun j => optD (u.q i j) := fun i hi => by
    have := k1 i hi
    injection this
  have hC := (rng_inj (k1 0 (by omega))).1
  obtain ⟨_, k2⟩ := rng_inj e2
  obtain ⟨_, k3⟩ := rng_inj e3
  have rr : ∀ i, i < s.R → s.r i = u.r i := fun i hi => by have := k2 i hi; injection this
  have bb : ∀ j, j < s.C → s.b j = u.b j := fun j hj => by have := k3 j hj; injection this
  have qq : ∀ i j, i < s.R → j < s.C → s.q i j = u.q i j := fun i j hi hj => by
    have := (rng_inj (k1 i hi)).2 j hj
    revert this
    cases s.q i j <;> cases u.q i j <;> simp [optD]
  have sr : sumN s.R s.r = sumN u.R u.r := by rw [← hR]; exact sumN_congr rr
  have sb : sumN s.C s.b = sumN u.C u.b := by rw [← hC]; exact sumN_congr bb
  have m1 := m.R1
  have m2 := m.R5
  have m3 := m.C1
  have m4 := m.C5
  refine ⟨R1, by omega, by omega, by omega, fun i j hi hj v hv => m.qv i j (by omega) (by omega) v (by rw [← qq i j hi hj]; exact hv), fun i hi => by rw [rr i hi]; exact m.rv i (by omega), fun j hj => by rw [bb j hj]; exact m.bv j (by omega), by rw [sr]; exact m.sm, by rw [sr, sb]; exact m.eq⟩
theorem sheet_is_good {n : Nat} {h : MH} {s : Sh} (k : QOk s) (hp : pl (shD s) = true) (hc : clH h.length h = true) : ∃ b, callN G (n + 5) 27 [shD s] h = .ok (.bl b) h ∧ callN G (n + 5) 132 [shD s] h = .ok (.bl b) h := by
  obtain ⟨b, e, hb⟩ := law_good_spec (n := n + 2) (h := h) s k.R1 (by have := k.R4; omega) k.C1 (by have := k.C4; omega)
  refine ⟨b, ?_, e⟩
  by_cases w : madeB (shD s) = true
  · have m := made_of k.R1 w
    obtain ⟨b', e', k1, k2⟩ := is_sheet_spec (n := n) m hc
    rw [e']
    congr 2
    cases b' with
    | true =>
      exact (hb.mpr (GoodC.of m (k1 rfl) k)).symm
    | false =>
      cases b with
      | false => rfl
      | true => exact ((hb.mp rfl).fill k (k2 rfl)).elim
  · have w : madeB (shD s) = false := by simpa using w
    rw [is_sheet_bad hp w]
    congr 2
    cases b with
    | false => rfl
    | true =>
      have := ((hb.mp rfl).made k).b
      rw [w] at this
      cases this
end Mi
namespace Mi
def ab (x : Int) : Int := if x < 0 then -x else x
structure Same (R C : Nat) (A B : Gd) : Prop where
  row : ∀ i, i < R → rsum C A i = rsum C B i
  col : ∀ j, j < C → csum R A j = csum R B j
theorem Same.trans {R C : Nat} {A B D : Gd} (x : Same R C A B) (y : Same R C B D) : Same R C A D := ⟨fun i h => (x.row i h).trans (y.row i h), fun i h => (x.col i h).trans (y.col i h)⟩
theorem Same.symm {R C : Nat} {A B : Gd} (x : Same R C A B) : Same R C B A := ⟨fun i h => (x.row i h).symm, fun i h => (x.col i h).symm⟩
end Mi
namespace Mi
open PySem
def lineC (k : Bool) (c : Cell) : Spot := (k, if k = true then c.1 else c.2)
def onL (c : Cell) (l : Spot) : Prop := lineC l.1 c = l
def Chain : List Cell → List Spot → Prop
  | [], [_] => True
  | c :: cs, l :: l' :: ls => onL c l ∧ onL c l' ∧ l.1 ≠ l'.1 ∧ (∀ d, cs.head? = some d → d ≠ c) ∧ Chain cs (l' :: ls)
  | _, _ => False
theorem Chain.len : ∀ {cs : List Cell} {ls : List Spot}, Chain cs ls → ls.length = cs.length + 1
  | [], [_], _ => rfl
  | [], [], h => h.elim
  | [], _ :: _ :: _, h => h.elim
  | _ :: _, [], h => h.elim
  | _ :: _, [_], h => h.elim
  | c :: cs, l :: l' :: ls, h => by
    have := Chain.len h.2.2.2.2
    simp at this ⊢
    omega
theorem Chain.drop : ∀ (m : Nat) {cs : List Cell} {ls : List Spot}, Chain cs ls → m ≤ cs.length → Chain (cs.drop m) (ls.drop m)
  | 0, _, _, h, _ => h
  | m + 1, [], _, _, hm => by simp at hm
  | m + 1, c :: cs, [], h, _ => h.elim
  | m + 1, c :: cs, [_], h, _ => h.elim
  | m + 1, c :: cs, l :: l' :: ls, h, hm => Chain.drop m h.2.2.2.2 (by simp at hm; omega)
theorem Chain.mem : ∀ {cs : List Cell} {l : Spot} {ls : List Spot}, Chain cs (l :: ls) → ∀ {d : Cell}, d ∈ cs → cs.head? = some d ∨ ∃ a ∈ ls.dropLast, onL d a
  | [], l, ls, h, d, hd => by simp at hd
  | c :: cs, l, [], h, d, hd => h.elim
  | c :: cs, l, l' :: ls, h, d, hd => by
    rcases List.mem_cons.mp hd with z | z
    · exact .inl (by rw [z]; rfl)
    · right
      have ch := h.2.2.2.2
      have hl := ch.len
      rcases Chain.mem ch z with k | ⟨a, ha, ho⟩
      · cases cs with
        | nil => simp at z
        | cons e cs =>
          simp at k
          subst k
          cases ls with
          | nil => simp at hl
          | cons b ls => exact ⟨l', by simp, ch.1⟩
      · cases ls with
        | nil => simp at ha
        | cons b ls => exact ⟨a, by rw [List.dropLast_cons_of_ne_nil (by simp)]; exact List.mem_cons_of_mem _ ha, ho⟩
def alt (g : Cell → Int) : List Cell → Int
  | [] => 0
  | c :: cs => g c - alt g cs
structure RingOk (cs : List Cell) : Prop where
  nd : cs.Nodup
  bal : ∀ (g : Spot → Int) (k : Bool), alt (fun c => g (lineC k c)) cs = 0
end Mi
namespace Mi
open PySem
def addG (B : Gd) (c : Cell) (v : Int) : Gd := fun i j => B i j + if i = c.1 ∧ j = c.2 then v else 0
def turnG : Gd → List Cell → Int → Gd
  | B, [], _ => B
  | B, c :: cs, v => turnG (addG B c v) cs (-v)
theorem sumN_ind (v : Int) {n a : Nat} (h : a < n) : sumN n (fun j => if j = a then v else 0) = v := by
  have := sumN_upd (fun _ => 0) a v n
  rw [this, if_pos h, sumN_zero fun _ _ => rfl]
  omega
theorem turnG_row {N : Nat} : ∀ (cs : List Cell) (B : Gd) (v : Int) (i : Nat), (∀ c ∈ cs, c.2 < N) → rsum N (turnG B cs v) i = rsum N B i + v * alt (fun c => if c.1 = i then 1 else 0) cs
  | [], B, v, i, _ => by simp [turnG, alt]
  | c :: cs, B, v, i, h => by
    simp only [turnG, alt]
    rw [turnG_row cs _ _ _ fun d hd => h d (List.mem_cons_of_mem _ hd), Int.mul_sub, Int.neg_mul]
    have e : rsum N (addG B c v) i = rsum N B i + v * if c.1 = i then 1 else 0 := by
      show sumN N (fun j => B i j + if i = c.1 ∧ j = c.2 then v else 0) = _
      rw [sumN_add]
      congr 1
      by_cases k : i = c.1
      · have : (fun j => if i = c.1 ∧ j = c.2 then v else 0) = fun j => if j = c.2 then v else 0 := by
          funext j; simp [k]
        rw [this, sumN_ind v (h c (List.mem_cons_self ..)), if_pos k.symm]
        omega
      · rw [if_neg fun z => k z.symm, sumN_zero fun j _ => if_neg fun z => k z.1]
        omega
    rw [e]
    omega
theorem turnG_col {M : Nat} : ∀ (cs : List Cell) (B : Gd) (v : Int) (j : Nat), (∀ c ∈ cs, c.1 < M) → csum M (turnG B cs v) j = csum M B j + v * alt (fun c => if c.2 = j then 1 else 0) cs
  | [], B, v, j, _ => by simp [turnG, alt]
  | c :: cs, B, v, j, h => by
    simp only [turnG, alt]
    rw [turnG_col cs _ _ _ fun d hd => h d (List.mem_cons_of_mem _ hd), Int.mul_sub, Int.neg_mul]
    have e : csum M (addG B c v) j = csum M B j + v * if c.2 = j then 1 else 0 := by
      show sumN M (fun i => B i j + if i = c.1 ∧ j = c.2 then v else 0) = _
      rw [sumN_add]
      congr 1
      by_cases k : j = c.2
      · have : (fun i => if i = c.1 ∧ j = c.2 then v else 0) = fun i => if i = c.1 then v else 0 := by
          funext i; simp [k]
        rw [this, sumN_ind v (h c (List.mem_cons_self ..)), if_pos k.symm]
        omega
      · rw [if_neg fun z => k z.symm, sumN_zero fun i _ => if_neg fun z => k z.2]
        omega
    rw [e]
    omega
theorem RingOk.rows {cs : List Cell} (o : RingOk cs) {N : Nat} (h : ∀ c ∈ cs, c.2 < N) (B : Gd) (v : Int) (i : Nat) : rsum N (turnG B cs v) i = rsum N B i := by
  rw [turnG_row cs B v i h]
  have := o.bal (fun s => if s.2 = i then 1 else 0) true
  have this : alt (fun c => if c.1 = i then 1 else 0) cs = 0 := this
  rw [this]
  omega
theorem RingOk.cols {cs : List Cell} (o : RingOk cs) {M : Nat} (h : ∀ c ∈ cs, c.1 < M) (B : Gd) (v : Int) (j : Nat) : csum M (turnG B cs v) j = csum M B j := by
  rw [turnG_col cs B v j h]
  have := o.bal (fun s => if s.2 = j then 1 else 0) false
  have this : alt (fun c => if c.2 = j then 1 else 0) cs = 0 := this
  rw [this]
  omega
def room (b : Int) (B : Gd) (s : Bool) (c : Cell) : Int := if s = true then b - B c.1 c.2 % b else B c.1 c.2 % b
def Fits (b : Int) (B : Gd) (v : Int) : Bool → List Cell → Prop
  | _, [] => True
  | s, c :: cs => v ≤ room b B s c ∧ Fits b B v (!s) cs
theorem Fits.le {b : Int} {B : Gd} {v w : Int} (h : v ≤ w) : ∀ {s : Bool} {cs : List Cell}, Fits b B w s cs → Fits b B v s cs
  | _, [], _ => trivial
  | _, _ :: _, f => ⟨Int.le_trans h f.1, f.2.le h⟩
def sg (s : Bool) : Int := if s = true then 1 else -1
def In (b x y : Int) : Prop := b * (x / b) ≤ y ∧ y ≤ b * (x / b) + if x % b = 0 then 0 else b
theorem In.self {b x : Int} (b0 : 0 < b) : In b x x := by
  have h := Int.mul_ediv_add_emod x b
  have h1 := Int.emod_nonneg x (show b ≠ 0 by omega)
  have h2 := Int.emod_lt_of_pos x b0
  unfold In
  split <;> omega
theorem mod_of {b q d : Int} (h0 : 0 ≤ d) (h1 : d < b) : (b * q + d) % b = d := by
  rw [Int.add_comm, Int.add_mul_emod_self_left, Int.emod_eq_of_lt h0 h1]
theorem In.turn {b x y v : Int} (b0 : 0 < b) (h : In b x y) (hy : y % b ≠ 0) (v0 : 0 < v) (t : Bool) (hv : v ≤ if t = true then b - y % b else y % b) :
    In b x (y + sg t * v) ∧ ((v = if t = true then b - y % b else y % b) → (y + sg t * v) % b = 0) := by
  unfold In at h
  generalize hq : x / b = q at *
  have hd : ∃ d, y = b * q + d := ⟨y - b * q, by omega⟩
  obtain ⟨d, rfl⟩ := hd
  by_cases x0 : x % b = 0
  · rw [if_pos x0] at h
    have : d = 0 := by omega
    subst this
    rw [mod_of (by omega) b0] at hy
    exact (hy rfl).elim
  · rw [if_neg x0] at h
    have d0 : d ≠ 0 := fun z => by subst z; rw [mod_of (by omega) b0] at hy; exact hy rfl
    have d1 : d ≠ b := fun z => by
      subst z
      have : d * q + d = d * (q + 1) + 0 := by rw [Int.mul_add]; omega
      rw [this, mod_of (by omega) b0] at hy
      exact hy rfl
    have e : (b * q + d) % b = d := mod_of (by omega) (by omega)
    rw [e] at hv ⊢
    unfold In
    rw [hq, if_neg x0]
    cases t with
    | true =>
      simp only [if_true, sg] at hv ⊢
      refine ⟨by omega, fun z => ?_⟩
      have : b * q + d + 1 * v = b * (q + 1) + 0 := by rw [Int.mul_add]; omega
      rw [this, mod_of (by omega) b0]
    | false =>
      simp only [if_neg Bool.false_ne_true, sg] at hv ⊢
      refine ⟨by omega, fun z => ?_⟩
      have : b * q + d + -1 * v = b * q + 0 := by omega
      rw [this, mod_of (by omega) b0]
end Mi
namespace Mi
open PySem
section
variable {n : Nat} {h : MH} {R C : Nat} {A : Tab} {a b : Int} {t : MH}
end
end Mi
namespace Mi
open PySem
section
variable {n : Nat} {h : MH} {R C : Nat} {A : Tab} {a b : Int} {t : MH}
structure Mv where
  r : Nat
  s : Nat
  c : Nat
  d : Nat
  m : Int
def doM (A : Tab) (k : Mv) : Tab := mv A k.r k.s k.c k.d k.m
structure OkM (R C : Nat) (A : Tab) (k : Mv) : Prop where
  r : k.r < R
  s : k.s < R
  c : k.c < C
  d : k.d < C
  rs : k.r ≠ k.s
  cd : k.c ≠ k.d
  m : 1 ≤ k.m
  e1 : k.m ≤ at2 A k.r k.d
  e2 : k.m ≤ at2 A k.s k.c
def PathM (R C : Nat) : Tab → List Mv → Tab → Prop
  | A, [], B => A = B
  | A, k :: ms, B => OkM R C A k ∧ PathM R C (doM A k) ms B
def sumM (ms : List Mv) : Int := (ms.map Mv.m).sum
theorem PathM.len {A : Tab} : ∀ {ms : List Mv} {A B : Tab}, PathM R C A ms B → (ms.length : Int) ≤ sumM ms
  | [], _, _, _ => Int.le_refl _
  | k :: ms, A, B, p => by
    have := PathM.len (A := A) p.2
    have := p.1.m
    show ((ms.length + 1 : Nat) : Int) ≤ k.m + sumM ms
    omega
end
end Mi
namespace Mi
open PySem
def rfk (k : Nat) (l : List Nat) : List D := l.map fun i => D.ref (k + i)
theorem refs_rfk (b k : Nat) : refs b k = rfk b (List.range k) := by
  unfold refs rfk
  rw [List.range'_eq_map_range, List.map_map]
  rfl
section
variable {n : Nat} {h : MH} {R C : Nat} {A : Tab} {h0 t : MH}
end
end Mi
namespace Mi
open PySem
section
variable {n : Nat} {h : MH} {M N : Nat} {A : Tab} {h0 t : MH}
end
end Mi
namespace Mi
open PySem
@[simp] theorem recvT_index : recvT .index = .list := rfl
section
variable {n : Nat} {h : MH} {M N : Nat}
end
end Mi
namespace Mi
open PySem
section
variable {n : Nat} {h : MH} {M N : Nat} {A : Tab} {h0 t : MH}
end
end Mi
namespace Mi
open PySem
section
variable {n : Nat} {h : MH} {R C : Nat} {f : Gd}
end
end Mi
namespace Mi
open PySem
theorem ret_consQ {Q : R D → Prop} {keep : Option Nat} {b : Nat} {ft : FT} {w : Nat} {a s : S} {e : Ev} {h : MH} (e1 : Ev) (h1 : MH) (k1 : exS ft w a e h = .nx e1 h1) (k2 : Q (retF keep b (exS ft w s e1 h1))) : Q (retF keep b (exS ft w (.cons a s) e h)) := by
  rw [exS_cons, k1]
  exact k2
theorem vec_put (m : Nat) (f : Nat → Int) (i : Nat) (v : Int) : (vec m f).set i (.int v) = vec m fun k => if k = i then v else f k := by
  apply List.ext_getElem
  · simp
  · intro k h1 h2
    simp at h1
    by_cases e : i = k
    · subst e; simp [vec]
    · have e' : ¬ k = i := fun z => e z.symm
      rw [List.getElem_set_ne e]
      simp [vec, e']
theorem grid_mkD {α : Type} {F : D → MH → R (Option D)} (enc : α → D) (g : α → List D) : ∀ (l : List α) (H : MH), (∀ a ∈ l, ∀ H, F (enc a) H = .ok (some (.ref H.length)) (H ++ [.lst (g a)])) → lcL F (l.map enc) H = .ok (refs H.length l.length) (H ++ l.map fun a => MO.lst (g a))
  | [], H, _ => by
    show R.ok [] H = .ok [] (H ++ [])
    rw [List.append_nil]
  | a :: l, H, k => by
    show (match F (enc a) H with
      | .ok none h1 => lcL F (l.map enc) h1
      | .ok (some x) h1 => (match lcL F (l.map enc) h1 with
        | .ok xs h2 => .ok (x :: xs) h2
        | _ => .stuck)
      | _ => .stuck) = _
    rw [k a (List.mem_cons_self ..) H]
    simp only
    rw [grid_mkD enc g l _ fun b hb => k b (List.mem_cons_of_mem _ hb)]
    simp [refs, List.range'_succ]
def Bent (s : Sh) (z : R D) : Prop := ∃ s' a' b', s'.R = s.R ∧ s'.C = s.C ∧ QOk s' ∧ 0 ≤ a' ∧ 0 ≤ b' ∧ z = .ok (shD s') [tw a' b']
section
variable {n : Nat}
theorem add_at {m i : Nat} (hi : i < m) {H : MH} (k : Nat) (f : Nat → Int) (hk : H[k]? = some (.lst (vec m f))) (v : Int) (e : Ev) : augI (.ref k) (.int (i : Nat)) H = some (f i) ∧ augW .add (f i) (.ref k) (.int (i : Nat)) (.int v) e H = .nx e (H.set k (.lst (vec m fun j => if j = i then f i + v else f j))) := by
  refine ⟨aug_lst _ _ _ _ hk (atI_nat _ _ _ (by simp [vec, hi])), ?_⟩
  rw [augW_add, sub_lst _ _ _ _ _ hk (by simpa using hi), vec_put]
theorem bent_ok (ns : List Int) {a b : Int} (ha : 0 ≤ a) (hb : 0 ≤ b) {s : Sh} (k : QOk s) : Bent s (callN G (n + 4) 133 [.scr ns, .ref 0, shD s] [tw a b]) := by
  have R1 := k.R1
  have R4 := k.R4
  have C1 := k.C1
  have C4 := k.C4
  rw [runG fi_law_bent rfl rfl]
  simp only [fi_law_bent]
  obtain ⟨i, a1, b1, li, a1', b1', e1⟩ := draw_ok (n := n + 2) ns ha hb (m := s.R) (by omega) (by omega)
  obtain ⟨j, a2, b2, lj, a2', b2', e2⟩ := draw_ok (n := n + 2) ns a1' b1' (m := s.C) (by omega) (by omega)
  obtain ⟨o, a3, b3, lo, a3', b3', e3⟩ := draw_ok (n := n + 2) ns a2' b2' (m := s.R) (by omega) (by omega)
  have e1 : callN G (n + 3) 117 _ [tw a b] = _ := e1 []
  have e2 : callN G (n + 3) 117 _ [tw a1 b1] = _ := e2 []
  have e3 : callN G (n + 3) 117 _ [tw a2 b2] = _ := e3 []
  obtain ⟨y, a4, b4, m4, a4', b4', e4⟩ := pick_ok (n := n + 1) ns a3' b3' [.int 1, .int 1, .int 2, .int 9, .int 300] (by simp) (by simp)
  have e4 : callN G (n + 3) 118 _ [tw a3 b3] = _ := e4 []
  obtain ⟨mu, rfl, mu1, mu2⟩ : ∃ mu : Int, y = .int mu ∧ 1 ≤ mu ∧ mu ≤ 300 := by
    simp only [List.mem_cons, List.not_mem_nil, or_false] at m4
    rcases m4 with rfl | rfl | rfl | rfl | rfl <;> exact ⟨_, rfl, by decide, by decide⟩
  obtain ⟨d, a5, b5, ld, a5', b5', e5⟩ := draw_ok (n := n + 2) ns a4' b4' (m := 5) (by decide) (by decide)
  have e5 := e5 [.lst (vec s.R s.r), .lst (vec s.C s.b)]
  have e5 : callN G (n + 3) 117 [.scr ns, .ref 0, .int 5] [tw a4 b4, .lst (vec s.R s.r), .lst (vec s.C s.b)] = _ := e5
  have itv : ∀ (m : Nat) (f : Nat → Int) H, itOf H (.tup (vec m f)) = some (.its (vec m f)) := fun _ _ _ => rfl
  have lcv : ∀ (m : Nat) (f : Nat → Int) (e : Ev) (H : MH), 14 < e.length → lcR true (lcB (.nm 14) (evE (callN G (n + 3)) (.bl true)) (evE (callN G (n + 3)) (.var 14)) e) (.its (vec m f)) H = mk true (vec m f) H := fun m f e H he => by
    rw [lcM (xs := vec m f) (List.range m) (fun k => .int (f k)) (fun k => .int (f k)) rfl (fun k _ => by
      refine ⟨_, rfl, ?_⟩
      have : vget (e.set 14 (some (.int (f k)))) 14 = some (.int (f k)) := by
        unfold vget
        rw [List.getElem?_set_self he]
      simp [this])]
    rfl
  let Q := Bent s
  refine ret_consQ (Q := Q) [some (.scr ns), some (.ref 0), some (shD s), some (cellsQ s.R s.C s.q), some (.tup (vec s.R s.r)), some (.tup (vec s.C s.b)), none, none, none, none, none, none, none, none, none, none] [tw a b] (by simp [shD]) ?_
  refine ret_consQ (Q := Q) [some (.scr ns), some (.ref 0), some (shD s), some (cellsQ s.R s.C s.q), some (.tup (vec s.R s.r)), some (.tup (vec s.C s.b)), some (.int (i : Nat)), some (.int (j : Nat)), none, none, none, none, none, none, none, none] [tw a2 b2] (by simp [e1, e2]) ?_
  refine ret_consQ (Q := Q) [some (.scr ns), some (.ref 0), some (shD s), some (cellsQ s.R s.C s.q), some (.tup (vec s.R s.r)), some (.tup (vec s.C s.b)), some (.int (i : Nat)), some (.int (j : Nat)), some (.int (o : Nat)), none, none, none, none, none, none, none] [tw a3 b3] (by simp [e3]) ?_
  refine ret_consQ (Q := Q) [some (.scr ns), some (.ref 0), some (shD s), some (cellsQ s.R s.C s.q), some (.tup (vec s.R s.r)), some (.tup (vec s.C s.b)), some (.int (i : Nat)), some (.int (j : Nat)), some (.int (o : Nat)), some (.int mu), none, none, none, none, none, none] [tw a4 b4] (by simp [e4]) ?_
  refine ret_consQ (Q := Q) [some (.scr ns), some (.ref 0), some (shD s), some (cellsQ s.R s.C s.q), some (.tup (vec s.R s.r)), some (.tup (vec s.C s.b)), some (.int (i : Nat)), some (.int (j : Nat)), some (.int (o : Nat)), some (.int mu), some (.ref 1), none, none, none, none, none] [tw a4 b4, .lst (vec s.R s.r)] (by simp [itv, lcv]) ?_
  refine ret_consQ (Q := Q) [some (.scr ns), some (.ref 0), some (shD s), some (cellsQ s.R s.C s.q), some (.tup (vec s.R s.r)), some (.tup (vec s.C s.b)), some (.int (i : Nat)), some (.int (j : Nat)), some (.int (o : Nat)), some (.int mu), some (.ref 1), some (.ref 2), none, none, none, none] [tw a4 b4, .lst (vec s.R s.r), .lst (vec s.C s.b)] (by simp [itv, lcv]) ?_
  refine ret_consQ (Q := Q) [some (.scr ns), some (.ref 0), some (shD s), some (cellsQ s.R s.C s.q), some (.tup (vec s.R s.r)), some (.tup (vec s.C s.b)), some (.int (i : Nat)), some (.int (j : Nat)), some (.int (o : Nat)), some (.int mu), some (.ref 1), some (.ref 2), some (.int (d : Nat)), none, none, none] [tw a5 b5, .lst (vec s.R s.r), .lst (vec s.C s.b)] (by simp [e5]) ?_
  -- much
  obtain ⟨mv, a6, b6, a6', b6', hmv, e6⟩ : ∃ (mv a6 b6 : Int), 0 ≤ a6 ∧ 0 ≤ b6 ∧ (d ≠ 4 → mv = mu) ∧ exS (callN G (n + 3)) WF (.ifS (.cmp .eq (.var 12) (.int 4))
      (.cons (.asg (.nm 9) (.bin false .add (.bin false .sub (.int 9999) (.prim .sum (.cons (.var 4) .nil))) (.call 117 (.cons (.var 0) (.cons (.var 1) (.cons (.int 2) .nil)))))) .nil) .nil)
      [some (.scr ns), some (.ref 0), some (shD s), some (cellsQ s.R s.C s.q), some (.tup (vec s.R s.r)), some (.tup (vec s.C s.b)), some (.int (i : Nat)), some (.int (j : Nat)), some (.int (o : Nat)), some (.int mu), some (.ref 1), some (.ref 2), some (.int (d : Nat)), none, none, none] [tw a5 b5, .lst (vec s.R s.r), .lst (vec s.C s.b)] = .nx
      [some (.scr ns), some (.ref 0), some (shD s), some (cellsQ s.R s.C s.q), some (.tup (vec s.R s.r)), some (.tup (vec s.C s.b)), some (.int (i : Nat)), some (.int (j : Nat)), some (.int (o : Nat)), some (.int mv), some (.ref 1), some (.ref 2), some (.int (d : Nat)), none, none, none] [tw a6 b6, .lst (vec s.R s.r), .lst (vec s.C s.b)] := by
    by_cases z : d = 4
    · obtain ⟨f, a6, b6, lf, a6', b6', e6⟩ := draw_ok (n := n + 2) ns a5' b5' (m := 2) (by decide) (by decide)
      have e6 := e6 [.lst (vec s.R s.r), .lst (vec s.C s.b)]
      have e6 : callN G (n + 3) 117 [.scr ns, .ref 0, .int 2] [tw a5 b5, .lst (vec s.R s.r), .lst (vec s.C s.b)] = _ := e6
      have zi : (d : Int) = 4 := by omega
      exact ⟨9999 - sumN s.R s.r + (f : Int), a6, b6, a6', b6', fun y => (y z).elim, by simp [zi, e6]⟩
    · have zi : ¬ ((d : Int) = 4) := by omega
      exact ⟨mu, a5, b5, a5', b5', fun _ => rfl, by simp [zi]⟩
  refine ret_consQ (Q := Q) _ _ e6 ?_
  obtain ⟨r1, q1, e7⟩ : ∃ (r1 q1 : Nat → Int), exS (callN G (n + 3)) WF (.ifS (.or (.cmp .eq (.var 12) (.int 0)) (.cmp .eq (.var 12) (.int 4)))
      (.cons (.augS (.var 10) (.var 6) .add (.var 9)) (.cons (.augS (.var 11) (.var 7) .add (.var 9)) .nil)) .nil)
      [some (.scr ns), some (.ref 0), some (shD s), some (cellsQ s.R s.C s.q), some (.tup (vec s.R s.r)), some (.tup (vec s.C s.b)), some (.int (i : Nat)), some (.int (j : Nat)), some (.int (o : Nat)), some (.int mv), some (.ref 1), some (.ref 2), some (.int (d : Nat)), none, none, none] [tw a6 b6, .lst (vec s.R s.r), .lst (vec s.C s.b)] = .nx
      [some (.scr ns), some (.ref 0), some (shD s), some (cellsQ s.R s.C s.q), some (.tup (vec s.R s.r)), some (.tup (vec s.C s.b)), some (.int (i : Nat)), some (.int (j : Nat)), some (.int (o : Nat)), some (.int mv), some (.ref 1), some (.ref 2), some (.int (d : Nat)), none, none, none] [tw a6 b6, .lst (vec s.R r1), .lst (vec s.C q1)] := by
    by_cases z : d = 0 ∨ d = 4
    · have t1 := fun e => add_at (i := i) li (H := [tw a6 b6, .lst (vec s.R s.r), .lst (vec s.C s.b)]) 1 s.r rfl mv e
      have t2 := fun e => add_at (i := j) lj (H := [tw a6 b6, .lst (vec s.R fun k => if k = i then s.r i + mv else s.r k), .lst (vec s.C s.b)]) 2 s.b rfl mv e
      have zi : (d : Int) = 0 ∨ (d : Int) = 4 := by omega
      refine ⟨fun k => if k = i then s.r i + mv else s.r k, fun k => if k = j then s.b j + mv else s.b k, ?_⟩
      rcases zi with zi | zi <;> simp [zi, (t1 []).1, fun e => (t1 e).2, (t2 []).1, fun e => (t2 e).2]
    · have z1 : ¬ ((d : Int) = 0) := by omega
      have z2 : ¬ ((d : Int) = 4) := by omega
      have z3 : ¬ d = 0 := by omega
      exact ⟨s.r, s.b, by simp [z2, z3]⟩
  refine ret_consQ (Q := Q) _ _ e7 ?_
  obtain ⟨r2, e8⟩ : ∃ (r2 : Nat → Int), exS (callN G (n + 3)) WF (.ifS (.cmp .eq (.var 12) (.int 1))
      (.cons (.sub (.var 10) (.var 6) (.prim .max2 (.cons (.int 0) (.cons (.bin false .sub (.idx (.var 10) (.var 6)) (.var 9)) .nil))))
       (.cons (.augS (.var 10) (.var 8) .add (.bin false .sub (.idx (.var 4) (.var 6)) (.idx (.var 10) (.var 6)))) .nil)) .nil)
      [some (.scr ns), some (.ref 0), some (shD s), some (cellsQ s.R s.C s.q), some (.tup (vec s.R s.r)), some (.tup (vec s.C s.b)), some (.int (i : Nat)), some (.int (j : Nat)), some (.int (o : Nat)), some (.int mv), some (.ref 1), some (.ref 2), some (.int (d : Nat)), none, none, none] [tw a6 b6, .lst (vec s.R r1), .lst (vec s.C q1)] = .nx
      [some (.scr ns), some (.ref 0), some (shD s), some (cellsQ s.R s.C s.q), some (.tup (vec s.R s.r)), some (.tup (vec s.C s.b)), some (.int (i : Nat)), some (.int (j : Nat)), some (.int (o : Nat)), some (.int mv), some (.ref 1), some (.ref 2), some (.int (d : Nat)), none, none, none] [tw a6 b6, .lst (vec s.R r2), .lst (vec s.C q1)] := by
    by_cases z : d = 1
    · obtain ⟨v, hv⟩ : ∃ v : Int, v = if mv < r1 i then r1 i - mv else 0 := ⟨_, rfl⟩
      have i1 : ∀ H, idxM (.lst (vec s.R r1)) (.int (i : Nat)) H = .ok (.int (r1 i)) H := fun H => idx_lst _ _ _ (vec_at li)
      have i2 : ∀ H, idxM (.lst (vec s.R fun k => if k = i then v else r1 k)) (.int (i : Nat)) H = .ok (.int v) H := fun H => by
        have := idx_lst (h := H) (vec s.R fun k => if k = i then v else r1 k) (i : Int) (.int (if i = i then v else r1 i)) (vec_at li)
        rw [if_pos rfl] at this
        exact this
      have st := fun e => sub_vec (H := [tw a6 b6, .lst (vec s.R r1), .lst (vec s.C q1)]) (m := 1) (v := v) (e := e) (f := r1) rfl li
      have t1 := fun w e => add_at (i := o) lo (H := [tw a6 b6, .lst (vec s.R fun k => if k = i then v else r1 k), .lst (vec s.C q1)]) 1 _ rfl w e
      have zi : (d : Int) = 1 := by omega
      refine ⟨fun x => if x = o then (if o = i then v else r1 o) + (s.r i - v) else (if x = i then v else r1 x), ?_⟩
      · simp [zi, i1, ← hv, st, (t1 0 []).1, i2, idx_vecT li, fun w e => (t1 w e).2]
    · have zi : ¬ ((d : Int) = 1) := by omega
      exact ⟨r1, by simp [zi]⟩
  refine ret_consQ (Q := Q) _ _ e8 ?_
  obtain ⟨r3, e9⟩ : ∃ (r3 : Nat → Int), exS (callN G (n + 3)) WF (.ifS (.cmp .eq (.var 12) (.int 2))
      (.cons (.augS (.var 10) (.var 6) .add (.var 9)) .nil) .nil)
      [some (.scr ns), some (.ref 0), some (shD s), some (cellsQ s.R s.C s.q), some (.tup (vec s.R s.r)), some (.tup (vec s.C s.b)), some (.int (i : Nat)), some (.int (j : Nat)), some (.int (o : Nat)), some (.int mv), some (.ref 1), some (.ref 2), some (.int (d : Nat)), none, none, none] [tw a6 b6, .lst (vec s.R r2), .lst (vec s.C q1)] = .nx
      [some (.scr ns), some (.ref 0), some (shD s), some (cellsQ s.R s.C s.q), some (.tup (vec s.R s.r)), some (.tup (vec s.C s.b)), some (.int (i : Nat)), some (.int (j : Nat)), some (.int (o : Nat)), some (.int mv), some (.ref 1), some (.ref 2), some (.int (d : Nat)), none, none, none] [tw a6 b6, .lst (vec s.R r3), .lst (vec s.C q1)] := by
    by_cases z : d = 2
    · have t1 := fun e => add_at (i := i) li (H := [tw a6 b6, .lst (vec s.R r2), .lst (vec s.C q1)]) 1 r2 rfl mv e
      have zi : (d : Int) = 2 := by omega
      exact ⟨fun k => if k = i then r2 i + mv else r2 k, by simp [zi, (t1 []).1, fun e => (t1 e).2]⟩
    · have zi : ¬ ((d : Int) = 2) := by omega
      exact ⟨r2, by simp [zi]⟩
  refine ret_consQ (Q := Q) _ _ e9 ?_
  -- the rows
  let rowO : (Nat → Nat → Option Int) → Nat → List D := fun q i => (List.range s.C).map fun j => optD (q i j)
  let HR : (Nat → Nat → Option Int) → MH := fun q => [tw a6 b6, .lst (vec s.R r3), .lst (vec s.C q1)] ++ (List.range s.R).map fun i => MO.lst (rowO q i)
  have itq : ∀ H, itOf H (cellsQ s.R s.C s.q) = some (.its ((List.range s.R).map fun i => .tup (rowO s.q i))) := fun _ => rfl
  have mk1 := grid_mkD (F := lcB (.nm 15) (evE (callN G (n + 3)) (.bl true)) (evE (callN G (n + 3)) (.prim (.list true) (.cons (.var 15) .nil))) [some (.scr ns), some (.ref 0), some (shD s), some (cellsQ s.R s.C s.q), some (.tup (vec s.R s.r)), some (.tup (vec s.C s.b)), some (.int (i : Nat)), some (.int (j : Nat)), some (.int (o : Nat)), some (.int mv), some (.ref 1), some (.ref 2), some (.int (d : Nat)), none, none, none])
    (fun i : Nat => D.tup (rowO s.q i)) (rowO s.q) (List.range s.R) [tw a6 b6, .lst (vec s.R r3), .lst (vec s.C q1)] (fun i _ H => by
      rw [lcB_eq]
      simp [lcK])
  simp only [List.length_range] at mk1
  refine ret_consQ (Q := Q) [some (.scr ns), some (.ref 0), some (shD s), some (cellsQ s.R s.C s.q), some (.tup (vec s.R s.r)), some (.tup (vec s.C s.b)), some (.int (i : Nat)), some (.int (j : Nat)), some (.int (o : Nat)), some (.int mv), some (.ref 1), some (.ref 2), some (.int (d : Nat)), some (.lst (rfk 3 (List.range s.R))), none, none] (HR s.q) (by
    have l1 : lcR false (lcB (.nm 15) (evE (callN G (n + 3)) (.bl true)) (evE (callN G (n + 3)) (.prim (.list true) (.cons (.var 15) .nil))) [some (.scr ns), some (.ref 0), some (shD s), some (cellsQ s.R s.C s.q), some (.tup (vec s.R s.r)), some (.tup (vec s.C s.b)), some (.int (i : Nat)), some (.int (j : Nat)), some (.int (o : Nat)), some (.int mv), some (.ref 1), some (.ref 2), some (.int (d : Nat)), none, none, none]) (.its ((List.range s.R).map fun i => .tup (rowO s.q i))) [tw a6 b6, .lst (vec s.R r3), .lst (vec s.C q1)] = .ok (.lst (rfk 3 (List.range s.R))) (HR s.q) := by
      unfold lcR
      simp only [mk1]
      rw [← refs_rfk]
      rfl
    simp [itq, l1]) ?_
  have gr : ∀ (q : Nat → Nat → Option Int) (k : Nat), k < s.R → (HR q)[3 + k]? = some (.lst (rowO q k)) := fun q k hk => by
    show ([tw a6 b6, .lst (vec s.R r3), .lst (vec s.C q1)] ++ (List.range s.R).map fun i => MO.lst (rowO q i))[3 + k]? = _
    rw [List.getElem?_append_right (by simp)]
    simp [hk]
  have sr : ∀ (q : Nat → Nat → Option Int) (k : Nat) (ys : List D), k < s.R → (HR q).set (3 + k) (.lst ys) = [tw a6 b6, .lst (vec s.R r3), .lst (vec s.C q1)] ++ ((List.range s.R).map fun i => MO.lst (rowO q i)).set k (.lst ys) := fun q k ys hk => by
    show ([tw a6 b6, .lst (vec s.R r3), .lst (vec s.C q1)] ++ (List.range s.R).map fun i => MO.lst (rowO q i)).set (3 + k) (.lst ys) = _
    rw [List.set_append_right _ _ (by simp)]
    simp
  obtain ⟨q2, kq, e10⟩ : ∃ (q2 : Nat → Nat → Option Int), (∀ i j, i < s.R → j < s.C → ∀ v, q2 i j = some v → 0 ≤ v ∧ v ≤ 9999) ∧ exS (callN G (n + 3)) WF (.ifS (.cmp .eq (.var 12) (.int 3))
      (.cons (.sub (.idx (.var 13) (.var 6)) (.var 7) (.ifx (.and (.cmp .isn (.idx (.idx (.var 13) (.var 6)) (.var 7)) .non) (.cmp .gt (.var 9) (.int 1))) .non (.var 9))) .nil) .nil)
      [some (.scr ns), some (.ref 0), some (shD s), some (cellsQ s.R s.C s.q), some (.tup (vec s.R s.r)), some (.tup (vec s.C s.b)), some (.int (i : Nat)), some (.int (j : Nat)), some (.int (o : Nat)), some (.int mv), some (.ref 1), some (.ref 2), some (.int (d : Nat)), some (.lst (rfk 3 (List.range s.R))), none, none] (HR s.q) = .nx
      [some (.scr ns), some (.ref 0), some (shD s), some (cellsQ s.R s.C s.q), some (.tup (vec s.R s.r)), some (.tup (vec s.C s.b)), some (.int (i : Nat)), some (.int (j : Nat)), some (.int (o : Nat)), some (.int mv), some (.ref 1), some (.ref 2), some (.int (d : Nat)), some (.lst (rfk 3 (List.range s.R))), none, none] (HR q2) := by
    by_cases z : d = 3
    · have hm := hmv (by omega)
      subst hm
      have zi : (d : Int) = 3 := by omega
      obtain ⟨w, hw⟩ : ∃ w : Option Int, w = if (s.q i j).isSome = true ∧ 1 < mv then none else some mv := ⟨_, rfl⟩
      refine ⟨fun i' j' => if i' = i ∧ j' = j then w else s.q i' j', fun i' j' hi hj v hv => ?_, ?_⟩
      · simp only at hv
        split at hv
        · rw [hw] at hv
          split at hv
          · cases hv
          · cases hv; omega
        · exact k.qv i' j' hi hj v hv
      · have ixr : ∀ H, idxM (.lst (rfk 3 (List.range s.R))) (.int (i : Nat)) H = .ok (.ref (3 + i)) H := fun H => idx_lst _ _ _ (atI_nat _ _ _ (by simp [rfk, li]))
        have ixc : idxM (.ref (3 + i)) (.int (j : Nat)) (HR s.q) = .ok (optD (s.q i j)) (HR s.q) := by
          rw [idx_refO, gr s.q i li]
          exact idx_lst _ _ _ (atI_nat _ _ _ (by simp [rowO, lj]))
        have sb : ∀ (v : D) (e : Ev), subM (.ref (3 + i)) (.int (j : Nat)) v e (HR s.q) = .nx e ((HR s.q).set (3 + i) (.lst ((rowO s.q i).set j v))) := fun v e => sub_lst _ _ _ _ _ (gr s.q i li) (by simp [rowO, lj])
        have vl : (if (!isNon (optD (s.q i j)) && decide (1 < mv)) = true then D.non else D.int mv) = optD w := by
          rw [hw]
          cases s.q i j <;> by_cases y : 1 < mv <;> simp [optD, isNon, y]
        have fin : (HR s.q).set (3 + i) (.lst ((rowO s.q i).set j (optD w))) = HR fun i' j' => if i' = i ∧ j' = j then w else s.q i' j' := by
          rw [sr s.q i _ li]
          show _ = [tw a6 b6, .lst (vec s.R r3), .lst (vec s.C q1)] ++ (List.range s.R).map fun i' => MO.lst (rowO (fun i' j' => if i' = i ∧ j' = j then w else s.q i' j') i')
          congr 1
          apply List.ext_getElem
          · simp
          · intro x h1 h2
            simp at h1
            by_cases e : i = x
            · subst e
              rw [List.getElem_set_self]
              simp only [List.getElem_map, List.getElem_range]
              congr 1
              apply List.ext_getElem
              · simp [rowO]
              · intro y h3 h4
                by_cases e2 : j = y
                · subst e2
                  rw [List.getElem_set_self]
                  simp [rowO]
                · rw [List.getElem_set_ne e2]
                  have e2' : ¬ y = j := fun z => e2 z.symm
                  simp [rowO, e2']
            · rw [List.getElem_set_ne e]
              have e' : ¬ x = i := fun z => e z.symm
              simp [rowO, e']
        simp only [exS_cons, exS_nil, exS_if, exS_sub, evE_cmp, evE_var, vget_succ, vget_zero, evE_int, bind_ok, cmp_eqI, zi, decide_true, evS_ok, ifK_bl, if_true, evE_ifx, evE_and, evE_idx, ixr, ixc, evE_non, cmp_isnN, onB_bl, cmp_gt]
        cases y1 : isNon (optD (s.q i j)) with
        | true =>
          rw [y1] at vl
          simp at vl
          simp [sb, vl, fin]
        | false =>
          rw [y1] at vl
          by_cases y2 : 1 < mv
          · simp [y2] at vl
            simp [y2, sb, vl, fin]
          · simp [y2] at vl
            simp [y2, sb, vl, fin]
    · have zi : ¬ ((d : Int) = 3) := by omega
      exact ⟨s.q, k.qv, by simp [zi]⟩
  refine ret_consQ (Q := Q) _ _ e10 ?_
  refine ⟨⟨s.R, s.C, q2, r3, q1⟩, a6, b6, rfl, rfl, ⟨R1, R4, C1, C4, kq⟩, a6', b6', ?_⟩
  have h1 : (HR q2)[1]? = some (.lst (vec s.R r3)) := rfl
  have h2 : (HR q2)[2]? = some (.lst (vec s.C q1)) := rfl
  simp
  rw [lcM (xs := rfk 3 (List.range s.R)) (List.range s.R) (fun k => .ref (3 + k)) (fun k => .tup (rowO q2 k)) rfl (fun k hk => by
    have := gr q2 k (List.mem_range.mp hk)
    exact ⟨_, rfl, by simp [this]⟩)]
  simp [h1, h2]
  have hl : (HR q2) = [tw a6 b6] ++ ([.lst (vec s.R r3), .lst (vec s.C q1)] ++ (List.range s.R).map fun i => MO.lst (rowO q2 i)) := rfl
  rw [hl]
  exact fin_val (h := [tw a6 b6]) (d := shD ⟨s.R, s.C, q2, r3, q1⟩) (sh_cl _ _) (clTw1 a6 b6)
end
end Mi
namespace Mi
open PySem
theorem law04 (n : Nat) (ns : List Int) : callN G (n + 20) 200 [.scr ns] [] = .ok (.bl true) [] := by
  rw [runG fi_law_k04 rfl rfl]
  simp only [fi_law_k04]
  obtain ⟨R, C, f, a, b, t, hR, hC, a0, b0, e1⟩ := table_ok (n := n + 16) ns (a := 0) (b := 0) (by decide) (by decide) (rows := 4) (cols := 4) (by decide) (by decide) (by decide) (by decide) clR_nil
  have e1 : callN G (n + 19) 121 [.scr ns, .ref 0, .int 4, .int 4] [tw 0 0] = _ := e1
  have R1 := t.R1
  have C1 := t.C1
  obtain ⟨p, a1, b1, a1', b1', e2⟩ := shut_ok (n := n + 16) ns (f := f) (R := R) (C := C) a0 b0 (by omega) (by omega) (by omega) clR_nil
  have e2 : callN G (n + 19) 122 _ _ = _ := e2
  have e3 := law_sheet_p (n := n + 17) (f := f) (p := p) (show 0 < R by omega) (show R ≤ 100 by omega) (show C ≤ 100 by omega) (clTw1 a1 b1)
  have e3 : callN G (n + 19) 127 _ _ = _ := e3
  have r2 : rngM 2 = fun H => .ok (.its (rngL 2)) H := by funext H; exact rngM_nat (h := H) 2 (by decide)
  simp [tw_mk, e1, e2, e3, r2]
  generalize hf : forL _ _ _ _ _ = fl
  obtain ⟨I, hI⟩ : ∃ I : List Nat → Ev → MH → Prop, ∀ pre e h', I pre e h' ↔ ∃ (s : Sh) (a b : Int) (o4 o5 : Option D), e = [some (.scr ns), some (.ref 0), some (tabF R C f), some (shD s), o4, o5] ∧ h' = [tw a b] ∧ 0 ≤ a ∧ 0 ≤ b ∧ QOk s := ⟨_, fun _ _ _ => Iff.rfl⟩
  obtain ⟨e', h', rfl, i'⟩ := forL_nx hf (List.range 2) (fun (k : Nat) => .int (k : Int)) I rfl ((hI _ _ _).mpr ⟨mkSh R C f p, a1, b1, none, none, rfl, rfl, a1', b1', ⟨R1, hR, C1, hC, (t.made p).qv⟩⟩)
    (fun pre i post e h' hpre ii => by
      obtain ⟨s, a, b, o4, o5, rfl, rfl, ha, hb, k⟩ := (hI _ _ _).mp ii
      refine ⟨_, rfl, ?_⟩
      clear hf
      obtain ⟨s', a', b', _, _, k', ha', hb', e4⟩ := bent_ok (n := n + 15) ns ha hb k
      have e4 : callN G (n + 19) 133 _ _ = _ := e4
      obtain ⟨bb, e5, e6⟩ := sheet_is_good (n := n + 14) (h := [tw a' b']) k' (sh_pl s') (clTw1 a' b')
      have e5 : callN G (n + 19) 27 _ _ = _ := e5
      have e6 : callN G (n + 19) 132 _ _ = _ := e6
      have ib : ∀ H, isM .bool (.bl bb) H = .ok (.bl true) H := fun _ => rfl
      have nb : ∀ H, cmpM .ne (.bl bb) (.bl bb) H = .ok (.bl false) H := fun _ => by cases bb <;> rfl
      simp [e4, e5, e6, ib, nb]
      exact (hI _ _ _).mpr ⟨s', a', b', _, _, rfl, rfl, ha', hb', k'⟩)
  obtain ⟨s, a, b, o4, o5, rfl, rfl, _, _, _⟩ := (hI _ _ _).mp i'
  simp
  exact fin_topG _ _
end Mi
namespace K04
open PySem PySem.Spec PyProof.Rows L2 Mi
def ids : List Nat := [16, 17, 18, 19, 20, 0, 1, 7, 8, 15, 21, 22, 23, 24, 25, 26, 27, 117, 118, 119, 120, 121, 122, 125, 126, 127, 128, 132, 133, 200]
theorem alleq : AllEq L.P Mi.G ids := ⟨rfl, rfl, rfl, rfl, rfl, rfl, rfl, rfl, rfl, rfl, rfl, rfl, rfl, rfl, rfl, rfl, rfl, rfl, rfl, rfl, rfl, rfl, rfl, rfl, rfl, rfl, rfl, rfl, rfl, rfl, True.intro⟩
theorem closed : closedB L.P ids = true := by decide +kernel
theorem spec (ns : List Int) (_ : ns.length ≤ 63) : ∃ h', callN L.P 20 200 [.scr ns] [] = .ok (.bl true) h' := by
  rw [part_eq ids alleq closed 20 200 (by decide)]
  exact ⟨_, Mi.law04 0 ns⟩
end K04
open PySem PySem.W PySem.Calls PyProof.Rows
theorem PySem.Challenge.cw_shutcells_k04_whole_is_sheet_holds : PySem.Challenge.rw_shutcells_k04_whole_is_sheet.Holds := by
  w_on; o_law
  refine HandSHeadRun.head_any (r := OpenLaw.row PySem.Challenge.rw_shutcells_k04_whole_is_sheet) (q := view (OpenLaw.row PySem.Challenge.rw_shutcells_k04_whole_is_sheet).prog [34]) (H := K04.hk) (ob := K04.ob) (M := 100000) (loose := K04.loose) (d := HandSHeadRun.topDef (OpenLaw.row PySem.Challenge.rw_shutcells_k04_whole_is_sheet).prog 34) (kwd := []) K04.ob_eq
    (by kernel_rfl) (fun s => by kernel_rfl) K04.run (by kernel_rfl) (by kernel_rfl) (by kernel_rfl) (by rfl) (by first | assumption | decide +kernel) (by decide +kernel) ⟨rfl, rfl, rfl, rfl, rfl, by decide +kernel⟩ ?hw ?hc
  case hw => w_witness2
  case hc =>
    refine L2.walk_ofE (l := PySem.Challenge.rw_shutcells_k04_whole_is_sheet) (n := 63) (k := 20) (x := "_law_script") (CX := Mi.CXE (PySem.Challenge.rw_shutcells_k04_whole_is_sheet).prog) rfl (by decide) (by kernel_rfl) ⟨rfl, by decide, by decide⟩ ?F Mi.cxe_no
    intro w mg fa h Y Gh hmg0
    obtain ⟨K, KX, c⟩ := Y
    have hmg : mg ("law" : PySem.Str) = some (.ref fa) := by
      have e : (HandSHeadRun.topDef (OpenLaw.row PySem.Challenge.rw_shutcells_k04_whole_is_sheet).prog 34).name = ("law" : PySem.Str) := by kernel_rfl
      rw [← e]
      exact hmg0
    obtain ⟨K', fd, sp, a1, a2, a3, a4⟩ := Mi.LD.law (L := K04.L) (f := 200) (n := 20) KX Gh c.t.d c.more K04.chk K04.gl K04.binds rfl rfl rfl rfl hmg K04.spec
    exact ⟨K', fd, sp, a1, a2, a3, a4⟩

