import PyProof.Rows.All
import Wide.All
import OpenK.AllK
import Wide.FinOn
import HandS.ForMost
import HandS.Wide
import HandS.Flow
import HandS.TupAny
import HandS.TupMul
import HandS.IsInst
import HandS.Defaults
import HandS.Exc
import HandS.TryOnly
import HandS.TryMany
import HandS.ExcOwn
import HandS.ExcField
import HandS.ExcInit
import HandS.WordsExc
import HandS.Conv
import HandS.Strs
import HandS.Deep
import HandS.Style
import HandS.Head0
import HandS.Head1
import HandS.Head2
import HandS.HeadEnd
import HandS.HeadHook1
import HandS.HeadHook2
import HandS.HeadHook4
import PySem.Challenge.RW_clubsturned_k01_whole_all_short_walks_st
set_option Elab.async false
set_option linter.all false
set_option maxRecDepth 100000
set_option maxHeartbeats 8000000
/-! R0: an evaluator for a small part of Python, over plain data. Nothing of the model here but Str, Key and PyData. -/
namespace R
open PySem (Str PyData)
open L2 (Key)

inductive W where
  | non | bl (b : Bool) | int (i : Int) | str (s : Str) | tup (l : List W) | ref (a : Nat)
  /-- a list that nothing changes (the script) -/
  | fl (l : List W)
  deriving Inhabited

/-- how an object may be used: written; only read for a while; never written (a dict that is walked, the script) -/
inductive Lk where
  | free | lock | froz
  deriving DecidableEq

inductive Ob where
  | lst (k : Lk) (xs : List W)
  | dK (k : Lk) (kvs : List (Key × W))
  | dT (k : Lk) (kvs : List (List Key × W))

abbrev Hh := List Ob
abbrev Sl := List (Option W)

inductive Res (α : Type) where
  | ok (a : α) (h : Hh)
  | ex (k : Nat) (w : W) (h : Hh)
  | stuck

inductive SR where
  | nx (σ : Sl) (h : Hh)
  | rt (w : W) (h : Hh)
  | bk (σ : Sl) (h : Hh)
  | ct (σ : Sl) (h : Hh)
  | ex (k : Nat) (w : W) (σ : Sl) (h : Hh)
  | stuck

@[inline] def Res.bind {α β : Type} (r : Res α) (f : α → Hh → Res β) : Res β := match r with
  | .ok a h => f a h
  | .ex k w h => .ex k w h
  | .stuck => .stuck
/-- a known number, seen once -/
def fi {α : Type} (i : Int) (k : Int → α) : α := match i with
  | .ofNat n => (match n with
    | 0 => k 0
    | m + 1 => k (.ofNat (m + 1)))
  | .negSucc n => (match n with
    | 0 => k (-1)
    | m + 1 => k (.negSucc (m + 1)))
theorem fi_eq {α : Type} (i : Int) (k : Int → α) : fi i k = k i := by
  cases i with
  | ofNat n => cases n <;> rfl
  | negSucc n => cases n <;> rfl

mutual
def W.pure : W → Bool
  | .ref _ => false
  | .tup l => pures l
  | .fl l => pures l
  | _ => true
def pures : List W → Bool
  | [] => true
  | w :: r => w.pure && pures r
end
mutual
def W.shift (n : Nat) : W → W
  | .ref a => .ref (n + a)
  | .tup l => .tup (shifts n l)
  | .fl l => .fl (shifts n l)
  | .non => .non
  | .bl b => .bl b
  | .int i => .int i
  | .str s => .str s
def shifts (n : Nat) : List W → List W
  | [] => []
  | w :: r => w.shift n :: shifts n r
end
def Ob.shift (n : Nat) : Ob → Ob
  | .lst k xs => .lst k (shifts n xs)
  | .dK k kvs => .dK k (kvs.map fun p => (p.1, p.2.shift n))
  | .dT k kvs => .dT k (kvs.map fun p => (p.1, p.2.shift n))

def mapO {α β : Type} (f : α → Option β) : List α → Option (List β)
  | [] => some []
  | a :: r => match f a with
    | some b => (match mapO f r with
      | some bs => some (b :: bs)
      | none => none)
    | none => none

/-- the data that a value is -/
def toD : Nat → Hh → W → Option PyData
  | 0, _, _ => none
  | n + 1, h, w => match w with
    | .non => some .none
    | .bl b => some (.bool b)
    | .int i => some (.int i)
    | .str s => if PySem.PyData.strOk s then some (.str s) else none
    | .tup l => (match mapO (toD n h) l with
      | some ds => some (.tuple ds)
      | none => none)
    | .fl l => (match mapO (toD n h) l with
      | some ds => some (.list ds)
      | none => none)
    | .ref a => (match h[a]? with
      | some (.lst _ xs) => (match mapO (toD n h) xs with
        | some ds => some (.list ds)
        | none => none)
      | _ => none)
def eqW (h : Hh) (a b : W) : Option Bool := match toD 60 h a, toD 60 h b with
  | some x, some y => some (PyData.eqv x y)
  | _, _ => none

def kAtom : W → Option Key
  | .int i => some (.inl i)
  | .str s => some (.inr s)
  | _ => none
def kTup : W → Option (List Key)
  | .tup l => mapO kAtom l
  | _ => none
section
variable {κ : Type} [DecidableEq κ]
def valW (kvs : List (κ × W)) (k : κ) : Option W := match kvs with
  | [] => none
  | p :: r => if p.1 = k then some p.2 else valW r k
def putW (kvs : List (κ × W)) (k : κ) (w : W) : List (κ × W) :=
  if (kvs.any fun kv => decide (kv.1 = k)) = true then kvs.map (fun kv => if kv.1 = k then (kv.1, w) else kv) else kvs ++ [(k, w)]
end

def lineB (n : Nat) : Bool := Nat.ble n 16777216

/-- what the dict holds at the key; none: no dict, or no key of its kind -/
def dget (h : Hh) (d k : W) : Option (Option W) := match d with
  | .ref a => (match h[a]? with
    | some (.dK _ kvs) => (match kAtom k with
      | some q => some (valW kvs q)
      | none => none)
    | some (.dT _ kvs) => (match kTup k with
      | some q => some (valW kvs q)
      | none => none)
    | _ => none)
  | _ => none
def dput (h : Hh) (d k v : W) : Option Hh := match d with
  | .ref a => (match h[a]? with
    | some (.dK .free kvs) => (match kAtom k with
      | some q => if Nat.blt kvs.length 16777216 then some (h.set a (.dK .free (putW kvs q v))) else none
      | none => none)
    | some (.dT .free kvs) => (match kTup k with
      | some q => if Nat.blt kvs.length 16777216 then some (h.set a (.dT .free (putW kvs q v))) else none
      | none => none)
    | _ => none)
  | _ => none

def truth (h : Hh) : W → Option Bool
  | .non => some false
  | .bl b => some b
  | .int i => some (i != 0)
  | .str s => if lineB s.length then some ((s.length : Int) != 0) else none
  | .tup l => some (!l.isEmpty)
  | .fl l => some (!l.isEmpty)
  | .ref a => match h[a]? with
    | some (.lst _ xs) => some (!xs.isEmpty)
    | some (.dK .free kvs) => some (!kvs.isEmpty)
    | _ => none

inductive BOp where
  | add | sub | mul | fdiv | mod | pow
  deriving DecidableEq
inductive COp where
  | eq | ne | lt | le | gt | ge | isin | notin
  deriving DecidableEq

def mulOk (i j : Int) : Bool := Nat.ble (Nat.log2 i.natAbs + Nat.log2 j.natAbs) 999999
def fdivOk (j : Int) : Bool := decide (0 < j) && Nat.ble (Nat.log2 j.natAbs) 8999
def powOk (i j : Int) : Bool := decide (0 ≤ j) && decide (j ≤ 1000000) && decide (i.natAbs < 2 ^ 64)

def rep {α : Type} (l : List α) : Nat → List α
  | 0 => []
  | n + 1 => l ++ rep l n

def binop (o : BOp) (a b : W) (h : Hh) : Res W := match o, a, b with
  | .add, .int i, .int j => fi (i + j) fun k => .ok (.int k) h
  | .add, .tup l, .tup m => if lineB (l.length + m.length) then .ok (.tup (l ++ m)) h else .stuck
  | .add, .ref x, .ref y => (match h[x]?, h[y]? with
    | some (.lst .free xs), some (.lst .free ys) => if lineB (xs.length + ys.length) then .ok (.ref h.length) (h ++ [.lst .free (xs ++ ys)]) else .stuck
    | _, _ => .stuck)
  | .sub, .int i, .int j => fi (i - j) fun k => .ok (.int k) h
  | .mul, .int i, .int j => if mulOk i j then fi (i * j) fun k => .ok (.int k) h else .stuck
  | .mul, .ref x, .int j => (match h[x]? with
    | some (.lst .free xs) => if lineB (xs.length * j.toNat) && decide (-1000000 ≤ j) && decide (j ≤ 100000000) then .ok (.ref h.length) (h ++ [.lst .free (rep xs j.toNat)]) else .stuck
    | _ => .stuck)
  | .fdiv, .int i, .int j => if fdivOk j then fi (i / j) fun k => .ok (.int k) h else .stuck
  | .mod, .int i, .int j => if 0 < j then fi (i % j) fun k => .ok (.int k) h else .stuck
  | .pow, .int i, .int j => if powOk i j then fi (i ^ j.toNat) fun k => .ok (.int k) h else .stuck
  | _, _, _ => .stuck

def lexInts : List W → List W → Option Bool
  | [], [] => some false
  | [], .int _ :: _ => some true
  | .int _ :: _, [] => some false
  | .int i :: r, .int j :: q => match i == j with
    | true => lexInts r q
    | false => some (decide (i < j))
  | _, _ => none
/-- is the value among them: none where it cannot be said -/
def inW (h : Hh) (a c : W) : Option Bool := match toD 60 h a, toD 60 h c with
  | some d, some (.list ds) => some (ds.any fun z => PyData.eqv z d)
  | some d, some (.tuple ds) => some (ds.any fun z => PyData.eqv z d)
  | _, _ => none
def isDict (h : Hh) : W → Bool
  | .ref x => (match h[x]? with
    | some (.lst _ _) => false
    | _ => true)
  | _ => false
def cmpop (o : COp) (a b : W) (h : Hh) : Option Bool := match o with
  | .eq => eqW h a b
  | .ne => (match eqW h a b with
    | some c => some (!c)
    | none => none)
  | .lt => (match a, b with
    | .int i, .int j => some (decide (i < j))
    | _, _ => none)
  | .le => (match a, b with
    | .int i, .int j => some (decide (i ≤ j))
    | _, _ => none)
  | .gt => (match a, b with
    | .int i, .int j => some (decide (j < i))
    | _, _ => none)
  | .ge => (match a, b with
    | .int i, .int j => some (decide (j ≤ i))
    | _, _ => none)
  | .isin => if isDict h b then (match dget h b a with
      | some r => some r.isSome
      | none => none) else inW h a b
  | .notin => if isDict h b then (match dget h b a with
      | some r => some (!r.isSome)
      | none => none) else (match inW h a b with
      | some c => some (!c)
      | none => none)

/-- the place that an index means -/
def ixW (n : Nat) (i : Int) : Option Nat := if 0 ≤ i then (if i < n then some i.toNat else none) else if -(n : Int) ≤ i then some (i + n).toNat else none
def atW (xs : List W) (i : Int) : Option W := match ixW xs.length i with
  | some j => xs[j]?
  | none => none
def index (a i : W) (h : Hh) : Option W := match a with
  | .tup l => (match i with
    | .int k => atW l k
    | _ => none)
  | .fl l => (match i with
    | .int k => atW l k
    | _ => none)
  | .ref x => (match h[x]? with
    | some (.lst _ xs) => (match i with
      | .int k => atW xs k
      | _ => none)
    | _ => (match dget h a i with
      | some r => r
      | none => none))
  | _ => none
def sIx (n d : Nat) : Option Int → Nat
  | none => d
  | some v => if v < 0 then (v + (n : Int)).toNat else min v.toNat n
def cutW (xs : List W) (lo hi : Option Int) : List W := (xs.drop (sIx xs.length 0 lo)).take (sIx xs.length xs.length hi - sIx xs.length 0 lo)
def sliceop (a : W) (lo hi : Option Int) (h : Hh) : Res W := match a with
  | .tup l => .ok (.tup (cutW l lo hi)) h
  | .fl l => .ok (.ref h.length) (h ++ [.lst .free (cutW l lo hi)])
  | .ref x => (match h[x]? with
    | some (.lst _ xs) => .ok (.ref h.length) (h ++ [.lst .free (cutW xs lo hi)])
    | _ => .stuck)
  | _ => .stuck
def setix (a i v : W) (h : Hh) : Option Hh := match a with
  | .ref x => (match h[x]? with
    | some (.lst .free xs) => (match i with
      | .int k => (match ixW xs.length k with
        | some j => some (h.set x (.lst .free (xs.set j v)))
        | none => none)
      | _ => none)
    | _ => dput h a i v)
  | _ => none

inductive Ty where
  | int | bool | list | tuple | str
  deriving DecidableEq
def okRef (h : Hh) (a : Nat) : Bool := match h[a]? with
  | some (.dT .froz _) => false
  | some _ => true
  | none => false
def isiW (h : Hh) (w : W) : Ty → Option Bool
  | .int => (match w with
    | .int _ => some true
    | .bl _ => some true
    | .ref a => if okRef h a then some false else none
    | _ => some false)
  | .bool => (match w with
    | .bl _ => some true
    | .ref a => if okRef h a then some false else none
    | _ => some false)
  | .str => (match w with
    | .str _ => some true
    | .ref a => if okRef h a then some false else none
    | _ => some false)
  | .tuple => (match w with
    | .tup _ => some true
    | .ref a => if okRef h a then some false else none
    | _ => some false)
  | .list => (match w with
    | .ref a => (match h[a]? with
      | some (.lst _ _) => some true
      | _ => if okRef h a then some false else none)
    | .fl _ => some true
    | _ => some false)

def lenW (h : Hh) : W → Option Nat
  | .tup l => some l.length
  | .fl l => some l.length
  | .ref a => (match h[a]? with
    | some (.lst _ xs) => some xs.length
    | _ => none)
  | _ => none
def seqOf (h : Hh) : W → Option (List W)
  | .tup l => some l
  | .fl l => some l
  | .ref a => (match h[a]? with
    | some (.lst _ xs) => some xs
    | _ => none)
  | _ => none
def lstOf (h : Hh) : W → Option (List W)
  | .fl l => some l
  | .ref a => (match h[a]? with
    | some (.lst _ xs) => some xs
    | _ => none)
  | _ => none
def intOf : W → Option Int
  | .int i => some i
  | _ => none
def blOf : W → Option Bool
  | .bl b => some b
  | _ => none
def sumI : List Int → Int
  | [] => 0
  | i :: r => fi (i + sumI r) fun k => k
def minI : Int → List Int → Int
  | m, [] => m
  | m, i :: r => minI (if i < m then i else m) r
def maxI : Int → List Int → Int
  | m, [] => m
  | m, i :: r => maxI (if m < i then i else m) r
def insI (i : Int) : List Int → List Int
  | [] => [i]
  | j :: r => if i ≤ j then i :: j :: r else j :: insI i r
def sortI : List Int → List Int
  | [] => []
  | i :: r => insI i (sortI r)

inductive Bi where
  | len | abs | int | sum | min1 | max1 | min2 | max2 | all | any | sorted | tuple | list | fact
  deriving DecidableEq
def factN : Nat → Nat
  | 0 => 1
  | n + 1 => (n + 1) * factN n
def biop (b : Bi) (ws : List W) (h : Hh) : Res W := match b, ws with
  | .len, [w] => (match lenW h w with
    | some n => .ok (.int n) h
    | none => .stuck)
  | .abs, [.int i] => fi (if i < 0 then -i else i) fun k => .ok (.int k) h
  | .int, [.int i] => .ok (.int i) h
  | .int, [.bl c] => .ok (.int (if c then 1 else 0)) h
  | .sum, [w] => (match lstOf h w with
    | some xs => (match mapO intOf xs with
      | some is => fi (sumI is) fun k => .ok (.int k) h
      | none => .stuck)
    | none => .stuck)
  | .min1, [w] => (match lstOf h w with
    | some xs => (match mapO intOf xs with
      | some (i :: is) => fi (minI i is) fun k => .ok (.int k) h
      | _ => .stuck)
    | none => .stuck)
  | .max1, [w] => (match lstOf h w with
    | some xs => (match mapO intOf xs with
      | some (i :: is) => fi (maxI i is) fun k => .ok (.int k) h
      | _ => .stuck)
    | none => .stuck)
  | .min2, [.int i, .int j] => .ok (.int (if j < i then j else i)) h
  | .max2, [.int i, .int j] => .ok (.int (if j > i then j else i)) h
  | .all, [w] => (match lstOf h w with
    | some xs => (match mapO blOf xs with
      | some cs => .ok (.bl (cs.all id)) h
      | none => .stuck)
    | none => .stuck)
  | .any, [w] => (match lstOf h w with
    | some xs => (match mapO blOf xs with
      | some cs => .ok (.bl (cs.any id)) h
      | none => .stuck)
    | none => .stuck)
  | .tuple, [w] => (match w with
    | .tup l => .ok (.tup l) h
    | .fl l => .ok (.tup l) h
    | .ref a => (match h[a]? with
      | some (.lst _ xs) => .ok (.tup xs) h
      | _ => .stuck)
    | _ => .stuck)
  | .list, [w] => (match seqOf h w with
    | some xs => .ok (.ref h.length) (h ++ [.lst .free xs])
    | none => .stuck)
  | _, _ => .stuck

inductive Mt where
  | append | pop | popAt | get1 | get2 | index | extend
  deriving DecidableEq
def mtop (m : Mt) (o : W) (ws : List W) (h : Hh) : Res W := match m, o, ws with
  | .append, .ref a, [w] => (match h[a]? with
    | some (.lst .free xs) => if Nat.blt xs.length 16777216 then .ok .non (h.set a (.lst .free (xs ++ [w]))) else .stuck
    | _ => .stuck)
  | .pop, .ref a, [] => (match h[a]? with
    | some (.lst .free xs) => (match xs[xs.length - 1]? with
      | some w => .ok w (h.set a (.lst .free xs.dropLast))
      | none => .stuck)
    | _ => .stuck)
  | .popAt, .ref a, [.int i] => (match h[a]? with
    | some (.lst .free xs) => (match ixW xs.length i with
      | some j => (match xs[j]? with
        | some w => .ok w (h.set a (.lst .free (xs.eraseIdx j)))
        | none => .stuck)
      | none => .stuck)
    | _ => .stuck)
  | .extend, .ref a, [.ref b] => (match h[a]?, h[b]? with
    | some (.lst .free xs), some (.lst .free ys) => if lineB (xs.length + ys.length) && !(a == b) then .ok .non (h.set a (.lst .free (xs ++ ys))) else .stuck
    | _, _ => .stuck)
  | .get1, .ref a, [k] => (match dget h (.ref a) k with
    | some (some w) => .ok w h
    | some none => .ok .non h
    | none => .stuck)
  | .get2, .ref a, [k, d] => (match dget h (.ref a) k with
    | some (some w) => .ok w h
    | some none => .ok d h
    | none => .stuck)
  | _, _, _ => .stuck

inductive Tg where
  | nm (i : Nat)
  | tup (is : List Nat)
mutual
inductive Ex where
  | var (i : Nat)
  | cst (w : W)
  | gc (x : Str) (w : W)
  | tup (l : Exs)
  | lst (l : Exs)
  | dnew (t : Bool)
  | bin (o : BOp) (a b : Ex)
  | neg (a : Ex)
  | not (a : Ex)
  | cmp (o : COp) (a b : Ex)
  | chain (o o' : COp) (a b c : Ex)
  | isn (neg : Bool) (a : Ex)
  | and (a b : Ex)
  | or (a b : Ex)
  | ite (c : Tx) (a b : Ex)
  | ix (a b : Ex)
  | slo (a lo : Ex)
  | shi (a hi : Ex)
  | slh (a lo hi : Ex)
  | sall (a : Ex)
  | isi (a : Ex) (t : Ty)
  | call (f : Nat) (l : Exs)
  | callk (f : Nat) (l : Exs) (ks : List Str) (kw : Exs) (perm : List Nat)
  | bi (b : Bi) (l : Exs)
  | mtl (m : Mt) (o : Ex) (l : Exs)
  | mtl0 (m : Mt) (o : Ex)
  | get1 (o a : Ex)
  | get2 (o a c : Ex)
  | lc (el : Ex) (tg : Tg) (own : List Nat) (it : Wk)
  | lcif (el : Ex) (tg : Tg) (own : List Nat) (it : Wk) (c : Tx)
inductive Exs where
  | nil
  | cons (a : Ex) (r : Exs)
inductive Wk where
  | rng1 (a : Ex)
  | rng2 (a b : Ex)
  | val (a : Ex)
  | enum (a : Ex)
  | zip (a b : Ex)
inductive Tx where
  | val (a : Ex)
  | not (a : Tx)
  | and (a b : Tx)
  | or (a b : Tx)
  | ite (c a b : Tx)
end
mutual
inductive Sm where
  | asg (t : Tg) (e : Ex)
  | sub (o i e : Ex)
  | aug (i : Nat) (o : BOp) (e : Ex)
  | ret (e : Ex)
  | retN
  | ife (c : Tx) (a b : Ss)
  | loop (t : Tg) (it : Wk) (b : Ss)
  | whil (c : Tx) (b : Ss)
  | brk
  | cnt
  | exp (e : Ex)
  | pas
  | raise (k : Nat) (e : Ex)
  /-- a statement that is never come to -/
  | nev
inductive Ss where
  | nil
  | cons (s : Sm) (r : Ss)
end

def setAll : List Nat → List W → Sl → Option Sl
  | [], [], σ => some σ
  | i :: is, w :: ws, σ => setAll is ws (σ.set i (some w))
  | _, _, _ => none
def tgSet (t : Tg) (w : W) (h : Hh) (σ : Sl) : Option Sl := match t with
  | .nm i => some (σ.set i (some w))
  | .tup is => match w with
    | .tup l => setAll is l σ
    | _ => none
def wipe (σ : Sl) : List Nat → Sl
  | [] => σ
  | v :: vs => (wipe σ vs).set v none

abbrev Un := List (Nat × Lk)
def Ob.setLk (k : Lk) : Ob → Ob
  | .lst _ xs => .lst k xs
  | .dK _ kvs => .dK k kvs
  | .dT _ kvs => .dT k kvs
def relock (h : Hh) : Un → Hh
  | [] => h
  | (a, k) :: r => match h[a]? with
    | some o => relock (h.set a (o.setLk k)) r
    | none => relock h r
def rngL (lo : Int) : Nat → List W
  | 0 => []
  | n + 1 => fi lo fun lo => .int lo :: rngL (lo + 1) n
def rngOk (lo hi : Int) : Bool := decide (-1000000000 ≤ lo) && decide (lo ≤ 1000000000) && decide (-1000000000 ≤ hi) && decide (hi ≤ 1000000000)
def enumL : Int → List W → List W
  | _, [] => []
  | i, w :: r => fi i fun i => .tup [.int i, w] :: enumL (i + 1) r
def zipL : List W → List W → List W
  | a :: r, b :: q => .tup [a, b] :: zipL r q
  | _, _ => []
/-- a list is locked while it is walked -/
def lockL (h : Hh) (w : W) : Res (List W × Un) := match w with
  | .tup l => .ok (l, []) h
  | .fl l => .ok (l, []) h
  | .ref a => (match h[a]? with
    | some (.lst .free xs) => .ok (xs, [(a, .free)]) (h.set a (.lst .lock xs))
    | some (.lst _ xs) => .ok (xs, []) h
    | some (.dK .free kvs) => .ok (kvs.map fun p => (match p.1 with
      | .inl i => W.int i
      | .inr s => W.str s), [(a, .free)]) (h.set a (.dK .froz kvs))
    | some (.dT .free kvs) => .ok (kvs.map fun p => W.tup (p.1.map fun q => (match q with
      | .inl i => W.int i
      | .inr s => W.str s)), [(a, .free)]) (h.set a (.dT .froz kvs))
    | _ => .stuck)
  | _ => .stuck

def lcLoop (set : W → Hh → Sl → Option Sl) (test : Sl → Hh → Res Bool) (elt : Sl → Hh → Res W) : List W → Sl → Hh → Res (List W)
  | [], _, h => .ok [] h
  | w :: ws, σ, h => match set w h σ with
    | none => .stuck
    | some σ1 => (match test σ1 h with
      | .ok true h1 => (match elt σ1 h1 with
        | .ok x h2 => (match lcLoop set test elt ws σ h2 with
          | .ok xs h3 => .ok (x :: xs) h3
          | _ => .stuck)
        | _ => .stuck)
      | .ok false h1 => lcLoop set test elt ws σ h1
      | _ => .stuck)
def forLoop (set : W → Hh → Sl → Option Sl) (body : Sl → Hh → SR) : List W → Sl → Hh → SR
  | [], σ, h => .nx σ h
  | w :: ws, σ, h => match set w h σ with
    | none => .stuck
    | some σ1 => match body σ1 h with
      | .nx σ2 h2 => forLoop set body ws σ2 h2
      | .ct σ2 h2 => forLoop set body ws σ2 h2
      | .bk σ2 h2 => .nx σ2 h2
      | r => r
def whileLoop (test : Sl → Hh → Res Bool) (body : Sl → Hh → SR) : Nat → Sl → Hh → SR
  | 0, _, _ => .stuck
  | n + 1, σ, h => match test σ h with
    | .ok true h1 => (match body σ h1 with
      | .nx σ2 h2 => whileLoop test body n σ2 h2
      | .ct σ2 h2 => whileLoop test body n σ2 h2
      | .bk σ2 h2 => .nx σ2 h2
      | r => r)
    | .ok false h1 => .nx σ h1
    | .ex k w h1 => .ex k w σ h1
    | .stuck => .stuck
def SR.relock (us : Un) : SR → SR
  | .nx σ h => .nx σ (R.relock h us)
  | .rt w h => .rt w (R.relock h us)
  | .bk σ h => .bk σ (R.relock h us)
  | .ct σ h => .ct σ (R.relock h us)
  | .ex k w σ h => .ex k w σ (R.relock h us)
  | .stuck => .stuck
def ofO {α : Type} (o : Option α) (h : Hh) : Res α := match o with
  | some a => .ok a h
  | none => .stuck
def permute (ws : List W) (perm : List Nat) : Option (List W) := mapO (fun j => ws[j]?) perm

section
variable (F : Nat → List W → Hh → Res W)
mutual
def denE : Ex → Sl → Hh → Res W
  | .var i, σ, h => (match σ[i]? with
    | some (some w) => .ok w h
    | _ => .stuck)
  | .cst w, _, h => .ok w h
  | .gc _ w, _, h => .ok w h
  | .tup l, σ, h => (denL l σ h).bind fun ws h1 => if lineB ws.length then .ok (.tup ws) h1 else .stuck
  | .lst l, σ, h => (denL l σ h).bind fun ws h1 => if lineB ws.length then .ok (.ref h1.length) (h1 ++ [.lst .free ws]) else .stuck
  | .dnew false, _, h => .ok (.ref h.length) (h ++ [.dK .free []])
  | .dnew true, _, h => .ok (.ref h.length) (h ++ [.dT .free []])
  | .bin o a b, σ, h => (denE a σ h).bind fun x h1 => (denE b σ h1).bind fun y h2 => binop o x y h2
  | .neg a, σ, h => (denE a σ h).bind fun x h1 => (match x with
    | .int i => fi (-i) fun k => .ok (.int k) h1
    | _ => .stuck)
  | .not a, σ, h => (denE a σ h).bind fun x h1 => (match truth h1 x with
    | some b => .ok (.bl (!b)) h1
    | none => .stuck)
  | .cmp o a b, σ, h => (denE a σ h).bind fun x h1 => (denE b σ h1).bind fun y h2 => (match cmpop o x y h2 with
    | some c => .ok (.bl c) h2
    | none => .stuck)
  | .chain o o' a b c, σ, h => (denE a σ h).bind fun x h1 => (denE b σ h1).bind fun y h2 => (match cmpop o x y h2 with
    | some true => (denE c σ h2).bind fun z h3 => (match cmpop o' y z h3 with
      | some c => .ok (.bl c) h3
      | none => .stuck)
    | some false => .ok (.bl false) h2
    | none => .stuck)
  | .isn neg a, σ, h => (denE a σ h).bind fun x h1 => (match x with
    | .non => .ok (.bl (!neg)) h1
    | _ => .ok (.bl neg) h1)
  | .and a b, σ, h => (denE a σ h).bind fun x h1 => (match truth h1 x with
    | some true => denE b σ h1
    | some false => .ok x h1
    | none => .stuck)
  | .or a b, σ, h => (denE a σ h).bind fun x h1 => (match truth h1 x with
    | some true => .ok x h1
    | some false => denE b σ h1
    | none => .stuck)
  | .ite c a b, σ, h => (denT c σ h).bind fun k h1 => (match k with
    | true => denE a σ h1
    | false => denE b σ h1)
  | .ix a b, σ, h => (denE a σ h).bind fun x h1 => (denE b σ h1).bind fun y h2 => ofO (index x y h2) h2
  | .slo a lo, σ, h => (denE a σ h).bind fun x h1 => (denE lo σ h1).bind fun y h2 => (match y with
    | .int i => sliceop x (some i) none h2
    | _ => .stuck)
  | .shi a hi, σ, h => (denE a σ h).bind fun x h1 => (denE hi σ h1).bind fun y h2 => (match y with
    | .int i => sliceop x none (some i) h2
    | _ => .stuck)
  | .slh a lo hi, σ, h => (denE a σ h).bind fun x h1 => (denE lo σ h1).bind fun y h2 => (match y with
    | .int i => (denE hi σ h2).bind fun z h3 => (match z with
      | .int j => sliceop x (some i) (some j) h3
      | _ => .stuck)
    | _ => .stuck)
  | .sall a, σ, h => (denE a σ h).bind fun x h1 => sliceop x none none h1
  | .isi a t, σ, h => (denE a σ h).bind fun x h1 => (match isiW h1 x t with
    | some b => .ok (.bl b) h1
    | none => .stuck)
  | .call f l, σ, h => (denL l σ h).bind fun ws h1 => F f ws h1
  | .callk f l _ kw perm, σ, h => (denL l σ h).bind fun ws h1 => (denL kw σ h1).bind fun zs h2 => (match permute (ws ++ zs) perm with
    | some vs => F f vs h2
    | none => .stuck)
  | .bi b l, σ, h => (denL l σ h).bind fun ws h1 => biop b ws h1
  | .mtl m o l, σ, h => (denE o σ h).bind fun x h1 => (match x with
    | .ref i => (match h1[i]? with
      | some (.lst _ _) => (denL l σ h1).bind fun ws h2 => mtop m x ws h2
      | _ => .stuck)
    | _ => .stuck)
  | .mtl0 m o, σ, h => (denE o σ h).bind fun x h1 => (match x with
    | .ref i => (match h1[i]? with
      | some (.lst _ _) => mtop m x [] h1
      | _ => .stuck)
    | _ => .stuck)
  | .get1 o a, σ, h => (denE o σ h).bind fun x h1 => if isDict h1 x then (denE a σ h1).bind fun y h2 => mtop .get1 x [y] h2 else .stuck
  | .get2 o a c, σ, h => (denE o σ h).bind fun x h1 => if isDict h1 x then (denE a σ h1).bind fun y h2 => (denE c σ h2).bind fun z h3 => mtop .get2 x [y, z] h3 else .stuck
  | .lc el tg own it, σ, h => (denI it σ h).bind fun p h1 =>
    if Nat.blt p.1.length 16777216 then (match lcLoop (tgSet tg) (fun _ h => .ok true h) (fun σ h => denE el σ h) p.1 (wipe σ own) h1 with
    | .ok xs h2 => .ok (.ref (relock h2 p.2).length) (relock h2 p.2 ++ [.lst .free xs])
    | _ => .stuck) else .stuck
  | .lcif el tg own it c, σ, h => (denI it σ h).bind fun p h1 =>
    if Nat.blt p.1.length 16777216 then (match lcLoop (tgSet tg) (fun σ h => denT c σ h) (fun σ h => denE el σ h) p.1 (wipe σ own) h1 with
    | .ok xs h2 => .ok (.ref (relock h2 p.2).length) (relock h2 p.2 ++ [.lst .free xs])
    | _ => .stuck) else .stuck
def denT : Tx → Sl → Hh → Res Bool
  | .not a, σ, h => (denT a σ h).bind fun b h1 => .ok (!b) h1
  | .and a b, σ, h => (denT a σ h).bind fun k h1 => (match k with
    | true => denT b σ h1
    | false => .ok false h1)
  | .or a b, σ, h => (denT a σ h).bind fun k h1 => (match k with
    | true => .ok true h1
    | false => denT b σ h1)
  | .ite c a b, σ, h => (denT c σ h).bind fun k h1 => (match k with
    | true => denT a σ h1
    | false => denT b σ h1)
  | .val e, σ, h => (denE e σ h).bind fun x h1 => ofO (truth h1 x) h1
def denL : Exs → Sl → Hh → Res (List W)
  | .nil, _, h => .ok [] h
  | .cons a r, σ, h => (denE a σ h).bind fun x h1 => (denL r σ h1).bind fun xs h2 => .ok (x :: xs) h2
def denI : Wk → Sl → Hh → Res (List W × Un)
  | .rng1 a, σ, h => (denE a σ h).bind fun x h1 => (match x with
    | .int j => if rngOk 0 j then .ok (rngL 0 j.toNat, []) h1 else .stuck
    | _ => .stuck)
  | .rng2 a b, σ, h => (denE a σ h).bind fun x h1 => (denE b σ h1).bind fun y h2 => (match x, y with
    | .int i, .int j => if rngOk i j then .ok (rngL i (j - i).toNat, []) h2 else .stuck
    | _, _ => .stuck)
  | .val a, σ, h => (denE a σ h).bind fun x h1 => lockL h1 x
  | .enum a, σ, h => (denE a σ h).bind fun x h1 => (match lstOf h1 x with
    | some _ => (lockL h1 x).bind fun p h2 => .ok (enumL 0 p.1, p.2) h2
    | none => .stuck)
  | .zip a b, σ, h => (denE a σ h).bind fun x h1 => (denE b σ h1).bind fun y h2 => (match lstOf h2 x, lstOf h2 y with
    | some _, some _ => (lockL h2 x).bind fun p h3 => (lockL h3 y).bind fun q h4 => .ok (zipL p.1 q.1, q.2 ++ p.2) h4
    | _, _ => .stuck)
end
/-- the turns that a while may take -/
def WF : Nat := 1000000000
mutual
def denS : Sm → Sl → Hh → SR
  | .asg t e, σ, h => (match denE F e σ h with
    | .ok w h1 => (match tgSet t w h1 σ with
      | some σ1 => .nx σ1 h1
      | none => .stuck)
    | .ex k w h1 => .ex k w σ h1
    | .stuck => .stuck)
  | .sub o i e, σ, h => (match (denE F e σ h).bind fun v h1 => (denE F o σ h1).bind fun x h2 => (denE F i σ h2).bind fun y h3 => ofO (setix x y v h3) h3 with
    | .ok h4 _ => .nx σ h4
    | .ex k w h1 => .ex k w σ h1
    | .stuck => .stuck)
  | .aug i o e, σ, h => (match σ[i]? with
    | some (some x) => (match (denE F e σ h).bind fun y h1 => (match x, y with
      | .int _, .int _ => binop o x y h1
      | _, _ => .stuck) with
      | .ok z h2 => .nx (σ.set i (some z)) h2
      | .ex k w h1 => .ex k w σ h1
      | .stuck => .stuck)
    | _ => .stuck)
  | .ret e, σ, h => (match denE F e σ h with
    | .ok w h1 => .rt w h1
    | .ex k w h1 => .ex k w σ h1
    | .stuck => .stuck)
  | .retN, _, h => .rt .non h
  | .ife c a b, σ, h => (match denT F c σ h with
    | .ok true h1 => denSs a σ h1
    | .ok false h1 => denSs b σ h1
    | .ex k w h1 => .ex k w σ h1
    | .stuck => .stuck)
  | .loop t it b, σ, h => (match denI F it σ h with
    | .ok p h1 => (forLoop (tgSet t) (fun σ h => denSs b σ h) p.1 σ h1).relock p.2
    | .ex k w h1 => .ex k w σ h1
    | .stuck => .stuck)
  | .whil c b, σ, h => whileLoop (fun σ h => denT F c σ h) (fun σ h => denSs b σ h) WF σ h
  | .brk, σ, h => .bk σ h
  | .cnt, σ, h => .ct σ h
  | .exp e, σ, h => (match denE F e σ h with
    | .ok _ h1 => .nx σ h1
    | .ex k w h1 => .ex k w σ h1
    | .stuck => .stuck)
  | .pas, σ, h => .nx σ h
  | .nev, _, _ => .stuck
  | .raise k e, σ, h => (match denE F e σ h with
    | .ok w h1 => .ex k w σ h1
    | .ex k w h1 => .ex k w σ h1
    | .stuck => .stuck)
def denSs : Ss → Sl → Hh → SR
  | .nil, σ, h => .nx σ h
  | .cons s r, σ, h => (match denS s σ h with
    | .nx σ1 h1 => denSs r σ1 h1
    | q => q)
end
end

structure Fn where
  np : Nat
  ns : Nat
  body : Ss
abbrev Pg := Nat → Option Fn
def runFn (F : Nat → List W → Hh → Res W) (fn : Fn) (ws : List W) (h : Hh) : Res W :=
  if ws.length = fn.np then
    match denSs F fn.body (ws.map some ++ List.replicate (fn.ns - fn.np) none) h with
    | .rt w h1 => .ok w h1
    | .nx _ h1 => .ok .non h1
    | .ex k w _ h1 => .ex k w h1
    | _ => .stuck
  else .stuck
/-- behind a call that was run on a heap of its own -/
def finish (h : Hh) : Res W → Res W
  | .ok w h1 => if w.pure then .ok w h else (match w with
    | .ref a => (match h1[a]? with
      | some (.lst .free xs) => if pures xs then .ok (.ref h.length) (h ++ [.lst .free xs]) else .ok (w.shift h.length) (h ++ h1.map (Ob.shift h.length))
      | _ => .ok (w.shift h.length) (h ++ h1.map (Ob.shift h.length)))
    | _ => .ok (w.shift h.length) (h ++ h1.map (Ob.shift h.length)))
  | .ex k w h1 => if w.pure then .ex k w h else .ex k (w.shift h.length) (h ++ h1.map (Ob.shift h.length))
  | .stuck => .stuck
def callN (P : Pg) : Nat → Nat → List W → Hh → Res W
  | 0, _, _, _ => .stuck
  | n + 1, f, ws, h => match P f with
    | none => .stuck
    | some fn => if pures ws then finish h (runFn (callN P n) fn ws []) else runFn (callN P n) fn ws h
end R

/-! R1: how R's values and heaps stand in the hand layer's abstract heap. -/
namespace R
open PySem PySem.Spec L2
open PyProof.Rows hiding St

/-- a list that is never written -/
def FzL (K : PySem.W.Frag) (H : Hp) (a : Addr) (xs : List V) : Prop :=
  (∃ o, H a = some (.frz o (.lst xs))) ∨
    ∃ (o : Obj) (its : Array Value) (n : Nat), K.lookup a = some o ∧ o.cls = .type "list" ∧ o.dict = none ∧ o.data = .seq its n ∧ its.size ≤ sizeLine ∧ Vals xs its.toList
theorem FzL.sq {K : PySem.W.Frag} {H : Hp} {a : Addr} {xs : List V} (h : FzL K H a xs) : SqL K H a xs := by
  rcases h with h | h
  · exact .inl (.inr h)
  · exact .inr h
/-- neither kind of dict -/
def HO.seqy : HO → Prop
  | .lst _ => True
  | .tup _ => True
  | _ => False
mutual
inductive Rp (K : PySem.W.Frag) (ι : List Addr) (H : Hp) : W → V → Prop
  | non : Rp K ι H .non .non
  | bl (b : Bool) : Rp K ι H (.bl b) (.bl b)
  | int (i : Int) : Rp K ι H (.int i) (.int i)
  | str (s : Str) : Rp K ι H (.str s) (.str s)
  | tup {ws : List W} {a : Addr} {vs : List V} : H a = some (.tup vs) → Rps K ι H ws vs → Rp K ι H (.tup ws) (.ref a)
  | ref {i : Nat} {a : Addr} : ι[i]? = some a → Rp K ι H (.ref i) (.ref a)
  | fl {ws : List W} {a : Addr} {vs : List V} : FzL K H a vs → Rps K ι H ws vs → Rp K ι H (.fl ws) (.ref a)
inductive Rps (K : PySem.W.Frag) (ι : List Addr) (H : Hp) : List W → List V → Prop
  | nil : Rps K ι H [] []
  | cons {w : W} {v : V} {ws : List W} {vs : List V} : Rp K ι H w v → Rps K ι H ws vs → Rps K ι H (w :: ws) (v :: vs)
end
abbrev Rk {κ : Type} (K : PySem.W.Frag) (ι : List Addr) (H : Hp) : List (κ × W) → List (κ × V) → Prop := Paired fun p q => p.1 = q.1 ∧ Rp K ι H p.2 q.2
def Ob.lk : Ob → Lk
  | .lst k _ => k
  | .dK k _ => k
  | .dT k _ => k
def Ro (K : PySem.W.Frag) (ι : List Addr) (H : Hp) (a : Addr) : Ob → Prop
  | .lst _ xs => ∃ vs, H a = some (.lst vs) ∧ Rps K ι H xs vs
  | .dK .froz kvs => ∃ o vs, H a = some (.frz o (.dK vs)) ∧ Rk K ι H kvs vs
  | .dK _ kvs => ∃ vs, H a = some (.dK vs) ∧ Rk K ι H kvs vs
  | .dT .froz kvs => ∃ o vs, H a = some (.frz o (.dT vs)) ∧ Rk K ι H kvs vs
  | .dT _ kvs => ∃ vs, H a = some (.dT vs) ∧ Rk K ι H kvs vs
structure Rh (K : PySem.W.Frag) (ι : List Addr) (h : Hh) (H : Hp) : Prop where
  len : ι.length = h.length
  nd : ι.Nodup
  at_ : ∀ (i : Nat) (a : Addr) (o : Ob), ι[i]? = some a → h[i]? = some o → Ro K ι H a o
/-- from (ι, h, H) to (ι', h', H') -/
structure Go (K : PySem.W.Frag) (ι : List Addr) (h : Hh) (H : Hp) (ι' : List Addr) (h' : Hh) (H' : Hp) : Prop where
  rh : Rh K ι' h' H'
  pre : ∃ ν, ι' = ι ++ ν ∧ ∀ a ∈ ν, H a = none
  keep : ∀ (a : Addr) (o : HO), H a = some o → (∀ (i : Nat) (ob : Ob), ι[i]? = some a → h[i]? = some ob → ob.lk ≠ Lk.free) → H' a = some o
  lk : ∀ (i : Nat) (ob : Ob), h[i]? = some ob → ob.lk ≠ Lk.free → h'[i]? = some ob
  len0 : ι.length = h.length

section
variable {K : PySem.W.Frag} {ι ι' ι'' : List Addr} {h h' h'' : Hh} {H H' H'' : Hp}
theorem Rps.length : ∀ {ws : List W} {vs : List V}, Rps K ι H ws vs → ws.length = vs.length
  | _, _, .nil => rfl
  | _, _, .cons _ t => congrArg (· + 1) (Rps.length t)
theorem Rps.get : ∀ {ws : List W} {vs : List V} {i : Nat} {w : W}, Rps K ι H ws vs → ws[i]? = some w → ∃ v, vs[i]? = some v ∧ Rp K ι H w v
  | _, _, _, _, .nil, e => by simp at e
  | _, _, 0, _, .cons r _, e => by simp at e; subst e; exact ⟨_, rfl, r⟩
  | _, _, i + 1, w, .cons _ t, e => by
    obtain ⟨v, h1, h2⟩ := Rps.get (i := i) (w := w) t (by simpa using e)
    exact ⟨v, by simpa using h1, h2⟩
theorem Rps.getV : ∀ {ws : List W} {vs : List V} {i : Nat} {v : V}, Rps K ι H ws vs → vs[i]? = some v → ∃ w, ws[i]? = some w ∧ Rp K ι H w v
  | _, _, _, _, .nil, e => by simp at e
  | _, _, 0, _, .cons r _, e => by simp at e; subst e; exact ⟨_, rfl, r⟩
  | _, _, i + 1, v, .cons _ t, e => by
    obtain ⟨w, h1, h2⟩ := Rps.getV (i := i) (v := v) t (by simpa using e)
    exact ⟨w, by simpa using h1, h2⟩
theorem Rps.append : ∀ {ws ws2 : List W} {vs vs2 : List V}, Rps K ι H ws vs → Rps K ι H ws2 vs2 → Rps K ι H (ws ++ ws2) (vs ++ vs2)
  | _, _, _, _, .nil, s => s
  | _, _, _, _, .cons r t, s => .cons r (Rps.append t s)
theorem Rps.set {w : W} {v : V} (r : Rp K ι H w v) : ∀ {ws : List W} {vs : List V} (i : Nat), Rps K ι H ws vs → Rps K ι H (ws.set i w) (vs.set i v)
  | _, _, _, .nil => .nil
  | _, _, 0, .cons _ t => .cons r t
  | _, _, i + 1, .cons q t => .cons q (Rps.set r i t)
theorem Rps.drop : ∀ {ws : List W} {vs : List V} (n : Nat), Rps K ι H ws vs → Rps K ι H (ws.drop n) (vs.drop n)
  | _, _, 0, r => r
  | _, _, _ + 1, .nil => .nil
  | _, _, n + 1, .cons _ t => Rps.drop n t
theorem Rps.take : ∀ {ws : List W} {vs : List V} (n : Nat), Rps K ι H ws vs → Rps K ι H (ws.take n) (vs.take n)
  | _, _, 0, _ => .nil
  | _, _, _ + 1, .nil => .nil
  | _, _, n + 1, .cons r t => .cons r (Rps.take n t)
theorem Rps.eraseIdx : ∀ {ws : List W} {vs : List V} (n : Nat), Rps K ι H ws vs → Rps K ι H (ws.eraseIdx n) (vs.eraseIdx n)
  | _, _, _, .nil => .nil
  | _, _, 0, .cons r t => t
  | _, _, n + 1, .cons r t => .cons r (Rps.eraseIdx n t)
theorem Rps.dropLast : ∀ {ws : List W} {vs : List V}, Rps K ι H ws vs → Rps K ι H ws.dropLast vs.dropLast
  | _, _, .nil => .nil
  | _, _, .cons r .nil => .nil
  | _, _, .cons r (.cons q t) => .cons r (Rps.dropLast (.cons q t))
theorem Rps.rep {ws : List W} {vs : List V} (r : Rps K ι H ws vs) : ∀ n : Nat, Rps K ι H (rep ws n) (List.replicate n vs).flatten
  | 0 => .nil
  | n + 1 => by
    rw [List.replicate_succ, List.flatten_cons]
    exact Rps.append r (Rps.rep r n)

mutual
theorem Rp.mono (k : ∀ a xs, H a = some (.tup xs) → H' a = some (.tup xs)) (f : ∀ a o u, HO.seqy u → H a = some (.frz o u) → H' a = some (.frz o u)) (p : ∀ (i : Nat) (a : Addr), ι[i]? = some a → ι'[i]? = some a) : ∀ {w : W} {v : V}, Rp K ι H w v → Rp K ι' H' w v
  | _, _, .non => .non
  | _, _, .bl b => .bl b
  | _, _, .int i => .int i
  | _, _, .str s => .str s
  | _, _, .tup q r => .tup (k _ _ q) (Rps.mono k f p r)
  | _, _, .ref e => .ref (p _ _ e)
  | _, _, .fl q r => .fl (by
      rcases q with ⟨o, q⟩ | q
      · exact .inl ⟨o, f _ _ _ trivial q⟩
      · exact .inr q) (Rps.mono k f p r)
theorem Rps.mono (k : ∀ a xs, H a = some (.tup xs) → H' a = some (.tup xs)) (f : ∀ a o u, HO.seqy u → H a = some (.frz o u) → H' a = some (.frz o u)) (p : ∀ (i : Nat) (a : Addr), ι[i]? = some a → ι'[i]? = some a) : ∀ {ws : List W} {vs : List V}, Rps K ι H ws vs → Rps K ι' H' ws vs
  | _, _, .nil => .nil
  | _, _, .cons r t => .cons (Rp.mono k f p r) (Rps.mono k f p t)
end
theorem Rk.mono {κ : Type} (k : ∀ a xs, H a = some (.tup xs) → H' a = some (.tup xs)) (f : ∀ a o u, HO.seqy u → H a = some (.frz o u) → H' a = some (.frz o u)) (p : ∀ (i : Nat) (a : Addr), ι[i]? = some a → ι'[i]? = some a) : ∀ {ws : List (κ × W)} {vs : List (κ × V)}, Rk K ι H ws vs → Rk K ι' H' ws vs
  | _, _, .nil => .nil
  | _, _, .cons r t => .cons ⟨r.1, Rp.mono k f p r.2⟩ (Rk.mono k f p t)

theorem Rh.tup (r : Rh K ι h H) {a : Addr} {xs : List V} (e : H a = some (.tup xs)) : ∀ (i : Nat) (ob : Ob), ι[i]? = some a → h[i]? = some ob → ob.lk ≠ Lk.free := by
  intro i ob e1 e2 e3
  have q := r.at_ i a ob e1 e2
  cases ob with
  | lst k ys =>
    obtain ⟨vs, q, _⟩ := q
    rw [e] at q; cases q
  | dK k ys =>
    simp only [Ob.lk] at e3; subst e3
    obtain ⟨vs, q, _⟩ := q
    rw [e] at q; cases q
  | dT k ys =>
    simp only [Ob.lk] at e3; subst e3
    obtain ⟨vs, q, _⟩ := q
    rw [e] at q; cases q
theorem Rh.frz (r : Rh K ι h H) {a : Addr} {o : Obj} {u : HO} (e : H a = some (.frz o u)) : ∀ (i : Nat) (ob : Ob), ι[i]? = some a → h[i]? = some ob → ob.lk ≠ Lk.free := by
  intro i ob e1 e2 e3
  have q := r.at_ i a ob e1 e2
  cases ob with
  | lst k ys =>
    obtain ⟨vs, q, _⟩ := q
    rw [e] at q; cases q
  | dK k ys =>
    simp only [Ob.lk] at e3; subst e3
    obtain ⟨vs, q, _⟩ := q
    rw [e] at q; cases q
  | dT k ys =>
    simp only [Ob.lk] at e3; subst e3
    obtain ⟨vs, q, _⟩ := q
    rw [e] at q; cases q
theorem Rh.get (r : Rh K ι h H) {i : Nat} {a : Addr} (e : ι[i]? = some a) : ∃ o, h[i]? = some o ∧ Ro K ι H a o := by
  have hi : i < ι.length := (List.getElem?_eq_some_iff.mp e).1
  have hj : i < h.length := r.len ▸ hi
  exact ⟨h[i], List.getElem?_eq_getElem hj, r.at_ i a _ e (List.getElem?_eq_getElem hj)⟩
theorem Go.preI (g : Go K ι h H ι' h' H') : ∀ (i : Nat) (a : Addr), ι[i]? = some a → ι'[i]? = some a := by
  intro i a e
  obtain ⟨ν, rfl, _⟩ := g.pre
  exact (List.getElem?_append_left (List.getElem?_eq_some_iff.mp e).1).trans e
theorem Go.rp (r : Rh K ι h H) (g : Go K ι h H ι' h' H') {w : W} {v : V} (q : Rp K ι H w v) : Rp K ι' H' w v :=
  Rp.mono (fun _ _ e => g.keep _ _ e (r.tup e)) (fun _ _ _ _ e => g.keep _ _ e (r.frz e)) g.preI q
theorem Go.rps (r : Rh K ι h H) (g : Go K ι h H ι' h' H') {w : List W} {v : List V} (q : Rps K ι H w v) : Rps K ι' H' w v :=
  Rps.mono (fun _ _ e => g.keep _ _ e (r.tup e)) (fun _ _ _ _ e => g.keep _ _ e (r.frz e)) g.preI q
theorem Go.rk {κ : Type} (r : Rh K ι h H) (g : Go K ι h H ι' h' H') {w : List (κ × W)} {v : List (κ × V)} (q : Rk K ι H w v) : Rk K ι' H' w v :=
  Rk.mono (fun _ _ e => g.keep _ _ e (r.tup e)) (fun _ _ _ _ e => g.keep _ _ e (r.frz e)) g.preI q
theorem Go.refl (r : Rh K ι h H) : Go K ι h H ι h H := ⟨r, ⟨[], by simp, by simp⟩, fun _ _ e _ => e, fun _ _ e _ => e, r.len⟩
theorem Go.trans (g : Go K ι h H ι' h' H') (k : Go K ι' h' H' ι'' h'' H'') : Go K ι h H ι'' h'' H'' := by
  obtain ⟨ν, e1, n1⟩ := g.pre
  obtain ⟨ν2, e2, n2⟩ := k.pre
  refine ⟨k.rh, ⟨ν ++ ν2, by rw [e2, e1, List.append_assoc], fun a ha => ?_⟩, fun a o e q => ?_, fun i ob e q => k.lk i ob (g.lk i ob e q) q, g.len0⟩
  · rcases List.mem_append.mp ha with z | z
    · exact n1 a z
    · cases c : H a with
      | none => rfl
      | some o =>
        by_cases m : ∀ (i : Nat) (ob : Ob), ι[i]? = some a → h[i]? = some ob → ob.lk ≠ Lk.free
        · have := g.keep a o c m
          rw [n2 a z] at this; cases this
        · exfalso
          have m' : ∃ i, ι[i]? = some a := Classical.byContradiction fun q => m fun i ob e1 _ => absurd ⟨i, e1⟩ q
          obtain ⟨i, hi⟩ := m'
          have hi' := g.preI i a hi
          have nd := k.rh.nd
          rw [e2] at nd
          have d := (List.nodup_append.mp nd).2.2
          exact d a (List.mem_iff_getElem?.mpr ⟨i, hi'⟩) a z rfl
  · refine k.keep a o (g.keep a o e q) fun i ob z1 z2 => ?_
    rw [e1] at z1
    by_cases c : i < ι.length
    · rw [List.getElem?_append_left c] at z1
      have hc : i < h.length := g.len0 ▸ c
      have hz := List.getElem?_eq_getElem hc
      have l := q i h[i] z1 hz
      have := g.lk i h[i] hz l
      rw [z2] at this; cases this; exact l
    · have m : a ∈ ν := by
        rw [List.getElem?_append_right (Nat.le_of_not_lt c)] at z1
        exact List.mem_iff_getElem?.mpr ⟨_, z1⟩
      rw [n1 a m] at e; cases e

/-- an object's description leans on its own place, on tuples, on ι -/
theorem Ro.mono {a : Addr} {o : Ob} (k : ∀ a xs, H a = some (.tup xs) → H' a = some (.tup xs)) (f : ∀ a o u, HO.seqy u → H a = some (.frz o u) → H' a = some (.frz o u)) (p : ∀ (i : Nat) (a : Addr), ι[i]? = some a → ι'[i]? = some a)
    (same : ∀ u, H a = some u → H' a = some u) (q : Ro K ι H a o) : Ro K ι' H' a o := by
  cases o with
  | lst l xs =>
    obtain ⟨vs, q, r⟩ := q; exact ⟨vs, same _ q, Rps.mono k f p r⟩
  | dK l xs =>
    cases l with
    | froz => obtain ⟨o, vs, q, r⟩ := q; exact ⟨o, vs, same _ q, Rk.mono k f p r⟩
    | free => obtain ⟨vs, q, r⟩ := q; exact ⟨vs, same _ q, Rk.mono k f p r⟩
    | lock => obtain ⟨vs, q, r⟩ := q; exact ⟨vs, same _ q, Rk.mono k f p r⟩
  | dT l xs =>
    cases l with
    | froz => obtain ⟨o, vs, q, r⟩ := q; exact ⟨o, vs, same _ q, Rk.mono k f p r⟩
    | free => obtain ⟨vs, q, r⟩ := q; exact ⟨vs, same _ q, Rk.mono k f p r⟩
    | lock => obtain ⟨vs, q, r⟩ := q; exact ⟨vs, same _ q, Rk.mono k f p r⟩
theorem upd_keep {p : Addr} {ho : HO} (hp : H p = none) {a : Addr} {u : HO} (e : H a = some u) : upd H p ho a = some u := by
  rw [upd_ne (ne_of_none e hp)]; exact e
theorem Ro.there {a : Addr} {o : Ob} (q : Ro K ι H a o) (l : o.lk = .free) : ∃ u, H a = some u ∧ (∀ xs, u ≠ .tup xs) ∧ ∀ o xs, u ≠ .frz o xs := by
  cases o with
  | lst k xs => obtain ⟨vs, q, _⟩ := q; exact ⟨_, q, (fun _ z => nomatch z), (fun _ _ z => nomatch z)⟩
  | dK k xs => cases l; obtain ⟨vs, q, _⟩ := q; exact ⟨_, q, (fun _ z => nomatch z), (fun _ _ z => nomatch z)⟩
  | dT k xs => cases l; obtain ⟨vs, q, _⟩ := q; exact ⟨_, q, (fun _ z => nomatch z), (fun _ _ z => nomatch z)⟩
/-- something new of the model's that is none of ours (a tuple) -/
theorem Go.other (r : Rh K ι h H) {p : Addr} {ho : HO} (hp : H p = none) : Go K ι h H ι h (upd H p ho) := by
  refine ⟨⟨r.len, r.nd, fun i a o e1 e2 => ?_⟩, ⟨[], by simp, by simp⟩, fun a o e _ => upd_keep hp e, fun _ _ e _ => e, r.len⟩
  exact Ro.mono (fun _ _ e => upd_keep hp e) (fun _ _ _ _ e => upd_keep hp e) (fun _ _ e => e) (fun _ e => upd_keep hp e) (r.at_ i a o e1 e2)
theorem Rh.notin (r : Rh K ι h H) {p : Addr} (hp : H p = none) {i : Nat} {o : Ob} (e : h[i]? = some o) (l : o.lk = .free) : ι[i]? ≠ some p := fun z => by
  obtain ⟨u, q, _⟩ := Ro.there (r.at_ i p o z e) l
  rw [hp] at q; cases q
theorem Ro.some_ {a : Addr} {o : Ob} (q : Ro K ι H a o) : ∃ u, H a = some u := by
  cases o with
  | lst l xs => obtain ⟨vs, q, r⟩ := q; exact ⟨_, q⟩
  | dK l xs =>
    cases l with
    | froz => obtain ⟨o, vs, q, r⟩ := q; exact ⟨_, q⟩
    | free => obtain ⟨vs, q, r⟩ := q; exact ⟨_, q⟩
    | lock => obtain ⟨vs, q, r⟩ := q; exact ⟨_, q⟩
  | dT l xs =>
    cases l with
    | froz => obtain ⟨o, vs, q, r⟩ := q; exact ⟨_, q⟩
    | free => obtain ⟨vs, q, r⟩ := q; exact ⟨_, q⟩
    | lock => obtain ⟨vs, q, r⟩ := q; exact ⟨_, q⟩

theorem Rh.out (r : Rh K ι h H) {p : Addr} (hp : H p = none) : p ∉ ι := fun m => by
  obtain ⟨i, e⟩ := List.mem_iff_getElem?.mp m
  obtain ⟨o, _, q⟩ := r.get e
  obtain ⟨u, z⟩ := Ro.some_ q
  rw [hp] at z; cases z
theorem ixA {l : List Addr} (hN : l.Nodup) {i j : Nat} {x : Addr} (a : l[i]? = some x) (b : l[j]? = some x) : i = j := by
  obtain ⟨h1, e1⟩ := List.getElem?_eq_some_iff.mp a
  obtain ⟨h2, e2⟩ := List.getElem?_eq_some_iff.mp b
  exact (List.getElem_inj hN).mp (e1.trans e2.symm)
theorem get_push {α : Type} (l : List α) (a : α) : (l ++ [a])[l.length]? = some a := by simp
theorem get_lt {α : Type} {l m : List α} {i : Nat} {a : α} (h : l[i]? = some a) : (l ++ m)[i]? = some a :=
  (List.getElem?_append_left (List.getElem?_eq_some_iff.mp h).1).trans h
/-- a new object of ours -/
theorem Go.alloc (r : Rh K ι h H) {p : Addr} {ho : HO} {ob : Ob} (hp : H p = none) (new : Ro K (ι ++ [p]) (upd H p ho) p ob) : Go K ι h H (ι ++ [p]) (h ++ [ob]) (upd H p ho) := by
  refine ⟨⟨by simp [r.len], ?_, fun i a o e1 e2 => ?_⟩, ⟨[p], rfl, fun a ha => by simp at ha; subst ha; exact hp⟩, fun a o e _ => upd_keep hp e, fun i ob e _ => get_lt e, r.len⟩
  · rw [List.nodup_append]
    exact ⟨r.nd, by simp, fun a ha b hb => by simp at hb; subst hb; exact fun z => r.out hp (z ▸ ha)⟩
  · by_cases c : i < ι.length
    · rw [List.getElem?_append_left c] at e1
      rw [List.getElem?_append_left (r.len ▸ c)] at e2
      exact Ro.mono (fun _ _ e => upd_keep hp e) (fun _ _ _ _ e => upd_keep hp e) (fun _ _ e => get_lt e) (fun _ e => upd_keep hp e) (r.at_ i a o e1 e2)
    · have hi : i = ι.length := by
        have := (List.getElem?_eq_some_iff.mp e1).1
        simp at this; omega
      subst hi
      rw [get_push] at e1; cases e1
      rw [r.len, get_push] at e2; cases e2
      exact new
theorem Go.lst (r : Rh K ι h H) {p : Addr} {ws : List W} {vs : List V} (hp : H p = none) (q : Rps K ι H ws vs) : Go K ι h H (ι ++ [p]) (h ++ [.lst .free ws]) (upd H p (.lst vs)) :=
  Go.alloc r hp ⟨vs, upd_same, Rps.mono (fun _ _ e => upd_keep hp e) (fun _ _ _ _ e => upd_keep hp e) (fun _ _ e => get_lt e) q⟩
theorem rp_new (r : Rh K ι h H) (p : Addr) {H' : Hp} : Rp K (ι ++ [p]) H' (.ref h.length) (.ref p) := .ref (by rw [← r.len]; exact get_push ι p)
/-- a new tuple -/
theorem rp_tup {p : Addr} {ws : List W} {vs : List V} (hp : H p = none) (q : Rps K ι H ws vs) : Rp K ι (upd H p (.tup vs)) (.tup ws) (.ref p) :=
  .tup upd_same (Rps.mono (fun _ _ e => upd_keep hp e) (fun _ _ _ _ e => upd_keep hp e) (fun _ _ e => e) q)
/-- an object of ours is written -/
theorem Go.set (r : Rh K ι h H) {i : Nat} {a : Addr} {ob ob' : Ob} {ho : HO} (e1 : ι[i]? = some a) (e2 : h[i]? = some ob) (l : ob.lk = .free)
    (new : Ro K ι (upd H a ho) a ob') : Go K ι h H ι (h.set i ob') (upd H a ho) := by
  have q := r.at_ i a ob e1 e2
  obtain ⟨u, hu, n1, n2⟩ := Ro.there q l
  have kt : ∀ b xs, H b = some (.tup xs) → upd H a ho b = some (.tup xs) := fun b xs e => by
    rw [upd_ne (fun z => by subst z; rw [hu] at e; cases e; exact n1 xs rfl)]; exact e
  have kf : ∀ b o u, HO.seqy u → H b = some (.frz o u) → upd H a ho b = some (.frz o u) := fun b o v _ e => by
    rw [upd_ne (fun z => by subst z; rw [hu] at e; cases e; exact n2 o v rfl)]; exact e
  refine ⟨⟨by simp [r.len], r.nd, fun j b o f1 f2 => ?_⟩, ⟨[], by simp, by simp⟩, fun b o e m => ?_, fun j o f1 f2 => ?_, r.len⟩
  · by_cases c : j = i
    · subst c
      rw [e1] at f1; cases f1
      have hl : j < h.length := (List.getElem?_eq_some_iff.mp e2).1
      rw [List.getElem?_set_self hl] at f2; cases f2
      exact new
    · rw [List.getElem?_set_ne (Ne.symm c)] at f2
      refine Ro.mono kt kf (fun _ _ e => e) (fun v e => ?_) (r.at_ j b o f1 f2)
      rw [upd_ne (fun z => c ?_)]
      · exact e
      · subst z
        exact ixA r.nd f1 e1
  · rw [upd_ne (fun z => ?_)]
    · exact e
    · subst z
      exact m i ob e1 e2 l
  · by_cases c : j = i
    · subst c
      rw [e2] at f1; cases f1
      exact absurd l f2
    · rw [List.getElem?_set_ne (Ne.symm c)]; exact f1
/-- an object is locked: the model's heap stays -/
theorem Go.locked (r : Rh K ι h H) {i : Nat} {ob ob' : Ob} (e2 : h[i]? = some ob) (l : ob.lk = .free) (new : ∀ a, ι[i]? = some a → Ro K ι H a ob') : Go K ι h H ι (h.set i ob') H := by
  refine ⟨⟨by simp [r.len], r.nd, fun j b o f1 f2 => ?_⟩, ⟨[], by simp, by simp⟩, fun b o e m => e, fun j o f1 f2 => ?_, r.len⟩
  · by_cases c : j = i
    · subst c
      have hl : j < h.length := (List.getElem?_eq_some_iff.mp e2).1
      rw [List.getElem?_set_self hl] at f2; cases f2
      exact new b f1
    · rw [List.getElem?_set_ne (Ne.symm c)] at f2
      exact r.at_ j b o f1 f2
  · by_cases c : j = i
    · subst c
      rw [e2] at f1; cases f1
      exact absurd l f2
    · rw [List.getElem?_set_ne (Ne.symm c)]; exact f1
/-- .. and set free again -/
theorem Go.freed {i : Nat} {xs : List W} (e2 : h[i]? = some (.lst .free xs)) (g : Go K ι (h.set i (.lst .lock xs)) H ι' h' H') : Go K ι h H ι' (h'.set i (.lst .free xs)) H' := by
  have hl : i < h.length := (List.getElem?_eq_some_iff.mp e2).1
  have t : h'[i]? = some (.lst .lock xs) := g.lk i _ (List.getElem?_set_self hl) (by simp [Ob.lk])
  refine ⟨⟨by simp [g.rh.len], g.rh.nd, fun j b o f1 f2 => ?_⟩, g.pre, fun b o e m => g.keep b o e fun j ob z1 z2 => ?_, fun j o f1 f2 => ?_, by simpa using g.len0⟩
  · by_cases c : j = i
    · subst c
      have hl' : j < h'.length := (List.getElem?_eq_some_iff.mp t).1
      rw [List.getElem?_set_self hl'] at f2; cases f2
      exact (show Ro K ι' H' b (.lst .lock xs) from g.rh.at_ j b _ f1 t)
    · rw [List.getElem?_set_ne (Ne.symm c)] at f2
      exact g.rh.at_ j b o f1 f2
  · by_cases c : j = i
    · subst c
      rw [List.getElem?_set_self hl] at z2; cases z2
      simp [Ob.lk]
    · rw [List.getElem?_set_ne (Ne.symm c)] at z2
      exact m j ob z1 z2
  · by_cases c : j = i
    · subst c
      rw [e2] at f1; cases f1
      exact absurd rfl f2
    · rw [List.getElem?_set_ne (Ne.symm c)]
      exact g.lk j o (by rw [List.getElem?_set_ne (Ne.symm c)]; exact f1) f2
mutual
theorem Rp.anyι : ∀ {w : W} {v : V}, w.pure = true → Rp K ι H w v → Rp K ι' H w v
  | _, _, _, .non => .non
  | _, _, _, .bl b => .bl b
  | _, _, _, .int i => .int i
  | _, _, _, .str s => .str s
  | _, _, e, .tup q r => .tup q (Rps.anyι (by simpa [W.pure] using e) r)
  | _, _, e, .ref _ => by simp [W.pure] at e
  | _, _, e, .fl q r => .fl q (Rps.anyι (by simpa [W.pure] using e) r)
theorem Rps.anyι : ∀ {ws : List W} {vs : List V}, pures ws = true → Rps K ι H ws vs → Rps K ι' H ws vs
  | _, _, _, .nil => .nil
  | _, _, e, .cons r t => .cons (Rp.anyι (by simp [pures] at e; exact e.1) r) (Rps.anyι (by simp [pures] at e; exact e.2) t)
end
mutual
theorem Rp.shifted : ∀ {w : W} {v : V}, Rp K ι' H w v → Rp K (ι ++ ι') H (w.shift ι.length) v
  | _, _, .non => .non
  | _, _, .bl b => .bl b
  | _, _, .int i => .int i
  | _, _, .str s => .str s
  | _, _, .tup q r => .tup q (Rps.shifted r)
  | _, _, .ref (i := i) e => .ref (by rw [List.getElem?_append_right (Nat.le_add_right _ _), Nat.add_sub_cancel_left]; exact e)
  | _, _, .fl q r => .fl q (Rps.shifted r)
theorem Rps.shifted : ∀ {ws : List W} {vs : List V}, Rps K ι' H ws vs → Rps K (ι ++ ι') H (shifts ι.length ws) vs
  | _, _, .nil => .nil
  | _, _, .cons r t => .cons (Rp.shifted r) (Rps.shifted t)
end
theorem Rk.shifted {κ : Type} : ∀ {ws : List (κ × W)} {vs : List (κ × V)}, Rk K ι' H ws vs → Rk K (ι ++ ι') H (ws.map fun p => (p.1, p.2.shift ι.length)) vs
  | _, _, .nil => .nil
  | _, _, .cons r t => .cons ⟨r.1, Rp.shifted r.2⟩ (Rk.shifted t)
theorem Ro.shifted {a : Addr} {o : Ob} (q : Ro K ι' H a o) : Ro K (ι ++ ι') H a (o.shift ι.length) := by
  cases o with
  | lst l xs => obtain ⟨vs, q, r⟩ := q; exact ⟨vs, q, Rps.shifted r⟩
  | dK l xs =>
    cases l with
    | froz => obtain ⟨o, vs, q, r⟩ := q; exact ⟨o, vs, q, Rk.shifted r⟩
    | free => obtain ⟨vs, q, r⟩ := q; exact ⟨vs, q, Rk.shifted r⟩
    | lock => obtain ⟨vs, q, r⟩ := q; exact ⟨vs, q, Rk.shifted r⟩
  | dT l xs =>
    cases l with
    | froz => obtain ⟨o, vs, q, r⟩ := q; exact ⟨o, vs, q, Rk.shifted r⟩
    | free => obtain ⟨vs, q, r⟩ := q; exact ⟨vs, q, Rk.shifted r⟩
    | lock => obtain ⟨vs, q, r⟩ := q; exact ⟨vs, q, Rk.shifted r⟩
/-- a call on a heap of its own -/
theorem Go.apart (g : Go K [] [] H ι' h' H') {a : Addr} {o : HO} (e : H a = some o) : H' a = some o := g.keep a o e (fun i ob z _ => by simp at z)
theorem Go.fresh (g : Go K [] [] H ι' h' H') : ∀ a ∈ ι', H a = none := by
  obtain ⟨ν, e, n⟩ := g.pre
  simp at e; subst e; exact n
theorem Rh.nil (H : Hp) : Rh K [] [] H := ⟨rfl, by simp, fun i a o e => by simp at e⟩
/-- all that it made is let go -/
theorem Go.drop (r : Rh K ι h H) (g : Go K [] [] H ι' h' H') : Go K ι h H ι h H' := by
  refine ⟨⟨r.len, r.nd, fun i a o e1 e2 => ?_⟩, ⟨[], by simp, by simp⟩, fun a o e _ => g.apart e, fun _ _ e _ => e, r.len⟩
  exact Ro.mono (fun _ _ e => g.apart e) (fun _ _ _ _ e => g.apart e) (fun _ _ e => e) (fun _ e => g.apart e) (r.at_ i a o e1 e2)
/-- all that it made is kept -/
theorem Go.attach (r : Rh K ι h H) (g : Go K [] [] H ι' h' H') : Go K ι h H (ι ++ ι') (h ++ h'.map (Ob.shift h.length)) H' := by
  have d := Go.drop r g
  have dis : ∀ a ∈ ι, ∀ b ∈ ι', a ≠ b := fun a ha b hb z => by
    subst z
    exact r.out (g.fresh _ hb) ha
  refine ⟨⟨by simp [r.len, g.rh.len], List.nodup_append.mpr ⟨r.nd, g.rh.nd, dis⟩, fun i a o e1 e2 => ?_⟩, ⟨ι', rfl, g.fresh⟩, fun a o e _ => g.apart e, fun i ob e _ => get_lt e, r.len⟩
  by_cases c : i < ι.length
  · rw [List.getElem?_append_left c] at e1
    rw [List.getElem?_append_left (r.len ▸ c)] at e2
    exact Ro.mono (fun _ _ e => e) (fun _ _ _ _ e => e) (fun _ _ e => get_lt e) (fun _ e => e) (d.rh.at_ i a o e1 e2)
  · rw [List.getElem?_append_right (Nat.le_of_not_lt c)] at e1
    rw [List.getElem?_append_right (by rw [← r.len]; exact Nat.le_of_not_lt c), List.getElem?_map] at e2
    cases z : h'[i - h.length]? with
    | none => rw [z] at e2; cases e2
    | some o1 =>
      rw [z] at e2
      simp at e2
      subst e2
      rw [← r.len] at z ⊢
      exact Ro.shifted (g.rh.at_ _ a o1 e1 z)
/-- of all that it made one list is kept -/
theorem Go.one (r : Rh K ι h H) (g : Go K [] [] H ι' h' H') {j : Nat} {p : Addr} {xs : List W} (e1 : ι'[j]? = some p) (e2 : h'[j]? = some (.lst .free xs)) (e3 : pures xs = true) :
    Go K ι h H (ι ++ [p]) (h ++ [.lst .free xs]) H' := by
  have d := Go.drop r g
  have hp : H p = none := g.fresh p (List.mem_iff_getElem?.mpr ⟨j, e1⟩)
  refine ⟨⟨by simp [r.len], ?_, fun i a o f1 f2 => ?_⟩, ⟨[p], rfl, fun a ha => by simp at ha; subst ha; exact hp⟩, fun a o e _ => g.apart e, fun i ob e _ => get_lt e, r.len⟩
  · rw [List.nodup_append]
    exact ⟨r.nd, by simp, fun a ha b hb => by simp at hb; subst hb; exact fun z => r.out hp (z ▸ ha)⟩
  · by_cases c : i < ι.length
    · rw [List.getElem?_append_left c] at f1
      rw [List.getElem?_append_left (r.len ▸ c)] at f2
      exact Ro.mono (fun _ _ e => e) (fun _ _ _ _ e => e) (fun _ _ e => get_lt e) (fun _ e => e) (d.rh.at_ i a o f1 f2)
    · have hi : i = ι.length := by
        have := (List.getElem?_eq_some_iff.mp f1).1
        simp at this; omega
      subst hi
      rw [get_push] at f1; cases f1
      rw [r.len, get_push] at f2; cases f2
      obtain ⟨vs, q, t⟩ := g.rh.at_ j p _ e1 e2
      exact ⟨vs, q, Rps.anyι e3 t⟩
end
end R

/-! R2: an expression does what R says. -/
namespace R
open PySem PySem.Spec L2
open PyProof.Rows hiding St

/-- an exception of the class k, with its value -/
def Xr (K : PySem.W.Frag) (Cl : Nat → Option Addr) (ι : List Addr) (H : Hp) (k : Nat) (w : W) (cls : Value) (d : Option Addr) : Prop :=
  ∃ C dd v, Cl k = some C ∧ cls = .ref C ∧ d = some dd ∧ H dd = some (.xd [(("value" : Str), v)]) ∧ Rp K ι H w v
abbrev XW := Value → Option Addr → Hp → Prop
def Out {α β : Type} (K : PySem.W.Frag) (Cl : Nat → Option Addr) (S : List Addr → Hp → α → β → Prop) (E : XW) (ι : List Addr) (h : Hh) (H : Hp) (r : Res α) (Q : β → Hp → Prop) : Prop := match r with
  | .ok a h' => ∀ ι' H' b, Go K ι h H ι' h' H' → S ι' H' a b → Q b H'
  | .ex k w h' => ∀ ι' H' cls d, Go K ι h H ι' h' H' → Xr K Cl ι' H' k w cls d → E cls d H'
  | .stuck => False
section
variable {K : PySem.W.Frag} {Cl : Nat → Option Addr} {ι ι' : List Addr} {h h' : Hh} {H H' : Hp} {E : XW}
theorem Out.from {α β : Type} {S : List Addr → Hp → α → β → Prop} {r : Res α} {Q : β → Hp → Prop} (g : Go K ι h H ι' h' H') (o : Out K Cl S E ι h H r Q) : Out K Cl S E ι' h' H' r Q := by
  cases r with
  | ok a h2 => exact fun ι2 H2 b g2 s => o ι2 H2 b (g.trans g2) s
  | ex k w h2 => exact fun ι2 H2 cls d g2 s => o ι2 H2 cls d (g.trans g2) s
  | stuck => exact o
/-- first r, then f -/
theorem Out.seq {α β α' β' : Type} {S : List Addr → Hp → α → β → Prop} {S' : List Addr → Hp → α' → β' → Prop} {r : Res α'} {f : α' → Hh → Res α} {Q : β → Hp → Prop} {Q' : β' → Hp → Prop} (o : Out K Cl S E ι h H (r.bind f) Q)
    (k : ∀ a h1 ι1 H1 b, Go K ι h H ι1 h1 H1 → S' ι1 H1 a b → Out K Cl S E ι1 h1 H1 (f a h1) Q → Q' b H1) : Out K Cl S' E ι h H r Q' := by
  cases r with
  | ok a h2 => exact fun ι2 H2 b g2 s => k a h2 ι2 H2 b g2 s (Out.from g2 o)
  | ex k w h2 => exact o
  | stuck => exact o
theorem Out.here {α β : Type} {S : List Addr → Hp → α → β → Prop} {a : α} {b : β} {Q : β → Hp → Prop} (o : Out K Cl S E ι h H (.ok a h) Q) (r : Rh K ι h H) (s : S ι H a b) : Q b H := o ι H b (Go.refl r) s
/-- the same end by another reading of the values -/
theorem Out.imp {α β : Type} {S : List Addr → Hp → α → β → Prop} {r : Res α} {Q Q' : β → Hp → Prop} (o : Out K Cl S E ι h H r Q) (q : ∀ b H', Q b H' → Q' b H') : Out K Cl S E ι h H r Q' := by
  cases r with
  | ok a h2 => exact fun ι2 H2 b g2 s => q _ _ (o ι2 H2 b g2 s)
  | ex k w h2 => exact o
  | stuck => exact o
end

/-- the slots -/
def Rs (K : PySem.W.Frag) (ι : List Addr) (H : Hp) (σ : Sl) (τ : St) : Prop := σ.length = τ.length ∧ ∀ (i : Nat) (w : W), σ[i]? = some (some w) → ∃ v, τ[i]? = some (some v) ∧ Rp K ι H w v
theorem Go.rs {K : PySem.W.Frag} {ι ι' : List Addr} {h h' : Hh} {H H' : Hp} (r : Rh K ι h H) (g : Go K ι h H ι' h' H') {σ : Sl} {τ : St} (q : Rs K ι H σ τ) : Rs K ι' H' σ τ :=
  ⟨q.1, fun i w e => let ⟨v, e1, e2⟩ := q.2 i w e; ⟨v, e1, g.rp r e2⟩⟩
abbrev Sb : List Addr → Hp → Bool → Bool → Prop := fun _ _ a b => a = b

abbrev Sd {α β τt : Type} (X : Cx) (Cl : Nat → Option Addr) (W0 : WX) (S : List Addr → Hp → α → β → Prop) (d : Sl → Hh → Res α) (t : St → Hp → (β → Hp → Prop) → Prop) : Prop :=
  ∀ ι h H σ τ Q, Rh X.K ι h H → Rs X.K ι H σ τ → Out X.K Cl S (WE W0 τ) ι h H (d σ h) Q → t τ H Q
def SndE (X : Cx) (Cl : Nat → Option Addr) (W0 : WX) (e : Expr) (d : Sl → Hh → Res W) : Prop := ∃ t : TE, PE X e t ∧
  ∀ ι h H σ τ Q, Rh X.K ι h H → Rs X.K ι H σ τ → Out X.K Cl (Rp X.K) (WE W0 τ) ι h H (d σ h) Q → t τ H Q
def SndT (X : Cx) (Cl : Nat → Option Addr) (W0 : WX) (e : Expr) (d : Sl → Hh → Res Bool) : Prop := ∃ t : TT, PT X e t ∧
  ∀ ι h H σ τ Q, Rh X.K ι h H → Rs X.K ι H σ τ → Out X.K Cl Sb (WE W0 τ) ι h H (d σ h) Q → t τ H Q
def SndL (X : Cx) (Cl : Nat → Option Addr) (W0 : WX) (es : List Expr) (d : Sl → Hh → Res (List W)) : Prop := ∃ t : TA, PA X es t ∧
  ∀ ι h H σ τ Q, Rh X.K ι h H → Rs X.K ι H σ τ → Out X.K Cl (Rps X.K) (WE W0 τ) ι h H (d σ h) Q → t τ H Q

section
variable {K : PySem.W.Frag} {ι ι' : List Addr} {h h' : Hh} {H H' : Hp}
theorem mapO_some {α β : Type} {f : α → Option β} : ∀ {l : List α} {m : List β}, mapO f l = some m → ∀ (i : Nat) (a : α), l[i]? = some a → ∃ b, f a = some b ∧ m[i]? = some b
  | [], _, _, i, a, e => by simp at e
  | x :: l, m, q, i, a, e => by
    unfold mapO at q
    cases hx : f x with
    | none => rw [hx] at q; cases q
    | some b =>
      rw [hx] at q
      cases hl : mapO f l with
      | none => rw [hl] at q; cases q
      | some bs =>
        rw [hl] at q
        cases q
        cases i with
        | zero => simp at e; subst e; exact ⟨b, hx, rfl⟩
        | succ j => simp at e; obtain ⟨c, h1, h2⟩ := mapO_some hl j a e; exact ⟨c, h1, by simpa using h2⟩
/-- lists of the same kind by a step -/
theorem mapO_dp {n : Nat} (ih : ∀ {w : W} {v : V} {d : PyData}, Rp K ι H w v → toD n h w = some d → Dp K H v d ∧ d.canLay0 = true ∧ d.depth ≤ n) :
    ∀ {ws : List W} {vs : List V} {ds : List PyData}, Rps K ι H ws vs → mapO (toD n h) ws = some ds → DpAll K H vs ds ∧ PyData.canLayAll0 ds = true ∧ PyData.depthAll ds ≤ n
  | _, _, _, .nil, e => by
    unfold mapO at e; cases e
    exact ⟨.nil, by simp [PyData.canLayAll0], by simp [PyData.depthAll]⟩
  | _, _, _, .cons (w := w) r t, e => by
    unfold mapO at e
    cases hx : toD n h w with
    | none => rw [hx] at e; cases e
    | some d =>
      rw [hx] at e
      rename_i ws vs
      cases hl : mapO (toD n h) ws with
      | none => rw [hl] at e; cases e
      | some ds =>
        rw [hl] at e
        cases e
        obtain ⟨a1, a2, a3⟩ := ih r hx
        obtain ⟨b1, b2, b3⟩ := mapO_dp ih t hl
        refine ⟨.cons a1 b1, by simp [PyData.canLayAll0, a2, b2], ?_⟩
        simp only [PyData.depthAll]
        omega
theorem toD_dp (r : Rh K ι h H) : ∀ (n : Nat) {w : W} {v : V} {d : PyData}, Rp K ι H w v → toD n h w = some d → Dp K H v d ∧ d.canLay0 = true ∧ d.depth ≤ n
  | 0, _, _, _, _, e => by simp [toD] at e
  | n + 1, w, v, d, q, e => by
    have ih := @toD_dp r n
    cases q with
    | non => simp [toD] at e; subst e; exact ⟨.non, by simp [PyData.canLay0], by simp [PyData.depth]⟩
    | bl b => simp [toD] at e; subst e; exact ⟨.bl b, by simp [PyData.canLay0], by simp [PyData.depth]⟩
    | int i => simp [toD] at e; subst e; exact ⟨.int i, by simp [PyData.canLay0], by simp [PyData.depth]⟩
    | str s =>
      simp only [toD] at e
      split at e
      · rename_i c; cases e; exact ⟨.str s, by simp [PyData.canLay0, c], by simp [PyData.depth]⟩
      · cases e
    | @tup ws a vs hs rs =>
      simp only [toD] at e
      cases hl : mapO (toD n h) ws with
      | none => rw [hl] at e; cases e
      | some ds =>
        rw [hl] at e
        cases e
        obtain ⟨b1, b2, b3⟩ := mapO_dp ih rs hl
        exact ⟨.tup (SqT.of hs) b1, by simpa [PyData.canLay0] using b2, by simp only [PyData.depth]; omega⟩
    | @fl ws a vs hs rs =>
      simp only [toD] at e
      cases hl : mapO (toD n h) ws with
      | none => rw [hl] at e; cases e
      | some ds =>
        rw [hl] at e
        cases e
        obtain ⟨b1, b2, b3⟩ := mapO_dp ih rs hl
        exact ⟨.lst hs.sq b1, by simpa [PyData.canLay0] using b2, by simp only [PyData.depth]; omega⟩
    | @ref i a hi =>
      simp only [toD] at e
      obtain ⟨o, ho, q⟩ := r.get hi
      rw [ho] at e
      cases o with
      | lst k xs =>
        simp only at e
        obtain ⟨vs, hv, rs⟩ := q
        cases hl : mapO (toD n h) xs with
        | none => rw [hl] at e; cases e
        | some ds =>
          rw [hl] at e
          cases e
          obtain ⟨b1, b2, b3⟩ := mapO_dp ih rs hl
          exact ⟨.lst (SqL.of hv) b1, by simpa [PyData.canLay0] using b2, by simp only [PyData.depth]; omega⟩
      | dK k xs => simp only at e; cases e
      | dT k xs => simp only at e; cases e
theorem toD_sh (r : Rh K ι h H) {w : W} {v : V} {d : PyData} (q : Rp K ι H w v) (e : toD 60 h w = some d) : Dp K H v d ∧ SeqAt.shaped d = true := by
  obtain ⟨a, b, c⟩ := toD_dp r 60 q e
  refine ⟨a, ?_⟩
  unfold SeqAt.shaped
  rw [b]
  simp only [Bool.true_and, decide_eq_true_eq]
  omega
/-- the two that == takes -/
theorem eqW_dp (r : Rh K ι h H) {a b : W} {x y : V} {c : Bool} (qa : Rp K ι H a x) (qb : Rp K ι H b y) (e : eqW h a b = some c) :
    ∃ d d', Dp K H x d ∧ Dp K H y d' ∧ SeqAt.shaped d = true ∧ SeqAt.shaped d' = true ∧ PyData.eqv d d' = c := by
  unfold eqW at e
  cases ha : toD 60 h a with
  | none => rw [ha] at e; cases e
  | some d =>
    cases hb : toD 60 h b with
    | none => rw [ha, hb] at e; cases e
    | some d' =>
      rw [ha, hb] at e
      cases e
      obtain ⟨p1, p2⟩ := toD_sh r qa ha
      obtain ⟨p3, p4⟩ := toD_sh r qb hb
      exact ⟨d, d', p1, p3, p2, p4, rfl⟩
end
end R

/-! R3: operations by values. -/
namespace R
open PySem PySem.Spec L2
open PyProof.Rows hiding St

def rR2 (K : PySem.W.Frag) (f : W → W → Hh → Res W) : R2 := fun x y H Q => ∃ Cl E ι h a b, Rh K ι h H ∧ Rp K ι H a x ∧ Rp K ι H b y ∧ Out K Cl (Rp K) E ι h H (f a b h) Q
def rR1 (K : PySem.W.Frag) (f : W → Hh → Res W) : V → Hp → VK → Prop := fun x H Q => ∃ Cl E ι h a, Rh K ι h H ∧ Rp K ι H a x ∧ Out K Cl (Rp K) E ι h H (f a h) Q
def rRL (K : PySem.W.Frag) (f : List W → Hh → Res W) : List V → Hp → VK → Prop := fun x H Q => ∃ Cl E ι h a, Rh K ι h H ∧ Rps K ι H a x ∧ Out K Cl (Rp K) E ι h H (f a h) Q
def rRM (K : PySem.W.Frag) (f : W → List W → Hh → Res W) : V → List V → Hp → VK → Prop := fun x xs H Q => ∃ Cl E ι h a ws, Rh K ι h H ∧ Rp K ι H a x ∧ Rps K ι H ws xs ∧ Out K Cl (Rp K) E ι h H (f a ws h) Q

section
variable {K : PySem.W.Frag} {ι : List Addr} {h : Hh} {H : Hp} {a : W} {x : V}
theorem Rp.intI {i : Int} (q : Rp K ι H (.int i) x) : x = .int i := by cases q; rfl
theorem Rp.tupI {l : List W} (q : Rp K ι H (.tup l) x) : ∃ a vs, x = .ref a ∧ H a = some (.tup vs) ∧ Rps K ι H l vs := by cases q with | tup h r => exact ⟨_, _, rfl, h, r⟩
theorem Rp.flI {l : List W} (q : Rp K ι H (.fl l) x) : ∃ a vs, x = .ref a ∧ FzL K H a vs ∧ Rps K ι H l vs := by cases q with | fl h r => exact ⟨_, _, rfl, h, r⟩
theorem Rp.refI {i : Nat} (q : Rp K ι H (.ref i) x) : ∃ a, x = .ref a ∧ ι[i]? = some a := by cases q with | ref e => exact ⟨_, rfl, e⟩
theorem Rh.lst (r : Rh K ι h H) {i : Nat} {p : Addr} {k : Lk} {xs : List W} (e1 : ι[i]? = some p) (e2 : h[i]? = some (.lst k xs)) : ∃ vs, H p = some (.lst vs) ∧ Rps K ι H xs vs := r.at_ i p _ e1 e2
end

section
variable {X : Cx}
theorem fi_ok {α : Type} {i : Int} {k : Int → Res α} : fi i k = k i := fi_eq i k
theorem lineB_le {n : Nat} (h : lineB n = true) : n ≤ sizeLine := Nat.le_of_ble_eq_true h
theorem op_addR : OpR X (binaryOp .Add) (rR2 X.K (binop .add)) := by
  intro pins s σ H x y v u Q I rx ry ⟨Cl, E, ι, h, a, b, r, qa, qb, o⟩
  unfold binop at o
  cases qa <;> cases qb <;> try exact o.elim
  · simp only [fi_ok] at o
    exact op_add pins s σ H _ _ v u Q I rx ry ⟨_, _, rfl, rfl, o.here r (.int _)⟩
  · rename_i ws a vs hs rs ws' a' vs' hs' rs'
    simp only at o
    split at o
    · rename_i c
      have c' := lineB_le c
      rw [rs.length, rs'.length] at c'
      refine op_catA pins s σ H _ _ v u Q I rx ry ⟨a, a', vs, vs', rfl, rfl, SqT.of hs, SqT.of hs', c', fun e => ?_, fun e e' => ?_, fun e e' p hp => ?_⟩
      · subst e
        cases rs
        exact o.here r (.tup hs' rs')
      · subst e'
        cases rs'
        rw [List.append_nil] at o
        exact o.here r (.tup hs rs)
      · exact o _ _ _ (Go.other r hp) (rp_tup hp (rs.append rs'))
    · exact o.elim
  · rename_i i a hi i' a' hi'
    simp only at o
    obtain ⟨ob, e1, q1⟩ := r.get hi
    obtain ⟨ob', e2, q2⟩ := r.get hi'
    rw [e1, e2] at o
    cases ob with
    | lst k xs =>
      cases ob' with
      | lst k' ys =>
        cases k <;> cases k' <;> try exact o.elim
        simp only at o
        split at o
        · rename_i c
          have c' := lineB_le c
          obtain ⟨vs, hv, rs⟩ := q1
          obtain ⟨vs', hv', rs'⟩ := q2
          rw [rs.length, rs'.length] at c'
          exact op_cat pins s σ H _ _ v u Q I rx ry ⟨a, a', vs, vs', rfl, rfl, hv, hv', c', fun p hp => o _ _ _ (Go.lst r hp (rs.append rs')) (rp_new r p)⟩
        · exact o.elim
      | dK k' ys => cases k <;> exact o.elim
      | dT k' ys => cases k <;> exact o.elim
    | dK k xs => exact o.elim
    | dT k xs => exact o.elim
theorem op_subR : OpR X (binaryOp .Sub) (rR2 X.K (binop .sub)) := by
  intro pins s σ H x y v u Q I rx ry ⟨Cl, E, ι, h, a, b, r, qa, qb, o⟩
  unfold binop at o
  cases qa <;> cases qb <;> try exact o.elim
  simp only [fi_ok] at o
  exact op_sub pins s σ H _ _ v u Q I rx ry ⟨_, _, rfl, rfl, o.here r (.int _)⟩
theorem op_mulR : OpR X (binaryOp .Mult) (rR2 X.K (binop .mul)) := by
  intro pins s σ H x y v u Q I rx ry ⟨Cl, E, ι, h, a, b, r, qa, qb, o⟩
  unfold binop at o
  cases qa <;> cases qb <;> try exact o.elim
  · simp only at o
    split at o
    · rename_i c
      simp only [fi_ok] at o
      have c' := Nat.le_of_ble_eq_true c
      exact op_mulW pins s σ H _ _ v u Q I rx ry ⟨_, _, rfl, rfl, Nat.lt_succ_of_le c', o.here r (.int _)⟩
    · exact o.elim
  · rename_i i a hi j
    simp only at o
    obtain ⟨ob, e1, q1⟩ := r.get hi
    rw [e1] at o
    cases ob with
    | lst k xs =>
      cases k <;> try exact o.elim
      simp only at o
      split at o
      · rename_i c
        simp only [Bool.and_eq_true, decide_eq_true_eq] at c
        obtain ⟨⟨c1, c2⟩, c3⟩ := c
        obtain ⟨vs, hv, rs⟩ := q1
        have c' := lineB_le c1
        rw [rs.length] at c'
        exact op_rep pins s σ H _ _ v u Q I rx ry ⟨a, j, vs, rfl, rfl, hv, by omega, by omega, c', fun p hp => o _ _ _ (Go.lst r hp (rs.rep _)) (rp_new r p)⟩
      · exact o.elim
    | dK k xs => exact o.elim
    | dT k xs => exact o.elim
theorem op_fdivR : OpR X (binaryOp .FloorDiv) (rR2 X.K (binop .fdiv)) := by
  intro pins s σ H x y v u Q I rx ry ⟨Cl, E, ι, h, a, b, r, qa, qb, o⟩
  unfold binop at o
  cases qa <;> cases qb <;> try exact o.elim
  simp only at o
  split at o
  · rename_i c
    simp only [fi_ok] at o
    unfold fdivOk at c
    simp only [Bool.and_eq_true, decide_eq_true_eq] at c
    exact op_fdivW pins s σ H _ _ v u Q I rx ry ⟨_, _, rfl, rfl, ⟨c.1, Nat.lt_succ_of_le (Nat.le_of_ble_eq_true c.2)⟩, o.here r (.int _)⟩
  · exact o.elim
theorem op_modR : OpR X (binaryOp .Mod) (rR2 X.K (binop .mod)) := by
  intro pins s σ H x y v u Q I rx ry ⟨Cl, E, ι, h, a, b, r, qa, qb, o⟩
  unfold binop at o
  cases qa <;> cases qb <;> try exact o.elim
  simp only at o
  split at o
  · rename_i c
    simp only [fi_ok] at o
    exact op_mod pins s σ H _ _ v u Q I rx ry ⟨_, _, rfl, rfl, c, o.here r (.int _)⟩
  · exact o.elim
theorem op_powR : OpR X (binaryOp .Pow) (rR2 X.K (binop .pow)) := by
  intro pins s σ H x y v u Q I rx ry ⟨Cl, E, ι, h, a, b, r, qa, qb, o⟩
  unfold binop at o
  cases qa <;> cases qb <;> try exact o.elim
  simp only at o
  split at o
  · rename_i c
    simp only [fi_ok] at o
    unfold powOk at c
    simp only [Bool.and_eq_true, decide_eq_true_eq] at c
    exact op_pow pins s σ H _ _ v u Q I rx ry ⟨_, _, rfl, rfl, ⟨c.1.1, c.1.2, c.2⟩, o.here r (.int _)⟩
  · exact o.elim
def BOp.py : BOp → Operator
  | .add => .Add
  | .sub => .Sub
  | .mul => .Mult
  | .fdiv => .FloorDiv
  | .mod => .Mod
  | .pow => .Pow
theorem op_binR : ∀ o : BOp, OpR X (binaryOp o.py) (rR2 X.K (binop o))
  | .add => op_addR
  | .sub => op_subR
  | .mul => op_mulR
  | .fdiv => op_fdivR
  | .mod => op_modR
  | .pow => op_powR
theorem un_negR : UnR X (unaryOp .USub) (rR1 X.K fun x h => match x with | .int i => fi (-i) fun k => .ok (.int k) h | _ => .stuck) := by
  intro pins s σ H x v Q I rx ⟨Cl, E, ι, h, a, r, qa, o⟩
  cases qa <;> try exact o.elim
  simp only [fi_ok] at o
  exact un_neg pins s σ H _ v Q I rx ⟨_, rfl, o.here r (.int _)⟩

def o2 (f : W → W → Hh → Option Bool) : W → W → Hh → Res W := fun a b h => match f a b h with
  | some c => .ok (.bl c) h
  | none => .stuck
theorem o2_ok {K : PySem.W.Frag} {Cl : Nat → Option Addr} {E : XW} {ι : List Addr} {h : Hh} {H : Hp} {f : W → W → Hh → Option Bool} {a b : W} {Q : VK} (r : Rh K ι h H) (o : Out K Cl (Rp K) E ι h H (o2 f a b h) Q) : ∃ c, f a b h = some c ∧ Q (.bl c) H := by
  unfold o2 at o
  cases e : f a b h with
  | none => rw [e] at o; exact o.elim
  | some c => rw [e] at o; exact ⟨c, rfl, o.here r (.bl c)⟩
theorem op_eqR (hu : X.A.units + 100 < cLine) : OpR X (compareOp .Eq) (rR2 X.K (o2 (cmpop .eq))) := by
  intro pins s σ H x y v u Q I rx ry ⟨Cl, E, ι, h, a, b, r, qa, qb, o⟩
  obtain ⟨c, e, q⟩ := o2_ok r o
  obtain ⟨d, d', p1, p2, p3, p4, p5⟩ := eqW_dp r qa qb e
  subst p5
  exact op_eqD (by omega) pins s σ H x y v u Q I rx ry ⟨d, d', p1, p2, p3, p4, q⟩
theorem op_neR (hu : X.A.units + 100 < cLine) : OpR X (compareOp .NotEq) (rR2 X.K (o2 (cmpop .ne))) := by
  intro pins s σ H x y v u Q I rx ry ⟨Cl, E, ι, h, a, b, r, qa, qb, o⟩
  obtain ⟨c, e, q⟩ := o2_ok r o
  simp only [cmpop] at e
  cases e' : eqW h a b with
  | none => rw [e'] at e; cases e
  | some c' =>
    rw [e'] at e
    cases e
    obtain ⟨d, d', p1, p2, p3, p4, p5⟩ := eqW_dp r qa qb e'
    subst p5
    exact op_neD (by omega) pins s σ H x y v u Q I rx ry ⟨d, d', p1, p2, p3, p4, q⟩
theorem op_ltR : OpR X (compareOp .Lt) (rR2 X.K (o2 (cmpop .lt))) := by
  intro pins s σ H x y v u Q I rx ry ⟨Cl, E, ι, h, a, b, r, qa, qb, o⟩
  obtain ⟨c, e, q⟩ := o2_ok r o
  cases qa <;> cases qb <;> simp only [cmpop] at e <;> cases e
  exact op_lt pins s σ H _ _ v u Q I rx ry ⟨_, _, rfl, rfl, q⟩
theorem op_leR : OpR X (compareOp .LtE) (rR2 X.K (o2 (cmpop .le))) := by
  intro pins s σ H x y v u Q I rx ry ⟨Cl, E, ι, h, a, b, r, qa, qb, o⟩
  obtain ⟨c, e, q⟩ := o2_ok r o
  cases qa <;> cases qb <;> simp only [cmpop] at e <;> cases e
  exact op_le pins s σ H _ _ v u Q I rx ry ⟨_, _, rfl, rfl, q⟩
theorem op_gtR : OpR X (compareOp .Gt) (rR2 X.K (o2 (cmpop .gt))) := by
  intro pins s σ H x y v u Q I rx ry ⟨Cl, E, ι, h, a, b, r, qa, qb, o⟩
  obtain ⟨c, e, q⟩ := o2_ok r o
  cases qa <;> cases qb <;> simp only [cmpop] at e <;> cases e
  exact op_gt pins s σ H _ _ v u Q I rx ry ⟨_, _, rfl, rfl, q⟩
theorem op_geR : OpR X (compareOp .GtE) (rR2 X.K (o2 (cmpop .ge))) := by
  intro pins s σ H x y v u Q I rx ry ⟨Cl, E, ι, h, a, b, r, qa, qb, o⟩
  obtain ⟨c, e, q⟩ := o2_ok r o
  cases qa <;> cases qb <;> simp only [cmpop] at e <;> cases e
  exact op_ge pins s σ H _ _ v u Q I rx ry ⟨_, _, rfl, rfl, q⟩

/-! dicts -/
theorem Rk.val {κ : Type} [DecidableEq κ] {K : PySem.W.Frag} {ι : List Addr} {H : Hp} (k : κ) : ∀ {kvs : List (κ × W)} {vs : List (κ × V)}, Rk K ι H kvs vs →
    (valW kvs k = none ∧ valV vs k = none) ∨ ∃ w v, valW kvs k = some w ∧ valV vs k = some v ∧ Rp K ι H w v
  | _, _, .nil => .inl ⟨rfl, valV_nil⟩
  | _, _, .cons (a := p) (b := q) r t => by
    by_cases c : p.1 = k
    · exact .inr ⟨p.2, q.2, by simp [valW, c], valV_pos (r.1 ▸ c), r.2⟩
    · have c' : ¬ q.1 = k := r.1 ▸ c
      rcases Rk.val k t with ⟨h1, h2⟩ | ⟨w, v, h1, h2, h3⟩
      · exact .inl ⟨by simp [valW, c, h1], (valV_neg c').trans h2⟩
      · exact .inr ⟨w, v, by simp [valW, c, h1], (valV_neg c').trans h2, h3⟩
theorem Rk.length {κ : Type} {K : PySem.W.Frag} {ι : List Addr} {H : Hp} {kvs : List (κ × W)} {vs : List (κ × V)} (r : Rk K ι H kvs vs) : kvs.length = vs.length := Paired.length r
theorem valW_none {κ : Type} [DecidableEq κ] {k : κ} : ∀ {kvs : List (κ × W)}, valW kvs k = none → ∀ p ∈ kvs, p.1 ≠ k
  | [], _, p, m => by simp at m
  | q :: r, e, p, m => by
    unfold valW at e
    split at e
    · cases e
    · rename_i c
      rcases List.mem_cons.mp m with z | z
      · subst z; exact c
      · exact valW_none e p z
theorem Rk.append {κ : Type} {K : PySem.W.Frag} {ι : List Addr} {H : Hp} : ∀ {l l' : List (κ × W)} {m m' : List (κ × V)}, Rk K ι H l m → Rk K ι H l' m' → Rk K ι H (l ++ l') (m ++ m')
  | _, _, _, _, .nil, s => s
  | _, _, _, _, .cons r t, s => .cons r (Rk.append t s)
theorem Rk.any {κ : Type} [DecidableEq κ] {K : PySem.W.Frag} {ι : List Addr} {H : Hp} (k : κ) : ∀ {kvs : List (κ × W)} {vs : List (κ × V)}, Rk K ι H kvs vs → (kvs.any fun kv => decide (kv.1 = k)) = vs.any fun kv => decide (kv.1 = k)
  | _, _, .nil => rfl
  | _, _, .cons r t => by simp only [List.any_cons]; rw [Rk.any k t, r.1]
theorem Rk.put {κ : Type} [DecidableEq κ] {K : PySem.W.Frag} {ι : List Addr} {H : Hp} {k : κ} {w : W} {v : V} (q : Rp K ι H w v) {kvs : List (κ × W)} {vs : List (κ × V)} (rk : Rk K ι H kvs vs) : Rk K ι H (putW kvs k w) (putK vs k v) := by
  unfold putW putK
  rw [rk.any k]
  split
  · have z : ∀ {kvs : List (κ × W)} {vs : List (κ × V)}, Rk K ι H kvs vs → Rk K ι H (kvs.map (fun kv => if kv.1 = k then (kv.1, w) else kv)) (vs.map (fun kv => if kv.1 = k then (kv.1, v) else kv)) := by
      intro kvs vs rk
      induction rk with
      | nil => exact .nil
      | @cons a b l m r t ih =>
        refine .cons ?_ ih
        by_cases c : a.1 = k
        · simp only [if_pos c, if_pos (show b.1 = k from r.1 ▸ c)]; exact ⟨r.1, q⟩
        · simp only [if_neg c, if_neg (show ¬ b.1 = k from r.1 ▸ c)]; exact r
    exact z rk
  · exact rk.append (.cons ⟨rfl, q⟩ .nil)
theorem kAtom_kV {K : PySem.W.Frag} {ι : List Addr} {H : Hp} {w : W} {v : V} {k : Key} (q : Rp K ι H w v) (e : kAtom w = some k) : v = kV k := by
  cases q <;> simp [kAtom] at e <;> subst e <;> rfl
theorem kTup_kV {K : PySem.W.Frag} {ι : List Addr} {H : Hp} {w : W} {v : V} {k : List Key} (q : Rp K ι H w v) (e : kTup w = some k) : ∃ a, v = .ref a ∧ H a = some (.tup (k.map kV)) := by
  cases q with
  | @tup ws a vs hs rs =>
    refine ⟨a, rfl, ?_⟩
    have z : ∀ {ws : List W} {vs : List V} {k : List Key}, Rps K ι H ws vs → mapO kAtom ws = some k → vs = k.map kV := by
      intro ws vs k rs
      induction ws generalizing vs k with
      | nil => intro e; cases rs; unfold mapO at e; cases e; rfl
      | cons w ws ih =>
        intro e
        cases rs with
        | cons r t =>
          unfold mapO at e
          cases hx : kAtom w with
          | none => rw [hx] at e; cases e
          | some b =>
            rw [hx] at e
            cases hl : mapO kAtom ws with
            | none => rw [hl] at e; cases e
            | some bs =>
              rw [hl] at e
              cases e
              rw [List.map_cons, ← ih t hl, kAtom_kV r hx]
    rw [← z rs e]
    exact hs
  | _ => simp [kTup] at e
/-- what R reads at a key is what the model reads -/
theorem dget_ok {K : PySem.W.Frag} {ι : List Addr} {h : Hh} {H : Hp} (r : Rh K ι h H) {d k : W} {x y : V} {o : Option W} (qd : Rp K ι H d x) (qk : Rp K ι H k y) (e : dget h d k = some o) :
    ∃ a ov, x = .ref a ∧ DGet H a y ov ∧ ((o = none ∧ ov = none) ∨ ∃ w v, o = some w ∧ ov = some v ∧ Rp K ι H w v) := by
  cases qd <;> simp only [dget] at e <;> try (cases e; done)
  rename_i i a hi
  obtain ⟨ob, e1, q1⟩ := r.get hi
  rw [e1] at e
  cases ob with
  | lst l xs => simp at e
  | dK l kvs =>
    simp only at e
    cases ek : kAtom k with
    | none => rw [ek] at e; cases e
    | some q =>
      rw [ek] at e
      cases e
      have ey := kAtom_kV qk ek
      subst ey
      have fin : ∀ {vs : List (Key × V)}, Rd H a (.dK vs) → Rk K ι H kvs vs → ∃ ov, DGet H a (kV q) ov ∧ ((valW kvs q = none ∧ ov = none) ∨ ∃ w v, valW kvs q = some w ∧ ov = some v ∧ Rp K ι H w v) := fun {vs} rd rk =>
        ⟨valV vs q, .inl ⟨vs, q, rd, rfl, rfl⟩, by
          rcases Rk.val q rk with ⟨h1, h2⟩ | ⟨w, v, h1, h2, h3⟩
          · exact .inl ⟨h1, h2⟩
          · exact .inr ⟨w, v, h1, h2, h3⟩⟩
      cases l with
      | free => obtain ⟨vs, hv, rk⟩ := q1; obtain ⟨ov, z1, z2⟩ := fin (.inl hv) rk; exact ⟨a, ov, rfl, z1, z2⟩
      | lock => obtain ⟨vs, hv, rk⟩ := q1; obtain ⟨ov, z1, z2⟩ := fin (.inl hv) rk; exact ⟨a, ov, rfl, z1, z2⟩
      | froz => obtain ⟨o, vs, hv, rk⟩ := q1; obtain ⟨ov, z1, z2⟩ := fin (.inr ⟨o, hv⟩) rk; exact ⟨a, ov, rfl, z1, z2⟩
  | dT l kvs =>
    simp only at e
    cases ek : kTup k with
    | none => rw [ek] at e; cases e
    | some q =>
      rw [ek] at e
      cases e
      obtain ⟨b, ey, hb⟩ := kTup_kV qk ek
      subst ey
      have fin : ∀ {vs : List (List Key × V)}, Rd H a (.dT vs) → Rk K ι H kvs vs → ∃ ov, DGet H a (.ref b) ov ∧ ((valW kvs q = none ∧ ov = none) ∨ ∃ w v, valW kvs q = some w ∧ ov = some v ∧ Rp K ι H w v) := fun {vs} rd rk =>
        ⟨valV vs q, .inr ⟨vs, q, b, rd, rfl, hb, rfl⟩, by
          rcases Rk.val q rk with ⟨h1, h2⟩ | ⟨w, v, h1, h2, h3⟩
          · exact .inl ⟨h1, h2⟩
          · exact .inr ⟨w, v, h1, h2, h3⟩⟩
      cases l with
      | free => obtain ⟨vs, hv, rk⟩ := q1; obtain ⟨ov, z1, z2⟩ := fin (.inl hv) rk; exact ⟨a, ov, rfl, z1, z2⟩
      | lock => obtain ⟨vs, hv, rk⟩ := q1; obtain ⟨ov, z1, z2⟩ := fin (.inl hv) rk; exact ⟨a, ov, rfl, z1, z2⟩
      | froz => obtain ⟨o, vs, hv, rk⟩ := q1; obtain ⟨ov, z1, z2⟩ := fin (.inr ⟨o, hv⟩) rk; exact ⟨a, ov, rfl, z1, z2⟩

theorem inW_dp {K : PySem.W.Frag} {ι : List Addr} {h : Hh} {H : Hp} (r : Rh K ι h H) {a b : W} {x y : V} {c : Bool} (qa : Rp K ι H a x) (qb : Rp K ι H b y) (e : inW h a b = some c) :
    ∃ d ds, Dp K H x d ∧ SeqAt.shaped d = true ∧ (ds.any fun z => PyData.eqv z d) = c ∧ ((Dp K H y (.list ds) ∧ SeqAt.shaped (.list ds) = true) ∨ (Dp K H y (.tuple ds) ∧ SeqAt.shaped (.tuple ds) = true)) := by
  unfold inW at e
  cases ha : toD 60 h a with
  | none => rw [ha] at e; cases e
  | some d =>
    cases hb : toD 60 h b with
    | none => rw [ha, hb] at e; cases e
    | some d' =>
      rw [ha, hb] at e
      obtain ⟨p1, p2⟩ := toD_sh r qa ha
      obtain ⟨p3, p4⟩ := toD_sh r qb hb
      cases d' with
      | list ds => cases e; exact ⟨d, ds, p1, p2, rfl, .inl ⟨p3, p4⟩⟩
      | tuple ds => cases e; exact ⟨d, ds, p1, p2, rfl, .inr ⟨p3, p4⟩⟩
      | _ => cases e
theorem op_inTD (hu : X.A.units + 65 < cLine) : OpR X (compareOp .In) (fun x y H Q => ∃ d ds, Dp X.K H x d ∧ Dp X.K H y (.tuple ds) ∧ SeqAt.shaped d = true ∧ SeqAt.shaped (.tuple ds) = true ∧ Q (.bl (ds.any fun z => PyData.eqv z d)) H) := by
  intro pins s σ H x y v u Q I rx ry h
  obtain ⟨d, ds, hd, he, sd, se, q⟩ := h
  obtain ⟨as, r1⟩ := Dp.reads I d x v hd rx
  obtain ⟨bs, r2⟩ := Dp.reads I (.tuple ds) y u he ry
  exact SeqAt.in_tuple_reads r2 r1 (SeqAt.canLay_of_shaped se) (SeqAt.canLay_of_shaped sd) (room_in_shaped sd hu) ⟨.bl _, H, I, rfl, q⟩
theorem op_notInTD (hu : X.A.units + 65 < cLine) : OpR X (compareOp .NotIn) (fun x y H Q => ∃ d ds, Dp X.K H x d ∧ Dp X.K H y (.tuple ds) ∧ SeqAt.shaped d = true ∧ SeqAt.shaped (.tuple ds) = true ∧ Q (.bl (!ds.any fun z => PyData.eqv z d)) H) := by
  intro pins s σ H x y v u Q I rx ry h
  obtain ⟨d, ds, hd, he, sd, se, q⟩ := h
  obtain ⟨as, r1⟩ := Dp.reads I d x v hd rx
  obtain ⟨bs, r2⟩ := Dp.reads I (.tuple ds) y u he ry
  exact SeqAt.notIn_tuple_reads r2 r1 (SeqAt.canLay_of_shaped se) (SeqAt.canLay_of_shaped sd) (room_in_shaped sd hu) ⟨.bl _, H, I, rfl, q⟩
theorem op_isinR (hu : X.A.units + 100 < cLine) : OpR X (compareOp .In) (rR2 X.K (o2 (cmpop .isin))) := by
  intro pins s σ H x y v u Q I rx ry ⟨Cl, E, ι, h, a, b, r, qa, qb, o⟩
  obtain ⟨c, e, q⟩ := o2_ok r o
  simp only [cmpop] at e
  split at e
  · cases ed : dget h b a with
    | none => rw [ed] at e; cases e
    | some o1 =>
      rw [ed] at e
      cases e
      obtain ⟨p, ov, ey, g, z⟩ := dget_ok r qb qa ed
      subst ey
      cases ry
      refine d_in (by omega) I g rx fun s' I' => ⟨.bl _, H, I', rfl, ?_⟩
      rcases z with ⟨z1, z2⟩ | ⟨w, v, z1, z2, _⟩ <;> subst z1 <;> subst z2 <;> exact q
  · obtain ⟨d, ds, p1, p2, p3, p4⟩ := inW_dp r qa qb e
    subst p3
    rcases p4 with ⟨p4, p5⟩ | ⟨p4, p5⟩
    · exact op_inD (by omega) pins s σ H x y v u Q I rx ry ⟨d, ds, p1, p4, p2, p5, q⟩
    · exact op_inTD (by omega) pins s σ H x y v u Q I rx ry ⟨d, ds, p1, p4, p2, p5, q⟩
theorem op_notinR (hu : X.A.units + 100 < cLine) : OpR X (compareOp .NotIn) (rR2 X.K (o2 (cmpop .notin))) := by
  intro pins s σ H x y v u Q I rx ry ⟨Cl, E, ι, h, a, b, r, qa, qb, o⟩
  obtain ⟨c, e, q⟩ := o2_ok r o
  simp only [cmpop] at e
  split at e
  · cases ed : dget h b a with
    | none => rw [ed] at e; cases e
    | some o1 =>
      rw [ed] at e
      cases e
      obtain ⟨p, ov, ey, g, z⟩ := dget_ok r qb qa ed
      subst ey
      cases ry
      refine d_notIn (by omega) I g rx fun s' I' => ⟨.bl _, H, I', rfl, ?_⟩
      rcases z with ⟨z1, z2⟩ | ⟨w, v, z1, z2, _⟩ <;> subst z1 <;> subst z2 <;> exact q
  · cases ei : inW h a b with
    | none => rw [ei] at e; cases e
    | some c' =>
      rw [ei] at e
      cases e
      obtain ⟨d, ds, p1, p2, p3, p4⟩ := inW_dp r qa qb ei
      subst p3
      rcases p4 with ⟨p4, p5⟩ | ⟨p4, p5⟩
      · exact op_notInD (by omega) pins s σ H x y v u Q I rx ry ⟨d, ds, p1, p4, p2, p5, q⟩
      · exact op_notInTD (by omega) pins s σ H x y v u Q I rx ry ⟨d, ds, p1, p4, p2, p5, q⟩
def COp.py : COp → CmpOp
  | .eq => .Eq
  | .ne => .NotEq
  | .lt => .Lt
  | .le => .LtE
  | .gt => .Gt
  | .ge => .GtE
  | .isin => .In
  | .notin => .NotIn
theorem op_cmpR (hu : X.A.units + 100 < cLine) : ∀ o : COp, OpR X (compareOp o.py) (rR2 X.K (o2 (cmpop o)))
  | .eq => op_eqR hu
  | .ne => op_neR hu
  | .lt => op_ltR
  | .le => op_leR
  | .gt => op_gtR
  | .ge => op_geR
  | .isin => op_isinR hu
  | .notin => op_notinR hu

/-! truth -/
theorem truth_ok {K : PySem.W.Frag} {ι : List Addr} {h : Hh} {H : Hp} (r : Rh K ι h H) {w : W} {x : V} {b : Bool} (q : Rp K ι H w x) (e : truth h w = some b) : TruV K x H b := by
  have em : ∀ {l : List W} {vs : List V}, Rps K ι H l vs → (!l.isEmpty) = !vs.isEmpty := fun {l vs} rs => by cases rs <;> rfl
  cases q with
  | non => simp [truth] at e; subst e; exact rfl
  | bl c => simp [truth] at e; subst e; exact rfl
  | int i => simp only [truth] at e; cases e; exact rfl
  | str s =>
    simp only [truth] at e
    split at e
    · rename_i c; cases e; exact ⟨lineB_le c, rfl⟩
    · cases e
  | @tup ws a vs hs rs => simp only [truth] at e; cases e; exact .inr (.inl ⟨vs, SqT.of hs, em rs⟩)
  | @fl ws a vs hs rs => simp only [truth] at e; cases e; exact .inl ⟨vs, hs.sq, em rs⟩
  | @ref i a hi =>
    simp only [truth] at e
    obtain ⟨ob, e1, q1⟩ := r.get hi
    rw [e1] at e
    cases ob with
    | lst k xs => simp only at e; cases e; obtain ⟨vs, hv, rs⟩ := q1; exact .inl ⟨vs, SqL.of hv, em rs⟩
    | dK k xs =>
      cases k <;> simp only at e <;> cases e
      obtain ⟨vs, hv, rs⟩ := q1
      exact .inr (.inr ⟨vs, hv, by cases rs <;> rfl⟩)
    | dT k xs => simp only at e; cases e

/-! places -/
theorem ixW_eq (n : Nat) (i : Int) : ixW n i = ixN n i := rfl
theorem atW_ok {K : PySem.W.Frag} {ι : List Addr} {H : Hp} {xs : List W} {vs : List V} {i : Int} {w : W} (rs : Rps K ι H xs vs) (e : atW xs i = some w) : ∃ v, atI vs i = some v ∧ Rp K ι H w v := by
  unfold atW at e
  unfold atI
  rw [ixW_eq, rs.length] at e
  cases z : ixN vs.length i with
  | none => rw [z] at e; cases e
  | some j => rw [z] at e; exact rs.get e
/-- a[b] of a built-in type, whatever comes -/
theorem tail_any {P : Program} {w : World} {A : Around} {E : Value → Shared → Prop} {s : Shared} {ve se : Expr} {o i : Value} {T id : String} {Q : Value → Shared → Prop} (ty : s.TypeIs o T) (hl : typeLookup (.type T) "__getitem__" = pure (some (.builtin id)))
    (hs : subscripted se false o i = operate [o, i] (getItem o i)) (g : wpAny (model P w) A (getItem o i) Q E s) : wpAny (model P w) A (subscriptTail ve se o i) Q E s := by
  have k := wpAny_mono (Q' := fun r t => wpAny (model P w) A (letTemporaryGo ve o r >>= fun _ => pure r) Q E t) (E' := E) g (fun r t q => wpAny_bind (wpAny_letTemporaryGo (wpAny_pure q))) (fun _ _ x => x)
  have fin := wpAny_operating (vs := [o, i]) k
  rw [← hs] at fin
  unfold subscriptTail; refine wpAny_bind ?_; rw [getitemInPython_of_ne ty.not_modules]; refine wpAny_bind (wpAny_specialOf ty hl ?_)
  first | exact wpAny_pure (wpAny_bind fin) | exact wpAny_bind (wpAny_pure (wpAny_bind fin))
def o2v (f : W → W → Hh → Option W) : W → W → Hh → Res W := fun a b h => ofO (f a b h) h
theorem ix_R (hu : X.A.units + 100 < cLine) : IxR X (rR2 X.K (o2v index)) := by
  intro value slice pins s σ H x y v u Q I rx ry ⟨Cl, E, ι, h, a, b, r, qa, qb, o⟩ hs
  unfold o2v ofO at o
  cases e : index a b h with
  | none => rw [e] at o; exact o.elim
  | some w =>
    rw [e] at o
    cases qa <;> simp only [index] at e <;> try (cases e; done)
    · rename_i ws p vs hv rs
      cases b <;> simp only at e <;> try (cases e; done)
      obtain ⟨v1, z1, z2⟩ := atW_ok rs e
      obtain rfl := qb.intI
      exact ix_tup value slice pins s σ H _ _ v u Q I rx ry ⟨p, vs, _, v1, rfl, rfl, SqT.of hv, z1, o.here r z2⟩ hs
    · rename_i i p hi
      obtain ⟨ob, e1, q1⟩ := r.get hi
      rw [e1] at e
      have dict : (match dget h (.ref i) b with | some r => r | none => none) = some w → PySem.wpAny (model X.prog X.w) X.A (subscriptTail value slice v u) (EP X pins σ Q) X.xe s := by
        intro e
        cases ed : dget h (.ref i) b with
        | none => rw [ed] at e; cases e
        | some o1 =>
          rw [ed] at e
          have e' : o1 = some w := e
          subst e'
          obtain ⟨p', ov, ey, g, z⟩ := dget_ok r (.ref hi) qb ed
          cases ey
          rcases z with ⟨z1, _⟩ | ⟨w', v', z1, z2, z3⟩
          · cases z1
          · cases z1
            subst z2
            cases rx
            have ty := dict_typeIs I g
            exact tail_any ty PySem.F.slot_dict_getitem.lookup hs (d_getItem (by omega) I g ry fun w2 s2 I2 r2 => ⟨v', H, I2, r2, o.here r z3⟩)
      cases ob with
      | lst k xs =>
        simp only at e
        cases b <;> simp only at e <;> try (cases e; done)
        obtain ⟨vs, hv, rs⟩ := q1
        obtain ⟨v1, z1, z2⟩ := atW_ok rs e
        obtain rfl := qb.intI
        exact ix_list value slice pins s σ H _ _ v u Q I rx ry ⟨p, vs, _, v1, rfl, rfl, SqL.of hv, z1, o.here r z2⟩ hs
      | dK k xs => exact dict e
      | dT k xs => exact dict e
    · rename_i ws p vs hv rs
      cases b <;> simp only at e <;> try (cases e; done)
      obtain ⟨v1, z1, z2⟩ := atW_ok rs e
      obtain rfl := qb.intI
      exact ix_list value slice pins s σ H _ _ v u Q I rx ry ⟨p, vs, _, v1, rfl, rfl, hv.sq, z1, o.here r z2⟩ hs
end
end R

/-! R4: slices, stores, built-ins, methods, by values. -/
namespace R
open PySem PySem.Spec L2
open PyProof.Rows hiding St
section
variable {X : Cx}
theorem cutW_ok {K : PySem.W.Frag} {ι : List Addr} {H : Hp} {ws : List W} {vs : List V} (r : Rps K ι H ws vs) (lo hi : Option Int) : Rps K ι H (cutW ws lo hi) (cutV vs lo hi) := by
  have e1 : ∀ n d o, sIx n d o = HT.sIx n d o := fun n d o => by cases o <;> rfl
  unfold cutW cutV
  rw [r.length, e1, e1]
  exact (r.drop _).take _
theorem cutV_whole {xs : List V} {lo hi : Option Int} (h : HT.sIx xs.length 0 lo = 0 ∧ HT.sIx xs.length xs.length hi = xs.length) : cutV xs lo hi = xs := by
  unfold cutV
  rw [h.1, h.2]
  simp
def rSlR (K : PySem.W.Frag) : V → Option Int → Option Int → Hp → VK → Prop := fun x lo hi H Q => ∃ Cl E ι h a, Rh K ι h H ∧ Rp K ι H a x ∧ Out K Cl (Rp K) E ι h H (sliceop a lo hi h) Q
theorem sl_R : SlR X (rSlR X.K) := by
  intro pins s σ H x v vl vu lo hi sl Q I rx hs pl pu ⟨Cl, E, ι, h, a, r, qa, o⟩
  cases qa <;> try exact o.elim
  · rename_i ws a vs hv rs
    have o' : Out X.K Cl (Rp X.K) E ι h H (.ok (.tup (cutW ws lo hi)) h) Q := o
    refine sl_tupA pins s σ H _ v vl vu lo hi sl Q I rx hs pl pu ⟨a, vs, rfl, SqT.of hv, fun c => ?_, fun c p hp => o' _ _ _ (Go.other r hp) (rp_tup hp (cutW_ok rs lo hi))⟩
    have z := cutW_ok rs lo hi
    rw [cutV_whole c] at z
    exact o'.here r (.tup hv z)
  · rename_i i a hi'
    obtain ⟨ob, e1, q1⟩ := r.get hi'
    simp only [sliceop] at o
    rw [e1] at o
    cases ob with
    | lst k xs =>
      obtain ⟨vs, hv, rs⟩ := q1
      exact sl_list pins s σ H _ v vl vu lo hi sl Q I rx hs pl pu ⟨a, vs, rfl, SqL.of hv, fun p hp => o _ _ _ (Go.lst r hp (cutW_ok rs lo hi)) (rp_new r p)⟩
    | dK k xs => exact o.elim
    | dT k xs => exact o.elim
  · rename_i ws a vs hv rs
    have o' : Out X.K Cl (Rp X.K) E ι h H (.ok (.ref h.length) (h ++ [.lst .free (cutW ws lo hi)])) Q := o
    exact sl_list pins s σ H _ v vl vu lo hi sl Q I rx hs pl pu ⟨a, vs, rfl, hv.sq, fun p hp => o' _ _ _ (Go.lst r hp (cutW_ok rs lo hi)) (rp_new r p)⟩

/-! a[i] = v -/
def rStR (K : PySem.W.Frag) : TSet := fun o i v H Q => ∃ ι h a b c h', Rh K ι h H ∧ Rp K ι H a o ∧ Rp K ι H b i ∧ Rp K ι H c v ∧ setix a b c h = some h' ∧ ∀ H', Go K ι h H ι h' H' → Q H'
theorem set_R (hu : X.A.units + 100 < cLine) : PSet X (rStR X.K) := by
  intro pins s σ H o i v ov iv u Q I ro ri rv ⟨ι, h, a, b, c, h', r, qa, qb, qc, e, q⟩
  cases qa <;> simp only [setix] at e <;> try (cases e; done)
  rename_i k p hk
  obtain ⟨ob, e1, q1⟩ := r.get hk
  rw [e1] at e
  have dict : dput h (.ref k) b c = some h' → wpAny (model X.prog X.w) X.A (setItem ov iv u) (fun _ s' => ∃ H', Inv X pins σ H' s' ∧ Q H') X.xe s := by
    intro e
    simp only [dput] at e
    rw [e1] at e
    cases ob with
    | lst k xs => cases e
    | dK l kvs =>
      cases l <;> simp only at e <;> try (cases e; done)
      cases ek : kAtom b with
      | none => rw [ek] at e; cases e
      | some y =>
        rw [ek] at e
        simp only at e
        split at e
        · rename_i hl
          cases e
          obtain ⟨vs, hv, rk⟩ := q1
          have ey := kAtom_kV qb ek
          subst ey
          cases ro
          have hl' : vs.length < sizeLine := by rw [← rk.length]; exact Nat.le_of_ble_eq_true hl
          have g : Go X.K ι h H ι (h.set k (.dK .free (putW kvs y c))) (upd H p (.dK (putK vs y v))) := by
            refine Go.set r hk e1 rfl ⟨_, upd_same, ?_⟩
            refine Rk.mono (fun b xs e => ?_) (fun b o w _ e => ?_) (fun _ _ e => e) (rk.put qc)
            · rw [upd_ne (fun z => by subst z; rw [hv] at e; cases e)]; exact e
            · rw [upd_ne (fun z => by subst z; rw [hv] at e; cases e)]; exact e
          exact d_setItem (by omega) I (.inl ⟨vs, y, hv, rfl, hl', rfl⟩) ri rv fun s' I' => ⟨_, I', q _ g⟩
        · cases e
    | dT l kvs =>
      cases l <;> simp only at e <;> try (cases e; done)
      cases ek : kTup b with
      | none => rw [ek] at e; cases e
      | some y =>
        rw [ek] at e
        simp only at e
        split at e
        · rename_i hl
          cases e
          obtain ⟨vs, hv, rk⟩ := q1
          obtain ⟨b', ey, hb⟩ := kTup_kV qb ek
          subst ey
          cases ro
          have hl' : vs.length < sizeLine := by rw [← rk.length]; exact Nat.le_of_ble_eq_true hl
          have g : Go X.K ι h H ι (h.set k (.dT .free (putW kvs y c))) (upd H p (.dT (putK vs y v))) := by
            refine Go.set r hk e1 rfl ⟨_, upd_same, ?_⟩
            refine Rk.mono (fun b xs e => ?_) (fun b o w _ e => ?_) (fun _ _ e => e) (rk.put qc)
            · rw [upd_ne (fun z => by subst z; rw [hv] at e; cases e)]; exact e
            · rw [upd_ne (fun z => by subst z; rw [hv] at e; cases e)]; exact e
          exact d_setItem (by omega) I (.inr ⟨vs, y, b', hv, rfl, hb, hl', rfl⟩) ri rv fun s' I' => ⟨_, I', q _ g⟩
        · cases e
  cases ob with
  | lst l xs =>
    cases l <;> simp only at e <;> (try (cases e; done))
    · cases b <;> simp only at e <;> try (cases e; done)
      rename_i j
      cases ej : ixW xs.length j with
      | none => rw [ej] at e; cases e
      | some m =>
        rw [ej] at e
        cases e
        obtain ⟨vs, hv, rs⟩ := q1
        obtain rfl := qb.intI
        have g : Go X.K ι h H ι (h.set k (.lst .free (xs.set m c))) (upd H p (.lst (vs.set m v))) := by
          refine Go.set r hk e1 rfl ⟨_, upd_same, ?_⟩
          refine Rps.mono (fun b xs e => ?_) (fun b o w _ e => ?_) (fun _ _ e => e) (rs.set qc m)
          · rw [upd_ne (fun z => by subst z; rw [hv] at e; cases e)]; exact e
          · rw [upd_ne (fun z => by subst z; rw [hv] at e; cases e)]; exact e
        refine set_list pins s σ H _ _ v ov iv u Q I ro ri rv ⟨p, vs, j, m, rfl, rfl, hv, ?_, q _ g⟩
        rw [← ixW_eq, ← rs.length]; exact ej
    · exact dict e
    · exact dict e
  | dK l kvs => exact dict e
  | dT l kvs => exact dict e

/-! isinstance(x, a built-in type) -/
def Ty.py : Ty → String
  | .int => "int"
  | .bool => "bool"
  | .list => "list"
  | .tuple => "tuple"
  | .str => "str"
theorem isi_ok {K : PySem.W.Frag} {ι : List Addr} {h : Hh} {H : Hp} (r : Rh K ι h H) {w : W} {x : V} {t : Ty} {b : Bool} (q : Rp K ι H w x) (e : isiW h w t = some b) : ∃ ty, TyX K H x ty ∧ PySem.W.kitOne K ty (.type t.py) = some b := by
  cases q with
  | non => exact ⟨_, .base .non, by cases t <;> simp only [isiW] at e <;> cases e <;> exact kit_ty (by decide +kernel)⟩
  | bl c => exact ⟨_, .base (.bl c), by cases t <;> simp only [isiW] at e <;> cases e <;> exact kit_ty (by decide +kernel)⟩
  | int i => exact ⟨_, .base (.int i), by cases t <;> simp only [isiW] at e <;> cases e <;> exact kit_ty (by decide +kernel)⟩
  | str s => exact ⟨_, .base (.str s), by cases t <;> simp only [isiW] at e <;> cases e <;> exact kit_ty (by decide +kernel)⟩
  | tup hs rs => exact ⟨_, .base (.tup hs), by cases t <;> simp only [isiW] at e <;> cases e <;> exact kit_ty (by decide +kernel)⟩
  | @fl ws a vs hs rs =>
    have ty : ∃ ty, TyX K H (.ref a) ty ∧ ty = .type "list" := by
      rcases hs with ⟨o, z⟩ | ⟨o, its, n, z1, z2, _⟩
      · exact ⟨_, .base (.frz z), rfl⟩
      · exact ⟨_, .kList z1 z2, rfl⟩
    obtain ⟨ty, z, rfl⟩ := ty
    exact ⟨_, z, by cases t <;> simp only [isiW] at e <;> cases e <;> exact kit_ty (by decide +kernel)⟩
  | @ref i a hi =>
    obtain ⟨ob, e1, q1⟩ := r.get hi
    cases ob with
    | lst k xs =>
      obtain ⟨vs, hv, _⟩ := q1
      exact ⟨_, .base (.lst hv), by cases t <;> simp only [isiW, okRef, e1] at e <;> simp at e <;> subst e <;> exact kit_ty (by decide +kernel)⟩
    | dK k xs =>
      have ty : TyX K H (.ref a) (.type "dict") := by
        cases k with
        | free => obtain ⟨vs, hv, _⟩ := q1; exact .base (.dK hv)
        | lock => obtain ⟨vs, hv, _⟩ := q1; exact .base (.dK hv)
        | froz => obtain ⟨o, vs, hv, _⟩ := q1; exact .fDict hv
      exact ⟨_, ty, by cases t <;> simp only [isiW, okRef, e1] at e <;> simp at e <;> subst e <;> exact kit_ty (by decide +kernel)⟩
    | dT k xs =>
      cases k with
      | free => obtain ⟨vs, hv, _⟩ := q1; exact ⟨_, .base (.dT hv), by cases t <;> simp only [isiW, okRef, e1] at e <;> simp at e <;> subst e <;> exact kit_ty (by decide +kernel)⟩
      | lock => obtain ⟨vs, hv, _⟩ := q1; exact ⟨_, .base (.dT hv), by cases t <;> simp only [isiW, okRef, e1] at e <;> simp at e <;> subst e <;> exact kit_ty (by decide +kernel)⟩
      | froz => cases t <;> simp only [isiW, okRef, e1] at e <;> simp at e

/-! built-ins -/
theorem lenW_ok {K : PySem.W.Frag} {ι : List Addr} {h : Hh} {H : Hp} (r : Rh K ι h H) {w : W} {x : V} {n : Nat} (q : Rp K ι H w x) (e : lenW h w = some n) : ∃ p ys, x = .ref p ∧ (SqL K H p ys ∨ SqT K H p ys) ∧ n = ys.length := by
  cases q <;> simp only [lenW] at e <;> try (cases e; done)
  · rename_i ws a vs hv rs; cases e; exact ⟨a, vs, rfl, .inr (SqT.of hv), rs.length⟩
  · rename_i i a hi
    obtain ⟨ob, e1, q1⟩ := r.get hi
    rw [e1] at e
    cases ob <;> simp only at e <;> try (cases e; done)
    cases e
    obtain ⟨vs, hv, rs⟩ := q1
    exact ⟨a, vs, rfl, .inl (SqL.of hv), rs.length⟩
  · rename_i ws a vs hv rs; cases e; exact ⟨a, vs, rfl, .inl hv.sq, rs.length⟩
theorem lstOf_ok {K : PySem.W.Frag} {ι : List Addr} {h : Hh} {H : Hp} (r : Rh K ι h H) {w : W} {x : V} {xs : List W} (q : Rp K ι H w x) (e : lstOf h w = some xs) : ∃ p ys, x = .ref p ∧ SqL K H p ys ∧ Rps K ι H xs ys := by
  cases q <;> simp only [lstOf] at e <;> try (cases e; done)
  · rename_i i a hi
    obtain ⟨ob, e1, q1⟩ := r.get hi
    rw [e1] at e
    cases ob <;> simp only at e <;> try (cases e; done)
    cases e
    obtain ⟨vs, hv, rs⟩ := q1
    exact ⟨a, vs, rfl, SqL.of hv, rs⟩
  · rename_i ws a vs hv rs; cases e; exact ⟨a, vs, rfl, hv.sq, rs⟩
theorem seqOf_ok {K : PySem.W.Frag} {ι : List Addr} {h : Hh} {H : Hp} (r : Rh K ι h H) {w : W} {x : V} {xs : List W} (q : Rp K ι H w x) (e : seqOf h w = some xs) : ∃ p ys, x = .ref p ∧ (SqL K H p ys ∨ SqT K H p ys) ∧ Rps K ι H xs ys := by
  cases q <;> simp only [seqOf] at e <;> try (cases e; done)
  · rename_i ws a vs hv rs; cases e; exact ⟨a, vs, rfl, .inr (SqT.of hv), rs⟩
  · rename_i i a hi
    obtain ⟨ob, e1, q1⟩ := r.get hi
    rw [e1] at e
    cases ob <;> simp only at e <;> try (cases e; done)
    cases e
    obtain ⟨vs, hv, rs⟩ := q1
    exact ⟨a, vs, rfl, .inl (SqL.of hv), rs⟩
  · rename_i ws a vs hv rs; cases e; exact ⟨a, vs, rfl, .inl hv.sq, rs⟩
theorem ints_of {K : PySem.W.Frag} {ι : List Addr} {H : Hp} : ∀ {xs : List W} {ys : List V} {is : List Int}, Rps K ι H xs ys → mapO intOf xs = some is → ys = is.map V.int
  | _, _, _, .nil, e => by unfold mapO at e; cases e; rfl
  | _, _, _, .cons (w := w) (ws := ws) r t, e => by
    unfold mapO at e
    cases r <;> simp only [intOf] at e <;> try (cases e; done)
    cases hl : mapO intOf ws with
    | none => rw [hl] at e; cases e
    | some bs => rw [hl] at e; cases e; rw [ints_of t hl]; rfl
theorem bls_of {K : PySem.W.Frag} {ι : List Addr} {H : Hp} : ∀ {xs : List W} {ys : List V} {bs : List Bool}, Rps K ι H xs ys → mapO blOf xs = some bs → ys = bs.map V.bl
  | _, _, _, .nil, e => by unfold mapO at e; cases e; rfl
  | _, _, _, .cons (w := w) (ws := ws) r t, e => by
    unfold mapO at e
    cases r <;> simp only [blOf] at e <;> try (cases e; done)
    cases hl : mapO blOf ws with
    | none => rw [hl] at e; cases e
    | some bs => rw [hl] at e; cases e; rw [bls_of t hl]; rfl
theorem sumI_eq : ∀ is : List Int, sumI is = is.sum
  | [] => rfl
  | i :: r => by unfold sumI; rw [fi_eq, sumI_eq r, List.sum_cons]
theorem minI_ok : ∀ (is : List Int) (m : Int), (minI m is = m ∨ minI m is ∈ is) ∧ minI m is ≤ m ∧ ∀ y ∈ is, minI m is ≤ y
  | [], m => ⟨.inl rfl, Int.le_refl _, by simp⟩
  | i :: r, m => by
    obtain ⟨h1, h2, h3⟩ := minI_ok r (if i < m then i else m)
    unfold minI
    by_cases c : i < m
    · rw [if_pos c] at h1 h2 h3 ⊢
      refine ⟨.inr ?_, by omega, fun y hy => ?_⟩
      · rcases h1 with z | z
        · rw [z]; exact List.mem_cons_self
        · exact List.mem_cons_of_mem _ z
      · rcases List.mem_cons.mp hy with z | z
        · subst z; exact h2
        · exact h3 y z
    · rw [if_neg c] at h1 h2 h3 ⊢
      refine ⟨?_, h2, fun y hy => ?_⟩
      · rcases h1 with z | z
        · exact .inl z
        · exact .inr (List.mem_cons_of_mem _ z)
      · rcases List.mem_cons.mp hy with z | z
        · subst z; omega
        · exact h3 y z
theorem maxI_ok : ∀ (is : List Int) (m : Int), (maxI m is = m ∨ maxI m is ∈ is) ∧ m ≤ maxI m is ∧ ∀ y ∈ is, y ≤ maxI m is
  | [], m => ⟨.inl rfl, Int.le_refl _, by simp⟩
  | i :: r, m => by
    obtain ⟨h1, h2, h3⟩ := maxI_ok r (if m < i then i else m)
    unfold maxI
    by_cases c : m < i
    · rw [if_pos c] at h1 h2 h3 ⊢
      refine ⟨.inr ?_, by omega, fun y hy => ?_⟩
      · rcases h1 with z | z
        · rw [z]; exact List.mem_cons_self
        · exact List.mem_cons_of_mem _ z
      · rcases List.mem_cons.mp hy with z | z
        · subst z; exact h2
        · exact h3 y z
    · rw [if_neg c] at h1 h2 h3 ⊢
      refine ⟨?_, h2, fun y hy => ?_⟩
      · rcases h1 with z | z
        · exact .inl z
        · exact .inr (List.mem_cons_of_mem _ z)
      · rcases List.mem_cons.mp hy with z | z
        · subst z; omega
        · exact h3 y z
theorem minI_is {i m : Int} {is : List Int} (h1 : m ∈ i :: is) (h2 : ∀ y ∈ i :: is, m ≤ y) : m = minI i is := by
  obtain ⟨a, b, c⟩ := minI_ok is i
  have l1 : minI i is ≤ m := by
    rcases List.mem_cons.mp h1 with z | z
    · omega
    · exact c m z
  have l2 : m ≤ minI i is := by
    rcases a with z | z
    · rw [z]; exact h2 i List.mem_cons_self
    · exact h2 _ (List.mem_cons_of_mem _ z)
  omega
theorem maxI_is {i m : Int} {is : List Int} (h1 : m ∈ i :: is) (h2 : ∀ y ∈ i :: is, y ≤ m) : m = maxI i is := by
  obtain ⟨a, b, c⟩ := maxI_ok is i
  have l1 : m ≤ maxI i is := by
    rcases List.mem_cons.mp h1 with z | z
    · omega
    · exact c m z
  have l2 : maxI i is ≤ m := by
    rcases a with z | z
    · rw [z]; exact h2 i List.mem_cons_self
    · exact h2 _ (List.mem_cons_of_mem _ z)
  omega
theorem rps1 {K : PySem.W.Frag} {ι : List Addr} {H : Hp} {w : W} {xs : List V} (q : Rps K ι H [w] xs) : ∃ x, xs = [x] ∧ Rp K ι H w x := by cases q with | cons r t => cases t; exact ⟨_, rfl, r⟩
theorem rps2 {K : PySem.W.Frag} {ι : List Addr} {H : Hp} {w w' : W} {xs : List V} (q : Rps K ι H [w, w'] xs) : ∃ x y, xs = [x, y] ∧ Rp K ι H w x ∧ Rp K ι H w' y := by
  cases q with | cons r t => cases t with | cons r' t => cases t; exact ⟨_, _, rfl, r, r'⟩
/-- which of Python's names a built-in is -/
inductive BiK (X : Cx) : Bi → Str → Value → Prop
  | len : BiK X .len "len" (.builtin "len")
  | abs : BiK X .abs "abs" (.builtin "abs")
  | int : BiK X .int "int" (.type "int")
  | sum : BiK X .sum "sum" (.builtin "sum")
  | min1 : BiK X .min1 "min" (.builtin "min")
  | max1 : BiK X .max1 "max" (.builtin "max")
  | min2 : BiK X .min2 "min" (.builtin "min")
  | max2 : BiK X .max2 "max" (.builtin "max")
  | all : BiK X .all "all" (.builtin "all")
  | any : BiK X .any "any" (.builtin "any")
  | tuple : BiK X .tuple "tuple" (.type "tuple")
  | list : BiK X .list "list" (.type "list")
theorem bi_len : CallR X (.builtin "len") (rRL X.K (biop .len)) := by
  intro pins s σ H xs us Q I ru ⟨Cl, E, ι, h, ws, r, q, o⟩
  unfold biop at o
  split at o <;> (first | contradiction | skip)
  all_goals first | exact o.elim | skip
  rename_i w _
  obtain ⟨x, rfl, qx⟩ := rps1 q
  cases e : lenW h w with
  | none => rw [e] at o; exact o.elim
  | some n =>
    rw [e] at o
    obtain ⟨p, ys, rfl, z, rfl⟩ := lenW_ok r qx e
    exact call_len_seq pins s σ H _ us Q I ru ⟨p, ys, rfl, z, o.here r (.int _)⟩
theorem bi_abs : CallR X (.builtin "abs") (rRL X.K (biop .abs)) := by
  intro pins s σ H xs us Q I ru ⟨Cl, E, ι, h, ws, r, q, o⟩
  unfold biop at o
  split at o <;> (first | contradiction | skip)
  all_goals first | exact o.elim | skip
  obtain ⟨x, rfl, qx⟩ := rps1 q
  obtain rfl := qx.intI
  simp only [fi_ok] at o
  exact call_abs pins s σ H _ us Q I ru ⟨_, rfl, o.here r (.int _)⟩
theorem bi_int : CallR X (.type "int") (rRL X.K (biop .int)) := by
  intro pins s σ H xs us Q I ru ⟨Cl, E, ι, h, ws, r, q, o⟩
  unfold biop at o
  split at o <;> (first | contradiction | skip)
  all_goals first | exact o.elim | skip
  · obtain ⟨x, rfl, qx⟩ := rps1 q
    obtain rfl := qx.intI
    exact call_int1 pins s σ H _ us Q I ru (.inl ⟨_, rfl, o.here r (.int _)⟩)
  · obtain ⟨x, rfl, qx⟩ := rps1 q
    cases qx
    exact call_int1 pins s σ H _ us Q I ru (.inr ⟨_, rfl, o.here r (.int _)⟩)
theorem bi_sum (hc : X.calm = true) : CallR X (.builtin "sum") (rRL X.K (biop .sum)) := by
  intro pins s σ H xs us Q I ru ⟨Cl, E, ι, h, ws, r, q, o⟩
  unfold biop at o
  split at o <;> (first | contradiction | skip)
  all_goals first | exact o.elim | skip
  rename_i w _
  obtain ⟨x, rfl, qx⟩ := rps1 q
  cases e : lstOf h w with
  | none => rw [e] at o; exact o.elim
  | some ys =>
    rw [e] at o
    simp only at o
    cases e2 : mapO intOf ys with
    | none => rw [e2] at o; exact o.elim
    | some is =>
      rw [e2] at o
      simp only [fi_ok, sumI_eq] at o
      obtain ⟨p, vs, rfl, z, rs⟩ := lstOf_ok r qx e
      rw [ints_of rs e2] at z
      exact cr_sum hc pins s σ H _ us Q I ru ⟨p, is, rfl, z, o.here r (.int _)⟩
theorem bi_min1 (hc : X.calm = true) : CallR X (.builtin "min") (rRL X.K (biop .min1)) := by
  intro pins s σ H xs us Q I ru ⟨Cl, E, ι, h, ws, r, q, o⟩
  unfold biop at o
  split at o <;> (first | contradiction | skip)
  all_goals first | exact o.elim | skip
  rename_i w _
  obtain ⟨x, rfl, qx⟩ := rps1 q
  cases e : lstOf h w with
  | none => rw [e] at o; exact o.elim
  | some ys =>
    rw [e] at o
    simp only at o
    split at o
    · rename_i i is e2
      simp only [fi_ok] at o
      obtain ⟨p, vs, rfl, z, rs⟩ := lstOf_ok r qx e
      rw [ints_of rs e2] at z
      refine cr_min hc pins s σ H _ us Q I ru ⟨p, i :: is, rfl, z, by simp, fun m h1 h2 => ?_⟩
      rw [minI_is h1 h2]
      exact o.here r (.int _)
    · exact o.elim
theorem bi_max1 (hc : X.calm = true) : CallR X (.builtin "max") (rRL X.K (biop .max1)) := by
  intro pins s σ H xs us Q I ru ⟨Cl, E, ι, h, ws, r, q, o⟩
  unfold biop at o
  split at o <;> (first | contradiction | skip)
  all_goals first | exact o.elim | skip
  rename_i w _
  obtain ⟨x, rfl, qx⟩ := rps1 q
  cases e : lstOf h w with
  | none => rw [e] at o; exact o.elim
  | some ys =>
    rw [e] at o
    simp only at o
    split at o
    · rename_i i is e2
      simp only [fi_ok] at o
      obtain ⟨p, vs, rfl, z, rs⟩ := lstOf_ok r qx e
      rw [ints_of rs e2] at z
      refine cr_max hc pins s σ H _ us Q I ru ⟨p, i :: is, rfl, z, by simp, fun m h1 h2 => ?_⟩
      rw [maxI_is h1 h2]
      exact o.here r (.int _)
    · exact o.elim
theorem bi_min2 (hc : X.calm = true) : CallR X (.builtin "min") (rRL X.K (biop .min2)) := by
  intro pins s σ H xs us Q I ru ⟨Cl, E, ι, h, ws, r, q, o⟩
  unfold biop at o
  split at o <;> (first | contradiction | skip)
  all_goals first | exact o.elim | skip
  obtain ⟨x, y, rfl, qx, qy⟩ := rps2 q
  obtain rfl := qx.intI
  obtain rfl := qy.intI
  exact call_min2 hc pins s σ H _ us Q I ru ⟨_, _, rfl, o.here r (.int _)⟩
theorem bi_max2 (hc : X.calm = true) : CallR X (.builtin "max") (rRL X.K (biop .max2)) := by
  intro pins s σ H xs us Q I ru ⟨Cl, E, ι, h, ws, r, q, o⟩
  unfold biop at o
  split at o <;> (first | contradiction | skip)
  all_goals first | exact o.elim | skip
  obtain ⟨x, y, rfl, qx, qy⟩ := rps2 q
  obtain rfl := qx.intI
  obtain rfl := qy.intI
  exact call_max2 hc pins s σ H _ us Q I ru ⟨_, _, rfl, o.here r (.int _)⟩
theorem bi_all (hc : X.calm = true) : CallR X (.builtin "all") (rRL X.K (biop .all)) := by
  intro pins s σ H xs us Q I ru ⟨Cl, E, ι, h, ws, r, q, o⟩
  unfold biop at o
  split at o <;> (first | contradiction | skip)
  all_goals first | exact o.elim | skip
  rename_i w _
  obtain ⟨x, rfl, qx⟩ := rps1 q
  cases e : lstOf h w with
  | none => rw [e] at o; exact o.elim
  | some ys =>
    rw [e] at o
    simp only at o
    cases e2 : mapO blOf ys with
    | none => rw [e2] at o; exact o.elim
    | some is =>
      rw [e2] at o
      obtain ⟨p, vs, rfl, z, rs⟩ := lstOf_ok r qx e
      rw [bls_of rs e2] at z
      exact cr_all hc pins s σ H _ us Q I ru ⟨p, is, rfl, z, o.here r (.bl _)⟩
theorem bi_any (hc : X.calm = true) : CallR X (.builtin "any") (rRL X.K (biop .any)) := by
  intro pins s σ H xs us Q I ru ⟨Cl, E, ι, h, ws, r, q, o⟩
  unfold biop at o
  split at o <;> (first | contradiction | skip)
  all_goals first | exact o.elim | skip
  rename_i w _
  obtain ⟨x, rfl, qx⟩ := rps1 q
  cases e : lstOf h w with
  | none => rw [e] at o; exact o.elim
  | some ys =>
    rw [e] at o
    simp only at o
    cases e2 : mapO blOf ys with
    | none => rw [e2] at o; exact o.elim
    | some is =>
      rw [e2] at o
      obtain ⟨p, vs, rfl, z, rs⟩ := lstOf_ok r qx e
      rw [bls_of rs e2] at z
      exact cr_any hc pins s σ H _ us Q I ru ⟨p, is, rfl, z, o.here r (.bl _)⟩
theorem bi_tuple : CallR X (.type "tuple") (rRL X.K (biop .tuple)) := by
  intro pins s σ H xs us Q I ru ⟨Cl, E, ι, h, ws, r, q, o⟩
  unfold biop at o
  split at o <;> (first | contradiction | skip)
  all_goals first | exact o.elim | skip
  rename_i w _
  obtain ⟨x, rfl, qx⟩ := rps1 q
  cases qx <;> simp only at o <;> try exact o.elim
  · rename_i l a vs hv rs
    exact call_tuple_of pins s σ H _ us Q I ru ⟨a, vs, rfl, .inr ⟨SqT.of hv, o.here r (.tup hv rs)⟩⟩
  · rename_i i a hi
    obtain ⟨ob, e1, q1⟩ := r.get hi
    rw [e1] at o
    cases ob <;> simp only at o <;> try exact o.elim
    obtain ⟨vs, hv, rs⟩ := q1
    exact call_tuple_of pins s σ H _ us Q I ru ⟨a, vs, rfl, .inl ⟨SqL.of hv, fun p hp => o _ _ _ (Go.other r hp) (rp_tup hp rs)⟩⟩
  · rename_i l a vs hv rs
    exact call_tuple_of pins s σ H _ us Q I ru ⟨a, vs, rfl, .inl ⟨hv.sq, fun p hp => o _ _ _ (Go.other r hp) (rp_tup hp rs)⟩⟩
theorem bi_list : CallR X (.type "list") (rRL X.K (biop .list)) := by
  intro pins s σ H xs us Q I ru ⟨Cl, E, ι, h, ws, r, q, o⟩
  unfold biop at o
  split at o <;> (first | contradiction | skip)
  all_goals first | exact o.elim | skip
  rename_i w _
  obtain ⟨x, rfl, qx⟩ := rps1 q
  cases e : seqOf h w with
  | none => rw [e] at o; exact o.elim
  | some ys =>
    rw [e] at o
    obtain ⟨p, vs, rfl, z, rs⟩ := seqOf_ok r qx e
    exact call_list_of pins s σ H _ us Q I ru ⟨p, vs, rfl, z, fun p hp => o _ _ _ (Go.lst r hp rs) (rp_new r p)⟩
theorem bi_R (hc : X.calm = true) {b : Bi} {x : Str} {f : Value} (k : BiK X b x f) : CallR X f (rRL X.K (biop b)) := by
  cases k
  · exact bi_len
  · exact bi_abs
  · exact bi_int
  · exact bi_sum hc
  · exact bi_min1 hc
  · exact bi_max1 hc
  · exact bi_min2 hc
  · exact bi_max2 hc
  · exact bi_all hc
  · exact bi_any hc
  · exact bi_tuple
  · exact bi_list
end
end R

/-! R5: expressions. -/
namespace R
open PySem PySem.Spec L2
open PyProof.Rows hiding St
section
variable {X : Cx}
theorem up_tup {H : Hp} {p : Addr} {o u : HO} (h : H p = some u) (n : ∀ xs, u ≠ .tup xs) : ∀ a xs, H a = some (.tup xs) → upd H p o a = some (.tup xs) := fun a xs e => by
  rw [upd_ne (fun z => by subst z; rw [h] at e; cases e; exact n xs rfl)]; exact e
theorem up_frz {H : Hp} {p : Addr} {o u : HO} (h : H p = some u) (n : ∀ ob v, u ≠ .frz ob v) : ∀ a ob v, HO.seqy v → H a = some (.frz ob v) → upd H p o a = some (.frz ob v) := fun a ob v _ e => by
  rw [upd_ne (fun z => by subst z; rw [h] at e; cases e; exact n ob v rfl)]; exact e
/-- a list of ours gets new items -/
theorem Go.setL {K : PySem.W.Frag} {ι : List Addr} {h : Hh} {H : Hp} (r : Rh K ι h H) {i : Nat} {a : Addr} {xs ys : List W} {vs us : List V} (e1 : ι[i]? = some a) (e2 : h[i]? = some (.lst .free xs)) (hv : H a = some (.lst vs)) (rs : Rps K ι H ys us) :
    Go K ι h H ι (h.set i (.lst .free ys)) (upd H a (.lst us)) :=
  Go.set r e1 e2 rfl ⟨us, upd_same, Rps.mono (up_tup hv (fun _ z => nomatch z)) (up_frz hv (fun _ _ z => nomatch z)) (fun _ _ e => e) rs⟩
theorem Go.rps_up {K : PySem.W.Frag} {ι : List Addr} {H : Hp} {a : Addr} {o u : HO} (hv : H a = some u) (n1 : ∀ xs, u ≠ .tup xs) (n2 : ∀ ob v, u ≠ .frz ob v) {w : W} {v : V} (q : Rp K ι H w v) : Rp K ι (upd H a o) w v :=
  Rp.mono (up_tup hv n1) (up_frz hv n2) (fun _ _ e => e) q
theorem mt_appendR : MtR X "list.append" (rRM X.K (mtop .append)) := by
  intro pins s σ H x xs v us Q I rx ru ⟨Cl, E, ι, h, a, ws, r, qa, qw, o⟩
  unfold mtop at o
  split at o <;> (first | contradiction | skip)
  all_goals first | exact o.elim | skip
  obtain ⟨p, rfl, hp⟩ := qa.refI
  obtain ⟨y, rfl, qy⟩ := rps1 qw
  obtain ⟨ob, e1, q1⟩ := r.get hp
  rw [e1] at o
  split at o
  · rename_i zs e2
    cases e2
    split at o
    · rename_i hl
      obtain ⟨vs, hv, rs⟩ := q1
      have hl' : vs.length < sizeLine := by rw [← rs.length]; exact Nat.le_of_ble_eq_true hl
      exact mt_append pins s σ H _ _ v us Q I rx ru ⟨p, vs, y, rfl, rfl, hv, hl', o _ _ _ (Go.setL r hp e1 hv (rs.append (.cons qy .nil))) .non⟩
    · exact o.elim
  · exact o.elim
theorem mt_popR : MtR X "list.pop" (rRM X.K (mtop .pop)) := by
  intro pins s σ H x xs v us Q I rx ru ⟨Cl, E, ι, h, a, ws, r, qa, qw, o⟩
  unfold mtop at o
  split at o <;> (first | contradiction | skip)
  all_goals first | exact o.elim | skip
  obtain ⟨p, rfl, hp⟩ := qa.refI
  cases qw
  obtain ⟨ob, e1, q1⟩ := r.get hp
  rw [e1] at o
  split at o
  · rename_i zs e2
    cases e2
    obtain ⟨vs, hv, rs⟩ := q1
    split at o
    · rename_i w ew
      obtain ⟨y, hy, qy⟩ := rs.get ew
      rw [rs.length] at hy
      exact mt_pop pins s σ H _ _ v us Q I rx ru ⟨p, vs, y, rfl, rfl, hv, hy, o _ _ _ (Go.setL r hp e1 hv rs.dropLast) (Go.rps_up hv (fun _ z => nomatch z) (fun _ _ z => nomatch z) qy)⟩
    · exact o.elim
  · exact o.elim
theorem mt_popAtR : MtR X "list.pop" (rRM X.K (mtop .popAt)) := by
  intro pins s σ H x xs v us Q I rx ru ⟨Cl, E, ι, h, a, ws, r, qa, qw, o⟩
  unfold mtop at o
  split at o <;> (first | contradiction | skip)
  all_goals first | exact o.elim | skip
  rename_i i _
  obtain ⟨p, rfl, hp⟩ := qa.refI
  obtain ⟨y, rfl, qy⟩ := rps1 qw
  obtain rfl := qy.intI
  obtain ⟨ob, e1, q1⟩ := r.get hp
  rw [e1] at o
  split at o
  · rename_i zs e2
    cases e2
    obtain ⟨vs, hv, rs⟩ := q1
    obtain ⟨hz, _⟩ := I.lstM hv
    cases ej : ixW zs.length i with
    | none => rw [ej] at o; exact o.elim
    | some j =>
      rw [ej] at o
      simp only at o
      split at o
      · rename_i w ew
        obtain ⟨y, hy, qy⟩ := rs.get ew
        rw [rs.length] at ej
        obtain ⟨s1, s2, s3, s4⟩ := ixN_seq ej
        have line := line63
        exact mt_popAt pins s σ H _ _ v us Q I rx ru ⟨p, vs, i, j, y, rfl, rfl, hv, by omega, by omega, s1, hy, o _ _ _ (Go.setL r hp e1 hv (rs.eraseIdx j)) (Go.rps_up hv (fun _ z => nomatch z) (fun _ _ z => nomatch z) qy)⟩
      · exact o.elim
  · exact o.elim
theorem mt_extendR : MtR X "list.extend" (rRM X.K (mtop .extend)) := by
  intro pins s σ H x xs v us Q I rx ru ⟨Cl, E, ι, h, a, ws, r, qa, qw, o⟩
  unfold mtop at o
  split at o <;> (first | contradiction | skip)
  all_goals first | exact o.elim | skip
  rename_i i j
  obtain ⟨p, rfl, hp⟩ := qa.refI
  obtain ⟨y, rfl, qy⟩ := rps1 qw
  obtain ⟨p', rfl, hp'⟩ := qy.refI
  obtain ⟨ob, e1, q1⟩ := r.get hp
  obtain ⟨ob', e1', q1'⟩ := r.get hp'
  rw [e1, e1'] at o
  split at o
  · rename_i zs zs' e2 e2'
    cases e2
    cases e2'
    split at o
    · rename_i hl
      simp only [Bool.and_eq_true] at hl
      obtain ⟨vs, hv, rs⟩ := q1
      obtain ⟨vs', hv', rs'⟩ := q1'
      have hl' := lineB_le hl.1
      rw [rs.length, rs'.length] at hl'
      exact mt_extend pins s σ H _ _ v us Q I rx ru ⟨p, p', vs, vs', rfl, rfl, hv, hv', hl', o _ _ _ (Go.setL r hp e1 hv (rs.append rs')) .non⟩
    · exact o.elim
  · exact o.elim

/-! what a call's text must be like -/
def nst : Expr → Bool
  | .Starred .. => false
  | _ => true
theorem star_cons {e : Expr} {es : List Expr} {env : Env} (h : nst e = true) : starEach (e :: es) env = (false, eval e env) :: starEach es env := by
  cases e <;> first | rfl | (simp [nst] at h)
theorem star_plain {env : Env} {pos : Pos} : ∀ {es : List Expr}, (es.all nst) = true → (backTo pos (starEach es env)).any (·.1) = false := by
  intro es h
  have z : ∀ {es : List Expr}, (es.all nst) = true → ∀ l, (l = starEach es env → ((backTo pos l).any (·.1) = false)) := by
    intro es
    induction es with
    | nil => intro _ l e; subst e; rfl
    | cons a r ih =>
      intro h l e
      simp only [List.all_cons, Bool.and_eq_true] at h
      rw [star_cons h.1] at e
      subst e
      have := ih h.2 _ rfl
      unfold backTo at this ⊢
      simpa using this
  exact z h _ rfl

/-- what a body's context has -/
structure Ce (X : Cx) (W0 : WX) : Prop where
  calm : X.calm = true
  units : X.A.units + 100 < cLine
  tk : Takes X W0
  nd : X.N.Nodup
  po : PassesOwn (model X.prog X.w) X.A X.env X.xe
section
variable {Cl : Nat → Option Addr} {W0 : WX} {a b c : Expr} {da db dc : Sl → Hh → Res W} {pos : Pos}
theorem snd_var {i : Nat} {x : Str} (hN : X.N[i]? = some x) (hv : Vis X.env.scope x) (hd : (x == ("__debug__" : Str)) = false) (hcd : (x == ("__classdict__" : Str)) = false) :
    SndE X Cl W0 (.Name x pos) (fun σ h => match σ[i]? with | some (some w) => .ok w h | _ => .stuck) := by
  refine ⟨_, pe_var hN hv hd hcd, fun ι h H σ τ Q r s o => ?_⟩
  simp only at o
  split at o
  · rename_i w e
    obtain ⟨v, e1, e2⟩ := s.2 i w e
    exact ⟨v, e1, o.here r e2⟩
  · exact o.elim
theorem snd_int {i : Int} {j : Nat} : SndE X Cl W0 (.Constant (.int i) j pos) (fun _ h => .ok (.int i) h) := ⟨_, pe_int, fun ι h H σ τ Q r s o => o.here r (.int i)⟩
theorem snd_bl {b : Bool} {j : Nat} : SndE X Cl W0 (.Constant (.bool b) j pos) (fun _ h => .ok (.bl b) h) := ⟨_, pe_bl, fun ι h H σ τ Q r s o => o.here r (.bl b)⟩
theorem snd_non {j : Nat} : SndE X Cl W0 (.Constant .none j pos) (fun _ h => .ok .non h) := ⟨_, pe_non, fun ι h H σ τ Q r s o => o.here r .non⟩
theorem snd_str {x : Str} {j : Nat} : SndE X Cl W0 (.Constant (.str x) j pos) (fun _ h => .ok (.str x) h) := ⟨_, pe_str, fun ι h H σ τ Q r s o => o.here r (.str x)⟩
/-- a module's constant -/
theorem snd_gc {x : Str} {w : W} {u : Value} {v : V} (hg : Gl X x) (hm : X.mg x = some u) (rv : RelV v u) (q : ∀ ι H, Rp X.K ι H w v) (hd : (x == ("__debug__" : Str)) = false) : SndE X Cl W0 (.Name x pos) (fun _ h => .ok w h) :=
  ⟨_, pe_glob hg hm rv hd, fun ι h H σ τ Q r s o => o.here r (q ι H)⟩
theorem snd_nil : SndL X Cl W0 [] (fun _ h => .ok [] h) := ⟨_, pa_nil, fun ι h H σ τ Q r s o => o.here r .nil⟩
theorem snd_cons {es : List Expr} {dl : Sl → Hh → Res (List W)} (hn : nst a = true) (sa : SndE X Cl W0 a da) (sl : SndL X Cl W0 es dl) :
    SndL X Cl W0 (a :: es) (fun σ h => (da σ h).bind fun x h1 => (dl σ h1).bind fun xs h2 => .ok (x :: xs) h2) := by
  obtain ⟨ta, pa, ia⟩ := sa
  obtain ⟨tl, pl, il⟩ := sl
  refine ⟨_, pa_cons pa pl (star_cons hn), fun ι h H σ τ Q r s o => ?_⟩
  exact ia ι h H σ τ _ r s (o.seq fun x h1 ι1 H1 v g q o1 => il ι1 h1 H1 σ τ _ g.rh (g.rs r s) (o1.seq fun xs h2 ι2 H2 vs g2 q2 o2 => o2.here g2.rh (.cons (g2.rp g.rh q) q2)))
theorem snd_tup {es : List Expr} {k : Nat} {dl : Sl → Hh → Res (List W)} (sl : SndL X Cl W0 es dl) : SndE X Cl W0 (.Tuple es k pos) (fun σ h => (dl σ h).bind fun ws h1 => if lineB ws.length then .ok (.tup ws) h1 else .stuck) := by
  obtain ⟨tl, pl, il⟩ := sl
  refine ⟨_, pe_tup pl, fun ι h H σ τ Q r s o => ?_⟩
  refine il ι h H σ τ _ r s (o.seq fun xs h2 ι2 H2 vs g2 q2 o2 => ?_)
  split at o2
  · rename_i c
    refine ⟨by rw [← q2.length]; exact lineB_le c, fun p hp => o2 _ _ _ (Go.other g2.rh hp) (rp_tup hp q2)⟩
  · exact o2.elim
theorem snd_lst {es : List Expr} {dl : Sl → Hh → Res (List W)} (sl : SndL X Cl W0 es dl) : SndE X Cl W0 (.List es pos) (fun σ h => (dl σ h).bind fun ws h1 => if lineB ws.length then .ok (.ref h1.length) (h1 ++ [.lst .free ws]) else .stuck) := by
  obtain ⟨tl, pl, il⟩ := sl
  refine ⟨_, pe_lst pl, fun ι h H σ τ Q r s o => ?_⟩
  refine il ι h H σ τ _ r s (o.seq fun xs h2 ι2 H2 vs g2 q2 o2 => ?_)
  split at o2
  · rename_i c
    refine ⟨by rw [← q2.length]; exact lineB_le c, fun p hp => o2 _ _ _ (Go.lst g2.rh hp q2) (rp_new g2.rh p)⟩
  · exact o2.elim
theorem snd_dnewK : SndE X Cl W0 (.Dict [] [] pos) (fun _ h => .ok (.ref h.length) (h ++ [.dK .free []])) :=
  ⟨_, pe_dnewK, fun ι h H σ τ Q r s o p hp => o _ _ _ (Go.alloc r hp ⟨[], upd_same, .nil⟩) (rp_new r p)⟩
theorem snd_dnewT : SndE X Cl W0 (.Dict [] [] pos) (fun _ h => .ok (.ref h.length) (h ++ [.dT .free []])) :=
  ⟨_, pe_dnewT, fun ι h H σ τ Q r s o p hp => o _ _ _ (Go.alloc r hp ⟨[], upd_same, .nil⟩) (rp_new r p)⟩
theorem snd_bin {o : BOp} (sa : SndE X Cl W0 a da) (sb : SndE X Cl W0 b db) : SndE X Cl W0 (.BinOp a o.py b pos) (fun σ h => (da σ h).bind fun x h1 => (db σ h1).bind fun y h2 => binop o x y h2) := by
  obtain ⟨ta, pa, ia⟩ := sa
  obtain ⟨tb, pb, ib⟩ := sb
  refine ⟨_, pe_op (op_binR o) pa pb, fun ι h H σ τ Q r s O => ?_⟩
  exact ia ι h H σ τ _ r s (O.seq fun x h1 ι1 H1 v g q o1 => ib ι1 h1 H1 σ τ _ g.rh (g.rs r s) (o1.seq fun y h2 ι2 H2 u g2 q2 o2 => ⟨Cl, _, ι2, h2, x, y, g2.rh, g2.rp g.rh q, q2, o2⟩))
theorem snd_neg (sa : SndE X Cl W0 a da) : SndE X Cl W0 (.UnaryOp .USub a pos) (fun σ h => (da σ h).bind fun x h1 => match x with | .int i => fi (-i) fun k => .ok (.int k) h1 | _ => .stuck) := by
  obtain ⟨ta, pa, ia⟩ := sa
  refine ⟨_, pe_un un_negR pa, fun ι h H σ τ Q r s O => ?_⟩
  exact ia ι h H σ τ _ r s (O.seq fun x h1 ι1 H1 v g q o1 => ⟨Cl, _, ι1, h1, x, g.rh, q, o1⟩)
theorem snd_not (sa : SndE X Cl W0 a da) : SndE X Cl W0 (.UnaryOp .Not a pos) (fun σ h => (da σ h).bind fun x h1 => match truth h1 x with | some b => .ok (.bl (!b)) h1 | none => .stuck) := by
  obtain ⟨ta, pa, ia⟩ := sa
  refine ⟨_, pe_notT pa, fun ι h H σ τ Q r s O => ?_⟩
  refine ia ι h H σ τ _ r s (O.seq fun x h1 ι1 H1 v g q o1 => ?_)
  split at o1
  · rename_i b e
    exact ⟨b, truth_ok g.rh q e, o1.here g.rh (.bl _)⟩
  · exact o1.elim
theorem snd_cmp (C : Ce X W0) {o : COp} (sa : SndE X Cl W0 a da) (sb : SndE X Cl W0 b db) (hm : behindInMarks o.py b = false) :
    SndE X Cl W0 (.Compare a [o.py] [b] pos) (fun σ h => (da σ h).bind fun x h1 => (db σ h1).bind fun y h2 => match cmpop o x y h2 with | some c => .ok (.bl c) h2 | none => .stuck) := by
  obtain ⟨ta, pa, ia⟩ := sa
  obtain ⟨tb, pb, ib⟩ := sb
  refine ⟨_, pe_cmpR (op_cmpR C.units o) pa pb hm, fun ι h H σ τ Q r s O => ?_⟩
  exact ia ι h H σ τ _ r s (O.seq fun x h1 ι1 H1 v g q o1 => ib ι1 h1 H1 σ τ _ g.rh (g.rs r s) (o1.seq fun y h2 ι2 H2 u g2 q2 o2 => ⟨Cl, _, ι2, h2, x, y, g2.rh, g2.rp g.rh q, q2, o2⟩))
theorem snd_chain (C : Ce X W0) {o o' : COp} (sa : SndE X Cl W0 a da) (sb : SndE X Cl W0 b db) (sc : SndE X Cl W0 c dc) (hm : lastMarks [o.py, o'.py] [b, c] = false) :
    SndE X Cl W0 (.Compare a [o.py, o'.py] [b, c] pos) (fun σ h => (da σ h).bind fun x h1 => (db σ h1).bind fun y h2 => match cmpop o x y h2 with
      | some true => (dc σ h2).bind fun z h3 => (match cmpop o' y z h3 with | some c => .ok (.bl c) h3 | none => .stuck)
      | some false => .ok (.bl false) h2
      | none => .stuck) := by
  obtain ⟨ta, pa, ia⟩ := sa
  obtain ⟨tb, pb, ib⟩ := sb
  obtain ⟨tc, pc, ic⟩ := sc
  refine ⟨_, pe_chain (op_cmpR C.units o) (op_cmpR C.units o') pa pb pc hm, fun ι h H σ τ Q r s O => ?_⟩
  refine ia ι h H σ τ _ r s (O.seq fun x h1 ι1 H1 v g q o1 => ib ι1 h1 H1 σ τ _ g.rh (g.rs r s) (o1.seq fun y h2 ι2 H2 u g2 q2 o2 => ?_))
  refine ⟨Cl, WE W0 τ, ι2, h2, x, y, g2.rh, g2.rp g.rh q, q2, ?_⟩
  unfold R.o2
  cases e : cmpop o x y h2 with
  | none => rw [e] at o2; exact o2.elim
  | some k =>
    rw [e] at o2
    refine fun ι3 H3 z g3 q3 => ?_
    cases q3
    refine ⟨k, rfl, ?_⟩
    cases k with
    | false =>
      rw [if_neg (by decide)]
      exact o2 _ _ _ g3 (.bl _)
    | true =>
      rw [if_pos rfl]
      exact ic ι3 h2 H3 σ τ _ g3.rh (g3.rs g2.rh (g2.rs g.rh (g.rs r s))) ((o2.from g3).seq fun z h4 ι4 H4 vz g4 q4 o4 => ⟨Cl, _, ι4, h4, y, z, g4.rh, g4.rp g3.rh (g3.rp g2.rh q2), q4, o4⟩)
theorem snd_isn {neg : Bool} {j : Nat} {p2 : Pos} (sa : SndE X Cl W0 a da) : SndE X Cl W0 (.Compare a [if neg then .IsNot else .Is] [.Constant .none j p2] pos) (fun σ h => (da σ h).bind fun x h1 => match x with | .non => .ok (.bl (!neg)) h1 | _ => .ok (.bl neg) h1) := by
  obtain ⟨ta, pa, ia⟩ := sa
  cases neg with
  | false =>
    refine ⟨_, pe_cmp (pc_isN pa) (nobehind _ (by decide) (by decide)), fun ι h H σ τ Q r s O => ?_⟩
    refine ia ι h H σ τ _ r s (O.seq fun x h1 ι1 H1 v g q o1 => ?_)
    cases q <;> exact o1.here g.rh (.bl _)
  | true =>
    refine ⟨_, pe_cmp (pc_notN pa) (nobehind _ (by decide) (by decide)), fun ι h H σ τ Q r s O => ?_⟩
    refine ia ι h H σ τ _ r s (O.seq fun x h1 ι1 H1 v g q o1 => ?_)
    cases q <;> exact o1.here g.rh (.bl _)
theorem snd_and {rest : List Expr} (sa : SndE X Cl W0 a da) (sb : SndE X Cl W0 (.BoolOp .And (b :: rest) pos) db) :
    SndE X Cl W0 (.BoolOp .And (a :: b :: rest) pos) (fun σ h => (da σ h).bind fun x h1 => match truth h1 x with | some true => db σ h1 | some false => .ok x h1 | none => .stuck) := by
  obtain ⟨ta, pa, ia⟩ := sa
  obtain ⟨tb, pb, ib⟩ := sb
  refine ⟨_, pe_andT pa pb, fun ι h H σ τ Q r s O => ?_⟩
  refine ia ι h H σ τ _ r s (O.seq fun x h1 ι1 H1 v g q o1 => ?_)
  split at o1
  · rename_i e
    exact ⟨true, truth_ok g.rh q e, by rw [if_pos rfl]; exact ib ι1 h1 H1 σ τ _ g.rh (g.rs r s) o1⟩
  · rename_i e
    exact ⟨false, truth_ok g.rh q e, by rw [if_neg (by decide)]; exact o1.here g.rh q⟩
  · exact o1.elim
theorem snd_or {rest : List Expr} (sa : SndE X Cl W0 a da) (sb : SndE X Cl W0 (.BoolOp .Or (b :: rest) pos) db) :
    SndE X Cl W0 (.BoolOp .Or (a :: b :: rest) pos) (fun σ h => (da σ h).bind fun x h1 => match truth h1 x with | some true => .ok x h1 | some false => db σ h1 | none => .stuck) := by
  obtain ⟨ta, pa, ia⟩ := sa
  obtain ⟨tb, pb, ib⟩ := sb
  refine ⟨_, pe_orT pa pb, fun ι h H σ τ Q r s O => ?_⟩
  refine ia ι h H σ τ _ r s (O.seq fun x h1 ι1 H1 v g q o1 => ?_)
  split at o1
  · rename_i e
    exact ⟨true, truth_ok g.rh q e, by rw [if_pos rfl]; exact o1.here g.rh q⟩
  · rename_i e
    exact ⟨false, truth_ok g.rh q e, by rw [if_neg (by decide)]; exact ib ι1 h1 H1 σ τ _ g.rh (g.rs r s) o1⟩
  · exact o1.elim
theorem snd_bool1 {op : BoolOp} (sa : SndE X Cl W0 a da) : SndE X Cl W0 (.BoolOp op [a] pos) da := by
  obtain ⟨ta, pa, ia⟩ := sa
  exact ⟨_, pe_one pa, ia⟩
theorem snd_ite {dt : Sl → Hh → Res Bool} (sc : SndT X Cl W0 c dt) (sa : SndE X Cl W0 a da) (sb : SndE X Cl W0 b db) :
    SndE X Cl W0 (.IfExp c a b pos) (fun σ h => (dt σ h).bind fun k h1 => match k with | true => da σ h1 | false => db σ h1) := by
  obtain ⟨tc, pc, ic⟩ := sc
  obtain ⟨ta, pa, ia⟩ := sa
  obtain ⟨tb, pb, ib⟩ := sb
  refine ⟨_, pe_ifExp pc pa pb, fun ι h H σ τ Q r s O => ?_⟩
  refine ic ι h H σ τ _ r s (O.seq fun k h1 ι1 H1 v g q o1 => ?_)
  have q' : k = v := q
  subst q'
  cases k with
  | true => rw [if_pos rfl]; exact ia ι1 h1 H1 σ τ _ g.rh (g.rs r s) o1
  | false => rw [if_neg (by decide)]; exact ib ι1 h1 H1 σ τ _ g.rh (g.rs r s) o1
theorem snd_ix (C : Ce X W0) (sa : SndE X Cl W0 a da) (sb : SndE X Cl W0 b db) (hs : PlainIx b) : SndE X Cl W0 (.Subscript a b pos) (fun σ h => (da σ h).bind fun x h1 => (db σ h1).bind fun y h2 => ofO (index x y h2) h2) := by
  obtain ⟨ta, pa, ia⟩ := sa
  obtain ⟨tb, pb, ib⟩ := sb
  refine ⟨_, pe_ix (ix_R C.units) pa pb hs, fun ι h H σ τ Q r s O => ?_⟩
  exact ia ι h H σ τ _ r s (O.seq fun x h1 ι1 H1 v g q o1 => ib ι1 h1 H1 σ τ _ g.rh (g.rs r s) (o1.seq fun y h2 ι2 H2 u g2 q2 o2 => ⟨Cl, _, ι2, h2, x, y, g2.rh, g2.rp g.rh q, q2, o2⟩))
theorem snd_sall {p2 : Pos} (sa : SndE X Cl W0 a da) : SndE X Cl W0 (.Subscript a (.Slice none none none p2) pos) (fun σ h => (da σ h).bind fun x h1 => sliceop x none none h1) := by
  obtain ⟨ta, pa, ia⟩ := sa
  refine ⟨_, pe_slice sl_R pa po_none po_none, fun ι h H σ τ Q r s O => ?_⟩
  exact ia ι h H σ τ _ r s (O.seq fun x h1 ι1 H1 v g q o1 => ⟨Cl, _, ι1, h1, x, g.rh, q, o1⟩)
theorem snd_slo {p2 : Pos} (sa : SndE X Cl W0 a da) (sb : SndE X Cl W0 b db) : SndE X Cl W0 (.Subscript a (.Slice (some b) none none p2) pos) (fun σ h => (da σ h).bind fun x h1 => (db σ h1).bind fun y h2 => match y with | .int i => sliceop x (some i) none h2 | _ => .stuck) := by
  obtain ⟨ta, pa, ia⟩ := sa
  obtain ⟨tb, pb, ib⟩ := sb
  refine ⟨_, pe_slice sl_R pa (po_some pb) po_none, fun ι h H σ τ Q r s O => ?_⟩
  refine ia ι h H σ τ _ r s (O.seq fun x h1 ι1 H1 v g q o1 => ib ι1 h1 H1 σ τ _ g.rh (g.rs r s) (o1.seq fun y h2 ι2 H2 u g2 q2 o2 => ?_))
  cases q2 <;> try exact o2.elim
  exact ⟨_, rfl, Cl, _, ι2, h2, x, g2.rh, g2.rp g.rh q, o2⟩
theorem snd_shi {p2 : Pos} (sa : SndE X Cl W0 a da) (sb : SndE X Cl W0 b db) : SndE X Cl W0 (.Subscript a (.Slice none (some b) none p2) pos) (fun σ h => (da σ h).bind fun x h1 => (db σ h1).bind fun y h2 => match y with | .int i => sliceop x none (some i) h2 | _ => .stuck) := by
  obtain ⟨ta, pa, ia⟩ := sa
  obtain ⟨tb, pb, ib⟩ := sb
  refine ⟨_, pe_slice sl_R pa po_none (po_some pb), fun ι h H σ τ Q r s O => ?_⟩
  refine ia ι h H σ τ _ r s (O.seq fun x h1 ι1 H1 v g q o1 => ib ι1 h1 H1 σ τ _ g.rh (g.rs r s) (o1.seq fun y h2 ι2 H2 u g2 q2 o2 => ?_))
  cases q2 <;> try exact o2.elim
  exact ⟨_, rfl, Cl, _, ι2, h2, x, g2.rh, g2.rp g.rh q, o2⟩
theorem snd_slh {p2 : Pos} (sa : SndE X Cl W0 a da) (sb : SndE X Cl W0 b db) (sc : SndE X Cl W0 c dc) : SndE X Cl W0 (.Subscript a (.Slice (some b) (some c) none p2) pos)
    (fun σ h => (da σ h).bind fun x h1 => (db σ h1).bind fun y h2 => match y with | .int i => (dc σ h2).bind fun z h3 => (match z with | .int j => sliceop x (some i) (some j) h3 | _ => .stuck) | _ => .stuck) := by
  obtain ⟨ta, pa, ia⟩ := sa
  obtain ⟨tb, pb, ib⟩ := sb
  obtain ⟨tc, pc, ic⟩ := sc
  refine ⟨_, pe_slice sl_R pa (po_some pb) (po_some pc), fun ι h H σ τ Q r s O => ?_⟩
  refine ia ι h H σ τ _ r s (O.seq fun x h1 ι1 H1 v g q o1 => ib ι1 h1 H1 σ τ _ g.rh (g.rs r s) (o1.seq fun y h2 ι2 H2 u g2 q2 o2 => ?_))
  cases q2 <;> try exact o2.elim
  refine ⟨_, rfl, ic ι2 h2 H2 σ τ _ g2.rh (g2.rs g.rh (g.rs r s)) (o2.seq fun z h3 ι3 H3 uz g3 q3 o3 => ?_)⟩
  cases q3 <;> try exact o3.elim
  exact ⟨_, rfl, Cl, _, ι3, h3, x, g3.rh, g3.rp g2.rh (g2.rp g.rh q), o3⟩
theorem vals_two {K : PySem.W.Frag} {H : Hp} {p : Addr} {xs : List V} (h : H p = some (.tup xs)) : SqT K H p xs := SqT.of h
/-- isinstance(x, T): T a built-in type's name -/
theorem snd_isi {t : Ty} {px pt pf : Pos} (hg : Gl X "isinstance") (hm : X.mg "isinstance" = none) (gt : Gl X (PySem.Str.ofString t.py)) (mt : X.mg (PySem.Str.ofString t.py) = none) (hn : nst a = true) (sa : SndE X Cl W0 a da) :
    SndE X Cl W0 (.Call (.Name "isinstance" px) [a, .Name (PySem.Str.ofString t.py) pt] [] pos) (fun σ h => (da σ h).bind fun x h1 => match isiW h1 x t with | some b => .ok (.bl b) h1 | none => .stuck) := by
  obtain ⟨ta, pa, ia⟩ := sa
  have hv : bootBuiltins (PySem.Str.ofString t.py) = some (.type t.py) := by cases t <;> decide +kernel
  have h1 : PySem.Str.ofString t.py ≠ "__name__" := by cases t <;> decide +kernel
  have h2 : (PySem.Str.ofString t.py == ("__debug__" : Str)) = false := by cases t <;> decide +kernel
  refine ⟨_, pe_callB call_isi hg hm (by decide +kernel) (pa_cons pa (pa_cons (pe_bltn (v := .ty t.py) gt mt hv rfl h1 h2) pa_nil) (star_cons hn)) (by decide) (by decide) (star_cons hn) (star_plain rfl), fun ι h H σ τ Q r s O => ?_⟩
  refine ia ι h H σ τ _ r s (O.seq fun x h1 ι1 H1 v g q o1 => ?_)
  split at o1
  · rename_i b e
    obtain ⟨ty, z1, z2⟩ := isi_ok g.rh q e
    exact ⟨v, _, ty, _, b, rfl, .ty _, z1, z2, o1.here g.rh (.bl _)⟩
  · exact o1.elim
/-- a built-in called -/
theorem snd_bi (C : Ce X W0) {bi : Bi} {x : Str} {f : Value} {es : List Expr} {dl : Sl → Hh → Res (List W)} {px : Pos} (k : BiK X bi x f) (hg : Gl X x) (hm : X.mg x = none) (hv : bootBuiltins x = some f) (h1 : x ≠ "__name__") (h2 : (x == ("__debug__" : Str)) = false)
    (hn : nst a = true) (hns : es.all nst = true) (sl : SndL X Cl W0 (a :: es) dl) : SndE X Cl W0 (.Call (.Name x px) (a :: es) [] pos) (fun σ h => (dl σ h).bind fun ws h1 => biop bi ws h1) := by
  obtain ⟨tl, pl, il⟩ := sl
  have R := bi_R C.calm k
  have fin : ∀ t : TE, t = tCB (rRL X.K (biop bi)) tl → ∀ ι h H σ τ Q, Rh X.K ι h H → Rs X.K ι H σ τ → Out X.K Cl (Rp X.K) (WE W0 τ) ι h H ((dl σ h).bind fun ws h1 => biop bi ws h1) Q → t τ H Q := by
    intro t et ι h H σ τ Q r s O
    subst et
    exact il ι h H σ τ _ r s (O.seq fun ws h2 ι2 H2 vs g q o => ⟨Cl, _, ι2, h2, ws, g.rh, q, o⟩)
  cases k
  all_goals first
    | exact ⟨_, pe_callB R hg hm hv pl h1 h2 (star_cons hn) (star_plain hns), fin _ rfl⟩
    | exact ⟨_, pe_callTy R hg hm hv pl h1 h2 (star_cons hn) (star_plain hns), fin _ rfl⟩

/-- what a method's receiver may look like -/
def rcv : Expr → Bool
  | .Call (.Name id _) [] [] _ => id != "super"
  | _ => true
theorem base_ok {o : Expr} {m : Str} {env : Env} {w : Sem Value} (h : rcv o = true) : attributeBase o m env w = w := by
  unfold attributeBase
  split
  · rename_i id p pos
    have h' : (id != ("super" : Str)) = true := h
    rw [h']
    rfl
  · rfl
theorem few_ok {es : List Expr} {env : Env} {pos : Pos} (h : es.all nst = true) (hl : es.length < 30) :
    ((backTo pos (starEach es env)).all (fun x => !x.1) && (backToKw pos (keywordEach [] env)).all (fun x => x.1.isSome) && decide (es.length + ([] : List Keyword).length + (if ([] : List Keyword).isEmpty then 0 else 1) < 30)) = true := by
  have p := star_plain (env := env) (pos := pos) h
  have q : ((backTo pos (starEach es env)).all (fun x => !x.1)) = true := by
    rw [List.all_eq_true]
    intro x hx
    rw [List.any_eq_false] at p
    simpa using p x hx
  rw [q]
  have e : (backToKw pos (keywordEach [] env)).all (fun x => x.1.isSome) = true := rfl
  rw [e]
  simpa using hl
/-- a list's method with arguments -/
theorem snd_mtL {m : Mt} {name : Str} {id : String} {o : Expr} {es : List Expr} {dl : Sl → Hh → Res (List W)} {apos cpos : Pos} (slot : Slot "list" name id) (hty : typeOf (.builtin id) = pure (.type "method_descriptor")) (hm : MtR X id (rRM X.K (mtop m)))
    (hr : rcv o = true) (hl : (apos.endLine == cpos.line) = true) (hn : nst a = true) (hns : es.all nst = true) (hlen : (a :: es).length < 30) (so : SndE X Cl W0 o db) (sl : SndL X Cl W0 (a :: es) dl) :
    SndE X Cl W0 (.Call (.Attribute o name apos) (a :: es) [] cpos) (fun σ h => (db σ h).bind fun x h1 => (match x with | .ref i => (match h1[i]? with | some (.lst _ _) => (dl σ h1).bind fun ws h2 => mtop m x ws h2 | _ => .stuck) | _ => .stuck)) := by
  obtain ⟨to, po, io⟩ := so
  obtain ⟨tl, pl, il⟩ := sl
  refine ⟨_, pe_bm PySem.F.plainAttrs_list slot hty hm po pl (base_ok hr) (few_ok (by simp [hn, hns]) hlen) hl (star_cons hn) (star_plain hns), fun ι h H σ τ Q r s O => ?_⟩
  refine io ι h H σ τ _ r s (O.seq fun x h1 ι1 H1 v g q o1 => ?_)
  cases q <;> try exact o1.elim
  rename_i i p hi
  simp only at o1
  split at o1
  · rename_i k xs e
    obtain ⟨vs, hv, rs⟩ := g.rh.lst hi e
    refine ⟨Or.inl ⟨rfl, vs, SqL.of hv⟩, il ι1 h1 H1 σ τ _ g.rh (g.rs r s) (o1.seq fun ws h2 ι2 H2 us g2 q2 o2 => ?_)⟩
    exact ⟨Cl, _, ι2, h2, _, ws, g2.rh, g2.rp g.rh (.ref hi), q2, o2⟩
  · exact o1.elim
theorem snd_mtL0 {m : Mt} {name : Str} {id : String} {o : Expr} {apos cpos : Pos} (slot : Slot "list" name id) (hty : typeOf (.builtin id) = pure (.type "method_descriptor")) (hm : MtR X id (rRM X.K (mtop m)))
    (hr : rcv o = true) (hl : (apos.endLine == cpos.line) = true) (so : SndE X Cl W0 o db) :
    SndE X Cl W0 (.Call (.Attribute o name apos) [] [] cpos) (fun σ h => (db σ h).bind fun x h1 => (match x with | .ref i => (match h1[i]? with | some (.lst _ _) => mtop m x [] h1 | _ => .stuck) | _ => .stuck)) := by
  obtain ⟨to, po, io⟩ := so
  refine ⟨_, pe_bm0 PySem.F.plainAttrs_list slot hty hm po (base_ok hr) hl, fun ι h H σ τ Q r s O => ?_⟩
  refine io ι h H σ τ _ r s (O.seq fun x h1 ι1 H1 v g q o1 => ?_)
  cases q <;> try exact o1.elim
  rename_i i p hi
  simp only at o1
  split at o1
  · rename_i k xs e
    obtain ⟨vs, hv, rs⟩ := g.rh.lst hi e
    exact ⟨Or.inl ⟨rfl, vs, SqL.of hv⟩, Cl, _, ι1, h1, _, [], g.rh, .ref hi, .nil, o1⟩
  · exact o1.elim
theorem isD_of {K : PySem.W.Frag} {ι : List Addr} {h : Hh} {H : Hp} (r : Rh K ι h H) {i : Nat} {p : Addr} (hi : ι[i]? = some p) {ob : Ob} (e : h[i]? = some ob) (n : ∀ k xs, ob ≠ .lst k xs) : IsD H p := by
  have q := r.at_ i p ob hi e
  cases ob with
  | lst k xs => exact absurd rfl (n k xs)
  | dK k xs =>
    cases k with
    | free => obtain ⟨vs, hv, _⟩ := q; exact .inl ⟨vs, .inl hv⟩
    | lock => obtain ⟨vs, hv, _⟩ := q; exact .inl ⟨vs, .inl hv⟩
    | froz => obtain ⟨o, vs, hv, _⟩ := q; exact .inl ⟨vs, .inr ⟨o, hv⟩⟩
  | dT k xs =>
    cases k with
    | free => obtain ⟨vs, hv, _⟩ := q; exact .inr ⟨vs, .inl hv⟩
    | lock => obtain ⟨vs, hv, _⟩ := q; exact .inr ⟨vs, .inl hv⟩
    | froz => obtain ⟨o, vs, hv, _⟩ := q; exact .inr ⟨vs, .inr ⟨o, hv⟩⟩
/-- d.get(k) -/
theorem snd_get1 (C : Ce X W0) {o : Expr} {apos cpos : Pos} (hr : rcv o = true) (hl : (apos.endLine == cpos.line) = true) (hn : nst a = true) (so : SndE X Cl W0 o db) (sa : SndE X Cl W0 a da) :
    SndE X Cl W0 (.Call (.Attribute o "get" apos) [a] [] cpos) (fun σ h => (db σ h).bind fun x h1 => if isDict h1 x then (da σ h1).bind fun y h2 => mtop .get1 x [y] h2 else .stuck) := by
  obtain ⟨to, po, io⟩ := so
  obtain ⟨ta, pa, ia⟩ := sa
  have tr : backTo cpos (starEach [a] X.env) = [(false, eval a X.env)] := by rw [star_cons hn]; rfl
  refine ⟨_, pe_dget1 (by have := C.units; omega) po pa ⟨base_ok hr, few_ok (by simp [hn]) (by simp), hl, tr⟩, fun ι h H σ τ Q r s O => ?_⟩
  refine io ι h H σ τ _ r s (O.seq fun x h1 ι1 H1 v g q o1 => ?_)
  split at o1
  · rename_i hd
    cases q <;> simp only [isDict] at hd <;> try (cases hd; done)
    rename_i i p hi
    obtain ⟨ob, e, _⟩ := g.rh.get hi
    have nl : ∀ k xs, ob ≠ .lst k xs := fun k xs z => by subst z; rw [e] at hd; simp at hd
    refine ⟨p, rfl, isD_of g.rh hi e nl, ia ι1 h1 H1 σ τ _ g.rh (g.rs r s) (o1.seq fun y h2 ι2 H2 u g2 q2 o2 => ?_)⟩
    simp only [mtop] at o2
    cases ed : dget h2 (.ref i) y with
    | none => rw [ed] at o2; exact o2.elim
    | some od =>
      rw [ed] at o2
      obtain ⟨p', ov, ey, gd, z⟩ := dget_ok g2.rh (.ref (g2.preI _ _ hi)) q2 ed
      cases ey
      rcases z with ⟨z1, z2⟩ | ⟨w, v', z1, z2, z3⟩
      · subst z1; subst z2; exact ⟨_, gd, o2.here g2.rh .non⟩
      · subst z1; subst z2; exact ⟨_, gd, o2.here g2.rh z3⟩
  · exact o1.elim
/-- d.get(k, x) -/
theorem snd_get2 (C : Ce X W0) {o : Expr} {apos cpos : Pos} (hr : rcv o = true) (hl : (apos.endLine == cpos.line) = true) (hn : nst a = true) (hn2 : nst c = true) (so : SndE X Cl W0 o db) (sa : SndE X Cl W0 a da) (sc : SndE X Cl W0 c dc) :
    SndE X Cl W0 (.Call (.Attribute o "get" apos) [a, c] [] cpos) (fun σ h => (db σ h).bind fun x h1 => if isDict h1 x then (da σ h1).bind fun y h2 => (dc σ h2).bind fun z h3 => mtop .get2 x [y, z] h3 else .stuck) := by
  obtain ⟨to, po, io⟩ := so
  obtain ⟨ta, pa, ia⟩ := sa
  obtain ⟨tc, pc, ic⟩ := sc
  have tr : backTo cpos (starEach [a, c] X.env) = [(false, eval a X.env), (false, eval c X.env)] := by rw [star_cons hn, star_cons hn2]; rfl
  refine ⟨_, pe_dget2 (by have := C.units; omega) po pa pc ⟨base_ok hr, few_ok (by simp [hn, hn2]) (by simp), hl, tr⟩, fun ι h H σ τ Q r s O => ?_⟩
  refine io ι h H σ τ _ r s (O.seq fun x h1 ι1 H1 v g q o1 => ?_)
  split at o1
  · rename_i hd
    cases q <;> simp only [isDict] at hd <;> try (cases hd; done)
    rename_i i p hi
    obtain ⟨ob, e, _⟩ := g.rh.get hi
    have nl : ∀ k xs, ob ≠ .lst k xs := fun k xs z => by subst z; rw [e] at hd; simp at hd
    refine ⟨p, rfl, isD_of g.rh hi e nl, ia ι1 h1 H1 σ τ _ g.rh (g.rs r s) (o1.seq fun y h2 ι2 H2 u g2 q2 o2 => ?_)⟩
    refine ic ι2 h2 H2 σ τ _ g2.rh (g2.rs g.rh (g.rs r s)) (o2.seq fun yd h3 ι3 H3 ud g3 q3 o3 => ?_)
    simp only [mtop] at o3
    cases ed : dget h3 (.ref i) y with
    | none => rw [ed] at o3; exact o3.elim
    | some od =>
      rw [ed] at o3
      obtain ⟨p', ov, ey, gd, z⟩ := dget_ok g3.rh (.ref (g3.preI _ _ (g2.preI _ _ hi))) (g3.rp g2.rh q2) ed
      cases ey
      rcases z with ⟨z1, z2⟩ | ⟨w, v', z1, z2, z3⟩
      · subst z1; subst z2; exact ⟨_, gd, o3.here g3.rh q3⟩
      · subst z1; subst z2; exact ⟨_, gd, o3.here g3.rh z3⟩
  · exact o1.elim
end
end
end R

/-! R6: tests, calls of defs, what is walked, comprehensions. -/
namespace R
open PySem PySem.Spec L2
open PyProof.Rows hiding St
theorem Out.seqE {α β α' β' : Type} {K : PySem.W.Frag} {Cl : Nat → Option Addr} {ι : List Addr} {h : Hh} {H : Hp} {E : XW} {S : List Addr → Hp → α → β → Prop} {S' : List Addr → Hp → α' → β' → Prop} {r : Res α'} {f : α' → Hh → Res α} {Q : β → Hp → Prop} {Q' : β' → Hp → Prop} (o : Out K Cl S E ι h H (r.bind f) Q)
    (k : ∀ a h1 ι1 H1 b, r = .ok a h1 → Go K ι h H ι1 h1 H1 → S' ι1 H1 a b → Out K Cl S E ι1 h1 H1 (f a h1) Q → Q' b H1) : Out K Cl S' E ι h H r Q' := by
  cases r with
  | ok a h2 => exact fun ι2 H2 b g2 s => k a h2 ι2 H2 b rfl g2 s (Out.from g2 o)
  | ex k w h2 => exact o
  | stuck => exact o
/-- an expression that is a comparison: as a value and as a test -/
def SndB (X : Cx) (Cl : Nat → Option Addr) (W0 : WX) (e : Expr) (d : Sl → Hh → Res W) : Prop := ∃ t : TE, PE X e t ∧ PT X e (tTest t) ∧
  ∀ ι h H σ τ Q, Rh X.K ι h H → Rs X.K ι H σ τ → Out X.K Cl (Rp X.K) (WE W0 τ) ι h H (d σ h) Q → t τ H Q
def BlR (d : Sl → Hh → Res W) : Prop := ∀ σ h w h', d σ h = .ok w h' → ∃ c, w = .bl c
section
variable {X : Cx} {Cl : Nat → Option Addr} {W0 : WX} {a b c : Expr} {da db dc : Sl → Hh → Res W} {pos : Pos}
theorem SndB.e {e : Expr} {d : Sl → Hh → Res W} (s : SndB X Cl W0 e d) : SndE X Cl W0 e d := let ⟨t, p, _, i⟩ := s; ⟨t, p, i⟩
theorem SndB.t {e : Expr} {d : Sl → Hh → Res W} (s : SndB X Cl W0 e d) (bl : BlR d) : SndT X Cl W0 e (fun σ h => (d σ h).bind fun x h1 => ofO (truth h1 x) h1) := by
  obtain ⟨t, _, p, i⟩ := s
  refine ⟨_, p, fun ι h H σ τ Q r s O => ?_⟩
  refine i ι h H σ τ _ r s (O.seqE fun x h1 ι1 H1 v e g q o => ?_)
  obtain ⟨k, rfl⟩ := bl _ _ _ _ e
  cases q
  exact ⟨k, rfl, o.here g.rh rfl⟩
theorem bind_ok {α β : Type} {r : Res α} {f : α → Hh → Res β} {b : β} {h' : Hh} (e : r.bind f = .ok b h') : ∃ a h1, r = .ok a h1 ∧ f a h1 = .ok b h' := by
  cases r with
  | ok a h1 => exact ⟨a, h1, rfl, e⟩
  | ex k w h1 => cases e
  | stuck => cases e
theorem snd_cmpB (C : Ce X W0) {o : COp} (sa : SndE X Cl W0 a da) (sb : SndE X Cl W0 b db) (hm : behindInMarks o.py b = false) :
    SndB X Cl W0 (.Compare a [o.py] [b] pos) (fun σ h => (da σ h).bind fun x h1 => (db σ h1).bind fun y h2 => match cmpop o x y h2 with | some c => .ok (.bl c) h2 | none => .stuck) := by
  obtain ⟨ta, pa, ia⟩ := sa
  obtain ⟨tb, pb, ib⟩ := sb
  refine ⟨_, pe_cmpR (op_cmpR C.units o) pa pb hm, pt_cmpR (op_cmpR C.units o) pa pb hm, fun ι h H σ τ Q r s O => ?_⟩
  exact ia ι h H σ τ _ r s (O.seq fun x h1 ι1 H1 v g q o1 => ib ι1 h1 H1 σ τ _ g.rh (g.rs r s) (o1.seq fun y h2 ι2 H2 u g2 q2 o2 => ⟨Cl, _, ι2, h2, x, y, g2.rh, g2.rp g.rh q, q2, o2⟩))
theorem bl_cmp {o : COp} : BlR (fun σ h => (da σ h).bind fun x h1 => (db σ h1).bind fun y h2 => match cmpop o x y h2 with | some c => .ok (.bl c) h2 | none => .stuck) := fun σ h w h' e => by
  obtain ⟨x, h1, _, e⟩ := bind_ok e
  obtain ⟨y, h2, _, e⟩ := bind_ok e
  split at e
  · cases e; exact ⟨_, rfl⟩
  · cases e
theorem snd_chainB (C : Ce X W0) {o o' : COp} (sa : SndE X Cl W0 a da) (sb : SndE X Cl W0 b db) (sc : SndE X Cl W0 c dc) (hm : lastMarks [o.py, o'.py] [b, c] = false) :
    SndB X Cl W0 (.Compare a [o.py, o'.py] [b, c] pos) (fun σ h => (da σ h).bind fun x h1 => (db σ h1).bind fun y h2 => match cmpop o x y h2 with
      | some true => (dc σ h2).bind fun z h3 => (match cmpop o' y z h3 with | some c => .ok (.bl c) h3 | none => .stuck)
      | some false => .ok (.bl false) h2
      | none => .stuck) := by
  obtain ⟨ta, pa, ia⟩ := sa
  obtain ⟨tb, pb, ib⟩ := sb
  obtain ⟨tc, pc, ic⟩ := sc
  refine ⟨_, pe_chain (op_cmpR C.units o) (op_cmpR C.units o') pa pb pc hm, pt_chain (op_cmpR C.units o) (op_cmpR C.units o') pa pb pc hm, fun ι h H σ τ Q r s O => ?_⟩
  refine ia ι h H σ τ _ r s (O.seq fun x h1 ι1 H1 v g q o1 => ib ι1 h1 H1 σ τ _ g.rh (g.rs r s) (o1.seq fun y h2 ι2 H2 u g2 q2 o2 => ?_))
  refine ⟨Cl, WE W0 τ, ι2, h2, x, y, g2.rh, g2.rp g.rh q, q2, ?_⟩
  unfold R.o2
  cases e : cmpop o x y h2 with
  | none => rw [e] at o2; exact o2.elim
  | some k =>
    rw [e] at o2
    refine fun ι3 H3 z g3 q3 => ?_
    cases q3
    refine ⟨k, rfl, ?_⟩
    cases k with
    | false =>
      rw [if_neg (by decide)]
      exact o2 _ _ _ g3 (.bl _)
    | true =>
      rw [if_pos rfl]
      exact ic ι3 h2 H3 σ τ _ g3.rh (g3.rs g2.rh (g2.rs g.rh (g.rs r s))) ((o2.from g3).seq fun z h4 ι4 H4 vz g4 q4 o4 => ⟨Cl, _, ι4, h4, y, z, g4.rh, g4.rp g3.rh (g3.rp g2.rh q2), q4, o4⟩)
theorem bl_chain {o o' : COp} : BlR (fun σ h => (da σ h).bind fun x h1 => (db σ h1).bind fun y h2 => match cmpop o x y h2 with
      | some true => (dc σ h2).bind fun z h3 => (match cmpop o' y z h3 with | some c => .ok (.bl c) h3 | none => .stuck)
      | some false => .ok (.bl false) h2
      | none => .stuck) := fun σ h w h' e => by
  obtain ⟨x, h1, _, e⟩ := bind_ok e
  obtain ⟨y, h2, _, e⟩ := bind_ok e
  split at e
  · obtain ⟨z, h3, _, e⟩ := bind_ok e
    split at e
    · cases e; exact ⟨_, rfl⟩
    · cases e
  · cases e; exact ⟨_, rfl⟩
  · cases e
theorem snd_isB {j : Nat} {p2 : Pos} (sa : SndE X Cl W0 a da) : SndB X Cl W0 (.Compare a [.Is] [.Constant .none j p2] pos) (fun σ h => (da σ h).bind fun x h1 => match x with | .non => .ok (.bl (!false)) h1 | _ => .ok (.bl false) h1) := by
  obtain ⟨ta, pa, ia⟩ := sa
  refine ⟨_, pe_cmp (pc_isN pa) (nobehind _ (by decide) (by decide)), pt_cmp (pc_isN pa) (nobehind _ (by decide) (by decide)), fun ι h H σ τ Q r s O => ?_⟩
  refine ia ι h H σ τ _ r s (O.seq fun x h1 ι1 H1 v g q o1 => ?_)
  cases q <;> exact o1.here g.rh (.bl _)
theorem snd_isntB {j : Nat} {p2 : Pos} (sa : SndE X Cl W0 a da) : SndB X Cl W0 (.Compare a [.IsNot] [.Constant .none j p2] pos) (fun σ h => (da σ h).bind fun x h1 => match x with | .non => .ok (.bl (!true)) h1 | _ => .ok (.bl true) h1) := by
  obtain ⟨ta, pa, ia⟩ := sa
  refine ⟨_, pe_cmp (pc_notN pa) (nobehind _ (by decide) (by decide)), pt_cmp (pc_notN pa) (nobehind _ (by decide) (by decide)), fun ι h H σ τ Q r s O => ?_⟩
  refine ia ι h H σ τ _ r s (O.seq fun x h1 ι1 H1 v g q o1 => ?_)
  cases q <;> exact o1.here g.rh (.bl _)
theorem bl_is {neg : Bool} : BlR (fun σ h => (da σ h).bind fun x h1 => match x with | .non => .ok (.bl (!neg)) h1 | _ => .ok (.bl neg) h1) := fun σ h w h' e => by
  obtain ⟨x, h1, _, e⟩ := bind_ok e
  split at e <;> cases e <;> exact ⟨_, rfl⟩
/-- an expression whose test is its value's truth -/
def vtest : Expr → Bool
  | .UnaryOp .Not _ _ => false
  | .BoolOp .. => false
  | .IfExp .. => false
  | .Compare .. => false
  | _ => true
theorem vtest_ok {e : Expr} {env : Env} (h : vtest e = true) : ∀ whole, isTrue e env whole = (do let v ← whole; standAt e.pos; holding [v] (truthy v)) := by
  intro whole
  cases e <;> first | rfl | (simp [vtest] at h; done) | skip
  rename_i op _ _
  cases op <;> first | rfl | (simp [vtest] at h; done)
theorem snd_val (hv : vtest a = true) (sa : SndE X Cl W0 a da) : SndT X Cl W0 a (fun σ h => (da σ h).bind fun x h1 => ofO (truth h1 x) h1) := by
  obtain ⟨ta, pa, ia⟩ := sa
  refine ⟨_, pt_truth pa (vtest_ok hv), fun ι h H σ τ Q r s O => ?_⟩
  refine ia ι h H σ τ _ r s (O.seq fun x h1 ι1 H1 v g q o1 => ?_)
  unfold ofO at o1
  split at o1
  · rename_i k e
    exact ⟨k, truth_ok g.rh q e, o1.here g.rh rfl⟩
  · exact o1.elim
theorem snd_tnot {dt : Sl → Hh → Res Bool} (sa : SndT X Cl W0 a dt) : SndT X Cl W0 (.UnaryOp .Not a pos) (fun σ h => (dt σ h).bind fun b h1 => .ok (!b) h1) := by
  obtain ⟨ta, pa, ia⟩ := sa
  refine ⟨_, pt_not pa, fun ι h H σ τ Q r s O => ?_⟩
  refine ia ι h H σ τ _ r s (O.seq fun x h1 ι1 H1 v g q o1 => ?_)
  have q' : x = v := q
  subst q'
  exact o1.here g.rh rfl

/-- a test whatever its whole is -/
def SndW (X : Cx) (Cl : Nat → Option Addr) (W0 : WX) (e : Expr) (d : Sl → Hh → Res Bool) : Prop := ∃ t : TT, PW X e t ∧
  ∀ ι h H σ τ Q, Rh X.K ι h H → Rs X.K ι H σ τ → Out X.K Cl Sb (WE W0 τ) ι h H (d σ h) Q → t τ H Q
theorem SndW.t {e : Expr} {d : Sl → Hh → Res Bool} (s : SndW X Cl W0 e d) : SndT X Cl W0 e d := let ⟨t, p, i⟩ := s; ⟨t, p.pt, i⟩
theorem snd_wand1 {d : Sl → Hh → Res Bool} (sa : SndT X Cl W0 a d) : SndW X Cl W0 (.BoolOp .And [a] pos) d := let ⟨t, p, i⟩ := sa; ⟨t, pw_and1 p, i⟩
theorem snd_wor1 {d : Sl → Hh → Res Bool} (sa : SndT X Cl W0 a d) : SndW X Cl W0 (.BoolOp .Or [a] pos) d := let ⟨t, p, i⟩ := sa; ⟨t, pw_or1 p, i⟩
theorem snd_wand {d d' : Sl → Hh → Res Bool} {rest : List Expr} (sa : SndT X Cl W0 a d) (sb : SndW X Cl W0 (.BoolOp .And (b :: rest) pos) d') :
    SndW X Cl W0 (.BoolOp .And (a :: b :: rest) pos) (fun σ h => (d σ h).bind fun k h1 => match k with | true => d' σ h1 | false => .ok false h1) := by
  obtain ⟨ta, pa, ia⟩ := sa
  obtain ⟨tb, pb, ib⟩ := sb
  refine ⟨_, pw_and pa pb, fun ι h H σ τ Q r s O => ?_⟩
  refine ia ι h H σ τ _ r s (O.seq fun x h1 ι1 H1 v g q o1 => ?_)
  have q' : x = v := q
  subst q'
  cases x with
  | true => rw [if_pos rfl]; exact ib ι1 h1 H1 σ τ _ g.rh (g.rs r s) o1
  | false => rw [if_neg (by decide)]; exact o1.here g.rh rfl
theorem snd_wor {d d' : Sl → Hh → Res Bool} {rest : List Expr} (sa : SndT X Cl W0 a d) (sb : SndW X Cl W0 (.BoolOp .Or (b :: rest) pos) d') :
    SndW X Cl W0 (.BoolOp .Or (a :: b :: rest) pos) (fun σ h => (d σ h).bind fun k h1 => match k with | true => .ok true h1 | false => d' σ h1) := by
  obtain ⟨ta, pa, ia⟩ := sa
  obtain ⟨tb, pb, ib⟩ := sb
  refine ⟨_, pw_or pa pb, fun ι h H σ τ Q r s O => ?_⟩
  refine ia ι h H σ τ _ r s (O.seq fun x h1 ι1 H1 v g q o1 => ?_)
  have q' : x = v := q
  subst q'
  cases x with
  | true => rw [if_pos rfl]; exact o1.here g.rh rfl
  | false => rw [if_neg (by decide)]; exact ib ι1 h1 H1 σ τ _ g.rh (g.rs r s) o1

/-! ### calls of defs -/
def spR (K : PySem.W.Frag) (Cl : Nat → Option Addr) (f : List W → Hh → Res W) : Sp := fun vs H Q E => ∃ ι h ws, Rh K ι h H ∧ Rps K ι H ws vs ∧ Out K Cl (Rp K) E ι h H (f ws h) Q
/-- how keywords bind -/
def KB (K : PySem.W.Frag) (fd : FuncData) (ps : List Str) (n : Nat) (ks : List Str) (perm : List Nat) : Prop :=
  ∀ (s : Shared) (us ws : List Value), K.In s.heap → us.length = n → ws.length = ks.length → ∃ vs, mapO (fun j => (us ++ ws)[j]?) perm = some vs ∧ BindsTo s fd ⟨us, ks.zip ws⟩ (ps.zip vs)
structure Fc (X : Cx) (Cl : Nat → Option Addr) (k : Nat) (fa : Addr) (fd : FuncData) (ps : List Str) (f : List W → Hh → Res W) (x : Str) : Prop where
  ok : FnOk X.prog X.w X.K X.mg X.base (L2.CX X.prog X.w) k fa fd ps (spR X.K Cl f)
  room : Room k X.A
  at_ : X.mg x = some (.ref fa)
  kp : PySem.W.keepIn X.K (.ref fa) = true
  bd : Binds X.K fd ps []
theorem snd_call {k : Nat} {fa : Addr} {fd : FuncData} {ps : List Str} {f : List W → Hh → Res W} {x : Str} {es : List Expr} {dl : Sl → Hh → Res (List W)} {px : Pos} (C : Ce X W0) (F : Fc X Cl k fa fd ps f x) (hg : Gl X x) (hdb : (x == ("__debug__" : Str)) = false)
    (hn : nst a = true) (hns : es.all nst = true) (sl : SndL X Cl W0 (a :: es) dl) : SndE X Cl W0 (.Call (.Name x px) (a :: es) [] pos) (fun σ h => (dl σ h).bind fun ws h1 => f ws h1) := by
  obtain ⟨tl, pl, il⟩ := sl
  refine ⟨_, pe_callS F.ok F.room hg F.at_ F.kp F.bd (fun σ => passAt C.tk σ) pl hdb (star_cons hn) (star_plain hns), fun ι h H σ τ Q r s O => ?_⟩
  exact il ι h H σ τ _ r s (O.seq fun ws h2 ι2 H2 vs g q o => ⟨ι2, h2, ws, g.rh, q, o⟩)
/-- f() -/
theorem snd_call0 {k : Nat} {fa : Addr} {fd : FuncData} {ps : List Str} {f : List W → Hh → Res W} {x : Str} {px : Pos} (C : Ce X W0) (F : Fc X Cl k fa fd ps f x) (hg : Gl X x) (hdb : (x == ("__debug__" : Str)) = false) :
    SndE X Cl W0 (.Call (.Name x px) [] [] pos) (fun _ h => f [] h) := by
  refine ⟨fun σ H Q => spR X.K Cl f [] H Q (WE W0 σ), ⟨fun pins s σ H Q I h => ?_⟩, fun ι h H σ τ Q r s O => ⟨ι, h, [], r, .nil, O⟩⟩
  exact wpAny_Call_Name_kw (ld_glob I hg F.at_ (PySem.W.callWith_K0 I.kIn F.kp (run_fnS (us := []) F.ok F.room F.bd (passAt C.tk σ) I .nil h)) hdb)
theorem backKw_some {pos : Pos} {env : Env} : ∀ {kws : List Keyword}, (kws.all fun k => k.arg.isSome) = true → (backToKw pos (keywordEach kws env)).all (·.1.isSome) = true ∧ (backToKw pos (keywordEach kws env)).any (·.1.isNone) = false ∧ (backToKw pos (keywordEach kws env)).filterMap (·.1) = kws.filterMap (·.arg)
  | [], _ => ⟨rfl, rfl, rfl⟩
  | ⟨n, v, p⟩ :: r, h => by
    simp only [List.all_cons, Bool.and_eq_true] at h
    obtain ⟨h1, h2, h3⟩ := backKw_some (pos := pos) (env := env) h.2
    cases n with
    | none => simp at h
    | some x =>
      exact ⟨h1, h2, congrArg (List.cons x) h3⟩
def SndK (X : Cx) (Cl : Nat → Option Addr) (W0 : WX) (kws : List Keyword) (d : Sl → Hh → Res (List W)) : Prop := ∃ t : TA, PK X kws t ∧
  ∀ ι h H σ τ Q, Rh X.K ι h H → Rs X.K ι H σ τ → Out X.K Cl (Rps X.K) (WE W0 τ) ι h H (d σ h) Q → t τ H Q
theorem snd_knil : SndK X Cl W0 [] (fun _ h => .ok [] h) := ⟨_, pk_nil, fun ι h H σ τ Q r s o => o.here r .nil⟩
theorem snd_kcons {n : Option Str} {kp : Pos} {kws : List Keyword} {dl : Sl → Hh → Res (List W)} (sa : SndE X Cl W0 a da) (sl : SndK X Cl W0 kws dl) :
    SndK X Cl W0 (⟨n, a, kp⟩ :: kws) (fun σ h => (da σ h).bind fun x h1 => (dl σ h1).bind fun xs h2 => .ok (x :: xs) h2) := by
  obtain ⟨ta, pa, ia⟩ := sa
  obtain ⟨tl, pl, il⟩ := sl
  refine ⟨_, pk_cons pa pl, fun ι h H σ τ Q r s o => ?_⟩
  exact ia ι h H σ τ _ r s (o.seq fun x h1 ι1 H1 v g q o1 => il ι1 h1 H1 σ τ _ g.rh (g.rs r s) (o1.seq fun xs h2 ι2 H2 vs g2 q2 o2 => o2.here g2.rh (.cons (g2.rp g.rh q) q2)))
theorem Rps.perm {K : PySem.W.Frag} {ι : List Addr} {H : Hp} {ws : List W} {vs : List V} (r : Rps K ι H ws vs) : ∀ {perm : List Nat} {us : List W}, mapO (fun j => ws[j]?) perm = some us → ∃ zs, mapO (fun j => vs[j]?) perm = some zs ∧ Rps K ι H us zs
  | [], us, e => by unfold mapO at e; cases e; exact ⟨[], rfl, .nil⟩
  | j :: p, us, e => by
    unfold mapO at e
    cases hj : ws[j]? with
    | none => rw [hj] at e; cases e
    | some w =>
      rw [hj] at e
      cases hl : mapO (fun j => ws[j]?) p with
      | none => rw [hl] at e; cases e
      | some bs =>
        rw [hl] at e
        cases e
        obtain ⟨v, e1, q⟩ := r.get hj
        obtain ⟨zs, e2, q2⟩ := Rps.perm r hl
        exact ⟨v :: zs, by unfold mapO; rw [e1, e2], .cons q q2⟩
theorem vals_perm {vs : List V} {us : List Value} (r : Vals vs us) : ∀ {perm : List Nat} {a : List V} {b : List Value}, mapO (fun j => vs[j]?) perm = some a → mapO (fun j => us[j]?) perm = some b → Vals a b
  | [], a, b, e1, e2 => by unfold mapO at e1 e2; cases e1; cases e2; exact .nil
  | j :: p, a, b, e1, e2 => by
    unfold mapO at e1 e2
    cases h1 : vs[j]? with
    | none => rw [h1] at e1; cases e1
    | some v =>
      obtain ⟨u, h2, rv⟩ := r.get h1
      rw [h1] at e1
      rw [h2] at e2
      cases h3 : mapO (fun j => vs[j]?) p with
      | none => rw [h3] at e1; cases e1
      | some a' =>
        cases h4 : mapO (fun j => us[j]?) p with
        | none => rw [h4] at e2; cases e2
        | some b' =>
          rw [h3] at e1
          rw [h4] at e2
          cases e1
          cases e2
          exact .cons rv (vals_perm r h3 h4)
/-- the callee runs, keywords bound -/
theorem run_kb {k : Nat} {fa : Addr} {fd : FuncData} {ps ks : List Str} {f : List W → Hh → Res W} {x : Str} {n : Nat} {perm : List Nat} {pins : List (Addr × Obj)} {σ : St} {H : Hp} {s : Shared} {Q : VK} {us ws : List Value} {vs zs ys : List V}
    (C : Ce X W0) (F : Fc X Cl k fa fd ps f x) (B : KB X.K fd ps n ks perm) (I : Inv X pins σ H s) (r : Vals vs us) (rz : Vals zs ws) (l1 : vs.length = n) (l2 : zs.length = ks.length) (hp : mapO (fun j => (vs ++ zs)[j]?) perm = some ys)
    (h : spR X.K Cl f ys H Q (WE W0 σ)) : wpAny (model X.prog X.w) X.A (call (.ref fa) us (ks.zip ws)) (EP X pins σ Q) X.xe s := by
  obtain ⟨ts, e1, b⟩ := B s us ws I.kIn (r.length.symm.trans l1) (rz.length.symm.trans l2)
  have rv : Vals ys ts := vals_perm (r.append rz) hp e1
  refine wpAny_call (codeAny_mono (F.ok.run X.A X.stack s H ⟨us, ks.zip ws⟩ ts ys Q (WE W0 σ) F.room I.env0 b rv h) fun r s' hq => ?_)
  match r, hq with
  | .error e, hq => exact passAt C.tk σ pins H s e s' I hq
  | .ok (.ret u), hq => exact I.after hq
  | .ok .next, hq => exact False.elim hq
  | .ok .brk, hq => exact False.elim hq
  | .ok .cont, hq => exact False.elim hq
theorem snd_callk {k : Nat} {fa : Addr} {fd : FuncData} {ps : List Str} {f : List W → Hh → Res W} {x : Str} {n : Nat} {perm : List Nat} {es : List Expr} {kws : List Keyword} {dl dk : Sl → Hh → Res (List W)} {px : Pos} (C : Ce X W0) (F : Fc X Cl k fa fd ps f x)
    (B : KB X.K fd ps (es.length + 1) (kws.filterMap (·.arg)) perm) (hg : Gl X x) (hdb : (x == ("__debug__" : Str)) = false) (hn : nst a = true) (hns : es.all nst = true) (hk : (kws.all fun k => k.arg.isSome) = true) (sl : SndL X Cl W0 (a :: es) dl) (sk : SndK X Cl W0 kws dk)
    (len1 : ∀ σ h ws h', dl σ h = .ok ws h' → ws.length = es.length + 1) (len2 : ∀ σ h ws h', dk σ h = .ok ws h' → ws.length = (kws.filterMap (·.arg)).length) :
    SndE X Cl W0 (.Call (.Name x px) (a :: es) kws pos) (fun σ h => (dl σ h).bind fun ws h1 => (dk σ h1).bind fun zs h2 => match permute (ws ++ zs) perm with | some vs => f vs h2 | none => .stuck) := by
  obtain ⟨tl, pl, il⟩ := sl
  obtain ⟨tk, pk, ik⟩ := sk
  obtain ⟨b1, b2, b3⟩ := backKw_some (pos := pos) (env := X.env) hk
  refine ⟨fun σ H Q => tl σ H fun vs H1 => tk σ H1 fun zs H2 => vs.length = es.length + 1 ∧ zs.length = (kws.filterMap (·.arg)).length ∧ ∃ ys, mapO (fun j => (vs ++ zs)[j]?) perm = some ys ∧ spR X.K Cl f ys H2 Q (WE W0 σ), ⟨fun pins s σ H Q I h => ?_⟩, fun ι h H σ τ Q r s O => ?_⟩
  · refine wpAny_Call_Name_kw (ld_glob I hg F.at_ ?_ hdb)
    refine PySem.W.callWith_KW (h₀ := X.base) I.ok.mod.kin F.kp b1 (thn (pl.run pos pins s σ H _ I h) fun us s1 ⟨vs, H1, I1, r, q⟩ => thn (pk.run pos pins s1 σ H1 _ I1 q) fun ws s2 ⟨zs, H2, I2, rz, l1, l2, ys, hp, q2⟩ => ⟨I2.kIn, ?_⟩) ?_ (star_cons hn)
    · rw [b3]
      exact run_kb C F B I2 r rz l1 l2 hp q2
    · rw [b2, star_plain (by simp [hn, hns])]; rfl
  · refine il ι h H σ τ _ r s (O.seqE fun ws h1 ι1 H1 vs e1 g q o1 => ik ι1 h1 H1 σ τ _ g.rh (g.rs r s) (o1.seqE fun zs h2 ι2 H2 us e2 g2 q2 o2 => ?_))
    refine ⟨by rw [← q.length]; exact len1 _ _ _ _ e1, by rw [← q2.length]; exact len2 _ _ _ _ e2, ?_⟩
    unfold permute at o2
    split at o2
    · rename_i ts e
      obtain ⟨ys, e3, q3⟩ := ((g2.rps g.rh q).append q2).perm e
      exact ⟨ys, e3, ι2, h2, ts, g2.rh, q3, o2⟩
    · exact o2.elim
theorem snd_callk0 {k : Nat} {fa : Addr} {fd : FuncData} {ps : List Str} {f : List W → Hh → Res W} {x : Str} {perm : List Nat} {kws : List Keyword} {dk : Sl → Hh → Res (List W)} {px : Pos} (C : Ce X W0) (F : Fc X Cl k fa fd ps f x)
    (B : KB X.K fd ps 0 (kws.filterMap (·.arg)) perm) (hg : Gl X x) (hdb : (x == ("__debug__" : Str)) = false) (hk : (kws.all fun k => k.arg.isSome) = true) (sk : SndK X Cl W0 kws dk)
    (len2 : ∀ σ h ws h', dk σ h = .ok ws h' → ws.length = (kws.filterMap (·.arg)).length) :
    SndE X Cl W0 (.Call (.Name x px) [] kws pos) (fun σ h => (Res.ok (α := List W) [] h).bind fun ws h1 => (dk σ h1).bind fun zs h2 => match permute (ws ++ zs) perm with | some vs => f vs h2 | none => .stuck) := by
  obtain ⟨tk, pk, ik⟩ := sk
  obtain ⟨b1, b2, b3⟩ := backKw_some (pos := pos) (env := X.env) hk
  refine ⟨fun σ H Q => tk σ H fun zs H2 => zs.length = (kws.filterMap (·.arg)).length ∧ ∃ ys, mapO (fun j => (([] : List V) ++ zs)[j]?) perm = some ys ∧ spR X.K Cl f ys H2 Q (WE W0 σ), ⟨fun pins s σ H Q I h => ?_⟩, fun ι h H σ τ Q r s O => ?_⟩
  · refine wpAny_Call_Name_kw (ld_glob I hg F.at_ ?_ hdb)
    refine PySem.W.callWith_KW0 (h₀ := X.base) I.ok.mod.kin F.kp b1 (thn (pk.run pos pins s σ H _ I h) fun ws s2 ⟨zs, H2, I2, rz, l2, ys, hp, q2⟩ => ⟨I2.kIn, ?_⟩) ?_
    · rw [b3]
      exact run_kb C F B I2 .nil rz rfl l2 hp q2
    · rw [b2]; rfl
  · have O' : Out X.K Cl (Rp X.K) (WE W0 τ) ι h H ((dk σ h).bind fun zs h2 => match permute ([] ++ zs) perm with | some vs => f vs h2 | none => .stuck) Q := O
    refine ik ι h H σ τ _ r s (O'.seqE fun zs h2 ι2 H2 us e2 g2 q2 o2 => ?_)
    refine ⟨by rw [← q2.length]; exact len2 _ _ _ _ e2, ?_⟩
    unfold permute at o2
    split at o2
    · rename_i ts e
      obtain ⟨ys, e3, q3⟩ := ((Rps.nil (K := X.K) (ι := ι2) (H := H2)).append q2).perm e
      exact ⟨ys, e3, ι2, h2, ts, g2.rh, q3, o2⟩
    · exact o2.elim
end
end R

/-! R7: targets, what is walked, comprehensions. -/
namespace R
open PySem PySem.Spec L2
open PyProof.Rows hiding St
section
variable {X : Cx} {Cl : Nat → Option Addr} {W0 : WX}
theorem Rs.set {K : PySem.W.Frag} {ι : List Addr} {H : Hp} {σ : Sl} {τ : St} (s : Rs K ι H σ τ) (i : Nat) {w : W} {v : V} (q : Rp K ι H w v) : Rs K ι H (σ.set i (some w)) (τ.set i (some v)) := by
  refine ⟨by simp [s.1], fun j x e => ?_⟩
  by_cases c : i = j
  · subst c
    have hl : i < σ.length := by
      have := (List.getElem?_eq_some_iff.mp e).1
      simpa using this
    rw [List.getElem?_set_self hl] at e
    cases e
    exact ⟨v, List.getElem?_set_self (s.1 ▸ hl), q⟩
  · rw [List.getElem?_set_ne c] at e
    obtain ⟨u, e1, e2⟩ := s.2 j x e
    exact ⟨u, by rw [List.getElem?_set_ne c]; exact e1, e2⟩
theorem Rs.drop {K : PySem.W.Frag} {ι : List Addr} {H : Hp} {σ : Sl} {τ : St} (s : Rs K ι H σ τ) (i : Nat) : Rs K ι H (σ.set i none) (τ.set i none) := by
  refine ⟨by simp [s.1], fun j x e => ?_⟩
  by_cases c : i = j
  · subst c
    have hl : i < σ.length := by
      have := (List.getElem?_eq_some_iff.mp e).1
      simpa using this
    rw [List.getElem?_set_self hl] at e
    cases e
  · rw [List.getElem?_set_ne c] at e
    obtain ⟨u, e1, e2⟩ := s.2 j x e
    exact ⟨u, by rw [List.getElem?_set_ne c]; exact e1, e2⟩
theorem Rs.wipe {K : PySem.W.Frag} {ι : List Addr} {H : Hp} {σ : Sl} {τ : St} (s : Rs K ι H σ τ) : ∀ vs : List Nat, Rs K ι H (R.wipe σ vs) (L2.wipe τ vs)
  | [] => s
  | v :: vs => (Rs.wipe s vs).drop v
theorem wipe_set (τ : St) (i : Nat) (o : Option V) : ∀ vs : List Nat, i ∈ vs → L2.wipe (τ.set i o) vs = L2.wipe τ vs
  | [], h => by simp at h
  | v :: vs, h => by
    show (L2.wipe (τ.set i o) vs).set v none = (L2.wipe τ vs).set v none
    by_cases c : i ∈ vs
    · rw [wipe_set τ i o vs c]
    · have e : i = v := (List.mem_cons.mp h).resolve_right c
      subst e
      have z : ∀ vs : List Nat, i ∉ vs → L2.wipe (τ.set i o) vs = (L2.wipe τ vs).set i o := by
        intro vs
        induction vs with
        | nil => intro _; rfl
        | cons w ws ih =>
          intro hn
          have hw : i ≠ w := fun z => hn (by rw [z]; exact List.mem_cons_self)
          show (L2.wipe (τ.set i o) ws).set w none = ((L2.wipe τ ws).set w none).set i o
          rw [ih fun z => hn (List.mem_cons_of_mem _ z), List.set_comm _ _ hw]
      rw [z vs c, List.set_set]
theorem wipe_wipe (τ : St) : ∀ vs : List Nat, L2.wipe (L2.wipe τ vs) vs = L2.wipe τ vs := by
  have z : ∀ (us vs : List Nat) (τ : St), (∀ i ∈ us, i ∈ vs) → L2.wipe (L2.wipe τ us) vs = L2.wipe τ vs := by
    intro us
    induction us with
    | nil => intro vs τ _; rfl
    | cons u us ih =>
      intro vs τ h
      show L2.wipe ((L2.wipe τ us).set u none) vs = _
      rw [wipe_set _ _ _ _ (h u List.mem_cons_self)]
      exact ih vs τ fun i hi => h i (List.mem_cons_of_mem _ hi)
  exact fun vs => z vs vs τ fun _ h => h

/-! ### targets -/
def Tg.names : Tg → List Nat
  | .nm i => [i]
  | .tup is => is
/-- the slots but those of vs are as they were -/
abbrev Apart (is : List Nat) (τ τ' : St) : Prop := ∀ vs : List Nat, (∀ i ∈ is, i ∈ vs) → L2.wipe τ' vs = L2.wipe τ vs
def SndG (X : Cx) (tg : Expr) (t : Tg) : Prop := ∃ g : TG, PG X tg g ∧
  ∀ ι (h : Hh) H σ σ' τ w v Q, Rs X.K ι H σ τ → Rp X.K ι H w v → tgSet t w h σ = some σ' → (∀ τ', Rs X.K ι H σ' τ' → Apart t.names τ τ' → Q τ' H) → g v τ H Q
theorem snd_gnm {i : Nat} {x : Str} {p : Pos} (hN : X.N.Nodup) (hi : X.N[i]? = some x) (hx : Loc X.env.scope x) (hf : X.fn x = true ∨ X.env.scope.names.lookup x = some .local) : SndG X (.Name x p) (.nm i) := by
  refine ⟨_, pg_name hN hi hx hf, fun ι h H σ σ' τ w v Q s q e k => ?_⟩
  cases e
  exact k _ (s.set i q) fun vs hv => wipe_set τ i (some v) vs (hv i (by simp [Tg.names]))
def gAll : List Nat → TGs
  | [] => gNil
  | i :: is => gCons (gName i) (gAll is)
theorem gAll_ok {K : PySem.W.Frag} {ι : List Addr} {H : Hp} : ∀ (is : List Nat) {ws : List W} {vs : List V} {σ σ' : Sl} {τ : St} {Q : St → Hp → Prop}, Rs K ι H σ τ → Rps K ι H ws vs → setAll is ws σ = some σ' → (∀ τ', Rs K ι H σ' τ' → Apart is τ τ' → Q τ' H) → gAll is vs τ H Q
  | [], ws, vs, σ, σ', τ, Q, s, q, e, k => by
    cases q with
    | nil => cases e; exact ⟨rfl, k τ s fun _ _ => rfl⟩
    | cons _ _ => simp [setAll] at e
  | i :: is, ws, vs, σ, σ', τ, Q, s, q, e, k => by
    cases q with
    | nil => simp [setAll] at e
    | cons r t =>
      refine ⟨_, _, rfl, gAll_ok is (s.set i r) t e fun τ' s' a => k τ' s' fun vs hv => ?_⟩
      rw [a vs fun j hj => hv j (List.mem_cons_of_mem _ hj)]
      exact wipe_set τ i _ vs (hv i List.mem_cons_self)
theorem setAll_len : ∀ (is : List Nat) {ws : List W} {σ σ' : Sl}, setAll is ws σ = some σ' → ws.length = is.length
  | [], [], _, _, _ => rfl
  | [], _ :: _, _, _, e => by simp [setAll] at e
  | _ :: _, [], _, _, e => by simp [setAll] at e
  | i :: is, w :: ws, σ, σ', e => congrArg (· + 1) (setAll_len is (ws := ws) (show setAll is ws (σ.set i (some w)) = some σ' from e))
/-- the names of a tuple target -/
inductive Nms (X : Cx) : List Expr → List Nat → Prop
  | nil : Nms X [] []
  | cons {x : Str} {p : Pos} {i : Nat} {es : List Expr} {is : List Nat} (hi : X.N[i]? = some x) (hx : Loc X.env.scope x) (hf : X.fn x = true ∨ X.env.scope.names.lookup x = some .local) (r : Nms X es is) : Nms X (.Name x p :: es) (i :: is)
theorem Nms.pgs (hN : X.N.Nodup) : ∀ {es : List Expr} {is : List Nat}, Nms X es is → PGs X es (gAll is) ∧ (assignEach es X.env).length = is.length ∧ (assignEach es X.env).findIdx? (·.1) = none
  | _, _, .nil => ⟨pgs_nil, rfl, rfl⟩
  | _, _, .cons hi hx hf r => by
    obtain ⟨h1, h2, h3⟩ := Nms.pgs hN r
    refine ⟨pgs_cons (pg_name hN hi hx hf) h1, ?_, ?_⟩
    · show _ + 1 = _ + 1
      rw [h2]
    · rename_i x p i es is
      have e : assignEach (Expr.Name x p :: es) X.env = (false, assign (.Name x p) X.env) :: assignEach es X.env := rfl
      rw [e, List.findIdx?_cons, h3]
      rfl
theorem snd_gtup (hc : X.calm = true) (hN : X.N.Nodup) {es : List Expr} {is : List Nat} {k : Nat} {p : Pos} (n : Nms X es is) : SndG X (.Tuple es k p) (.tup is) := by
  obtain ⟨h1, h2, h3⟩ := n.pgs hN
  refine ⟨_, pg_tup hc h1 h2 h3, fun ι h H σ σ' τ w v Q s q e k => ?_⟩
  cases q <;> simp only [tgSet] at e <;> try (cases e; done)
  rename_i ws a vs hv rs
  exact ⟨a, vs, rfl, SqT.of hv, by rw [← rs.length]; exact setAll_len is e, gAll_ok is s rs e k⟩

/-! ### what is walked -/
/-- a dict that was walked is let free -/
def Thaw (X : Cx) (H H' : Hp) : Prop := H' = H ∨ ∃ d o u, (∀ o' u', X.H_0 d ≠ some (.frz o' u')) ∧ H d = some (.frz o u) ∧ (∃ kvs, u = .dK kvs ∨ ∃ kvs, u = .dT kvs) ∧ H' = upd H d u
theorem thawed {pins : List (Addr × Obj)} {σ : St} {H H' : Hp} {s : Shared} (I : Inv X pins σ H s) (t : Thaw X H H') : Inv X pins σ H' s := by
  rcases t with rfl | ⟨d, o, u, n, e, _, rfl⟩
  · exact I
  · exact I.unlock e n
theorem pe_thaw {e : Expr} {t : TE} (p : PE X e t) : PE X e (fun σ H Q => t σ H fun v H2 => ∃ H3, Thaw X H2 H3 ∧ Q v H3) :=
  ⟨fun pins s σ H Q I h => thn (p.run pins s σ H _ I h) fun u s1 ⟨v, H2, I2, r, H3, t, q⟩ => ⟨v, H3, thawed I2 t, r, q⟩⟩
structure ItOk (X : Cx) (ι : List Addr) (h : Hh) (H : Hp) (ι1 : List Addr) (h1 : Hh) (H1 : Hp) (items : List W) (us : Un) (J : It) : Prop where
  go : Go X.K ι h H ι1 h1 H1
  un : ∀ ι2 h2 H2, Go X.K ι1 h1 H1 ι2 h2 H2 → ∃ H3, Thaw X H2 H3 ∧ Go X.K ι h H ι2 (relock h2 us) H3 ∧ (∀ w v, Rp X.K ι2 H2 w v → Rp X.K ι2 H3 w v) ∧ ∀ a u, H2 a = some u → (∀ o k, u ≠ .frz o k) → H3 a = some u
  stop : ∀ ι2 h2 H2 i, Go X.K ι1 h1 H1 ι2 h2 H2 → items.length ≤ i → J.stop i H2
  more : ∀ ι2 h2 H2 i w, Go X.K ι1 h1 H1 ι2 h2 H2 → items[i]? = some w → J.go i H2
  yld : ∀ ι2 h2 H2 i w x H3, Go X.K ι1 h1 H1 ι2 h2 H2 → items[i]? = some w → J.yld i H2 x H3 → Go X.K ι2 h2 H2 ι2 h2 H3 ∧ Rp X.K ι2 H3 w x
def OutI (X : Cx) (Cl : Nat → Option Addr) (E : XW) (ι : List Addr) (h : Hh) (H : Hp) (r : Res (List W × Un)) (R : It → Hp → Prop) : Prop := match r with
  | .ok p h1 => ∀ ι1 H1 J, ItOk X ι h H ι1 h1 H1 p.1 p.2 J → R J H1
  | .ex k w h' => ∀ ι' H' cls d, Go X.K ι h H ι' h' H' → Xr X.K Cl ι' H' k w cls d → E cls d H'
  | .stuck => False
def SndI (X : Cx) (Cl : Nat → Option Addr) (W0 : WX) (tg it : Expr) (d : Sl → Hh → Res (List W × Un)) : Prop := ∃ wi : TI, PI X tg it wi ∧
  ∀ ι h H σ τ R, Rh X.K ι h H → Rs X.K ι H σ τ → OutI X Cl (WE W0 τ) ι h H (d σ h) R → wi τ H R
theorem ItOk.pre {ι ι' ι1 : List Addr} {h h' h1 : Hh} {H H' H1 : Hp} {items : List W} {us : Un} {J : It} (g : Go X.K ι h H ι' h' H') (i : ItOk X ι' h' H' ι1 h1 H1 items us J) : ItOk X ι h H ι1 h1 H1 items us J :=
  ⟨g.trans i.go, fun ι2 h2 H2 g2 => let ⟨H3, t, g3, r, z⟩ := i.un ι2 h2 H2 g2; ⟨H3, t, g.trans g3, r, z⟩, i.stop, i.more, i.yld⟩
theorem OutI.seq {β' α' : Type} {ι : List Addr} {h : Hh} {H : Hp} {E : XW} {S' : List Addr → Hp → α' → β' → Prop} {r : Res α'} {f : α' → Hh → Res (List W × Un)} {R : It → Hp → Prop} {Q' : β' → Hp → Prop} (o : OutI X Cl E ι h H (r.bind f) R)
    (k : ∀ a h1 ι1 H1 b, Go X.K ι h H ι1 h1 H1 → S' ι1 H1 a b → OutI X Cl E ι1 h1 H1 (f a h1) R → Q' b H1) : Out X.K Cl S' E ι h H r Q' := by
  cases r with
  | ok a h2 =>
    intro ι2 H2 b g s
    refine k a h2 ι2 H2 b g s ?_
    have o' : OutI X Cl E ι h H (f a h2) R := o
    cases e : f a h2 with
    | ok p h3 => rw [e] at o'; exact fun ι1 H1 J i => o' ι1 H1 J (i.pre g)
    | ex k w h3 => rw [e] at o'; exact fun ι1 H1 cls d g1 x => o' ι1 H1 cls d (g.trans g1) x
    | stuck => rw [e] at o'; exact o'
  | ex k w h2 => exact o
  | stuck => exact o
/-- nothing is locked -/
theorem ItOk.plain {ι : List Addr} {h : Hh} {H : Hp} {items : List W} {J : It} (r : Rh X.K ι h H) (stop : ∀ ι2 h2 H2 i, Go X.K ι h H ι2 h2 H2 → items.length ≤ i → J.stop i H2) (more : ∀ ι2 h2 H2 i w, Go X.K ι h H ι2 h2 H2 → items[i]? = some w → J.go i H2)
    (yld : ∀ ι2 h2 H2 i w x H3, Go X.K ι h H ι2 h2 H2 → items[i]? = some w → J.yld i H2 x H3 → Go X.K ι2 h2 H2 ι2 h2 H3 ∧ Rp X.K ι2 H3 w x) : ItOk X ι h H ι h H items [] J :=
  ⟨Go.refl r, fun ι2 h2 H2 g => ⟨H2, .inl rfl, g, fun _ _ q => q, fun _ _ e _ => e⟩, stop, more, yld⟩
theorem rngL_get : ∀ (n : Nat) (lo : Int) (i : Nat), (rngL lo n)[i]? = if i < n then some (.int (lo + i)) else none
  | 0, _, _ => by simp [rngL]
  | n + 1, lo, i => by
    unfold rngL
    rw [fi_eq]
    cases i with
    | zero => simp
    | succ j =>
      rw [List.getElem?_cons_succ, rngL_get n (lo + 1) j]
      by_cases c : j < n
      · rw [if_pos c, if_pos (by omega)]
        congr 2
        omega
      · rw [if_neg c, if_neg (by omega)]
theorem rngL_len : ∀ (n : Nat) (lo : Int), (rngL lo n).length = n
  | 0, _ => rfl
  | n + 1, lo => by unfold rngL; rw [fi_eq, List.length_cons, rngL_len n]
theorem it_rng {ι : List Addr} {h : Hh} {H : Hp} (r : Rh X.K ι h H) (lo : Int) (n : Nat) : ItOk X ι h H ι h H (rngL lo n) [] (Itr lo n) := by
  refine ItOk.plain r (fun ι2 h2 H2 i _ l => ?_) (fun ι2 h2 H2 i w _ e => ?_) fun ι2 h2 H2 i w x H3 g e y => ?_
  · rw [rngL_len] at l; exact l
  · rw [rngL_get] at e
    split at e
    · assumption
    · cases e
  · obtain ⟨rfl, rfl⟩ := y
    rw [rngL_get] at e
    split at e
    · cases e; exact ⟨Go.refl g.rh, .int _⟩
    · cases e
section
variable {a b tg : Expr} {da db : Sl → Hh → Res W} {pos : Pos}
theorem snd_rng1 {px : Pos} (hg : Gl X "range") (hm : X.mg "range" = none) (hn : nst a = true) (sa : SndE X Cl W0 a da) :
    SndI X Cl W0 tg (.Call (.Name "range" px) [a] [] pos) (fun σ h => (da σ h).bind fun x h1 => match x with | .int j => if rngOk 0 j then .ok (rngL 0 j.toNat, []) h1 else .stuck | _ => .stuck) := by
  obtain ⟨ta, pa, ia⟩ := sa
  refine ⟨_, pi_range1 hg hm (pa_cons pa pa_nil (star_cons hn)) (star_cons hn), fun ι h H σ τ R r s O => ?_⟩
  refine ia ι h H σ τ _ r s (O.seq fun x h1 ι1 H1 v g q o1 => ?_)
  cases q <;> try exact o1.elim
  simp only at o1
  split at o1
  · rename_i c
    simp only [rngOk, Bool.and_eq_true, decide_eq_true_eq] at c
    exact ⟨_, rfl, by omega, by omega, o1 _ _ _ (it_rng g.rh 0 _)⟩
  · exact o1.elim
theorem snd_rng2 {px : Pos} (hg : Gl X "range") (hm : X.mg "range" = none) (hn : nst a = true) (hn2 : nst b = true) (sa : SndE X Cl W0 a da) (sb : SndE X Cl W0 b db) :
    SndI X Cl W0 tg (.Call (.Name "range" px) [a, b] [] pos) (fun σ h => (da σ h).bind fun x h1 => (db σ h1).bind fun y h2 => match x, y with | .int i, .int j => if rngOk i j then .ok (rngL i (j - i).toNat, []) h2 else .stuck | _, _ => .stuck) := by
  obtain ⟨ta, pa, ia⟩ := sa
  obtain ⟨tb, pb, ib⟩ := sb
  refine ⟨_, pi_range2 hg hm (pa_cons pa (pa_cons pb pa_nil (star_cons hn2)) (star_cons hn)) (by rw [star_cons hn, star_cons hn2]; rfl) (by rw [star_cons hn2]; rfl), fun ι h H σ τ R r s O => ?_⟩
  refine ia ι h H σ τ _ r s (O.seq fun x h1 ι1 H1 v g q o1 => ib ι1 h1 H1 σ τ _ g.rh (g.rs r s) (o1.seq fun y h2 ι2 H2 u g2 q2 o2 => ?_))
  cases q <;> cases q2 <;> try exact o2.elim
  simp only at o2
  split at o2
  · rename_i c
    simp only [rngOk, Bool.and_eq_true, decide_eq_true_eq] at c
    exact ⟨_, _, rfl, ⟨by omega, by omega, by omega, by omega⟩, o2 _ _ _ (it_rng g2.rh _ _)⟩
  · exact o2.elim

theorem OutI.seqE {β' α' : Type} {ι : List Addr} {h : Hh} {H : Hp} {E : XW} {S' : List Addr → Hp → α' → β' → Prop} {r : Res α'} {f : α' → Hh → Res (List W × Un)} {R : It → Hp → Prop} {Q' : β' → Hp → Prop} (o : OutI X Cl E ι h H (r.bind f) R)
    (k : ∀ a h1 ι1 H1 b, r = .ok a h1 → Go X.K ι h H ι1 h1 H1 → S' ι1 H1 a b → OutI X Cl E ι1 h1 H1 (f a h1) R → Q' b H1) : Out X.K Cl S' E ι h H r Q' := by
  cases e0 : r with
  | ok a h2 =>
    rw [e0] at o
    intro ι2 H2 b g s
    refine k a h2 ι2 H2 b e0 g s ?_
    have o' : OutI X Cl E ι h H (f a h2) R := o
    cases e : f a h2 with
    | ok p h3 => rw [e] at o'; exact fun ι1 H1 J i => o' ι1 H1 J (i.pre g)
    | ex k w h3 => rw [e] at o'; exact fun ι1 H1 cls d g1 x => o' ι1 H1 cls d (g.trans g1) x
    | stuck => rw [e] at o'; exact o'
  | ex k w h2 => rw [e0] at o; exact o
  | stuck => rw [e0] at o; exact o
theorem pi_or {e : Expr} {w1 w2 : TI} (p1 : PI X tg e w1) (p2 : PI X tg e w2) : PI X tg e (fun σ H R => w1 σ H R ∨ w2 σ H R) :=
  ⟨fun pins s σ H R I h => h.elim (p1.run pins s σ H R I) (p2.run pins s σ H R I)⟩
/-- the thing that comes is locked -/
def tLk (X : Cx) (te : TE) : TE := fun σ H Q => te σ H fun x H1 => ∃ d u, x = .ref d ∧ H1 d = some u ∧ Mut (some u) ∧ ∀ od, (∀ o' u', X.H_0 d ≠ some (.frz o' u')) → Q x (upd H1 d (.frz od u))
theorem pe_lk {e : Expr} {te : TE} (p : PE X e te) : PE X e (tLk X te) := by
  refine ⟨fun pins s σ H Q I h => thn (p.run pins s σ H _ I h) fun u s1 ⟨v, H2, I2, r, d, w, ev, hd, mu, q⟩ => ?_⟩
  obtain ⟨od, I3⟩ := I2.lock hd mu
  exact ⟨v, _, I3, r, q od (I2.nofrz hd mu)⟩
theorem Rk.get {κ : Type} {K : PySem.W.Frag} {ι : List Addr} {H : Hp} {kvs : List (κ × W)} {vs : List (κ × V)} (r : Rk K ι H kvs vs) {i : Nat} {k : κ} {v : V} (e : vs[i]? = some (k, v)) : ∃ w, kvs[i]? = some (k, w) ∧ Rp K ι H w v := by
  induction r generalizing i with
  | nil => simp at e
  | @cons a b l m q t ih =>
    cases i with
    | zero =>
      simp at e; subst e
      exact ⟨a.2, by obtain ⟨a1, a2⟩ := a; have z : a1 = k := q.1; subst z; rfl, q.2⟩
    | succ j => simp at e; simpa using ih e
theorem Rk.getW {κ : Type} {K : PySem.W.Frag} {ι : List Addr} {H : Hp} {kvs : List (κ × W)} {vs : List (κ × V)} (r : Rk K ι H kvs vs) {i : Nat} {k : κ} {w : W} (e : kvs[i]? = some (k, w)) : ∃ v, vs[i]? = some (k, v) ∧ Rp K ι H w v := by
  induction r generalizing i with
  | nil => simp at e
  | @cons a b l m q t ih =>
    cases i with
    | zero =>
      simp at e; subst e
      exact ⟨b.2, by obtain ⟨b1, b2⟩ := b; have z : k = b1 := q.1; subst z; rfl, q.2⟩
    | succ j => simp at e; simpa using ih e
/-- a list of ours that is locked is there as it was -/
theorem Go.kept {K : PySem.W.Frag} {ι ι2 : List Addr} {h h2 : Hh} {H H2 : Hp} (r : Rh K ι h H) (g : Go K ι h H ι2 h2 H2) {a : Addr} {u : HO} (e : H a = some u) (l : ∀ (i : Nat) (ob : Ob), ι[i]? = some a → h[i]? = some ob → ob.lk ≠ Lk.free) : H2 a = some u := g.keep a u e l
theorem it_fl {ι : List Addr} {h : Hh} {H : Hp} (r : Rh X.K ι h H) {p : Addr} {ws : List W} {vs : List V} (hv : FzL X.K H p vs) (rs : Rps X.K ι H ws vs) : ItOk X ι h H ι h H ws [] (Itl X.K p) := by
  have st : ∀ ι2 h2 H2, Go X.K ι h H ι2 h2 H2 → FzL X.K H2 p vs ∧ Rps X.K ι2 H2 ws vs := fun ι2 h2 H2 g => ⟨by
    rcases hv with ⟨o, z⟩ | z
    · exact .inl ⟨o, g.keep _ _ z (r.frz z)⟩
    · exact .inr z, g.rps r rs⟩
  refine ItOk.plain r (fun ι2 h2 H2 i g l => ?_) (fun ι2 h2 H2 i w g e => ?_) fun ι2 h2 H2 i w x H3 g e y => ?_
  · obtain ⟨a, b⟩ := st _ _ _ g
    exact ⟨vs, a.sq, by rw [← b.length]; exact l⟩
  · obtain ⟨a, b⟩ := st _ _ _ g
    obtain ⟨v, e1, _⟩ := b.get e
    exact ⟨vs, v, a.sq, e1⟩
  · obtain ⟨a, b⟩ := st _ _ _ g
    obtain ⟨rfl, z⟩ := y
    obtain ⟨v, e1, e2⟩ := b.get e
    have := z vs a.sq
    rw [e1] at this
    cases this
    exact ⟨Go.refl g.rh, e2⟩
theorem it_tup {ι : List Addr} {h : Hh} {H : Hp} (r : Rh X.K ι h H) {p : Addr} {ws : List W} {vs : List V} (hv : H p = some (.tup vs)) (rs : Rps X.K ι H ws vs) : ItOk X ι h H ι h H ws [] (Itt X.K p) := by
  have st : ∀ ι2 h2 H2, Go X.K ι h H ι2 h2 H2 → SqT X.K H2 p vs ∧ Rps X.K ι2 H2 ws vs := fun ι2 h2 H2 g => ⟨SqT.of (g.keep _ _ hv (r.tup hv)), g.rps r rs⟩
  refine ItOk.plain r (fun ι2 h2 H2 i g l => ?_) (fun ι2 h2 H2 i w g e => ?_) fun ι2 h2 H2 i w x H3 g e y => ?_
  · obtain ⟨a, b⟩ := st _ _ _ g
    exact ⟨vs, a, by rw [← b.length]; exact l⟩
  · obtain ⟨a, b⟩ := st _ _ _ g
    obtain ⟨v, e1, _⟩ := b.get e
    exact ⟨vs, v, a, e1⟩
  · obtain ⟨a, b⟩ := st _ _ _ g
    obtain ⟨rfl, z⟩ := y
    obtain ⟨v, e1, e2⟩ := b.get e
    have := z vs a
    rw [e1] at this
    cases this
    exact ⟨Go.refl g.rh, e2⟩
/-- a list that is locked already -/
theorem it_lstK {ι : List Addr} {h : Hh} {H : Hp} (r : Rh X.K ι h H) {i : Nat} {p : Addr} {k : Lk} {xs : List W} (hi : ι[i]? = some p) (e : h[i]? = some (.lst k xs)) (hk : k ≠ .free) : ItOk X ι h H ι h H xs [] (Itl X.K p) := by
  obtain ⟨vs, hv, rs⟩ := r.lst hi e
  have st : ∀ ι2 h2 H2, Go X.K ι h H ι2 h2 H2 → SqL X.K H2 p vs ∧ Rps X.K ι2 H2 xs vs := fun ι2 h2 H2 g => ⟨SqL.of (g.keep _ _ hv fun j ob e1 e2 => by
    have := ixA r.nd e1 hi
    subst this
    rw [e] at e2; cases e2
    exact hk), g.rps r rs⟩
  refine ItOk.plain r (fun ι2 h2 H2 i g l => ?_) (fun ι2 h2 H2 i w g e => ?_) fun ι2 h2 H2 i w x H3 g e y => ?_
  · obtain ⟨a, b⟩ := st _ _ _ g
    exact ⟨vs, a, by rw [← b.length]; exact l⟩
  · obtain ⟨a, b⟩ := st _ _ _ g
    obtain ⟨v, e1, _⟩ := b.get e
    exact ⟨vs, v, a, e1⟩
  · obtain ⟨a, b⟩ := st _ _ _ g
    obtain ⟨rfl, z⟩ := y
    obtain ⟨v, e1, e2⟩ := b.get e
    have := z vs a
    rw [e1] at this
    cases this
    exact ⟨Go.refl g.rh, e2⟩
theorem it_lst {ι : List Addr} {h : Hh} {H : Hp} (r : Rh X.K ι h H) {i : Nat} {p : Addr} {xs : List W} (hi : ι[i]? = some p) (e : h[i]? = some (.lst .free xs)) : ItOk X ι h H ι (h.set i (.lst .lock xs)) H xs [(i, .free)] (Itl X.K p) := by
  have g0 : Go X.K ι h H ι (h.set i (.lst .lock xs)) H := Go.locked r e rfl fun a ha => (show Ro X.K ι H a (.lst .lock xs) from r.at_ i a (.lst .free xs) ha e)
  have hl : i < h.length := (List.getElem?_eq_some_iff.mp e).1
  have k := it_lstK (X := X) g0.rh hi (List.getElem?_set_self hl) (by simp)
  refine ⟨g0, fun ι2 h2 H2 g => ⟨H2, .inl rfl, ?_, fun _ _ q => q, fun _ _ e _ => e⟩, k.stop, k.more, k.yld⟩
  have t : h2[i]? = some (.lst .lock xs) := g.lk i _ (List.getElem?_set_self hl) (by simp [Ob.lk])
  show Go X.K ι h H ι2 (match h2[i]? with | some o => relock (h2.set i (o.setLk .free)) [] | none => relock h2 []) H2
  rw [t]
  exact Go.freed e g

theorem kW_ok {K : PySem.W.Frag} {ι : List Addr} {H : Hp} (k : Key) : Rp K ι H (match k with | .inl i => W.int i | .inr s => W.str s) (kV k) := by cases k <;> constructor
theorem kWs_ok {K : PySem.W.Frag} {ι : List Addr} {H : Hp} : ∀ ks : List Key, Rps K ι H (ks.map fun k => match k with | .inl i => W.int i | .inr s => W.str s) (ks.map kV)
  | [] => .nil
  | k :: r => .cons (kW_ok k) (kWs_ok r)
/-- the heap while a dict of ours is walked, and behind it -/
theorem Go.frozen {K : PySem.W.Frag} {ι : List Addr} {h : Hh} {H : Hp} (r : Rh K ι h H) {i : Nat} {p : Addr} {o o' : Ob} {u : HO} {od : Obj} (hi : ι[i]? = some p) (e : h[i]? = some o) (l : o.lk = .free) (hp : H p = some u)
    (new : Ro K ι (upd H p (.frz od u)) p o') : Go K ι h H ι (h.set i o') (upd H p (.frz od u)) := Go.set r hi e l new
theorem Go.melted {K : PySem.W.Frag} {ι ι2 : List Addr} {h h2 : Hh} {H H2 : Hp} (r : Rh K ι h H) {i : Nat} {p : Addr} {o o' : Ob} {u : HO} {od : Obj} (hi : ι[i]? = some p) (e : h[i]? = some o) (l : o.lk = .free) (l' : o'.lk ≠ .free) (hp : H p = some u) (ns : ¬ HO.seqy u) (nt : ∀ xs, u ≠ .tup xs) (nf : ∀ a b, u ≠ .frz a b)
    (g : Go K ι (h.set i o') (upd H p (.frz od u)) ι2 h2 H2) (new : Ro K ι2 (upd H2 p u) p o) : H2 p = some (.frz od u) ∧ Go K ι h H ι2 (h2.set i o) (upd H2 p u) ∧ ∀ w v, Rp K ι2 H2 w v → Rp K ι2 (upd H2 p u) w v := by
  have hl : i < h.length := (List.getElem?_eq_some_iff.mp e).1
  have t : h2[i]? = some o' := g.lk i _ (List.getElem?_set_self hl) l'
  have hf : H2 p = some (.frz od u) := g.keep p _ upd_same fun j ob z1 z2 => by
    have := ixA r.nd z1 hi
    subst this
    rw [List.getElem?_set_self hl] at z2; cases z2
    exact l'
  have kt : ∀ b xs, H2 b = some (.tup xs) → upd H2 p u b = some (.tup xs) := fun b xs z => by
    rw [upd_ne (fun y => by subst y; rw [hf] at z; cases z)]; exact z
  have kf : ∀ b o v, HO.seqy v → H2 b = some (.frz o v) → upd H2 p u b = some (.frz o v) := fun b o v sv z => by
    rw [upd_ne (fun y => by subst y; rw [hf] at z; cases z; exact ns sv)]; exact z
  refine ⟨hf, ⟨⟨by simp [g.rh.len], g.rh.nd, fun j b ob f1 f2 => ?_⟩, g.pre.elim fun ν z => ⟨ν, z.1, fun a ha => ?_⟩, fun b ob z m => ?_, fun j ob f1 f2 => ?_, by simpa using g.len0⟩, fun w v q => Rp.mono kt kf (fun _ _ e => e) q⟩
  · have hi2 := g.preI i p hi
    by_cases c : j = i
    · subst c
      rw [hi2] at f1; cases f1
      have hl' : j < h2.length := (List.getElem?_eq_some_iff.mp t).1
      rw [List.getElem?_set_self hl'] at f2; cases f2
      exact new
    · rw [List.getElem?_set_ne (Ne.symm c)] at f2
      have nb : b ≠ p := fun z => c (by subst z; exact ixA g.rh.nd f1 hi2)
      exact Ro.mono kt kf (fun _ _ e => e) (fun v z => by rw [upd_ne nb]; exact z) (g.rh.at_ j b ob f1 f2)
  · have y := z.2 a ha
    by_cases c : a = p
    · rw [c, upd_same] at y; cases y
    · rw [upd_ne c] at y; exact y
  · have nb : b ≠ p := fun y => by subst y; exact m i o hi e l
    rw [upd_ne nb]
    refine g.keep b ob (by rw [upd_ne nb]; exact z) fun j ob' z1 z2 => ?_
    have c : j ≠ i := fun y => by
      subst y
      rw [hi] at z1; cases z1
      exact nb rfl
    rw [List.getElem?_set_ne (Ne.symm c)] at z2
    exact m j ob' z1 z2
  · by_cases c : j = i
    · subst c
      rw [e] at f1; cases f1
      exact absurd l f2
    · rw [List.getElem?_set_ne (Ne.symm c)]
      exact g.lk j ob (by rw [List.getElem?_set_ne (Ne.symm c)]; exact f1) f2
theorem it_dK {ι : List Addr} {h : Hh} {H : Hp} (r : Rh X.K ι h H) {i : Nat} {p : Addr} {kvs : List (Key × W)} {vs : List (Key × V)} (hi : ι[i]? = some p) (e : h[i]? = some (.dK .free kvs)) (hv : H p = some (.dK vs)) (od : Obj) (nf : ∀ o' u', X.H_0 p ≠ some (.frz o' u')) :
    ItOk X ι h H ι (h.set i (.dK .froz kvs)) (upd H p (.frz od (.dK vs))) (kvs.map fun p => (match p.1 with | .inl i => W.int i | .inr s => W.str s)) [(i, .free)] (Itk p od vs) := by
  obtain ⟨vs', hv', rk⟩ := (show Ro X.K ι H p (.dK .free kvs) from r.at_ i p _ hi e)
  rw [hv] at hv'
  cases hv'
  have kt : ∀ {H : Hp} {u : HO}, H p = some (.dK vs) → ∀ b xs, H b = some (.tup xs) → upd H p u b = some (.tup xs) := fun {H u} hp b xs z => by
    rw [upd_ne (fun y => by subst y; rw [hp] at z; cases z)]; exact z
  have kf : ∀ {H : Hp} {u : HO}, H p = some (.dK vs) → ∀ b o v, HO.seqy v → H b = some (.frz o v) → upd H p u b = some (.frz o v) := fun {H u} hp b o v _ z => by
    rw [upd_ne (fun y => by subst y; rw [hp] at z; cases z)]; exact z
  have g0 : Go X.K ι h H ι (h.set i (.dK .froz kvs)) (upd H p (.frz od (.dK vs))) := Go.set r hi e rfl ⟨od, vs, upd_same, Rk.mono (kt hv) (kf hv) (fun _ _ e => e) rk⟩
  have hl : i < h.length := (List.getElem?_eq_some_iff.mp e).1
  have st : ∀ ι2 h2 H2, Go X.K ι (h.set i (.dK .froz kvs)) (upd H p (.frz od (.dK vs))) ι2 h2 H2 → H2 p = some (.frz od (.dK vs)) := fun ι2 h2 H2 g => g.keep p _ upd_same fun j ob z1 z2 => by
    have := ixA r.nd z1 hi
    subst this
    rw [List.getElem?_set_self hl] at z2; cases z2
    simp [Ob.lk]
  refine ⟨g0, fun ι2 h2 H2 g => ?_, fun ι2 h2 H2 j g l => ⟨st _ _ _ g, by rw [← rk.length]; simpa using l⟩, fun ι2 h2 H2 j w g e => ⟨st _ _ _ g, ?_⟩, fun ι2 h2 H2 j w x H3 g e y => ?_⟩
  · have t : h2[i]? = some (.dK .froz kvs) := g.lk i _ (List.getElem?_set_self hl) (by simp [Ob.lk])
    have hf := st _ _ _ g
    have r2 : Rk X.K ι2 H2 kvs vs := by
      obtain ⟨o2, v2, z1, z2⟩ := g.rh.at_ i p (.dK .froz kvs) (g.preI i p hi) t
      rw [hf] at z1; cases z1
      exact z2
    have kt2 : ∀ b xs, H2 b = some (.tup xs) → upd H2 p (.dK vs) b = some (.tup xs) := fun b xs z => by
      rw [upd_ne (fun y => by subst y; rw [hf] at z; cases z)]; exact z
    have kf2 : ∀ b o v, HO.seqy v → H2 b = some (.frz o v) → upd H2 p (.dK vs) b = some (.frz o v) := fun b o v sv z => by
      rw [upd_ne (fun y => by subst y; rw [hf] at z; cases z; exact sv)]; exact z
    obtain ⟨m1, m2, m3⟩ := Go.melted r (o := .dK .free kvs) (o' := .dK .froz kvs) hi e rfl (by simp [Ob.lk]) hv (fun z => z) (fun _ z => nomatch z) (fun _ _ z => nomatch z) g ⟨vs, upd_same, Rk.mono kt2 kf2 (fun _ _ e => e) r2⟩
    refine ⟨_, .inr ⟨p, od, .dK vs, nf, hf, ⟨vs, .inl rfl⟩, rfl⟩, ?_, m3, fun a u z n => ?_⟩
    · show Go X.K ι h H ι2 (match h2[i]? with | some o => relock (h2.set i (o.setLk .free)) [] | none => relock h2 []) _
      rw [t]
      exact m2
    · rw [upd_ne (fun y => by subst y; rw [hf] at z; cases z; exact n _ _ rfl)]; exact z
  · have := (List.getElem?_eq_some_iff.mp e).1
    rw [← rk.length]; simpa using this
  · obtain ⟨rfl, k, v, z1, rfl⟩ := y
    obtain ⟨w', z2, _⟩ := rk.get z1
    rw [List.getElem?_map, z2] at e
    simp at e
    subst e
    exact ⟨Go.refl g.rh, kW_ok k⟩
theorem it_dT {ι : List Addr} {h : Hh} {H : Hp} (r : Rh X.K ι h H) {i : Nat} {p : Addr} {kvs : List (List Key × W)} {vs : List (List Key × V)} (hi : ι[i]? = some p) (e : h[i]? = some (.dT .free kvs)) (hv : H p = some (.dT vs)) (od : Obj) (nf : ∀ o' u', X.H_0 p ≠ some (.frz o' u')) :
    ItOk X ι h H ι (h.set i (.dT .froz kvs)) (upd H p (.frz od (.dT vs))) (kvs.map fun p => W.tup (p.1.map fun q => (match q with | .inl i => W.int i | .inr s => W.str s))) [(i, .free)] (Itkt p od vs) := by
  obtain ⟨vs', hv', rk⟩ := (show Ro X.K ι H p (.dT .free kvs) from r.at_ i p _ hi e)
  rw [hv] at hv'
  cases hv'
  have kt : ∀ {H : Hp} {u : HO}, H p = some (.dT vs) → ∀ b xs, H b = some (.tup xs) → upd H p u b = some (.tup xs) := fun {H u} hp b xs z => by
    rw [upd_ne (fun y => by subst y; rw [hp] at z; cases z)]; exact z
  have kf : ∀ {H : Hp} {u : HO}, H p = some (.dT vs) → ∀ b o v, HO.seqy v → H b = some (.frz o v) → upd H p u b = some (.frz o v) := fun {H u} hp b o v _ z => by
    rw [upd_ne (fun y => by subst y; rw [hp] at z; cases z)]; exact z
  have g0 : Go X.K ι h H ι (h.set i (.dT .froz kvs)) (upd H p (.frz od (.dT vs))) := Go.set r hi e rfl ⟨od, vs, upd_same, Rk.mono (kt hv) (kf hv) (fun _ _ e => e) rk⟩
  have hl : i < h.length := (List.getElem?_eq_some_iff.mp e).1
  have st : ∀ ι2 h2 H2, Go X.K ι (h.set i (.dT .froz kvs)) (upd H p (.frz od (.dT vs))) ι2 h2 H2 → H2 p = some (.frz od (.dT vs)) := fun ι2 h2 H2 g => g.keep p _ upd_same fun j ob z1 z2 => by
    have := ixA r.nd z1 hi
    subst this
    rw [List.getElem?_set_self hl] at z2; cases z2
    simp [Ob.lk]
  refine ⟨g0, fun ι2 h2 H2 g => ?_, fun ι2 h2 H2 j g l => ⟨st _ _ _ g, by rw [← rk.length]; simpa using l⟩, fun ι2 h2 H2 j w g e => ⟨st _ _ _ g, ?_⟩, fun ι2 h2 H2 j w x H3 g e y => ?_⟩
  · have t : h2[i]? = some (.dT .froz kvs) := g.lk i _ (List.getElem?_set_self hl) (by simp [Ob.lk])
    have hf := st _ _ _ g
    have r2 : Rk X.K ι2 H2 kvs vs := by
      obtain ⟨o2, v2, z1, z2⟩ := g.rh.at_ i p (.dT .froz kvs) (g.preI i p hi) t
      rw [hf] at z1; cases z1
      exact z2
    have kt2 : ∀ b xs, H2 b = some (.tup xs) → upd H2 p (.dT vs) b = some (.tup xs) := fun b xs z => by
      rw [upd_ne (fun y => by subst y; rw [hf] at z; cases z)]; exact z
    have kf2 : ∀ b o v, HO.seqy v → H2 b = some (.frz o v) → upd H2 p (.dT vs) b = some (.frz o v) := fun b o v sv z => by
      rw [upd_ne (fun y => by subst y; rw [hf] at z; cases z; exact sv)]; exact z
    obtain ⟨m1, m2, m3⟩ := Go.melted r (o := .dT .free kvs) (o' := .dT .froz kvs) hi e rfl (by simp [Ob.lk]) hv (fun z => z) (fun _ z => nomatch z) (fun _ _ z => nomatch z) g ⟨vs, upd_same, Rk.mono kt2 kf2 (fun _ _ e => e) r2⟩
    refine ⟨_, .inr ⟨p, od, .dT vs, nf, hf, ⟨[], .inr ⟨vs, rfl⟩⟩, rfl⟩, ?_, m3, fun a u z n => ?_⟩
    · show Go X.K ι h H ι2 (match h2[i]? with | some o => relock (h2.set i (o.setLk .free)) [] | none => relock h2 []) _
      rw [t]
      exact m2
    · rw [upd_ne (fun y => by subst y; rw [hf] at z; cases z; exact n _ _ rfl)]; exact z
  · have := (List.getElem?_eq_some_iff.mp e).1
    rw [← rk.length]; simpa using this
  · obtain ⟨rfl, k, v, q, z1, rfl, z3⟩ := y
    obtain ⟨w', z2, _⟩ := rk.get z1
    rw [List.getElem?_map, z2] at e
    simp at e
    subst e
    exact ⟨Go.refl g.rh, .tup z3 (kWs_ok k)⟩
/-- for x in a: a tuple, a list, a dict's keys -/
theorem snd_wval (sa : SndE X Cl W0 a da) : SndI X Cl W0 tg a (fun σ h => (da σ h).bind fun x h1 => lockL h1 x) := by
  obtain ⟨ta, pa, ia⟩ := sa
  refine ⟨_, pi_or (pi_list pa) (pi_or (pi_tup pa) (pi_keys (pe_lk pa))), fun ι h H σ τ R r s O => ?_⟩
  replace O : OutI X Cl (WE W0 τ) ι h H ((da σ h).bind fun x h1 => lockL h1 x) R := O
  have run : ∀ {Q : VK}, (∀ x h1 ι1 H1 v, da σ h = .ok x h1 → Go X.K ι h H ι1 h1 H1 → Rp X.K ι1 H1 x v → OutI X Cl (WE W0 τ) ι1 h1 H1 (lockL h1 x) R → Q v H1) → ta τ H Q := fun {Q} k => ia ι h H σ τ Q r s (OutI.seqE (S' := Rp X.K) O k)
  cases e0 : da σ h with
  | stuck => rw [e0] at O; exact O.elim
  | ex k w h1 => exact .inl (run fun x h1 ι1 H1 v e => by rw [e0] at e; cases e)
  | ok x0 h0 =>
    have kind : (∃ l, x0 = .tup l) ∨ (∃ l, x0 = .fl l) ∨ (∃ i k xs, x0 = .ref i ∧ h0[i]? = some (.lst k xs)) ∨ (∃ i kvs, x0 = .ref i ∧ h0[i]? = some (.dK .free kvs)) ∨ (∃ i kvs, x0 = .ref i ∧ h0[i]? = some (.dT .free kvs)) ∨ lockL h0 x0 = .stuck := by
      cases x0 <;> try (right; right; right; right; right; rfl)
      · exact .inl ⟨_, rfl⟩
      · rename_i i
        cases eo : h0[i]? with
        | none => right; right; right; right; right; simp [lockL, eo]
        | some o =>
          cases o with
          | lst k xs => exact .inr (.inr (.inl ⟨i, k, xs, rfl, eo⟩))
          | dK k xs =>
            cases k
            · exact .inr (.inr (.inr (.inl ⟨i, xs, rfl, eo⟩)))
            · right; right; right; right; right; simp [lockL, eo]
            · right; right; right; right; right; simp [lockL, eo]
          | dT k xs =>
            cases k
            · exact .inr (.inr (.inr (.inr (.inl ⟨i, xs, rfl, eo⟩))))
            · right; right; right; right; right; simp [lockL, eo]
            · right; right; right; right; right; simp [lockL, eo]
      · exact .inr (.inl ⟨_, rfl⟩)
    rcases kind with ⟨l, rfl⟩ | ⟨l, rfl⟩ | ⟨i, k, xs, rfl, eo⟩ | ⟨i, kvs, rfl, eo⟩ | ⟨i, kvs, rfl, eo⟩ | es
    · refine .inr (.inl (run fun x h1 ι1 H1 v e g q o1 => ?_))
      rw [e0] at e; cases e
      obtain ⟨p, vs, rfl, hv, rs⟩ := q.tupI
      exact ⟨p, rfl, ⟨vs, SqT.of hv⟩, o1 _ _ _ (it_tup g.rh hv rs)⟩
    · refine .inl (run fun x h1 ι1 H1 v e g q o1 => ?_)
      rw [e0] at e; cases e
      obtain ⟨p, vs, rfl, hv, rs⟩ := q.flI
      exact ⟨p, rfl, ⟨vs, hv.sq⟩, o1 _ _ _ (it_fl g.rh hv rs)⟩
    · refine .inl (run fun x h1 ι1 H1 v e g q o1 => ?_)
      rw [e0] at e; cases e
      obtain ⟨p, rfl, hp⟩ := q.refI
      obtain ⟨vs, hv, rs⟩ := g.rh.lst hp eo
      refine ⟨p, rfl, ⟨vs, SqL.of hv⟩, ?_⟩
      simp only [lockL] at o1
      rw [eo] at o1
      cases k
      · exact o1 _ _ _ (it_lst g.rh hp eo)
      · exact o1 _ _ _ (it_lstK g.rh hp eo (by simp))
      · exact o1 _ _ _ (it_lstK g.rh hp eo (by simp))
    · refine .inr (.inr (run fun x h1 ι1 H1 v e g q o1 => ?_))
      rw [e0] at e; cases e
      obtain ⟨p, rfl, hp⟩ := q.refI
      obtain ⟨vs, hv, rk⟩ := (show Ro X.K ι1 H1 p (.dK .free kvs) from g.rh.at_ i p _ hp eo)
      refine ⟨p, _, rfl, hv, trivial, fun od nf => ⟨p, od, rfl, .inl ⟨vs, upd_same, ?_⟩⟩⟩
      simp only [lockL] at o1
      rw [eo] at o1
      exact o1 _ _ _ (it_dK g.rh hp eo hv od nf)
    · refine .inr (.inr (run fun x h1 ι1 H1 v e g q o1 => ?_))
      rw [e0] at e; cases e
      obtain ⟨p, rfl, hp⟩ := q.refI
      obtain ⟨vs, hv, rk⟩ := (show Ro X.K ι1 H1 p (.dT .free kvs) from g.rh.at_ i p _ hp eo)
      refine ⟨p, _, rfl, hv, trivial, fun od nf => ⟨p, od, rfl, .inr ⟨vs, upd_same, ?_⟩⟩⟩
      simp only [lockL] at o1
      rw [eo] at o1
      exact o1 _ _ _ (it_dT g.rh hp eo hv od nf)
    · rw [e0] at O
      have O' : OutI X Cl (WE W0 τ) ι h H (lockL h0 x0) R := O
      rw [es] at O'
      exact O'.elim
end
end
end R

/-! R8: comprehensions. -/
namespace R
open PySem PySem.Spec L2
open PyProof.Rows hiding St
/-! R's own readings -/
def rdE (K : PySem.W.Frag) (Cl : Nat → Option Addr) (W0 : WX) (d : Sl → Hh → Res W) : TE := fun τ H Q => ∃ ι h σ, Rh K ι h H ∧ Rs K ι H σ τ ∧ Out K Cl (Rp K) (WE W0 τ) ι h H (d σ h) Q
def rdT (K : PySem.W.Frag) (Cl : Nat → Option Addr) (W0 : WX) (d : Sl → Hh → Res Bool) : TT := fun τ H Q => ∃ ι h σ, Rh K ι h H ∧ Rs K ι H σ τ ∧ Out K Cl Sb (WE W0 τ) ι h H (d σ h) Q
def rdG (K : PySem.W.Frag) (t : Tg) : TG := fun v τ H Q => ∃ ι h σ σ' w, Rs K ι H σ τ ∧ Rp K ι H w v ∧ tgSet t w h σ = some σ' ∧ ∀ τ', Rs K ι H σ' τ' → Apart t.names τ τ' → Q τ' H
section
variable {X : Cx} {Cl : Nat → Option Addr} {W0 : WX}
theorem SndE.rd {e : Expr} {d : Sl → Hh → Res W} (s : SndE X Cl W0 e d) : PE X e (rdE X.K Cl W0 d) := by
  obtain ⟨t, p, i⟩ := s
  exact ⟨fun pins s σ H Q I ⟨ι, h, σw, r, q, o⟩ => p.run pins s σ H Q I (i ι h H σw σ Q r q o)⟩
theorem SndT.rd {e : Expr} {d : Sl → Hh → Res Bool} (s : SndT X Cl W0 e d) : PT X e (rdT X.K Cl W0 d) := by
  obtain ⟨t, p, i⟩ := s
  exact ⟨fun pins s σ H Q I ⟨ι, h, σw, r, q, o⟩ => p.run pins s σ H Q I (i ι h H σw σ Q r q o)⟩
theorem SndG.rd {e : Expr} {t : Tg} (s : SndG X e t) : PG X e (rdG X.K t) := by
  obtain ⟨g, p, i⟩ := s
  exact ⟨fun pins s σ H v u Q I rv ⟨ι, h, σw, σ', w, r, q, e, o⟩ => p.run pins s σ H v u Q I rv (i ι h H σw σ' σ w v Q r q e o)⟩
section
variable {K : PySem.W.Frag} {ι ι' : List Addr} {h h' : Hh} {H H' : Hp}
theorem Go.there (r : Rh K ι h H) (g : Go K ι h H ι' h' H') {a : Addr} {u : HO} (e : H a = some u) : ∃ u', H' a = some u' := by
  by_cases m : ∀ (i : Nat) (ob : Ob), ι[i]? = some a → h[i]? = some ob → ob.lk ≠ Lk.free
  · exact ⟨u, g.keep a u e m⟩
  · have ⟨i, hi⟩ : ∃ i, ι[i]? = some a := Classical.byContradiction fun q => m fun i ob e1 _ => absurd ⟨i, e1⟩ q
    obtain ⟨o, _, q⟩ := g.rh.get (g.preI i a hi)
    exact Ro.some_ q
theorem Go.stay (g : Go K ι h H ι' h' H') {a : Addr} {u : HO} (n : a ∉ ι) (e : H a = some u) : a ∉ ι' ∧ H' a = some u := by
  refine ⟨fun m => ?_, g.keep a u e fun i ob z _ => absurd (List.mem_iff_getElem?.mpr ⟨i, z⟩) n⟩
  obtain ⟨ν, e1, hn⟩ := g.pre
  rw [e1] at m
  rcases List.mem_append.mp m with z | z
  · exact n z
  · rw [hn a z] at e; cases e
/-- a list that is none of ours grows -/
theorem Go.aside (g : Go K ι h H ι' h' H') {D : Addr} {acc : List V} {o : HO} (hD : H D = none) (n : D ∉ ι') (e : H' D = some (.lst acc)) : Go K ι h H ι' h' (upd H' D o) := by
  have kt : ∀ b xs, H' b = some (.tup xs) → upd H' D o b = some (.tup xs) := fun b xs z => by
    rw [upd_ne (fun y => by subst y; rw [e] at z; cases z)]; exact z
  have kf : ∀ b o' v, HO.seqy v → H' b = some (.frz o' v) → upd H' D o b = some (.frz o' v) := fun b o' v sv z => by
    rw [upd_ne (fun y => by subst y; rw [e] at z; cases z)]; exact z
  refine ⟨⟨g.rh.len, g.rh.nd, fun j b ob f1 f2 => ?_⟩, g.pre, fun b ob z m => ?_, g.lk, g.len0⟩
  · have nb : b ≠ D := fun y => by subst y; exact n (List.mem_iff_getElem?.mpr ⟨j, f1⟩)
    exact Ro.mono kt kf (fun _ _ e => e) (fun v z => by rw [upd_ne nb]; exact z) (g.rh.at_ j b ob f1 f2)
  · rw [upd_ne (fun y => by subst y; rw [hD] at z; cases z)]
    exact g.keep b ob z m
/-- .. and becomes ours -/
theorem Go.adopt (g : Go K ι h H ι' h' H') {D : Addr} {acc : List V} {xs : List W} (hD : H D = none) (n : D ∉ ι') (e : H' D = some (.lst acc)) (q : Rps K ι' H' xs acc) : Go K ι h H (ι' ++ [D]) (h' ++ [.lst .free xs]) H' := by
  refine ⟨⟨by simp [g.rh.len], ?_, fun i a o e1 e2 => ?_⟩, g.pre.elim fun ν z => ⟨ν ++ [D], by rw [z.1, List.append_assoc], fun a ha => ?_⟩, g.keep, fun i ob z l => get_lt (g.lk i ob z l), g.len0⟩
  · rw [List.nodup_append]
    exact ⟨g.rh.nd, by simp, fun a ha b hb => by simp at hb; subst hb; exact fun z => n (z ▸ ha)⟩
  · by_cases c : i < ι'.length
    · rw [List.getElem?_append_left c] at e1
      rw [List.getElem?_append_left (g.rh.len ▸ c)] at e2
      exact Ro.mono (fun _ _ e => e) (fun _ _ _ _ e => e) (fun _ _ e => get_lt e) (fun _ e => e) (g.rh.at_ i a o e1 e2)
    · have hi : i = ι'.length := by
        have := (List.getElem?_eq_some_iff.mp e1).1
        simp at this; omega
      subst hi
      rw [get_push] at e1; cases e1
      rw [g.rh.len, get_push] at e2; cases e2
      exact ⟨acc, e, Rps.mono (fun _ _ e => e) (fun _ _ _ _ e => e) (fun _ _ e => get_lt e) q⟩
  · rcases List.mem_append.mp ha with y | y
    · exact z.2 a y
    · simp at y; subst y; exact hD
end
abbrev WN : WX := fun _ _ _ _ => False
abbrev Blk (X : Cx) (scope : Scope) (P : Cx → Prop) : Prop := ∀ (s : Shared) (H : Hp) (C : Addr) (cl : List (Str × Addr)) (fp : List Addr), P (X.blk s H scope (compEnvC scope cl C X.env) fp)
/-- what the loop of a comprehension shows -/
theorem lc_imp {wi : TI} {t : Tg} {di : Sl → Hh → Res (List W × Un)} {dt : Sl → Hh → Res Bool} {de : Sl → Hh → Res W} {tt : TT} {own : List (Str × Nat)}
    (ii : ∀ ι h H σ τ R, Rh X.K ι h H → Rs X.K ι H σ τ → OutI X Cl (WE W0 τ) ι h H (di σ h) R → wi τ H R) (hnm : ∀ i ∈ t.names, i ∈ own.map (·.2))
    (htt : ∀ ι h H σ τ Q, Rh X.K ι h H → Rs X.K ι H σ τ → Out X.K Cl Sb (WE WN τ) ι h H (dt σ h) Q → tt τ H Q) (ι : List Addr) (h : Hh) (H : Hp) (σ : Sl) (τ : St) (Q : VK) (r : Rh X.K ι h H) (s : Rs X.K ι H σ τ)
    (O : Out X.K Cl (Rp X.K) (WE W0 τ) ι h H ((di σ h).bind fun p h1 => if Nat.blt p.1.length 16777216 then (match lcLoop (tgSet t) dt de p.1 (wipe σ (own.map (·.2))) h1 with
      | .ok xs h2 => .ok (.ref (relock h2 p.2).length) (relock h2 p.2 ++ [.lst .free xs])
      | _ => .stuck) else .stuck) Q) : tLc wi (rdG X.K t) tt (rdE X.K Cl WN de) (own.map (·.2)) τ H (fun v H2 => ∃ H3, Thaw X H2 H3 ∧ Q v H3) := by
  refine ii ι h H σ τ _ r s ?_
  cases e0 : di σ h with
  | stuck => rw [e0] at O; exact O
  | ex k w h1 => rw [e0] at O; exact O
  | ok p h1 =>
    rw [e0] at O
    obtain ⟨items, us⟩ := p
    intro ι1 H1 J it D hD
    replace O : Out X.K Cl (Rp X.K) (WE W0 τ) ι h H (if Nat.blt items.length 16777216 then (match lcLoop (tgSet t) dt de items (wipe σ (own.map (·.2))) h1 with
      | .ok xs h2 => .ok (.ref (relock h2 us).length) (relock h2 us ++ [.lst .free xs])
      | _ => .stuck) else .stuck) Q := O
    split at O
    · rename_i hb
      have hb' : items.length < sizeLine := Nat.le_of_ble_eq_true hb
      split at O
      · rename_i xs hfin eL
        have r1 := it.go.rh
        refine ⟨fun i m Hc => ∃ ι2 h2 accW acc rest, Go X.K ι1 h1 H1 ι2 h2 Hc ∧ D ∉ ι2 ∧ Hc D = some (.lst acc) ∧ Rps X.K ι2 Hc accW acc ∧ accW.length ≤ i ∧ i ≤ items.length ∧ m = items.length - i ∧
          lcLoop (tgSet t) dt de (items.drop i) (wipe σ (own.map (·.2))) h2 = .ok rest hfin ∧ accW ++ rest = xs, ⟨items.length, ι1, h1, [], [], xs, Go.other r1 hD, r1.out hD, upd_same, .nil, Nat.le_refl _, Nat.zero_le _, rfl, eL, rfl⟩, ?_⟩
        rintro i m Hc ⟨ι2, h2, accW, acc, rest, g, nD, eD, qa, la, li, em, eR, ex⟩
        cases ei : items[i]? with
        | none =>
          left
          have hl : items.length ≤ i := List.getElem?_eq_none_iff.mp ei
          refine ⟨it.stop ι2 h2 Hc i g hl, ?_⟩
          obtain ⟨H3, th, g3, tr, pl⟩ := it.un ι2 h2 Hc g
          rw [List.drop_eq_nil_of_le hl] at eR
          cases eR
          rw [List.append_nil] at ex
          subst ex
          refine ⟨H3, th, ?_⟩
          have hH : H D = none := by
            cases z : H D with
            | none => rfl
            | some u =>
              obtain ⟨u', z'⟩ := Go.there r it.go z
              rw [hD] at z'; cases z'
          have qs : Rps X.K ι2 H3 accW acc := by
            have z : ∀ {ws : List W} {vs : List V}, Rps X.K ι2 Hc ws vs → Rps X.K ι2 H3 ws vs := by
              intro ws
              induction ws with
              | nil => intro vs q; cases q; exact .nil
              | cons w ws ih => intro vs q; cases q with | cons r t => exact .cons (tr _ _ r) (ih t)
            exact z qa
          exact O _ _ _ (Go.adopt g3 hH nD (pl D _ eD (fun _ _ z => nomatch z)) qs) (rp_new g3.rh D)
        | some w =>
          right
          have hl : i < items.length := (List.getElem?_eq_some_iff.mp ei).1
          refine ⟨it.more ι2 h2 Hc i w g ei, fun H' => ∃ ι3 h3 accW' acc' rest', Go X.K ι1 h1 H1 ι3 h3 H' ∧ D ∉ ι3 ∧ H' D = some (.lst acc') ∧ Rps X.K ι3 H' accW' acc' ∧ accW'.length ≤ i + 1 ∧
            lcLoop (tgSet t) dt de (items.drop (i + 1)) (wipe σ (own.map (·.2))) h3 = .ok rest' hfin ∧ accW' ++ rest' = xs, fun H' ⟨ι3, h3, accW', acc', rest', a1, a2, a3, a4, a5, a6, a7⟩ =>
              ⟨items.length - (i + 1), by omega, ι3, h3, accW', acc', rest', a1, a2, a3, a4, a5, hl, rfl, a6, a7⟩, fun x H' y => ?_⟩
          obtain ⟨gy, qy⟩ := it.yld ι2 h2 Hc i w x H' g ei y
          have gy1 := g.trans gy
          obtain ⟨nD', eD'⟩ := gy.stay nD eD
          have s2 : Rs X.K ι2 H' (wipe σ (own.map (·.2))) (L2.wipe τ (own.map (·.2))) := (gy1.rs r1 (it.go.rs r s)).wipe _
          have ed : items.drop i = w :: items.drop (i + 1) := by
            rw [List.drop_eq_getElem_cons hl]
            congr 1
            exact Option.some.inj ((List.getElem?_eq_getElem hl).symm.trans ei)
          rw [ed] at eR
          simp only [lcLoop] at eR
          split at eR
          · cases eR
          · rename_i σ1 eS
            refine ⟨ι2, h2, _, σ1, w, s2, qy, eS, fun τ' s' ap => ⟨?_, ?_⟩⟩
            · exact (ap _ hnm).trans (wipe_wipe τ _)
            · refine htt ι2 h2 H' σ1 τ' _ gy1.rh s' ?_
              split at eR
              · rename_i h3 eT
                rw [eT]
                intro ι3 H3 b g3 eb
                have eb' : true = b := eb
                subst eb'
                rw [if_pos rfl]
                obtain ⟨nD3, eD3⟩ := g3.stay nD' eD'
                refine ⟨ι3, h3, σ1, g3.rh, g3.rs gy1.rh s', ?_⟩
                split at eR
                · rename_i x1 h4 eX
                  rw [eX]
                  intro ι4 H4 y4 g4 q4
                  obtain ⟨nD4, eD4⟩ := g4.stay nD3 eD3
                  split at eR
                  · rename_i ys h5 eY
                    cases eR
                    have ga : Go X.K ι1 h1 H1 ι4 h4 H4 := (gy1.trans g3).trans g4
                    have qa4 : Rps X.K ι4 H4 accW acc := g4.rps g3.rh (g3.rps gy1.rh (gy.rps g.rh qa))
                    refine ⟨acc, eD4, by rw [← qa.length]; omega, ι4, h4, accW ++ [x1], acc ++ [y4], ys, Go.aside ga hD nD4 eD4, nD4, upd_same, ?_, by simp; omega, eY, by rw [← ex]; simp⟩
                    exact Rps.mono (up_tup eD4 (fun _ z => nomatch z)) (up_frz eD4 (fun _ _ z => nomatch z)) (fun _ _ e => e) (qa4.append (.cons q4 .nil))
                  · cases eR
                · cases eR
              · rename_i h3 eT
                rw [eT]
                intro ι3 H3 b g3 eb
                have eb' : false = b := eb
                subst eb'
                rw [if_neg (by decide)]
                obtain ⟨nD3, eD3⟩ := g3.stay nD' eD'
                exact ⟨ι3, h3, accW, acc, rest, gy1.trans g3, nD3, eD3, g3.rps gy1.rh (gy.rps g.rh qa), by omega, eR, ex⟩
              · cases eR
      · exact O.elim
    · exact O.elim
theorem snd_lc0 (C : Ce X W0) {elt tg iter : Expr} {ifs : List Expr} {scope : Scope} {own : List (Str × Nat)} {pos : Pos} {t : Tg} {di : Sl → Hh → Res (List W × Un)} {dt : Sl → Hh → Res Bool} {de : Sl → Hh → Res W} {tt : TT}
    (hi : SndI X Cl W0 tg iter di) (ok : BlkOk X.N X.env.scope scope own) (hnm : ∀ i ∈ t.names, i ∈ own.map (·.2)) (hg : Blk X scope fun X => SndG X tg t) (he : Blk X scope fun X => SndE X Cl WN elt de)
    (ht : Blk X scope fun X => PTs X ifs tt) (htt : ∀ ι h H σ τ Q, Rh X.K ι h H → Rs X.K ι H σ τ → Out X.K Cl Sb (WE WN τ) ι h H (dt σ h) Q → tt τ H Q) (hs : ∀ x, foldedSetIterable iter X.env x = pure x) :
    SndE X Cl W0 (.ListComp elt [⟨tg, iter, ifs, 0⟩] scope pos) (fun σ h => (di σ h).bind fun p h1 => if Nat.blt p.1.length 16777216 then (match lcLoop (tgSet t) dt de p.1 (wipe σ (own.map (·.2))) h1 with
      | .ok xs h2 => .ok (.ref (relock h2 p.2).length) (relock h2 p.2 ++ [.lst .free xs])
      | _ => .stuck) else .stuck) := by
  obtain ⟨wi, pi, ii⟩ := hi
  exact ⟨_, pe_thaw (pe_lc (te := rdE X.K Cl WN de) (g := rdG X.K t) (tt := tt) C.calm C.nd pi ok (fun s H C' cl fp => (hg s H C' cl fp).rd) ht (fun s H C' cl fp => (he s H C' cl fp).rd) hs), fun ι h H σ τ Q r s O => lc_imp ii hnm htt ι h H σ τ Q r s O⟩
theorem snd_lc (C : Ce X W0) {elt tg iter : Expr} {scope : Scope} {own : List (Str × Nat)} {pos : Pos} {t : Tg} {di : Sl → Hh → Res (List W × Un)} {de : Sl → Hh → Res W}
    (hi : SndI X Cl W0 tg iter di) (ok : BlkOk X.N X.env.scope scope own) (hnm : ∀ i ∈ t.names, i ∈ own.map (·.2)) (hg : Blk X scope fun X => SndG X tg t) (he : Blk X scope fun X => SndE X Cl WN elt de) (hs : ∀ x, foldedSetIterable iter X.env x = pure x) :
    SndE X Cl W0 (.ListComp elt [⟨tg, iter, [], 0⟩] scope pos) (fun σ h => (di σ h).bind fun p h1 => if Nat.blt p.1.length 16777216 then (match lcLoop (tgSet t) (fun _ h => .ok true h) de p.1 (wipe σ (own.map (·.2))) h1 with
      | .ok xs h2 => .ok (.ref (relock h2 p.2).length) (relock h2 p.2 ++ [.lst .free xs])
      | _ => .stuck) else .stuck) :=
  snd_lc0 C hi ok hnm hg he (fun s H C' cl fp => pts_nil) (fun ι h H σ τ Q r s o => o.here r rfl) hs
theorem snd_lcif (C : Ce X W0) {elt tg iter c : Expr} {scope : Scope} {own : List (Str × Nat)} {pos : Pos} {t : Tg} {di : Sl → Hh → Res (List W × Un)} {dt : Sl → Hh → Res Bool} {de : Sl → Hh → Res W}
    (hi : SndI X Cl W0 tg iter di) (ok : BlkOk X.N X.env.scope scope own) (hnm : ∀ i ∈ t.names, i ∈ own.map (·.2)) (hg : Blk X scope fun X => SndG X tg t) (he : Blk X scope fun X => SndE X Cl WN elt de) (hc : Blk X scope fun X => SndT X Cl WN c dt) (hs : ∀ x, foldedSetIterable iter X.env x = pure x) :
    SndE X Cl W0 (.ListComp elt [⟨tg, iter, [c], 0⟩] scope pos) (fun σ h => (di σ h).bind fun p h1 => if Nat.blt p.1.length 16777216 then (match lcLoop (tgSet t) dt de p.1 (wipe σ (own.map (·.2))) h1 with
      | .ok xs h2 => .ok (.ref (relock h2 p.2).length) (relock h2 p.2 ++ [.lst .free xs])
      | _ => .stuck) else .stuck) :=
  snd_lc0 (tt := rdT X.K Cl WN dt) C hi ok hnm hg he (fun s H C' cl fp => pts_one (hc s H C' cl fp).rd) (fun ι h H σ τ Q r s o => ⟨ι, h, σ, r, s, o⟩) hs
end
end R

/-! R9: statements. -/
namespace R
open PySem PySem.Spec L2
open PyProof.Rows hiding St
def OutS (K : PySem.W.Frag) (Cl : Nat → Option Addr) (W0 : WX) (ι : List Addr) (h : Hh) (H : Hp) (r : SR) (D : Ends) : Prop := match r with
  | .nx σ' h' => ∀ ι' H' τ', Go K ι h H ι' h' H' → Rs K ι' H' σ' τ' → D.nx τ' H'
  | .rt w h' => ∀ ι' H' v, Go K ι h H ι' h' H' → Rp K ι' H' w v → D.rt v H'
  | .bk σ' h' => ∀ ι' H' τ', Go K ι h H ι' h' H' → Rs K ι' H' σ' τ' → D.bk τ' H'
  | .ct σ' h' => ∀ ι' H' τ', Go K ι h H ι' h' H' → Rs K ι' H' σ' τ' → D.ct τ' H'
  | .ex k w σ' h' => ∀ ι' H' τ' cls d, Go K ι h H ι' h' H' → Rs K ι' H' σ' τ' → Xr K Cl ι' H' k w cls d → W0 cls d τ' H'
  | .stuck => False
section
variable {K : PySem.W.Frag} {Cl : Nat → Option Addr} {W0 : WX} {ι ι' : List Addr} {h h' : Hh} {H H' : Hp}
theorem OutS.from {r : SR} {D : Ends} (g : Go K ι h H ι' h' H') (o : OutS K Cl W0 ι h H r D) : OutS K Cl W0 ι' h' H' r D := by
  cases r with
  | nx σ h2 => exact fun ι2 H2 τ g2 s => o ι2 H2 τ (g.trans g2) s
  | rt w h2 => exact fun ι2 H2 τ g2 s => o ι2 H2 τ (g.trans g2) s
  | bk σ h2 => exact fun ι2 H2 τ g2 s => o ι2 H2 τ (g.trans g2) s
  | ct σ h2 => exact fun ι2 H2 τ g2 s => o ι2 H2 τ (g.trans g2) s
  | ex k w σ h2 => exact fun ι2 H2 τ cls d g2 s x => o ι2 H2 τ cls d (g.trans g2) s x
  | stuck => exact o
/-- an expression's end, then a statement's -/
def aft {α : Type} (r : Res α) (σ : Sl) (f : α → Hh → SR) : SR := match r with
  | .ok a h => f a h
  | .ex k w h => .ex k w σ h
  | .stuck => .stuck
theorem OutS.seq {α β : Type} {S : List Addr → Hp → α → β → Prop} {r : Res α} {σ : Sl} {τ : St} {f : α → Hh → SR} {D : Ends} {Q : β → Hp → Prop} (o : OutS K Cl W0 ι h H (aft r σ f) D) (r0 : Rh K ι h H) (s : Rs K ι H σ τ)
    (k : ∀ a h1 ι1 H1 b, Go K ι h H ι1 h1 H1 → S ι1 H1 a b → OutS K Cl W0 ι1 h1 H1 (f a h1) D → Q b H1) : Out K Cl S (WE W0 τ) ι h H r Q := by
  cases r with
  | ok a h2 => exact fun ι2 H2 b g q => k a h2 ι2 H2 b g q (OutS.from g o)
  | ex j w h2 => exact fun ι2 H2 cls d g x => o ι2 H2 τ cls d g (g.rs r0 s) x
  | stuck => exact o
theorem OutS.here {σ : Sl} {τ : St} {D : Ends} (o : OutS K Cl W0 ι h H (.nx σ h) D) (r : Rh K ι h H) (s : Rs K ι H σ τ) : D.nx τ H := o ι H τ (Go.refl r) s
end
def SndS (X : Cx) (Cl : Nat → Option Addr) (W0 : WX) (st : Stmt) (d : Sl → Hh → SR) : Prop := ∃ t : TS, PS X st t ∧
  ∀ ι h H σ τ D, Rh X.K ι h H → Rs X.K ι H σ τ → OutS X.K Cl W0 ι h H (d σ h) D → t D τ H
def SndSs (X : Cx) (Cl : Nat → Option Addr) (W0 : WX) (st : List Stmt) (d : Sl → Hh → SR) : Prop := ∃ t : TS, PSs X st t ∧
  ∀ ι h H σ τ D, Rh X.K ι h H → Rs X.K ι H σ τ → OutS X.K Cl W0 ι h H (d σ h) D → t D τ H
/-- no comprehension -/
def ncomp : Expr → Bool
  | .ListComp .. => false
  | .SetComp .. => false
  | .DictComp .. => false
  | _ => true
theorem ncomp_ok {e : Expr} {tg : Option Expr} {l : Nat} {env : Env} (h : ncomp e = true) : swapsWith e tg l env = pure false := by
  cases e <;> first | rfl | (simp [ncomp] at h)
/-- no tuple -/
def ntup : Expr → Bool
  | .Tuple .. => false
  | _ => true
theorem ntup_ok {tg e : Expr} {env : Env} (h : ntup e = true ∨ ∃ x p, tg = .Name x p ∨ ∃ o i, tg = .Subscript o i p) : swappedStores [tg] e env = pure none := by
  rcases h with h | ⟨x, p, h⟩
  · cases e <;> first | (simp [ntup] at h; done) | (cases tg <;> rfl)
  · rcases h with rfl | ⟨o, i, rfl⟩ <;> cases e <;> rfl
section
variable {X : Cx} {Cl : Nat → Option Addr} {W0 : WX} {a b c e : Expr} {da db dc de : Sl → Hh → Res W} {pos : Pos} {st : Stmt} {sts : List Stmt} {ds ds' : Sl → Hh → SR}
theorem snd_snil : SndSs X Cl W0 [] (fun σ h => .nx σ h) := ⟨_, pss_nil, fun ι h H σ τ D r s o => o.here r s⟩
theorem snd_scons (s1 : SndS X Cl W0 st ds) (s2 : SndSs X Cl W0 sts ds') : SndSs X Cl W0 (st :: sts) (fun σ h => match ds σ h with | .nx σ1 h1 => ds' σ1 h1 | q => q) := by
  obtain ⟨t, p, i⟩ := s1
  obtain ⟨t', p', i'⟩ := s2
  refine ⟨_, pss_cons p p', fun ι h H σ τ D r s o => ?_⟩
  refine i ι h H σ τ _ r s ?_
  replace o : OutS X.K Cl W0 ι h H (match ds σ h with | .nx σ1 h1 => ds' σ1 h1 | q => q) D := o
  cases e0 : ds σ h with
  | nx σ1 h1 =>
    rw [e0] at o
    exact fun ι1 H1 τ1 g s1 => i' ι1 h1 H1 σ1 τ1 D g.rh s1 (OutS.from g o)
  | rt w h1 => rw [e0] at o; exact o
  | bk σ1 h1 => rw [e0] at o; exact o
  | ct σ1 h1 => rw [e0] at o; exact o
  | ex k w σ1 h1 => rw [e0] at o; exact o
  | stuck => rw [e0] at o; exact o
theorem snd_never : SndS X Cl W0 st (fun _ _ => .stuck) := ⟨_, ps_never, fun ι h H σ τ D r s o => o.elim⟩
theorem snd_pass : SndS X Cl W0 (.Pass pos) (fun σ h => .nx σ h) := ⟨_, ps_pass, fun ι h H σ τ D r s o => o.here r s⟩
theorem snd_brk : SndS X Cl W0 (.Break pos) (fun σ h => .bk σ h) := ⟨_, ps_break, fun ι h H σ τ D r s o => o ι H τ (Go.refl r) s⟩
theorem snd_cnt : SndS X Cl W0 (.Continue pos) (fun σ h => .ct σ h) := ⟨_, ps_continue, fun ι h H σ τ D r s o => o ι H τ (Go.refl r) s⟩
theorem snd_retN : SndS X Cl W0 (.Return none pos) (fun _ h => .rt .non h) := ⟨_, ps_retN, fun ι h H σ τ D r s o => o ι H .non (Go.refl r) .non⟩
theorem snd_ret (se : SndE X Cl W0 e de) : SndS X Cl W0 (.Return (some e) pos) (fun σ h => aft (de σ h) σ fun w h1 => .rt w h1) := by
  obtain ⟨t, p, i⟩ := se
  refine ⟨_, ps_ret p, fun ι h H σ τ D r s o => ?_⟩
  exact i ι h H σ τ _ r s (OutS.seq o r s fun w h1 ι1 H1 v g q o1 => o1 ι1 H1 v (Go.refl g.rh) q)
theorem snd_exp (hn : ncomp e = true) (se : SndE X Cl W0 e de) : SndS X Cl W0 (.Expr e pos) (fun σ h => aft (de σ h) σ fun _ h1 => .nx σ h1) := by
  obtain ⟨t, p, i⟩ := se
  refine ⟨_, ps_expr p (ncomp_ok hn), fun ι h H σ τ D r s o => ?_⟩
  exact i ι h H σ τ _ r s (OutS.seq o r s fun w h1 ι1 H1 v g q o1 => o1.here g.rh (g.rs r s))
theorem snd_ife {dt : Sl → Hh → Res Bool} {xs ys : List Stmt} (sc : SndT X Cl W0 c dt) (s1 : SndSs X Cl W0 xs ds) (s2 : SndSs X Cl W0 ys ds') :
    SndS X Cl W0 (.If c xs ys pos) (fun σ h => aft (dt σ h) σ fun k h1 => match k with | true => ds σ h1 | false => ds' σ h1) := by
  obtain ⟨t, p, i⟩ := sc
  obtain ⟨t1, p1, i1⟩ := s1
  obtain ⟨t2, p2, i2⟩ := s2
  refine ⟨_, ps_if p p1 p2, fun ι h H σ τ D r s o => ?_⟩
  refine i ι h H σ τ _ r s (OutS.seq o r s fun k h1 ι1 H1 v g q o1 => ?_)
  have q' : k = v := q
  subst q'
  cases k with
  | true => rw [if_pos rfl]; exact i1 ι1 h1 H1 σ τ D g.rh (g.rs r s) o1
  | false => rw [if_neg (by decide)]; exact i2 ι1 h1 H1 σ τ D g.rh (g.rs r s) o1
theorem each1 {tg : Expr} {env : Env} (h : nst tg = true) : (assignEach [tg] env).map (·.2) = [assign tg env] := by
  cases tg <;> first | rfl | (simp [nst] at h)
/-- target = e -/
theorem snd_asg {tg : Expr} {t : Tg} (hg : SndG X tg t) (se : SndE X Cl W0 e de) (hs : swapsWithSole [tg] e pos.line X.env = pure false) (hw : swappedStores [tg] e X.env = pure none) (h1 : nst tg = true) :
    SndS X Cl W0 (.Assign [tg] e pos) (fun σ h => aft (de σ h) σ fun w h1 => match tgSet t w h1 σ with | some σ1 => .nx σ1 h1 | none => .stuck) := by
  obtain ⟨g, pg, ig⟩ := hg
  obtain ⟨t', p, i⟩ := se
  refine ⟨_, ps_asg p pg hs hw (each1 h1), fun ι h H σ τ D r s o => ?_⟩
  refine i ι h H σ τ _ r s (OutS.seq o r s fun w h1 ι1 H1 v g q o1 => ?_)
  split at o1
  · rename_i σ1 e1
    exact ig ι1 h1 H1 σ σ1 τ w v _ (g.rs r s) q e1 fun τ' s' _ => o1.here g.rh s'
  · exact o1.elim
/-- no slice -/
def nsl : Expr → Bool
  | .Slice .. => false
  | _ => true
theorem nsl_ix {i : Expr} (h : nsl i = true) : PlainIx i := by
  intro o j
  cases i <;> first | rfl | (simp [nsl] at h)
theorem nsl_as {o i : Expr} {p : Pos} {env : Env} (h : nsl i = true) : ∀ v, assign (.Subscript o i p) env v = (do
    let ov ← holding [v] (eval o env)
    let iv ← holding [v, ov] (eval i env)
    standAt p
    holding [v, ov, iv] (setItem ov iv v)
    release [v, ov, iv] []) := by
  intro v
  cases i <;> first | rfl | (simp [nsl] at h)
/-- o[i] = e -/
theorem snd_sub (C : Ce X W0) {o i : Expr} (hni : nsl i = true) {dob di : Sl → Hh → Res W} {p2 : Pos} (so : SndE X Cl W0 o dob) (si : SndE X Cl W0 i di) (se : SndE X Cl W0 e de) (hs : swapsWithSole [.Subscript o i p2] e pos.line X.env = pure false) :
    SndS X Cl W0 (.Assign [.Subscript o i p2] e pos) (fun σ h => aft ((de σ h).bind fun v h1 => (dob σ h1).bind fun x h2 => (di σ h2).bind fun y h3 => ofO (setix x y v h3) h3) σ fun h4 _ => .nx σ h4) := by
  obtain ⟨to, po, io⟩ := so
  obtain ⟨ti, pi, ii⟩ := si
  obtain ⟨te, pe, ie⟩ := se
  refine ⟨_, ps_asg pe (pg_sub po pi (set_R C.units) (nsl_as hni)) hs (ntup_ok (.inr ⟨("" : Str), p2, .inr ⟨o, i, rfl⟩⟩)), fun ι h H σ τ D r s O => ?_⟩
  have O1 : Out X.K Cl (fun _ _ (h4 : Hh) (_ : Unit) => True) (WE W0 τ) ι h H ((de σ h).bind fun v h1 => (dob σ h1).bind fun x h2 => (di σ h2).bind fun y h3 => ofO (setix x y v h3) h3) (fun _ _ => True) := OutS.seq O r s fun _ _ _ _ _ _ _ _ => trivial
  replace O : OutS X.K Cl W0 ι h H (aft ((de σ h).bind fun v h1 => (dob σ h1).bind fun x h2 => (di σ h2).bind fun y h3 => ofO (setix x y v h3) h3) σ fun h4 _ => .nx σ h4) D := O
  -- step by step
  cases e1 : de σ h with
  | stuck => rw [e1] at O; exact O.elim
  | ex k w h1 => rw [e1] at O; exact ie ι h H σ τ _ r s (by rw [e1]; exact fun ι2 H2 cls d g x => O ι2 H2 τ cls d g (g.rs r s) x)
  | ok v h1 =>
    rw [e1] at O
    refine ie ι h H σ τ _ r s ?_
    rw [e1]
    intro ι1 H1 vv g1 q1
    have s1 := g1.rs r s
    replace O := OutS.from g1 O
    cases e2 : dob σ h1 with
    | stuck => simp only [Res.bind, e2] at O; exact O.elim
    | ex k w h2 => simp only [Res.bind, e2] at O; exact io ι1 h1 H1 σ τ _ g1.rh s1 (by rw [e2]; exact fun ι2 H2 cls d g x => O ι2 H2 τ cls d g (g.rs g1.rh s1) x)
    | ok x h2 =>
      simp only [Res.bind, e2] at O
      refine io ι1 h1 H1 σ τ _ g1.rh s1 ?_
      rw [e2]
      intro ι2 H2 xv g2 q2
      have s2 := g2.rs g1.rh s1
      replace O := OutS.from g2 O
      cases e3 : di σ h2 with
      | stuck => simp only [e3] at O; exact O.elim
      | ex k w h3 => simp only [e3] at O; exact ii ι2 h2 H2 σ τ _ g2.rh s2 (by rw [e3]; exact fun ι3 H3 cls d g x => O ι3 H3 τ cls d g (g.rs g2.rh s2) x)
      | ok y h3 =>
        simp only [e3] at O
        refine ii ι2 h2 H2 σ τ _ g2.rh s2 ?_
        rw [e3]
        intro ι3 H3 yv g3 q3
        replace O := OutS.from g3 O
        cases e4 : setix x y v h3 with
        | none => simp only [e4, ofO] at O; exact O.elim
        | some h4 =>
          simp only [e4, ofO] at O
          exact ⟨ι3, h3, x, y, v, h4, g3.rh, g3.rp g2.rh q2, q3, g3.rp g2.rh (g2.rp g1.rh q1), e4, fun H4 g4 => O ι3 H4 τ g4 (g4.rs g3.rh (g3.rs g2.rh s2))⟩
/-- name op= e, ints -/
theorem snd_aug {i : Nat} {x : Str} {o : BOp} {p2 : Pos} (C : Ce X W0) (hi : X.N[i]? = some x) (hx : Loc X.env.scope x) (hf : X.fn x = true) (ho : o = .add ∨ o = .sub) (se : SndE X Cl W0 e de) :
    SndS X Cl W0 (.AugAssign (.Name x p2) o.py e pos) (fun σ h => match σ[i]? with | some (some x) => aft ((de σ h).bind fun y h1 => match x, y with | .int _, .int _ => binop o x y h1 | _, _ => .stuck) σ fun z h2 => .nx (σ.set i (some z)) h2 | _ => .stuck) := by
  obtain ⟨te, pe, ie⟩ := se
  have op : PIp X o.py (fun x y H Q => ∃ i j, x = .int i ∧ y = .int j ∧ Q (.int (if o = .add then i + j else i - j)) H) := by
    rcases ho with rfl | rfl
    · exact fun pins s σ H x y v u Q I rx ry ⟨i, j, ex, ey, q⟩ => iop_add pins s σ H x y v u Q I rx ry ⟨i, j, ex, ey, by simpa using q⟩
    · exact fun pins s σ H x y v u Q I rx ry ⟨i, j, ex, ey, q⟩ => iop_sub pins s σ H x y v u Q I rx ry ⟨i, j, ex, ey, by simpa using q⟩
  refine ⟨_, ps_aug C.nd hi hx pe op (.inl hf), fun ι h H σ τ D r s O => ?_⟩
  replace O : OutS X.K Cl W0 ι h H (match σ[i]? with | some (some x) => aft ((de σ h).bind fun y h1 => match x, y with | .int _, .int _ => binop o x y h1 | _, _ => .stuck) σ fun z h2 => .nx (σ.set i (some z)) h2 | _ => .stuck) D := O
  split at O
  · rename_i w ew
    obtain ⟨v, e1, q1⟩ := s.2 i w ew
    refine ⟨v, e1, ?_⟩
    cases e2 : de σ h with
    | stuck => rw [e2] at O; exact O.elim
    | ex k w h1 => rw [e2] at O; exact ie ι h H σ τ _ r s (by rw [e2]; exact fun ι2 H2 cls d g x => O ι2 H2 τ cls d g (g.rs r s) x)
    | ok y h1 =>
      rw [e2] at O
      refine ie ι h H σ τ _ r s ?_
      rw [e2]
      intro ι1 H1 yv g1 q2
      replace O := OutS.from g1 O
      cases q1 <;> cases q2 <;> simp only [Res.bind, aft] at O <;> try exact O.elim
      rename_i i1 j1
      refine ⟨i1, j1, rfl, rfl, ?_⟩
      have s1 := g1.rs r s
      rcases ho with rfl | rfl <;> simp only [binop, fi_ok] at O
      · exact O ι1 H1 _ (Go.refl g1.rh) (s1.set i (.int _))
      · exact O ι1 H1 _ (Go.refl g1.rh) (s1.set i (.int _))
  · exact O.elim
end
end R

/-! R10: loops, tuple assignments. -/
namespace R
open PySem PySem.Spec L2
open PyProof.Rows hiding St
section
variable {X : Cx} {Cl : Nat → Option Addr} {W0 : WX} {a b c e : Expr} {da db dc de : Sl → Hh → Res W} {pos : Pos} {st : Stmt} {sts : List Stmt} {ds ds' : Sl → Hh → SR}
/-- what behind a walked dict is wished -/
def thE (X : Cx) (D : Ends) : Ends := ⟨fun τ H => ∃ H3, Thaw X H H3 ∧ D.nx τ H3, fun v H => ∃ H3, Thaw X H H3 ∧ D.rt v H3, fun τ H => ∃ H3, Thaw X H H3 ∧ D.bk τ H3, fun τ H => ∃ H3, Thaw X H H3 ∧ D.ct τ H3⟩
theorem ps_thaw {t : TS} (p : PS X st t) : PS X st (fun D σ H => t (thE X D) σ H) := by
  refine ⟨fun pins s σ H D I h => thn (p.run pins s σ H _ I h) fun f s1 q => ?_⟩
  cases f with
  | next => obtain ⟨σ', H', I2, H3, th, q⟩ := q; exact ⟨σ', H3, thawed I2 th, q⟩
  | brk => obtain ⟨σ', H', I2, H3, th, q⟩ := q; exact ⟨σ', H3, thawed I2 th, q⟩
  | cont => obtain ⟨σ', H', I2, H3, th, q⟩ := q; exact ⟨σ', H3, thawed I2 th, q⟩
  | ret v => obtain ⟨x, σ', H', I2, r, H3, th, q⟩ := q; exact ⟨x, σ', H3, thawed I2 th, r, q⟩
def thW (X : Cx) (W0 : WX) : WX := fun cls d σ H => ∃ H3, Thaw X H H3 ∧ W0 cls d σ H3
theorem takes_thaw (tk : Takes X W0) : Takes X (thW X W0) := by
  rintro u s' ⟨a, B, sI, pins, σ, H, cls, d, e1, I, g1, g2, sk, na, os, ag, H3, th, w⟩
  refine tk u s' ⟨a, B, sI, pins, σ, H3, cls, d, e1, thawed I th, g1, g2, sk, ?_, os, ag, w⟩
  rcases th with rfl | ⟨q, o, v, _, hq, _, rfl⟩
  · exact na
  · rw [upd_ne (fun z => by subst z; rw [na] at hq; cases hq)]; exact na
theorem Ce.th (C : Ce X W0) : Ce X (thW X W0) := ⟨C.calm, C.units, takes_thaw C.tk, C.nd, C.po⟩
theorem Xr.th {ι : List Addr} {H H3 : Hp} {k : Nat} {w : W} {cls : Value} {d : Option Addr} (x : Xr X.K Cl ι H k w cls d) (tr : ∀ w v, Rp X.K ι H w v → Rp X.K ι H3 w v) (pl : ∀ a u, H a = some u → (∀ o k, u ≠ .frz o k) → H3 a = some u) : Xr X.K Cl ι H3 k w cls d := by
  obtain ⟨C, dd, v, e1, e2, e3, e4, q⟩ := x
  exact ⟨C, dd, v, e1, e2, e3, pl dd _ e4 (fun _ _ z => nomatch z), tr _ _ q⟩
theorem rs_tr {K : PySem.W.Frag} {ι : List Addr} {H H3 : Hp} {σ : Sl} {τ : St} (tr : ∀ w v, Rp K ι H w v → Rp K ι H3 w v) (s : Rs K ι H σ τ) : Rs K ι H3 σ τ :=
  ⟨s.1, fun i w e => let ⟨v, e1, q⟩ := s.2 i w e; ⟨v, e1, tr _ _ q⟩⟩
/-- the end of a loop, its lists set free -/
theorem OutS.unlock {ι ι1 : List Addr} {h h1 : Hh} {H H1 : Hp} {items : List W} {us : Un} {J : It} {r : SR} {D : Ends} (it : ItOk X ι h H ι1 h1 H1 items us J) (o : OutS X.K Cl W0 ι h H (r.relock us) D) : OutS X.K Cl (thW X W0) ι1 h1 H1 r (thE X D) := by
  cases r with
  | nx σ h2 => intro ι2 H2 τ g s; obtain ⟨H3, th, g3, tr, pl⟩ := it.un ι2 h2 H2 g; exact ⟨H3, th, o ι2 H3 τ g3 (rs_tr tr s)⟩
  | rt w h2 => intro ι2 H2 v g q; obtain ⟨H3, th, g3, tr, pl⟩ := it.un ι2 h2 H2 g; exact ⟨H3, th, o ι2 H3 v g3 (tr _ _ q)⟩
  | bk σ h2 => intro ι2 H2 τ g s; obtain ⟨H3, th, g3, tr, pl⟩ := it.un ι2 h2 H2 g; exact ⟨H3, th, o ι2 H3 τ g3 (rs_tr tr s)⟩
  | ct σ h2 => intro ι2 H2 τ g s; obtain ⟨H3, th, g3, tr, pl⟩ := it.un ι2 h2 H2 g; exact ⟨H3, th, o ι2 H3 τ g3 (rs_tr tr s)⟩
  | ex k w σ h2 => intro ι2 H2 τ cls d g s x; obtain ⟨H3, th, g3, tr, pl⟩ := it.un ι2 h2 H2 g; exact ⟨H3, th, o ι2 H3 τ cls d g3 (rs_tr tr s) (x.th tr pl)⟩
  | stuck => exact o
/-- a body in a loop -/
theorem OutS.body {ι : List Addr} {h : Hh} {H : Hp} {r : SR} {f : Sl → Hh → SR} {D : Ends} {N : St → Hp → Prop} (o : OutS X.K Cl W0 ι h H (match r with | .nx σ2 h2 => f σ2 h2 | .ct σ2 h2 => f σ2 h2 | .bk σ2 h2 => .nx σ2 h2 | q => q) D)
    (k : ∀ σ2 h2 ι2 H2 τ2, Go X.K ι h H ι2 h2 H2 → Rs X.K ι2 H2 σ2 τ2 → OutS X.K Cl W0 ι2 h2 H2 (f σ2 h2) D → N τ2 H2) : OutS X.K Cl W0 ι h H r ⟨N, D.rt, D.nx, N⟩ := by
  cases r with
  | nx σ h2 => exact fun ι2 H2 τ g s => k σ h2 ι2 H2 τ g s (OutS.from g o)
  | ct σ h2 => exact fun ι2 H2 τ g s => k σ h2 ι2 H2 τ g s (OutS.from g o)
  | rt w h2 => exact o
  | bk σ h2 => exact o
  | ex k w σ h2 => exact o
  | stuck => exact o
theorem snd_loop {tg iter : Expr} {body : List Stmt} {t : Tg} {di : Sl → Hh → Res (List W × Un)} (C : Ce X W0) (hi : SndI X Cl W0 tg iter di) (hg : SndG X tg t) (hb : ∀ W0, Ce X W0 → SndSs X Cl W0 body ds) (hs : ∀ x, foldedSetIterable iter X.env x = pure x) :
    SndS X Cl W0 (.For tg iter body [] pos) (fun σ h => aft (di σ h) σ fun p h1 => (forLoop (tgSet t) ds p.1 σ h1).relock p.2) := by
  obtain ⟨wi, pi, ii⟩ := hi
  obtain ⟨g, pg, ig⟩ := hg
  obtain ⟨tb, pb, ib⟩ := hb _ C.th
  refine ⟨_, ps_thaw (ps_for C.po C.calm pi pg pb hs), fun ι h H σ τ D r s O => ?_⟩
  replace O : OutS X.K Cl W0 ι h H (aft (di σ h) σ fun p h1 => (forLoop (tgSet t) ds p.1 σ h1).relock p.2) D := O
  refine ii ι h H σ τ _ r s ?_
  cases e0 : di σ h with
  | stuck => rw [e0] at O; exact O
  | ex k w h1 => rw [e0] at O; exact fun ι2 H2 cls d g x => O ι2 H2 τ cls d g (g.rs r s) x
  | ok p h1 =>
    rw [e0] at O
    obtain ⟨items, us⟩ := p
    intro ι1 H1 J it
    have r1 := it.go.rh
    have O1 : OutS X.K Cl (thW X W0) ι1 h1 H1 (forLoop (tgSet t) ds items σ h1) (thE X D) := OutS.unlock it O
    refine ⟨fun i m τ H => ∃ ι2 h2 σ2, Go X.K ι1 h1 H1 ι2 h2 H ∧ Rs X.K ι2 H σ2 τ ∧ i ≤ items.length ∧ m = items.length - i ∧ OutS X.K Cl (thW X W0) ι2 h2 H (forLoop (tgSet t) ds (items.drop i) σ2 h2) (thE X D),
      ⟨items.length, ι1, h1, σ, Go.refl r1, it.go.rs r s, Nat.zero_le _, rfl, O1⟩, ?_⟩
    rintro i m τ2 H2 ⟨ι2, h2, σ2, g2, s2, li, em, O2⟩
    cases ei : items[i]? with
    | none =>
      left
      have hl : items.length ≤ i := List.getElem?_eq_none_iff.mp ei
      rw [List.drop_eq_nil_of_le hl] at O2
      exact ⟨it.stop ι2 h2 H2 i g2 hl, O2 ι2 H2 τ2 (Go.refl g2.rh) s2⟩
    | some w =>
      right
      have hl : i < items.length := (List.getElem?_eq_some_iff.mp ei).1
      refine ⟨it.more ι2 h2 H2 i w g2 ei, fun τ H => ∃ ι3 h3 σ3, Go X.K ι1 h1 H1 ι3 h3 H ∧ Rs X.K ι3 H σ3 τ ∧ OutS X.K Cl (thW X W0) ι3 h3 H (forLoop (tgSet t) ds (items.drop (i + 1)) σ3 h3) (thE X D),
        fun τ H ⟨ι3, h3, σ3, a1, a2, a3⟩ => ⟨items.length - (i + 1), by omega, ι3, h3, σ3, a1, a2, hl, rfl, a3⟩, fun x H' y => ?_⟩
      obtain ⟨gy, qy⟩ := it.yld ι2 h2 H2 i w x H' g2 ei y
      have ed : items.drop i = w :: items.drop (i + 1) := by
        rw [List.drop_eq_getElem_cons hl]
        congr 1
        exact Option.some.inj ((List.getElem?_eq_getElem hl).symm.trans ei)
      rw [ed] at O2
      simp only [forLoop] at O2
      replace O2 := OutS.from gy O2
      split at O2
      · exact O2.elim
      · rename_i σ3 eS
        refine ig ι2 h2 H' σ2 σ3 τ2 w x _ (gy.rs g2.rh s2) qy eS fun τ3 s3 _ => ?_
        refine ib ι2 h2 H' σ3 τ3 _ gy.rh s3 (OutS.body O2 fun σ4 h4 ι4 H4 τ4 g4 s4 o4 => ⟨ι4, h4, σ4, (g2.trans gy).trans g4, s4, o4⟩)
theorem snd_while {test : Expr} {body : List Stmt} {dt : Sl → Hh → Res Bool} {n : Nat} (C : Ce X W0) (hc : SndT X Cl W0 test dt) (hb : SndSs X Cl W0 body ds) : SndS X Cl W0 (.While test body [] pos) (fun σ h => whileLoop dt ds n σ h) := by
  obtain ⟨tc, pc, ic⟩ := hc
  obtain ⟨tb, pb, ib⟩ := hb
  refine ⟨_, ps_while C.po pc pb, fun ι h H σ τ D r s O => ?_⟩
  refine ⟨fun m τ2 H2 => ∃ ι2 h2 σ2, Rh X.K ι2 h2 H2 ∧ Rs X.K ι2 H2 σ2 τ2 ∧ OutS X.K Cl W0 ι2 h2 H2 (whileLoop dt ds m σ2 h2) D, ⟨n, ι, h, σ, r, s, O⟩, ?_⟩
  rintro m τ2 H2 ⟨ι2, h2, σ2, r2, s2, O2⟩
  cases m with
  | zero => exact O2.elim
  | succ m =>
    have O3 : OutS X.K Cl W0 ι2 h2 H2 (aft (dt σ2 h2) σ2 fun k h1 => match k with
      | true => (match ds σ2 h1 with | .nx σ2 h2 => whileLoop dt ds m σ2 h2 | .ct σ2 h2 => whileLoop dt ds m σ2 h2 | .bk σ2 h2 => .nx σ2 h2 | q => q)
      | false => .nx σ2 h1) D := by
      simp only [whileLoop] at O2
      cases e : dt σ2 h2 with
      | ok k h1 => cases k <;> (rw [e] at O2; exact O2)
      | ex k w h1 => rw [e] at O2; exact O2
      | stuck => rw [e] at O2; exact O2
    refine ic ι2 h2 H2 σ2 τ2 _ r2 s2 (OutS.seq O3 r2 s2 fun k h3 ι3 H3 v g q o => ?_)
    have q' : k = v := q
    subst q'
    cases k with
    | false => rw [if_neg (by decide)]; exact o ι3 H3 τ2 (Go.refl g.rh) (g.rs r2 s2)
    | true =>
      rw [if_pos rfl]
      refine ⟨fun τ H => ∃ ι2 h2 σ2, Rh X.K ι2 h2 H ∧ Rs X.K ι2 H σ2 τ ∧ OutS X.K Cl W0 ι2 h2 H (whileLoop dt ds m σ2 h2) D, fun τ H z => ⟨m, Nat.lt_succ_self m, z⟩, ?_⟩
      exact ib ι3 h3 H3 σ2 τ2 _ g.rh (g.rs r2 s2) (OutS.body o fun σ4 h4 ι4 H4 τ4 g4 s4 o4 => ⟨ι4, h4, σ4, g4.rh, s4, o4⟩)
end
end R

/-! R11: more assignments. -/
namespace R
open PySem PySem.Spec L2
open PyProof.Rows hiding St
section
variable {X : Cx} {Cl : Nat → Option Addr} {W0 : WX} {a b c e : Expr} {da db dc de : Sl → Hh → Res W} {pos spos : Pos}
abbrev dLc (di : Sl → Hh → Res (List W × Un)) (t : Tg) (dt : Sl → Hh → Res Bool) (de : Sl → Hh → Res W) (vs : List Nat) : Sl → Hh → Res W := fun σ h => (di σ h).bind fun p h1 =>
    if Nat.blt p.1.length 16777216 then (match lcLoop (tgSet t) dt de p.1 (wipe σ vs) h1 with
      | .ok xs h2 => .ok (.ref (relock h2 p.2).length) (relock h2 p.2 ++ [.lst .free xs])
      | _ => .stuck) else .stuck
abbrev dAsg (de : Sl → Hh → Res W) (t : Tg) : Sl → Hh → SR := fun σ h => aft (de σ h) σ fun w h1 => match tgSet t w h1 σ with | some σ1 => .nx σ1 h1 | none => .stuck
theorem snd_asgLc0 (C : Ce X W0) {elt tg iter : Expr} {ifs : List Expr} {scope : Scope} {own : List (Str × Nat)} {t : Tg} {di : Sl → Hh → Res (List W × Un)} {dt : Sl → Hh → Res Bool} {tt : TT} {i : Nat} {y : Str} {py : Pos}
    (hy : X.N[i]? = some y) (hyl : X.env.scope.names.lookup y = some .local) (hsw : swapsWith (.ListComp elt [⟨tg, iter, ifs, 0⟩] scope pos) (some (.Name y py)) spos.line X.env = pure true)
    (hi : SndI X Cl W0 tg iter di) (ok : BlkOk X.N X.env.scope scope own) (hnm : ∀ i ∈ t.names, i ∈ own.map (·.2)) (hg : Blk X scope fun X => SndG X tg t) (he : Blk X scope fun X => SndE X Cl WN elt de)
    (ht : Blk X scope fun X => PTs X ifs tt) (htt : ∀ ι h H σ τ Q, Rh X.K ι h H → Rs X.K ι H σ τ → Out X.K Cl Sb (WE WN τ) ι h H (dt σ h) Q → tt τ H Q) (hs : ∀ x, foldedSetIterable iter X.env x = pure x) :
    SndS X Cl W0 (.Assign [.Name y py] (.ListComp elt [⟨tg, iter, ifs, 0⟩] scope pos) spos) (dAsg (dLc di t dt de (own.map (·.2))) (.nm i)) := by
  obtain ⟨wi, pi, ii⟩ := hi
  refine ⟨_, ps_thaw (ps_setLc (te := rdE X.K Cl WN de) (g := rdG X.K t) (tt := tt) C.calm C.nd hy hyl hsw pi ok (fun s H C' cl fp => (hg s H C' cl fp).rd) ht (fun s H C' cl fp => (he s H C' cl fp).rd) hs), fun ι h H σ τ D r s O => ?_⟩
  refine lc_imp ii hnm htt ι h H σ τ (fun v H3 => D.nx (τ.set i (some v)) H3) r s (OutS.seq O r s fun w h1 ι1 H1 v g q o1 => ?_)
  exact o1.here g.rh ((g.rs r s).set i q)
theorem snd_asgLc (C : Ce X W0) {elt tg iter : Expr} {scope : Scope} {own : List (Str × Nat)} {t : Tg} {di : Sl → Hh → Res (List W × Un)} {i : Nat} {y : Str} {py : Pos}
    (hy : X.N[i]? = some y) (hyl : X.env.scope.names.lookup y = some .local) (hsw : swapsWith (.ListComp elt [⟨tg, iter, [], 0⟩] scope pos) (some (.Name y py)) spos.line X.env = pure true)
    (hi : SndI X Cl W0 tg iter di) (ok : BlkOk X.N X.env.scope scope own) (hnm : ∀ i ∈ t.names, i ∈ own.map (·.2)) (hg : Blk X scope fun X => SndG X tg t) (he : Blk X scope fun X => SndE X Cl WN elt de) (hs : ∀ x, foldedSetIterable iter X.env x = pure x) :
    SndS X Cl W0 (.Assign [.Name y py] (.ListComp elt [⟨tg, iter, [], 0⟩] scope pos) spos) (dAsg (dLc di t (fun _ h => .ok true h) de (own.map (·.2))) (.nm i)) :=
  snd_asgLc0 C hy hyl hsw hi ok hnm hg he (fun s H C' cl fp => pts_nil) (fun ι h H σ τ Q r s o => o.here r rfl) hs
theorem snd_asgLcif (C : Ce X W0) {elt tg iter : Expr} {scope : Scope} {own : List (Str × Nat)} {t : Tg} {di : Sl → Hh → Res (List W × Un)} {dt : Sl → Hh → Res Bool} {i : Nat} {y : Str} {py : Pos}
    (hy : X.N[i]? = some y) (hyl : X.env.scope.names.lookup y = some .local) (hsw : swapsWith (.ListComp elt [⟨tg, iter, [c], 0⟩] scope pos) (some (.Name y py)) spos.line X.env = pure true)
    (hi : SndI X Cl W0 tg iter di) (ok : BlkOk X.N X.env.scope scope own) (hnm : ∀ i ∈ t.names, i ∈ own.map (·.2)) (hg : Blk X scope fun X => SndG X tg t) (he : Blk X scope fun X => SndE X Cl WN elt de) (hc : Blk X scope fun X => SndT X Cl WN c dt) (hs : ∀ x, foldedSetIterable iter X.env x = pure x) :
    SndS X Cl W0 (.Assign [.Name y py] (.ListComp elt [⟨tg, iter, [c], 0⟩] scope pos) spos) (dAsg (dLc di t dt de (own.map (·.2))) (.nm i)) :=
  snd_asgLc0 (tt := rdT X.K Cl WN dt) C hy hyl hsw hi ok hnm hg he (fun s H C' cl fp => pts_one (hc s H C' cl fp).rd) (fun ι h H σ τ Q r s o => ⟨ι, h, σ, r, s, o⟩) hs
/-- a, b = x, y stored from the right -/
theorem snd_par2 (C : Ce X W0) {i j : Nat} {x y : Str} {px py pt pt2 : Pos} {kt k2 : Nat} {dl : Sl → Hh → Res (List W)} (hi : X.N[i]? = some x) (hj : X.N[j]? = some y) (hij : i ≠ j)
    (hx : X.env.scope.names.lookup x = some .local) (hy : X.env.scope.names.lookup y = some .local) (sl : SndL X Cl W0 [a, b] dl)
    (hw : swappedStores [.Tuple [.Name x px, .Name y py] kt pt] (.Tuple [a, b] k2 pt2) X.env = pure (some [x, y])) :
    SndS X Cl W0 (.Assign [.Tuple [.Name x px, .Name y py] kt pt] (.Tuple [a, b] k2 pt2) spos) (dAsg (fun σ h => (dl σ h).bind fun ws h1 => if lineB ws.length then .ok (.tup ws) h1 else .stuck) (.tup [i, j])) := by
  obtain ⟨tl, pl, il⟩ := sl
  refine ⟨_, ps_par C.calm C.nd hi hj hij hx hy pl hw, fun ι h H σ τ D r s O => ?_⟩
  replace O : OutS X.K Cl W0 ι h H (aft (dl σ h) σ fun ws h1 => if lineB ws.length then (match setAll [i, j] ws σ with | some σ1 => .nx σ1 h1 | none => .stuck) else .stuck) D := by
    dsimp only [dAsg] at O
    cases e : dl σ h with
    | ok ws h1 => rw [e] at O; simp only [Res.bind, aft] at O ⊢; split <;> (rename_i h0; simp only [h0] at O; exact O)
    | ex k w h1 => rw [e] at O; exact O
    | stuck => rw [e] at O; exact O
  refine il ι h H σ τ _ r s (OutS.seq O r s fun ws h1 ι1 H1 vs g q o1 => ?_)
  split at o1
  · cases q with
    | nil => exact o1.elim
    | cons q1 q2 => cases q2 with
      | nil => exact o1.elim
      | cons q2 q3 => cases q3 with
        | nil => exact ⟨_, _, rfl, o1.here g.rh (((g.rs r s).set i q1).set j q2)⟩
        | cons q3 q4 => exact o1.elim
  · exact o1.elim
theorem snd_par3 (C : Ce X W0) {i j l : Nat} {x y z : Str} {px py pz pt pt2 : Pos} {kt k2 : Nat} {dl : Sl → Hh → Res (List W)} (hi : X.N[i]? = some x) (hj : X.N[j]? = some y) (hl : X.N[l]? = some z) (hij : i ≠ j) (hil : i ≠ l) (hjl : j ≠ l)
    (hx : X.env.scope.names.lookup x = some .local) (hy : X.env.scope.names.lookup y = some .local) (hz : X.env.scope.names.lookup z = some .local) (sl : SndL X Cl W0 [a, b, c] dl)
    (hw : swappedStores [.Tuple [.Name x px, .Name y py, .Name z pz] kt pt] (.Tuple [a, b, c] k2 pt2) X.env = pure (some [x, y, z])) :
    SndS X Cl W0 (.Assign [.Tuple [.Name x px, .Name y py, .Name z pz] kt pt] (.Tuple [a, b, c] k2 pt2) spos) (dAsg (fun σ h => (dl σ h).bind fun ws h1 => if lineB ws.length then .ok (.tup ws) h1 else .stuck) (.tup [i, j, l])) := by
  obtain ⟨tl, pl, il⟩ := sl
  refine ⟨_, ps_par3 C.calm C.nd hi hj hl hij hil hjl hx hy hz pl hw, fun ι h H σ τ D r s O => ?_⟩
  replace O : OutS X.K Cl W0 ι h H (aft (dl σ h) σ fun ws h1 => if lineB ws.length then (match setAll [i, j, l] ws σ with | some σ1 => .nx σ1 h1 | none => .stuck) else .stuck) D := by
    dsimp only [dAsg] at O
    cases e : dl σ h with
    | ok ws h1 => rw [e] at O; simp only [Res.bind, aft] at O ⊢; split <;> (rename_i h0; simp only [h0] at O; exact O)
    | ex k w h1 => rw [e] at O; exact O
    | stuck => rw [e] at O; exact O
  refine il ι h H σ τ _ r s (OutS.seq O r s fun ws h1 ι1 H1 vs g q o1 => ?_)
  split at o1
  · cases q with
    | nil => exact o1.elim
    | cons q1 q2 => cases q2 with
      | nil => exact o1.elim
      | cons q2 q3 => cases q3 with
        | nil => exact o1.elim
        | cons q3 q4 => cases q4 with
          | nil => exact ⟨_, _, _, rfl, o1.here g.rh ((((g.rs r s).set i q1).set j q2).set l q3)⟩
          | cons q4 q5 => exact o1.elim
  · exact o1.elim
end
end R

/-! R12: does the code fit the text? A check in Bool, and what it shows. -/
namespace R
open PySem PySem.Spec L2
open PyProof.Rows hiding St

mutual
def wbeq : W → W → Bool
  | .non, .non => true
  | .bl a, .bl b => a == b
  | .int i, .int j => decide (i = j)
  | .str x, .str y => decide (x = y)
  | .tup l, .tup m => wbeqs l m
  | _, _ => false
def wbeqs : List W → List W → Bool
  | [], [] => true
  | a :: r, b :: q => wbeq a b && wbeqs r q
  | _, _ => false
end
mutual
theorem wbeq_eq : ∀ {a b : W}, wbeq a b = true → a = b
  | .non, b, h => by cases b <;> first | rfl | (simp [wbeq] at h)
  | .bl x, b, h => by cases b <;> simp [wbeq] at h; subst h; rfl
  | .int x, b, h => by cases b <;> simp [wbeq] at h; subst h; rfl
  | .str x, b, h => by cases b <;> simp [wbeq] at h; subst h; rfl
  | .tup l, b, h => by
    cases b <;> simp only [wbeq, Bool.false_eq_true] at h
    rw [wbeqs_eq h]
  | .ref x, b, h => by cases b <;> simp [wbeq] at h
  | .fl l, b, h => by cases b <;> simp [wbeq] at h
theorem wbeqs_eq : ∀ {a b : List W}, wbeqs a b = true → a = b
  | [], b, h => by cases b <;> first | rfl | (simp [wbeqs] at h)
  | a :: r, b, h => by
    cases b with
    | nil => simp [wbeqs] at h
    | cons x q =>
      simp only [wbeqs, Bool.and_eq_true] at h
      rw [wbeq_eq h.1, wbeqs_eq h.2]
end

/-- what the check knows of the module -/
structure Gd where
  fns : List (Nat × Str × List Str)
  kbs : List (Nat × Nat × List Str × List Nat)
  csts : List (Str × W)
  blts : List Str

structure Gf (X : Cx) (Cl : Nat → Option Addr) (F : Nat → List W → Hh → Res W) (G : Gd) : Prop where
  fn : ∀ f x ps, (f, x, ps) ∈ G.fns → ∃ k fa fd, Fc X Cl k fa fd ps (F f) x ∧ ∀ n ks perm, (f, n, ks, perm) ∈ G.kbs → KB X.K fd ps n ks perm
  cst : ∀ x w, (x, w) ∈ G.csts → ∃ u v, X.mg x = some u ∧ RelV v u ∧ ∀ ι H, Rp X.K ι H w v
  blt : ∀ x ∈ G.blts, X.mg x = none

def Bi.name : Bi → Str
  | .len => "len"
  | .abs => "abs"
  | .int => "int"
  | .sum => "sum"
  | .min1 => "min"
  | .max1 => "max"
  | .min2 => "min"
  | .max2 => "max"
  | .all => "all"
  | .any => "any"
  | .tuple => "tuple"
  | .list => "list"
  | _ => ""
def Bi.val : Bi → Value
  | .int => .type "int"
  | .tuple => .type "tuple"
  | .list => .type "list"
  | .len => .builtin "len"
  | .abs => .builtin "abs"
  | .sum => .builtin "sum"
  | .min1 => .builtin "min"
  | .max1 => .builtin "max"
  | .min2 => .builtin "min"
  | .max2 => .builtin "max"
  | .all => .builtin "all"
  | .any => .builtin "any"
  | _ => .none
def Bi.has : Bi → Bool
  | .sorted => false
  | .fact => false
  | _ => true
theorem Bi.kit {X : Cx} {b : Bi} (h : b.has = true) : BiK X b b.name b.val := by
  cases b <;> first | (simp [Bi.has] at h; done) | exact .len | exact .abs | exact .int | exact .sum | exact .min1 | exact .max1 | exact .min2 | exact .max2 | exact .all | exact .any | exact .tuple | exact .list
theorem Bi.boot {b : Bi} (h : b.has = true) : bootBuiltins b.name = some b.val ∧ b.name ≠ "__name__" ∧ (b.name == ("__debug__" : Str)) = false := by
  cases b <;> first | (simp [Bi.has] at h; done) | exact ⟨by rfl, by decide, by decide⟩
def mtName : Mt → Str
  | .append => "append"
  | .pop => "pop"
  | .popAt => "pop"
  | .extend => "extend"
  | _ => ""
/-- no set display -/
def nset : Expr → Bool
  | .Set .. => false
  | _ => true
theorem nset_ok {e : Expr} {env : Env} (h : nset e = true) : ∀ x, foldedSetIterable e env x = pure x := by
  intro x
  cases e <;> first | rfl | (simp [nset] at h)

section
variable (N : List Str) (G : Gd)
def glC (sc : Scope) (x : Str) : Bool := decide (sc.names.lookup x = some .globalImplicit) && !(x == ("__debug__" : Str))
def locC (sc : Scope) (x : Str) : Bool := decide (sc.names.lookup x = some .local) || decide (sc.names.lookup x = some .cell)
def visC (sc : Scope) (x : Str) : Bool := (locC sc x || decide (sc.names.lookup x = some .free)) && !(x == ("__debug__" : Str)) && !(x == ("__classdict__" : Str))
def bltC (sc : Scope) (x : Str) : Bool := decide (x ∈ G.blts) && decide (sc.names.lookup x = some .globalImplicit)
def fnC (sc : Scope) (f : Nat) (x : Str) : Bool := (G.fns.any fun p => Nat.beq p.1 f && decide (p.2.1 = x)) && glC sc x
def nmC (sc : Scope) (fb : Str → Bool) (i : Nat) (x : Str) : Bool := decide (N[i]? = some x) && locC sc x && (fb x || decide (sc.names.lookup x = some .local))
def nmsC (sc : Scope) (fb : Str → Bool) : List Nat → List Expr → Bool
  | [], [] => true
  | i :: is, .Name x _ :: es => nmC N sc fb i x && nmsC sc fb is es
  | _, _ => false
def chkG (sc : Scope) (fb : Str → Bool) : Tg → Expr → Bool
  | .nm i, .Name x _ => nmC N sc fb i x
  | .tup is, .Tuple es _ _ => nmsC N sc fb is es
  | _, _ => false
def ownC (own : List Nat) : List (Str × Nat) := own.map fun i => (N.getD i "", i)
def cellC (scope : Scope) : Str → Bool := fun x => scope.names.lookup x == some .cell
def cstC (w : W) (c : Const) : Bool := match w, c with
  | .int i, .int j => decide (i = j)
  | .bl a, .bool b => a == b
  | .non, .none => true
  | .str x, .str y => decide (x = y)
  | _, _ => false
mutual
def chkE : Ex → Scope → (Str → Bool) → Expr → Bool
  | .var i, sc, _, e => (match e with
    | .Name x _ => decide (N[i]? = some x) && visC sc x
    | _ => false)
  | .cst w, _, _, e => (match e with
    | .Constant c _ _ => cstC w c
    | _ => false)
  | .gc x w, sc, _, e => (match e with
    | .Name y _ => decide (x = y) && glC sc y && (G.csts.any fun p => decide (p.1 = y) && wbeq p.2 w)
    | _ => false)
  | .tup l, sc, fb, e => (match e with
    | .Tuple es _ _ => chkL l sc fb es
    | _ => false)
  | .lst l, sc, fb, e => (match e with
    | .List es _ => chkL l sc fb es
    | _ => false)
  | .dnew _, _, _, e => (match e with
    | .Dict [] [] _ => true
    | _ => false)
  | .bin o a b, sc, fb, e => (match e with
    | .BinOp x op y _ => decide (op = o.py) && chkE a sc fb x && chkE b sc fb y
    | _ => false)
  | .neg a, sc, fb, e => (match e with
    | .UnaryOp .USub x _ => chkE a sc fb x
    | _ => false)
  | .not a, sc, fb, e => (match e with
    | .UnaryOp .Not x _ => chkE a sc fb x
    | _ => false)
  | .cmp o a b, sc, fb, e => (match e with
    | .Compare x [op] [y] _ => decide (op = o.py) && !(behindInMarks o.py y) && chkE a sc fb x && chkE b sc fb y
    | _ => false)
  | .chain o o' a b c, sc, fb, e => (match e with
    | .Compare x [op, op'] [y, z] _ => decide (op = o.py) && decide (op' = o'.py) && !(lastMarks [o.py, o'.py] [y, z]) && chkE a sc fb x && chkE b sc fb y && chkE c sc fb z
    | _ => false)
  | .isn neg a, sc, fb, e => (match e with
    | .Compare x [op] [.Constant .none _ _] _ => decide (op = if neg then .IsNot else .Is) && chkE a sc fb x
    | _ => false)
  | .and a b, sc, fb, e => (match e with
    | .BoolOp .And (x :: y :: r) p => chkE a sc fb x && (match r with
      | [] => chkE b sc fb y
      | z :: r => chkE b sc fb (.BoolOp .And (y :: z :: r) p))
    | _ => false)
  | .or a b, sc, fb, e => (match e with
    | .BoolOp .Or (x :: y :: r) p => chkE a sc fb x && (match r with
      | [] => chkE b sc fb y
      | z :: r => chkE b sc fb (.BoolOp .Or (y :: z :: r) p))
    | _ => false)
  | .ite c a b, sc, fb, e => (match e with
    | .IfExp t x y _ => chkT c sc fb t && chkE a sc fb x && chkE b sc fb y
    | _ => false)
  | .ix a b, sc, fb, e => (match e with
    | .Subscript x y _ => nsl y && chkE a sc fb x && chkE b sc fb y
    | _ => false)
  | .slo a b, sc, fb, e => (match e with
    | .Subscript x (.Slice (some y) none none _) _ => chkE a sc fb x && chkE b sc fb y
    | _ => false)
  | .shi a b, sc, fb, e => (match e with
    | .Subscript x (.Slice none (some y) none _) _ => chkE a sc fb x && chkE b sc fb y
    | _ => false)
  | .slh a b c, sc, fb, e => (match e with
    | .Subscript x (.Slice (some y) (some z) none _) _ => chkE a sc fb x && chkE b sc fb y && chkE c sc fb z
    | _ => false)
  | .sall a, sc, fb, e => (match e with
    | .Subscript x (.Slice none none none _) _ => chkE a sc fb x
    | _ => false)
  | .isi a t, sc, fb, e => (match e with
    | .Call (.Name f _) [x, .Name y _] [] _ => decide (f = "isinstance") && decide (y = PySem.Str.ofString t.py) && bltC G sc f && bltC G sc y && nst x && chkE a sc fb x
    | _ => false)
  | .call f l, sc, fb, e => (match e with
    | .Call (.Name x _) es [] _ => fnC G sc f x && es.all nst && chkL l sc fb es
    | _ => false)
  | .callk f l ks kw perm, sc, fb, e => (match e with
    | .Call (.Name x _) es kws _ => fnC G sc f x && es.all nst && (kws.all fun k => k.arg.isSome) && decide (kws.filterMap (·.arg) = ks) && decide ((f, es.length, ks, perm) ∈ G.kbs) && chkL l sc fb es && chkK kw sc fb kws
    | _ => false)
  | .bi b l, sc, fb, e => (match e with
    | .Call (.Name x _) (y :: es) [] _ => decide (x = b.name) && b.has && bltC G sc x && nst y && es.all nst && chkL l sc fb (y :: es)
    | _ => false)
  | .mtl m o l, sc, fb, e => (match e with
    | .Call (.Attribute x nm ap) (y :: es) [] cp => decide (nm = mtName m) && (match m with
        | .append => true
        | .popAt => true
        | .extend => true
        | _ => false) && rcv x && (ap.endLine == cp.line) && nst y && es.all nst && decide ((y :: es).length < 30) && chkE o sc fb x && chkL l sc fb (y :: es)
    | _ => false)
  | .mtl0 m o, sc, fb, e => (match e with
    | .Call (.Attribute x nm ap) [] [] cp => decide (nm = "pop") && (match m with
        | .pop => true
        | _ => false) && rcv x && (ap.endLine == cp.line) && chkE o sc fb x
    | _ => false)
  | .get1 o a, sc, fb, e => (match e with
    | .Call (.Attribute x nm ap) [y] [] cp => decide (nm = "get") && rcv x && (ap.endLine == cp.line) && nst y && chkE o sc fb x && chkE a sc fb y
    | _ => false)
  | .get2 o a c, sc, fb, e => (match e with
    | .Call (.Attribute x nm ap) [y, z] [] cp => decide (nm = "get") && rcv x && (ap.endLine == cp.line) && nst y && nst z && chkE o sc fb x && chkE a sc fb y && chkE c sc fb z
    | _ => false)
  | .lc el tg own it, sc, fb, e => (match e with
    | .ListComp elt [⟨t, iter, [], n⟩] scope _ => decide (n = 0) && nset iter && chkI it sc fb iter && blkC N sc scope (ownC N own) && (tg.names.all fun i => decide (i ∈ own)) &&
        chkG N (relS scope sc) (cellC scope) tg t && chkE el (relS scope sc) (cellC scope) elt
    | _ => false)
  | .lcif el tg own it c, sc, fb, e => (match e with
    | .ListComp elt [⟨t, iter, [d], n⟩] scope _ => decide (n = 0) && nset iter && chkI it sc fb iter && blkC N sc scope (ownC N own) && (tg.names.all fun i => decide (i ∈ own)) &&
        chkG N (relS scope sc) (cellC scope) tg t && chkE el (relS scope sc) (cellC scope) elt && chkT c (relS scope sc) (cellC scope) d
    | _ => false)
def chkT : Tx → Scope → (Str → Bool) → Expr → Bool
  | .val a, sc, fb, e => (match a with
    | .cmp .. => chkE a sc fb e
    | .chain .. => chkE a sc fb e
    | .isn .. => chkE a sc fb e
    | _ => vtest e && chkE a sc fb e)
  | .not a, sc, fb, e => (match e with
    | .UnaryOp .Not x _ => chkT a sc fb x
    | _ => false)
  | .and a b, sc, fb, e => (match e with
    | .BoolOp .And (x :: y :: r) p => chkT a sc fb x && (match r with
      | [] => chkT b sc fb y
      | z :: r => chkT b sc fb (.BoolOp .And (y :: z :: r) p))
    | _ => false)
  | .or a b, sc, fb, e => (match e with
    | .BoolOp .Or (x :: y :: r) p => chkT a sc fb x && (match r with
      | [] => chkT b sc fb y
      | z :: r => chkT b sc fb (.BoolOp .Or (y :: z :: r) p))
    | _ => false)
  | .ite _ _ _, _, _, _ => false
def chkL : Exs → Scope → (Str → Bool) → List Expr → Bool
  | .nil, _, _, es => es.isEmpty
  | .cons a r, sc, fb, es => (match es with
    | e :: es => nst e && chkE a sc fb e && chkL r sc fb es
    | [] => false)
def chkK : Exs → Scope → (Str → Bool) → List Keyword → Bool
  | .nil, _, _, es => es.isEmpty
  | .cons a r, sc, fb, es => (match es with
    | ⟨_, e, _⟩ :: es => chkE a sc fb e && chkK r sc fb es
    | [] => false)
def chkI : Wk → Scope → (Str → Bool) → Expr → Bool
  | .rng1 a, sc, fb, e => (match e with
    | .Call (.Name x _) [y] [] _ => decide (x = "range") && bltC G sc x && nst y && chkE a sc fb y
    | _ => false)
  | .rng2 a b, sc, fb, e => (match e with
    | .Call (.Name x _) [y, z] [] _ => decide (x = "range") && bltC G sc x && nst y && nst z && chkE a sc fb y && chkE b sc fb z
    | _ => false)
  | .val a, sc, fb, e => chkE a sc fb e
  | .enum _, _, _, _ => false
  | .zip _ _, _, _, _ => false
end
end
end R

/-! R13: what the check shows of expressions. -/
namespace R
open PySem PySem.Spec L2
open PyProof.Rows hiding St
variable {Cl : Nat → Option Addr} {F : Nat → List W → Hh → Res W} {N : List Str} {G : Gd}
structure Cf (X : Cx) (Cl : Nat → Option Addr) (F : Nat → List W → Hh → Res W) (N : List Str) (G : Gd) (sc : Scope) (fb : Str → Bool) : Prop where
  hN : X.N = N
  hs : X.env.scope = sc
  hf : ∀ x, fb x = true → X.fn x = true
  gf : Gf X Cl F G
theorem Cf.blk {X : Cx} {sc : Scope} {fb : Str → Bool} (c : Cf X Cl F N G sc fb) (scope : Scope) : Blk X scope fun X => Cf X Cl F N G (relS scope sc) (cellC scope) := fun s H C cl fp =>
  ⟨c.hN, by rw [← c.hs]; rfl, fun x h => h, ⟨fun f x ps m => let ⟨k, fa, fd, f1, f2⟩ := c.gf.fn f x ps m; ⟨k, fa, fd, ⟨f1.ok, f1.room, f1.at_, f1.kp, f1.bd⟩, f2⟩, c.gf.cst, c.gf.blt⟩⟩
theorem Ce.blk {X : Cx} {W0 : WX} (c : Ce X W0) (scope : Scope) : Blk X scope fun X => Ce X WN := fun s H C cl fp => ⟨c.calm, c.units, takes_none5, c.nd, PassesOwn.never⟩
section
variable {X : Cx} {sc : Scope} {fb : Str → Bool} (c : Cf X Cl F N G sc fb)
include c
theorem Cf.gl {x : Str} (h : glC sc x = true) : Gl X x ∧ (x == ("__debug__" : Str)) = false := by
  unfold glC at h
  simp only [Bool.and_eq_true, decide_eq_true_eq, Bool.not_eq_true'] at h
  refine ⟨?_, h.2⟩
  show X.env.scope.names.lookup x = _
  rw [c.hs]; exact h.1
theorem Cf.loc {x : Str} (h : locC sc x = true) : Loc X.env.scope x := by
  unfold locC at h
  simp only [Bool.or_eq_true, decide_eq_true_eq] at h
  rw [c.hs]; exact h
theorem Cf.vis {x : Str} (h : visC sc x = true) : Vis X.env.scope x ∧ (x == ("__debug__" : Str)) = false ∧ (x == ("__classdict__" : Str)) = false := by
  unfold visC locC at h
  simp only [Bool.and_eq_true, Bool.or_eq_true, decide_eq_true_eq, Bool.not_eq_true'] at h
  obtain ⟨⟨h1, h2⟩, h3⟩ := h
  refine ⟨?_, h2, h3⟩
  rw [c.hs]
  rcases h1 with (h1 | h1) | h1
  · exact .inl h1
  · exact .inr (.inl h1)
  · exact .inr (.inr h1)
theorem Cf.bl {x : Str} (h : bltC G sc x = true) : Gl X x ∧ X.mg x = none := by
  unfold bltC at h
  simp only [Bool.and_eq_true, decide_eq_true_eq] at h
  refine ⟨?_, c.gf.blt x h.1⟩
  show X.env.scope.names.lookup x = _
  rw [c.hs]; exact h.2
theorem Cf.fun_ {f : Nat} {x : Str} (h : fnC G sc f x = true) : Gl X x ∧ (x == ("__debug__" : Str)) = false ∧ ∃ k fa fd ps, Fc X Cl k fa fd ps (F f) x ∧ ∀ n ks perm, (f, n, ks, perm) ∈ G.kbs → KB X.K fd ps n ks perm := by
  unfold fnC at h
  simp only [Bool.and_eq_true, List.any_eq_true, decide_eq_true_eq] at h
  obtain ⟨⟨p, hp, h1, h2⟩, h3⟩ := h
  obtain ⟨g1, g2⟩ := c.gl h3
  obtain ⟨f', x', ps⟩ := p
  have e1 : f' = f := Nat.eq_of_beq_eq_true h1
  have e2 : x' = x := h2
  subst e1 e2
  obtain ⟨k, fa, fd, a, b⟩ := c.gf.fn _ _ _ hp
  exact ⟨g1, g2, k, fa, fd, ps, a, b⟩
theorem Cf.nm {i : Nat} {x : Str} (h : nmC N sc fb i x = true) : X.N[i]? = some x ∧ Loc X.env.scope x ∧ (X.fn x = true ∨ X.env.scope.names.lookup x = some .local) := by
  unfold nmC at h
  simp only [Bool.and_eq_true, Bool.or_eq_true, decide_eq_true_eq] at h
  obtain ⟨⟨h1, h2⟩, h3⟩ := h
  refine ⟨by rw [c.hN]; exact h1, c.loc h2, ?_⟩
  rcases h3 with h3 | h3
  · exact .inl (c.hf x h3)
  · exact .inr (by rw [c.hs]; exact h3)
theorem Cf.nms : ∀ {is : List Nat} {es : List Expr}, nmsC N sc fb is es = true → Nms X es is
  | [], [], _ => .nil
  | [], _ :: _, h => by simp [nmsC] at h
  | _ :: _, [], h => by simp [nmsC] at h
  | i :: is, e :: es, h => by
    cases e <;> simp only [nmsC, Bool.false_eq_true, Bool.and_eq_true] at h
    obtain ⟨h1, h2, h3⟩ := c.nm h.1
    exact .cons h1 h2 h3 (Cf.nms h.2)
theorem Cf.tg {W0 : WX} (C : Ce X W0) {t : Tg} {e : Expr} (h : chkG N sc fb t e = true) : SndG X e t := by
  cases t with
  | nm i =>
    cases e <;> simp only [chkG, Bool.false_eq_true] at h
    obtain ⟨h1, h2, h3⟩ := c.nm h
    exact snd_gnm C.nd h1 h2 h3
  | tup is =>
    cases e <;> simp only [chkG, Bool.false_eq_true] at h
    exact snd_gtup C.calm C.nd (c.nms h)
end
theorem own_map {own : List Nat} : (ownC N own).map (·.2) = own := by
  unfold ownC
  induction own with
  | nil => rfl
  | cons a r ih => simp only [List.map_cons]; rw [ih]
theorem all_nst : ∀ {l : Exs} {sc : Scope} {fb : Str → Bool} {es : List Expr}, chkL N G l sc fb es = true → es.all nst = true
  | .nil, sc, fb, [], _ => rfl
  | .nil, sc, fb, _ :: _, h => by simp [chkL] at h
  | .cons a r, sc, fb, [], h => by simp [chkL] at h
  | .cons a r, sc, fb, e :: es, h => by
    simp only [chkL, Bool.and_eq_true] at h
    simp only [List.all_cons, Bool.and_eq_true]
    exact ⟨h.1.1, all_nst h.2⟩
theorem denL_len : ∀ {l : Exs} {sc : Scope} {fb : Str → Bool} {es : List Expr}, chkL N G l sc fb es = true → ∀ σ h ws h', denL F l σ h = .ok ws h' → ws.length = es.length
  | .nil, sc, fb, [], _ => fun σ h ws h' e => by simp only [denL, Res.ok.injEq] at e; rw [← e.1]; rfl
  | .nil, sc, fb, _ :: _, h => by simp [chkL] at h
  | .cons a r, sc, fb, [], h => by simp [chkL] at h
  | .cons a r, sc, fb, e :: es, h => by
    intro σ h0 ws h' eq
    simp only [chkL, Bool.and_eq_true] at h
    simp only [denL] at eq
    obtain ⟨x, h1, _, eq⟩ := bind_ok eq
    obtain ⟨xs, h2, e2, eq⟩ := bind_ok eq
    simp only [Res.ok.injEq] at eq
    rw [← eq.1, List.length_cons, List.length_cons, denL_len h.2 _ _ _ _ e2]
theorem denK_len : ∀ {l : Exs} {sc : Scope} {fb : Str → Bool} {es : List Keyword}, chkK N G l sc fb es = true → ∀ σ h ws h', denL F l σ h = .ok ws h' → ws.length = es.length
  | .nil, sc, fb, [], _ => fun σ h ws h' e => by simp only [denL, Res.ok.injEq] at e; rw [← e.1]; rfl
  | .nil, sc, fb, _ :: _, h => by simp [chkK] at h
  | .cons a r, sc, fb, [], h => by simp [chkK] at h
  | .cons a r, sc, fb, ⟨_, e, _⟩ :: es, h => by
    intro σ h0 ws h' eq
    simp only [chkK, Bool.and_eq_true] at h
    simp only [denL] at eq
    obtain ⟨x, h1, _, eq⟩ := bind_ok eq
    obtain ⟨xs, h2, e2, eq⟩ := bind_ok eq
    simp only [Res.ok.injEq] at eq
    rw [← eq.1, List.length_cons, List.length_cons, denK_len h.2 _ _ _ _ e2]
theorem kw_len : ∀ {kws : List Keyword}, (kws.all fun k => k.arg.isSome) = true → (kws.filterMap (·.arg)).length = kws.length
  | [], _ => rfl
  | ⟨n, v, p⟩ :: r, h => by
    simp only [List.all_cons, Bool.and_eq_true] at h
    cases n with
    | none => simp at h
    | some x => exact congrArg (· + 1) (kw_len h.2)
def isBool : Expr → Bool
  | .BoolOp .. => true
  | _ => false
end R

/-! R14: what the check shows of expressions, all of them. -/
namespace R
open PySem PySem.Spec L2
open PyProof.Rows hiding St
variable {Cl : Nat → Option Addr} {F : Nat → List W → Hh → Res W} {N : List Str} {G : Gd}
abbrev GoalE (Cl : Nat → Option Addr) (F : Nat → List W → Hh → Res W) (N : List Str) (G : Gd) (a : Ex) : Prop := ∀ (X : Cx) (W0 : WX) (sc : Scope) (fb : Str → Bool) (e : Expr), Cf X Cl F N G sc fb → Ce X W0 → chkE N G a sc fb e = true → SndE X Cl W0 e (denE F a)
abbrev GoalT (Cl : Nat → Option Addr) (F : Nat → List W → Hh → Res W) (N : List Str) (G : Gd) (a : Tx) : Prop := ∀ (X : Cx) (W0 : WX) (sc : Scope) (fb : Str → Bool) (e : Expr), Cf X Cl F N G sc fb → Ce X W0 → chkT N G a sc fb e = true → SndT X Cl W0 e (denT F a) ∧ (isBool e = true → SndW X Cl W0 e (denT F a))
abbrev GoalL (Cl : Nat → Option Addr) (F : Nat → List W → Hh → Res W) (N : List Str) (G : Gd) (a : Exs) : Prop := ∀ (X : Cx) (W0 : WX) (sc : Scope) (fb : Str → Bool) (es : List Expr), Cf X Cl F N G sc fb → Ce X W0 → chkL N G a sc fb es = true → SndL X Cl W0 es (denL F a)
abbrev GoalK (Cl : Nat → Option Addr) (F : Nat → List W → Hh → Res W) (N : List Str) (G : Gd) (a : Exs) : Prop := ∀ (X : Cx) (W0 : WX) (sc : Scope) (fb : Str → Bool) (es : List Keyword), Cf X Cl F N G sc fb → Ce X W0 → chkK N G a sc fb es = true → SndK X Cl W0 es (denL F a)
abbrev GoalI (Cl : Nat → Option Addr) (F : Nat → List W → Hh → Res W) (N : List Str) (G : Gd) (a : Wk) : Prop := ∀ (X : Cx) (W0 : WX) (sc : Scope) (fb : Str → Bool) (tg e : Expr), Cf X Cl F N G sc fb → Ce X W0 → chkI N G a sc fb e = true → SndI X Cl W0 tg e (denI F a)

theorem gE_var (i : Nat) : GoalE Cl F N G (.var i) := by
  intro X W0 sc fb e c C h
  unfold chkE at h
  split at h
  · simp only [Bool.and_eq_true, decide_eq_true_eq] at h
    obtain ⟨v1, v2, v3⟩ := c.vis h.2
    exact snd_var (by rw [c.hN]; exact h.1) v1 v2 v3
  · cases h
theorem gE_cst (w : W) : GoalE Cl F N G (.cst w) := by
  intro X W0 sc fb e c C h
  unfold chkE at h
  split at h
  · unfold cstC at h
    split at h
    · simp only [decide_eq_true_eq] at h; subst h; exact snd_int
    · simp only [beq_iff_eq] at h; subst h; exact snd_bl
    · exact snd_non
    · simp only [decide_eq_true_eq] at h; subst h; exact snd_str
    · cases h
  · cases h
theorem gE_gc (x : Str) (w : W) : GoalE Cl F N G (.gc x w) := by
  intro X W0 sc fb e c C h
  unfold chkE at h
  split at h
  · simp only [Bool.and_eq_true, decide_eq_true_eq, List.any_eq_true] at h
    obtain ⟨⟨h1, h2⟩, p, hp, h3, h4⟩ := h
    obtain ⟨g1, g2⟩ := c.gl h2
    obtain ⟨u, v, m, r, q⟩ := c.gf.cst p.1 p.2 hp
    rw [h3] at m
    rw [wbeq_eq h4] at q
    exact snd_gc g1 m r q g2
  · cases h
theorem gE_tup (l : Exs) (il : GoalL Cl F N G l) : GoalE Cl F N G (.tup l) := by
  intro X W0 sc fb e c C h
  unfold chkE at h
  split at h
  · exact snd_tup (il X W0 sc fb _ c C h)
  · cases h
theorem gE_lst (l : Exs) (il : GoalL Cl F N G l) : GoalE Cl F N G (.lst l) := by
  intro X W0 sc fb e c C h
  unfold chkE at h
  split at h
  · exact snd_lst (il X W0 sc fb _ c C h)
  · cases h
theorem gE_dnew (t : Bool) : GoalE Cl F N G (.dnew t) := by
  intro X W0 sc fb e c C h
  unfold chkE at h
  split at h
  · cases t
    · exact snd_dnewK
    · exact snd_dnewT
  · cases h
theorem gE_bin (o : BOp) (a b : Ex) (ia : GoalE Cl F N G a) (ib : GoalE Cl F N G b) : GoalE Cl F N G (.bin o a b) := by
  intro X W0 sc fb e c C h
  unfold chkE at h
  split at h
  · simp only [Bool.and_eq_true, decide_eq_true_eq] at h
    obtain ⟨⟨h1, h2⟩, h3⟩ := h
    subst h1
    exact snd_bin (ia X W0 sc fb _ c C h2) (ib X W0 sc fb _ c C h3)
  · cases h
theorem gE_neg (a : Ex) (ia : GoalE Cl F N G a) : GoalE Cl F N G (.neg a) := by
  intro X W0 sc fb e c C h
  unfold chkE at h
  split at h
  · exact snd_neg (ia X W0 sc fb _ c C h)
  · cases h
theorem gE_not (a : Ex) (ia : GoalE Cl F N G a) : GoalE Cl F N G (.not a) := by
  intro X W0 sc fb e c C h
  unfold chkE at h
  split at h
  · exact snd_not (ia X W0 sc fb _ c C h)
  · cases h
theorem gB_cmp (o : COp) (a b : Ex) (ia : GoalE Cl F N G a) (ib : GoalE Cl F N G b) : ∀ (X : Cx) (W0 : WX) (sc : Scope) (fb : Str → Bool) (e : Expr), Cf X Cl F N G sc fb → Ce X W0 → chkE N G (.cmp o a b) sc fb e = true → SndB X Cl W0 e (denE F (.cmp o a b)) ∧ isBool e = false := by
  intro X W0 sc fb e c C h
  unfold chkE at h
  split at h
  · simp only [Bool.and_eq_true, decide_eq_true_eq, Bool.not_eq_true'] at h
    obtain ⟨⟨⟨h1, h2⟩, h3⟩, h4⟩ := h
    subst h1
    exact ⟨snd_cmpB C (ia X W0 sc fb _ c C h3) (ib X W0 sc fb _ c C h4) h2, rfl⟩
  · cases h
theorem gB_chain (o o' : COp) (a b d : Ex) (ia : GoalE Cl F N G a) (ib : GoalE Cl F N G b) (id : GoalE Cl F N G d) : ∀ (X : Cx) (W0 : WX) (sc : Scope) (fb : Str → Bool) (e : Expr), Cf X Cl F N G sc fb → Ce X W0 → chkE N G (.chain o o' a b d) sc fb e = true → SndB X Cl W0 e (denE F (.chain o o' a b d)) ∧ isBool e = false := by
  intro X W0 sc fb e c C h
  unfold chkE at h
  split at h
  · simp only [Bool.and_eq_true, decide_eq_true_eq, Bool.not_eq_true'] at h
    obtain ⟨⟨⟨⟨⟨h1, h2⟩, h3⟩, h4⟩, h5⟩, h6⟩ := h
    subst h1 h2
    exact ⟨snd_chainB C (ia X W0 sc fb _ c C h4) (ib X W0 sc fb _ c C h5) (id X W0 sc fb _ c C h6) h3, rfl⟩
  · cases h
theorem gB_isn (neg : Bool) (a : Ex) (ia : GoalE Cl F N G a) : ∀ (X : Cx) (W0 : WX) (sc : Scope) (fb : Str → Bool) (e : Expr), Cf X Cl F N G sc fb → Ce X W0 → chkE N G (.isn neg a) sc fb e = true → SndB X Cl W0 e (denE F (.isn neg a)) ∧ isBool e = false := by
  intro X W0 sc fb e c C h
  unfold chkE at h
  split at h
  · simp only [Bool.and_eq_true, decide_eq_true_eq] at h
    obtain ⟨h1, h2⟩ := h
    subst h1
    cases neg
    · exact ⟨snd_isB (ia X W0 sc fb _ c C h2), rfl⟩
    · exact ⟨snd_isntB (ia X W0 sc fb _ c C h2), rfl⟩
  · cases h
theorem gE_and (a b : Ex) (ia : GoalE Cl F N G a) (ib : GoalE Cl F N G b) : GoalE Cl F N G (.and a b) := by
  intro X W0 sc fb e c C h
  unfold chkE at h
  split at h
  · simp only [Bool.and_eq_true] at h
    obtain ⟨h1, h2⟩ := h
    split at h2
    · exact snd_and (ia X W0 sc fb _ c C h1) (snd_bool1 (ib X W0 sc fb _ c C h2))
    · exact snd_and (ia X W0 sc fb _ c C h1) (ib X W0 sc fb _ c C h2)
  · cases h
theorem gE_or (a b : Ex) (ia : GoalE Cl F N G a) (ib : GoalE Cl F N G b) : GoalE Cl F N G (.or a b) := by
  intro X W0 sc fb e c C h
  unfold chkE at h
  split at h
  · simp only [Bool.and_eq_true] at h
    obtain ⟨h1, h2⟩ := h
    split at h2
    · exact snd_or (ia X W0 sc fb _ c C h1) (snd_bool1 (ib X W0 sc fb _ c C h2))
    · exact snd_or (ia X W0 sc fb _ c C h1) (ib X W0 sc fb _ c C h2)
  · cases h
theorem gE_ite (t : Tx) (a b : Ex) (it : GoalT Cl F N G t) (ia : GoalE Cl F N G a) (ib : GoalE Cl F N G b) : GoalE Cl F N G (.ite t a b) := by
  intro X W0 sc fb e c C h
  unfold chkE at h
  split at h
  · simp only [Bool.and_eq_true] at h
    obtain ⟨⟨h1, h2⟩, h3⟩ := h
    exact snd_ite (it X W0 sc fb _ c C h1).1 (ia X W0 sc fb _ c C h2) (ib X W0 sc fb _ c C h3)
  · cases h
theorem gE_ix (a b : Ex) (ia : GoalE Cl F N G a) (ib : GoalE Cl F N G b) : GoalE Cl F N G (.ix a b) := by
  intro X W0 sc fb e c C h
  unfold chkE at h
  split at h
  · simp only [Bool.and_eq_true] at h
    obtain ⟨⟨h1, h2⟩, h3⟩ := h
    exact snd_ix C (ia X W0 sc fb _ c C h2) (ib X W0 sc fb _ c C h3) (nsl_ix h1)
  · cases h
theorem gE_slo (a b : Ex) (ia : GoalE Cl F N G a) (ib : GoalE Cl F N G b) : GoalE Cl F N G (.slo a b) := by
  intro X W0 sc fb e c C h
  unfold chkE at h
  split at h
  · simp only [Bool.and_eq_true] at h
    exact snd_slo (ia X W0 sc fb _ c C h.1) (ib X W0 sc fb _ c C h.2)
  · cases h
theorem gE_shi (a b : Ex) (ia : GoalE Cl F N G a) (ib : GoalE Cl F N G b) : GoalE Cl F N G (.shi a b) := by
  intro X W0 sc fb e c C h
  unfold chkE at h
  split at h
  · simp only [Bool.and_eq_true] at h
    exact snd_shi (ia X W0 sc fb _ c C h.1) (ib X W0 sc fb _ c C h.2)
  · cases h
theorem gE_slh (a b d : Ex) (ia : GoalE Cl F N G a) (ib : GoalE Cl F N G b) (id : GoalE Cl F N G d) : GoalE Cl F N G (.slh a b d) := by
  intro X W0 sc fb e c C h
  unfold chkE at h
  split at h
  · simp only [Bool.and_eq_true] at h
    exact snd_slh (ia X W0 sc fb _ c C h.1.1) (ib X W0 sc fb _ c C h.1.2) (id X W0 sc fb _ c C h.2)
  · cases h
theorem gE_sall (a : Ex) (ia : GoalE Cl F N G a) : GoalE Cl F N G (.sall a) := by
  intro X W0 sc fb e c C h
  unfold chkE at h
  split at h
  · exact snd_sall (ia X W0 sc fb _ c C h)
  · cases h
theorem gE_isi (a : Ex) (t : Ty) (ia : GoalE Cl F N G a) : GoalE Cl F N G (.isi a t) := by
  intro X W0 sc fb e c C h
  unfold chkE at h
  split at h
  · simp only [Bool.and_eq_true, decide_eq_true_eq] at h
    obtain ⟨⟨⟨⟨⟨h1, h2⟩, h3⟩, h4⟩, h5⟩, h6⟩ := h
    subst h1 h2
    obtain ⟨g1, m1⟩ := c.bl h3
    obtain ⟨g2, m2⟩ := c.bl h4
    exact snd_isi (pf := ⟨0, 0, 0, 0⟩) g1 m1 g2 m2 h5 (ia X W0 sc fb _ c C h6)
  · cases h
theorem gE_call (f : Nat) (l : Exs) (il : GoalL Cl F N G l) : GoalE Cl F N G (.call f l) := by
  intro X W0 sc fb e c C h
  unfold chkE at h
  split at h
  · simp only [Bool.and_eq_true] at h
    obtain ⟨⟨h1, h2⟩, h3⟩ := h
    obtain ⟨g1, g2, k, fa, fd, ps, fc, _⟩ := c.fun_ h1
    rename_i x px es pos _
    cases es with
    | nil =>
      have e0 : denE F (.call f l) = fun _ h => F f [] h := by
        cases l with
        | nil => rfl
        | cons a r => simp [chkL] at h3
      rw [e0]
      exact snd_call0 C fc g1 g2
    | cons y es =>
      simp only [List.all_cons, Bool.and_eq_true] at h2
      exact snd_call C fc g1 g2 h2.1 h2.2 (il X W0 sc fb _ c C h3)
  · cases h
theorem gE_callk (f : Nat) (l : Exs) (ks : List Str) (kw : Exs) (perm : List Nat) (il : GoalL Cl F N G l) (ik : GoalK Cl F N G kw) : GoalE Cl F N G (.callk f l ks kw perm) := by
  intro X W0 sc fb e c C h
  unfold chkE at h
  split at h
  · simp only [Bool.and_eq_true, decide_eq_true_eq] at h
    obtain ⟨⟨⟨⟨⟨⟨h1, h2⟩, h3⟩, h4⟩, h5⟩, h6⟩, h7⟩ := h
    obtain ⟨g1, g2, k, fa, fd, ps, fc, kb⟩ := c.fun_ h1
    have kb' := kb _ _ _ h5
    subst h4
    rename_i x px es kws pos
    have len2 : ∀ σ h ws h', denL F kw σ h = .ok ws h' → ws.length = (kws.filterMap (·.arg)).length := fun σ h ws h' e => by rw [denK_len h7 σ h ws h' e, kw_len h3]
    cases es with
    | nil =>
      have e0 : denE F (.callk f l (kws.filterMap (·.arg)) kw perm) = fun σ h => (Res.ok (α := List W) [] h).bind fun ws h1 => (denL F kw σ h1).bind fun zs h2 => match permute (ws ++ zs) perm with | some vs => F f vs h2 | none => .stuck := by
        cases l with
        | nil => rfl
        | cons a r => simp [chkL] at h6
      rw [e0]
      exact snd_callk0 C fc kb' g1 g2 h3 (ik X W0 sc fb _ c C h7) len2
    | cons y es =>
      simp only [List.all_cons, Bool.and_eq_true] at h2
      exact snd_callk (n := 0) C fc kb' g1 g2 h2.1 h2.2 h3 (il X W0 sc fb _ c C h6) (ik X W0 sc fb _ c C h7) (fun σ h ws h' e => by rw [denL_len h6 σ h ws h' e]; rfl) len2
  · cases h
theorem gE_bi (b : Bi) (l : Exs) (il : GoalL Cl F N G l) : GoalE Cl F N G (.bi b l) := by
  intro X W0 sc fb e c C h
  unfold chkE at h
  split at h
  · simp only [Bool.and_eq_true, decide_eq_true_eq] at h
    obtain ⟨⟨⟨⟨⟨h1, h2⟩, h3⟩, h4⟩, h5⟩, h6⟩ := h
    subst h1
    obtain ⟨g1, m1⟩ := c.bl h3
    obtain ⟨b1, b2, b3⟩ := Bi.boot h2
    exact snd_bi C (Bi.kit h2) g1 m1 b1 b2 b3 h4 h5 (il X W0 sc fb _ c C h6)
  · cases h
theorem gE_mtl (m : Mt) (o : Ex) (l : Exs) (io : GoalE Cl F N G o) (il : GoalL Cl F N G l) : GoalE Cl F N G (.mtl m o l) := by
  intro X W0 sc fb e c C h
  unfold chkE at h
  split at h
  · simp only [Bool.and_eq_true, decide_eq_true_eq] at h
    obtain ⟨⟨⟨⟨⟨⟨⟨⟨h1, h2⟩, h3⟩, h4⟩, h5⟩, h6⟩, h7⟩, h8⟩, h9⟩ := h
    subst h1
    cases m with
    | append => exact snd_mtL PySem.F.slot_list_append PySem.F.type_list_append mt_appendR h3 h4 h5 h6 h7 (io X W0 sc fb _ c C h8) (il X W0 sc fb _ c C h9)
    | popAt => exact snd_mtL PySem.F.slot_list_pop PySem.F.type_list_pop mt_popAtR h3 h4 h5 h6 h7 (io X W0 sc fb _ c C h8) (il X W0 sc fb _ c C h9)
    | extend => exact snd_mtL PySem.F.slot_list_extend PySem.F.type_list_extend mt_extendR h3 h4 h5 h6 h7 (io X W0 sc fb _ c C h8) (il X W0 sc fb _ c C h9)
    | pop => cases h2
    | get1 => cases h2
    | get2 => cases h2
    | index => cases h2
  · cases h
theorem gE_mtl0 (m : Mt) (o : Ex) (io : GoalE Cl F N G o) : GoalE Cl F N G (.mtl0 m o) := by
  intro X W0 sc fb e c C h
  unfold chkE at h
  split at h
  · simp only [Bool.and_eq_true, decide_eq_true_eq] at h
    obtain ⟨⟨⟨⟨h1, h2⟩, h3⟩, h4⟩, h5⟩ := h
    subst h1
    cases m with
    | pop => exact snd_mtL0 PySem.F.slot_list_pop PySem.F.type_list_pop mt_popR h3 h4 (io X W0 sc fb _ c C h5)
    | append => cases h2
    | popAt => cases h2
    | extend => cases h2
    | get1 => cases h2
    | get2 => cases h2
    | index => cases h2
  · cases h
theorem gE_get1 (o a : Ex) (io : GoalE Cl F N G o) (ia : GoalE Cl F N G a) : GoalE Cl F N G (.get1 o a) := by
  intro X W0 sc fb e c C h
  unfold chkE at h
  split at h
  · simp only [Bool.and_eq_true, decide_eq_true_eq] at h
    obtain ⟨⟨⟨⟨⟨h1, h2⟩, h3⟩, h4⟩, h5⟩, h6⟩ := h
    subst h1
    exact snd_get1 C h2 h3 h4 (io X W0 sc fb _ c C h5) (ia X W0 sc fb _ c C h6)
  · cases h
theorem gE_get2 (o a d : Ex) (io : GoalE Cl F N G o) (ia : GoalE Cl F N G a) (id : GoalE Cl F N G d) : GoalE Cl F N G (.get2 o a d) := by
  intro X W0 sc fb e c C h
  unfold chkE at h
  split at h
  · simp only [Bool.and_eq_true, decide_eq_true_eq] at h
    obtain ⟨⟨⟨⟨⟨⟨⟨h1, h2⟩, h3⟩, h4⟩, h5⟩, h6⟩, h7⟩, h8⟩ := h
    subst h1
    exact snd_get2 C h2 h3 h4 h5 (io X W0 sc fb _ c C h6) (ia X W0 sc fb _ c C h7) (id X W0 sc fb _ c C h8)
  · cases h
theorem blk_ok {X : Cx} {sc scope : Scope} {fb : Str → Bool} {own : List Nat} (c : Cf X Cl F N G sc fb) (h : blkC N sc scope (ownC N own) = true) : BlkOk X.N X.env.scope scope (ownC N own) := by
  rw [c.hN, c.hs]; exact blkOk_by h
theorem nm_ok {t : Tg} {own : List Nat} (h : (t.names.all fun i => decide (i ∈ own)) = true) : ∀ i ∈ t.names, i ∈ (ownC N own).map (·.2) := by
  rw [own_map]
  simpa using h
theorem gE_lc (el : Ex) (tg : Tg) (own : List Nat) (it : Wk) (ie : GoalE Cl F N G el) (ii : GoalI Cl F N G it) : GoalE Cl F N G (.lc el tg own it) := by
  intro X W0 sc fb e c C h
  unfold chkE at h
  split at h
  · simp only [Bool.and_eq_true, decide_eq_true_eq] at h
    obtain ⟨⟨⟨⟨⟨⟨h1, h2⟩, h3⟩, h4⟩, h5⟩, h6⟩, h7⟩ := h
    subst h1
    rename_i elt t iter scope pos
    have q := snd_lc (pos := pos) C (ii X W0 sc fb t iter c C h3) (blk_ok c h4) (nm_ok h5) (fun s H A cl fp => (c.blk scope s H A cl fp).tg (C.blk scope s H A cl fp) h6) (fun s H A cl fp => ie _ _ _ _ _ (c.blk scope s H A cl fp) (C.blk scope s H A cl fp) h7) (nset_ok h2)
    rw [own_map] at q
    exact q
  · cases h
theorem gE_lcif (el : Ex) (tg : Tg) (own : List Nat) (it : Wk) (d : Tx) (ie : GoalE Cl F N G el) (ii : GoalI Cl F N G it) (id : GoalT Cl F N G d) : GoalE Cl F N G (.lcif el tg own it d) := by
  intro X W0 sc fb e c C h
  unfold chkE at h
  split at h
  · simp only [Bool.and_eq_true, decide_eq_true_eq] at h
    obtain ⟨⟨⟨⟨⟨⟨⟨h1, h2⟩, h3⟩, h4⟩, h5⟩, h6⟩, h7⟩, h8⟩ := h
    subst h1
    rename_i elt t iter d' scope pos
    have q := snd_lcif (pos := pos) C (ii X W0 sc fb t iter c C h3) (blk_ok c h4) (nm_ok h5) (fun s H A cl fp => (c.blk scope s H A cl fp).tg (C.blk scope s H A cl fp) h6) (fun s H A cl fp => ie _ _ _ _ _ (c.blk scope s H A cl fp) (C.blk scope s H A cl fp) h7)
      (fun s H A cl fp => (id _ _ _ _ _ (c.blk scope s H A cl fp) (C.blk scope s H A cl fp) h8).1) (nset_ok h2)
    rw [own_map] at q
    exact q
  · cases h
end R

/-! R15: the check and what it shows: tests, lists, walks; then statements. -/
namespace R
open PySem PySem.Spec L2
open PyProof.Rows hiding St
variable {Cl : Nat → Option Addr} {F : Nat → List W → Hh → Res W} {N : List Str} {G : Gd}
theorem gL_nil : GoalL Cl F N G .nil := by
  intro X W0 sc fb es c C h
  cases es with
  | nil => exact snd_nil
  | cons a r => simp [chkL] at h
theorem gL_cons (a : Ex) (r : Exs) (ia : GoalE Cl F N G a) (ir : GoalL Cl F N G r) : GoalL Cl F N G (.cons a r) := by
  intro X W0 sc fb es c C h
  cases es with
  | nil => simp [chkL] at h
  | cons e es =>
    simp only [chkL, Bool.and_eq_true] at h
    exact snd_cons h.1.1 (ia X W0 sc fb e c C h.1.2) (ir X W0 sc fb es c C h.2)
theorem gK_nil : GoalK Cl F N G .nil := by
  intro X W0 sc fb es c C h
  cases es with
  | nil => exact snd_knil
  | cons a r => simp [chkK] at h
theorem gK_cons (a : Ex) (r : Exs) (ia : GoalE Cl F N G a) (ir : GoalK Cl F N G r) : GoalK Cl F N G (.cons a r) := by
  intro X W0 sc fb es c C h
  cases es with
  | nil => simp [chkK] at h
  | cons e es =>
    obtain ⟨n, v, p⟩ := e
    simp only [chkK, Bool.and_eq_true] at h
    exact snd_kcons (ia X W0 sc fb v c C h.1) (ir X W0 sc fb es c C h.2)
theorem gI_rng1 (a : Ex) (ia : GoalE Cl F N G a) : GoalI Cl F N G (.rng1 a) := by
  intro X W0 sc fb tg e c C h
  unfold chkI at h
  split at h
  · simp only [Bool.and_eq_true, decide_eq_true_eq] at h
    obtain ⟨⟨⟨h1, h2⟩, h3⟩, h4⟩ := h
    subst h1
    obtain ⟨g1, m1⟩ := c.bl h2
    exact snd_rng1 g1 m1 h3 (ia X W0 sc fb _ c C h4)
  · cases h
theorem gI_rng2 (a b : Ex) (ia : GoalE Cl F N G a) (ib : GoalE Cl F N G b) : GoalI Cl F N G (.rng2 a b) := by
  intro X W0 sc fb tg e c C h
  unfold chkI at h
  split at h
  · simp only [Bool.and_eq_true, decide_eq_true_eq] at h
    obtain ⟨⟨⟨⟨⟨h1, h2⟩, h3⟩, h4⟩, h5⟩, h6⟩ := h
    subst h1
    obtain ⟨g1, m1⟩ := c.bl h2
    exact snd_rng2 g1 m1 h3 h4 (ia X W0 sc fb _ c C h5) (ib X W0 sc fb _ c C h6)
  · cases h
theorem gI_val (a : Ex) (ia : GoalE Cl F N G a) : GoalI Cl F N G (.val a) := by
  intro X W0 sc fb tg e c C h
  unfold chkI at h
  exact snd_wval (ia X W0 sc fb _ c C h)
theorem not_bool {e : Expr} (h : vtest e = true) : isBool e = true → False := by
  intro h2
  cases e <;> first | (simp [isBool] at h2; done) | (simp [vtest] at h)
def isCmp : Ex → Bool
  | .cmp .. => true
  | .chain .. => true
  | .isn .. => true
  | _ => false
theorem gT_val (a : Ex) (ia : GoalE Cl F N G a)
    (ib : ∀ (X : Cx) (W0 : WX) (sc : Scope) (fb : Str → Bool) (e : Expr), Cf X Cl F N G sc fb → Ce X W0 → chkE N G a sc fb e = true → isCmp a = true → SndB X Cl W0 e (denE F a) ∧ isBool e = false) : GoalT Cl F N G (.val a) := by
  intro X W0 sc fb e c C h
  unfold chkT at h
  split at h
  · obtain ⟨q, nb⟩ := ib X W0 sc fb e c C h rfl
    exact ⟨q.t bl_cmp, fun z => by rw [nb] at z; cases z⟩
  · obtain ⟨q, nb⟩ := ib X W0 sc fb e c C h rfl
    exact ⟨q.t bl_chain, fun z => by rw [nb] at z; cases z⟩
  · obtain ⟨q, nb⟩ := ib X W0 sc fb e c C h rfl
    exact ⟨q.t bl_is, fun z => by rw [nb] at z; cases z⟩
  · simp only [Bool.and_eq_true] at h
    exact ⟨snd_val h.1 (ia X W0 sc fb e c C h.2), fun z => (not_bool h.1 z).elim⟩
theorem gT_not (a : Tx) (ia : GoalT Cl F N G a) : GoalT Cl F N G (.not a) := by
  intro X W0 sc fb e c C h
  unfold chkT at h
  split at h
  · exact ⟨snd_tnot (ia X W0 sc fb _ c C h).1, fun z => by simp [isBool] at z⟩
  · cases h
theorem SndW.both {X : Cx} {W0 : WX} {e : Expr} {d : Sl → Hh → Res Bool} (q : SndW X Cl W0 e d) : SndT X Cl W0 e d ∧ (isBool e = true → SndW X Cl W0 e d) := ⟨q.t, fun _ => q⟩
theorem gT_and (a b : Tx) (ia : GoalT Cl F N G a) (ib : GoalT Cl F N G b) : GoalT Cl F N G (.and a b) := by
  intro X W0 sc fb e c C h
  unfold chkT at h
  split at h
  · simp only [Bool.and_eq_true] at h
    obtain ⟨h1, h2⟩ := h
    split at h2
    · exact SndW.both (snd_wand (ia X W0 sc fb _ c C h1).1 (snd_wand1 (ib X W0 sc fb _ c C h2).1))
    · exact SndW.both (snd_wand (ia X W0 sc fb _ c C h1).1 ((ib X W0 sc fb _ c C h2).2 rfl))
  · cases h
theorem gT_or (a b : Tx) (ia : GoalT Cl F N G a) (ib : GoalT Cl F N G b) : GoalT Cl F N G (.or a b) := by
  intro X W0 sc fb e c C h
  unfold chkT at h
  split at h
  · simp only [Bool.and_eq_true] at h
    obtain ⟨h1, h2⟩ := h
    split at h2
    · exact SndW.both (snd_wor (ia X W0 sc fb _ c C h1).1 (snd_wor1 (ib X W0 sc fb _ c C h2).1))
    · exact SndW.both (snd_wor (ia X W0 sc fb _ c C h1).1 ((ib X W0 sc fb _ c C h2).2 rfl))
  · cases h
variable (Cl F N G)
mutual
theorem okE : ∀ a : Ex, GoalE Cl F N G a ∧ (isCmp a = true → ∀ (X : Cx) (W0 : WX) (sc : Scope) (fb : Str → Bool) (e : Expr), Cf X Cl F N G sc fb → Ce X W0 → chkE N G a sc fb e = true → SndB X Cl W0 e (denE F a) ∧ isBool e = false)
  | .var i => ⟨gE_var i, fun h => by cases h⟩
  | .cst w => ⟨gE_cst w, fun h => by cases h⟩
  | .gc x w => ⟨gE_gc x w, fun h => by cases h⟩
  | .tup l => ⟨gE_tup l (okL l).1, fun h => by cases h⟩
  | .lst l => ⟨gE_lst l (okL l).1, fun h => by cases h⟩
  | .dnew t => ⟨gE_dnew t, fun h => by cases h⟩
  | .bin o a b => ⟨gE_bin o a b (okE a).1 (okE b).1, fun h => by cases h⟩
  | .neg a => ⟨gE_neg a (okE a).1, fun h => by cases h⟩
  | .not a => ⟨gE_not a (okE a).1, fun h => by cases h⟩
  | .cmp o a b => ⟨fun X W0 sc fb e c C h => (gB_cmp o a b (okE a).1 (okE b).1 X W0 sc fb e c C h).1.e, fun _ => gB_cmp o a b (okE a).1 (okE b).1⟩
  | .chain o o' a b d => ⟨fun X W0 sc fb e c C h => (gB_chain o o' a b d (okE a).1 (okE b).1 (okE d).1 X W0 sc fb e c C h).1.e, fun _ => gB_chain o o' a b d (okE a).1 (okE b).1 (okE d).1⟩
  | .isn neg a => ⟨fun X W0 sc fb e c C h => (gB_isn neg a (okE a).1 X W0 sc fb e c C h).1.e, fun _ => gB_isn neg a (okE a).1⟩
  | .and a b => ⟨gE_and a b (okE a).1 (okE b).1, fun h => by cases h⟩
  | .or a b => ⟨gE_or a b (okE a).1 (okE b).1, fun h => by cases h⟩
  | .ite t a b => ⟨gE_ite t a b (okT t) (okE a).1 (okE b).1, fun h => by cases h⟩
  | .ix a b => ⟨gE_ix a b (okE a).1 (okE b).1, fun h => by cases h⟩
  | .slo a b => ⟨gE_slo a b (okE a).1 (okE b).1, fun h => by cases h⟩
  | .shi a b => ⟨gE_shi a b (okE a).1 (okE b).1, fun h => by cases h⟩
  | .slh a b d => ⟨gE_slh a b d (okE a).1 (okE b).1 (okE d).1, fun h => by cases h⟩
  | .sall a => ⟨gE_sall a (okE a).1, fun h => by cases h⟩
  | .isi a t => ⟨gE_isi a t (okE a).1, fun h => by cases h⟩
  | .call f l => ⟨gE_call f l (okL l).1, fun h => by cases h⟩
  | .callk f l ks kw perm => ⟨gE_callk f l ks kw perm (okL l).1 (okL kw).2, fun h => by cases h⟩
  | .bi b l => ⟨gE_bi b l (okL l).1, fun h => by cases h⟩
  | .mtl m o l => ⟨gE_mtl m o l (okE o).1 (okL l).1, fun h => by cases h⟩
  | .mtl0 m o => ⟨gE_mtl0 m o (okE o).1, fun h => by cases h⟩
  | .get1 o a => ⟨gE_get1 o a (okE o).1 (okE a).1, fun h => by cases h⟩
  | .get2 o a d => ⟨gE_get2 o a d (okE o).1 (okE a).1 (okE d).1, fun h => by cases h⟩
  | .lc el tg own it => ⟨gE_lc el tg own it (okE el).1 (okI it), fun h => by cases h⟩
  | .lcif el tg own it d => ⟨gE_lcif el tg own it d (okE el).1 (okI it) (okT d), fun h => by cases h⟩
theorem okT : ∀ a : Tx, GoalT Cl F N G a
  | .val a => gT_val a (okE a).1 (fun X W0 sc fb e c C h m => (okE a).2 m X W0 sc fb e c C h)
  | .not a => gT_not a (okT a)
  | .and a b => gT_and a b (okT a) (okT b)
  | .or a b => gT_or a b (okT a) (okT b)
  | .ite _ _ _ => fun X W0 sc fb e c C h => by unfold chkT at h; cases h
theorem okL : ∀ l : Exs, GoalL Cl F N G l ∧ GoalK Cl F N G l
  | .nil => ⟨gL_nil, gK_nil⟩
  | .cons a r => ⟨gL_cons a r (okE a).1 (okL r).1, gK_cons a r (okE a).1 (okL r).2⟩
theorem okI : ∀ w : Wk, GoalI Cl F N G w
  | .rng1 a => gI_rng1 a (okE a).1
  | .rng2 a b => gI_rng2 a b (okE a).1 (okE b).1
  | .val a => gI_val a (okE a).1
  | .enum _ => fun X W0 sc fb tg e c C h => by unfold chkI at h; cases h
  | .zip _ _ => fun X W0 sc fb tg e c C h => by unfold chkI at h; cases h
end
end R

/-! R16: statements: the check and what it shows. -/
namespace R
open PySem PySem.Spec L2
open PyProof.Rows hiding St
variable {Cl : Nat → Option Addr} {F : Nat → List W → Hh → Res W} {N : List Str} {G : Gd}
/-- the comprehension's value is stored as it is made -/
def swB (sc scope : Scope) (t : Str) (p q : Pos) : Bool := decide (sc.names.lookup t = some .local) && (p.line == q.line) && !(scope.names.any fun (n, k) => n == t && (k == .local || k == .cell))
def swNo (sc : Scope) (tg v : Expr) : Bool := ncomp v || (match v with
  | .ListComp _ _ scope q => (match tg with
    | .Name t p => !(swB sc scope t p q)
    | .Tuple .. => true
    | _ => false)
  | _ => false)
theorem swNo_ok {env : Env} {tg v : Expr} {l : Nat} (h : swNo env.scope tg v = true) : swapsWith v (some tg) l env = pure false := by
  unfold swNo at h
  rw [Bool.or_eq_true] at h
  rcases h with h | h
  · exact ncomp_ok h
  · split at h
    · split at h
      · rename_i scope q _ t p
        unfold swB at h
        unfold swapsWith
        have hh : (env.blockKind == .function && env.kindOf t == some .local && p.line == q.line && !(scope.names.any fun (n, k) => n == t && (k == .local || k == .cell))) = false := by
          simp only [Bool.not_eq_true', Bool.and_eq_false_iff, decide_eq_false_iff_not] at h
          rcases h with (h | h) | h
          · have e1 : (env.kindOf t == some .local) = false := by
              rw [beq_eq_false_iff_ne]; exact h
            rw [e1]; simp
          · rw [h]; simp
          · rw [h]; simp
        exact congrArg pure hh
      · rfl
      · cases h
    · cases h
def locs (sc : Scope) (line : Nat) (ts : List Expr) : List Str := ts.filterMap fun
  | .Name id pos => if (sc.names.lookup id == some .local && pos.line == line) = true then some id else none
  | _ => none
def spNo (sc : Scope) (tg v : Expr) : Bool := match v with
  | .Tuple vs _ _ => (match tg with
    | .Name .. => true
    | .Tuple ts _ _ => vs.all nst && (decide ((locs sc ((ts.head?.map (·.pos.line)).getD 0) ts).length ≠ ts.length) || vs.all (foldedForSure 8))
    | _ => false)
  | _ => true
def st1 : Expr → Bool
  | .Starred .. => true
  | _ => false
theorem nst_no {vs : List Expr} (h : vs.all nst = true) : vs.any st1 = false := by
  induction vs with
  | nil => rfl
  | cons a r ih =>
    simp only [List.all_cons, Bool.and_eq_true] at h
    simp only [List.any_cons, Bool.or_eq_false_iff]
    refine ⟨?_, ih h.2⟩
    have := h.1
    cases a <;> first | rfl | (simp [nst] at this)
theorem ss_eq {env : Env} {ts vs : List Expr} {k1 k2 : Nat} {p1 p2 : Pos} : swappedStores [.Tuple ts k1 p1] (.Tuple vs k2 p2) env = (do
    if (!(ts.length == 2 || ts.length == 3) || vs.length != ts.length || env.blockKind != .function) = true then return none
    if vs.any st1 then return none
    let names := locs env.scope ((ts.head?.map (·.pos.line)).getD 0) ts
    if (names.length != ts.length || names.eraseDups.length != names.length) = true then return none
    if vs.all (foldedForSure 8) then return none
    if vs.all (constantsAlone 8) then unsupported "assign.tuple-of-constant-expressions:order-of-the-stores"
    return some names) := rfl
theorem spNo_ok {env : Env} {tg v : Expr} (h : spNo env.scope tg v = true) : swappedStores [tg] v env = pure none := by
  unfold spNo at h
  split at h
  · split at h
    · rfl
    · rename_i vs _ _ ts _ _
      simp only [Bool.and_eq_true, Bool.or_eq_true, decide_eq_true_eq] at h
      obtain ⟨h1, h2⟩ := h
      rw [ss_eq]
      simp only [nst_no h1]
      split
      · rfl
      · simp only [Bool.false_eq_true, if_false]
        rcases h2 with h2 | h2
        · have e1 : ((locs env.scope ((ts.head?.map (·.pos.line)).getD 0) ts).length != ts.length) = true := by simpa using h2
          rw [e1, Bool.true_or, if_pos rfl]
        · split
          · rfl
          · simp only [h2, if_true]
    · cases h
  · rename_i vs hv
    cases v <;> first | (cases tg <;> rfl) | (exact absurd rfl (hv _ _ _))
def spYes (sc : Scope) (ts vs : List Expr) (names : List Str) : Bool := vs.all nst && decide (locs sc ((ts.head?.map (·.pos.line)).getD 0) ts = names) && decide (names.eraseDups.length = names.length) && decide (ts.length = names.length) &&
  decide (vs.length = ts.length) && (decide (ts.length = 2) || decide (ts.length = 3)) && !(vs.all (foldedForSure 8)) && !(vs.all (constantsAlone 8)) && decide (sc.kind = .function)
theorem spYes_ok {env : Env} {ts vs : List Expr} {k1 k2 : Nat} {p1 p2 : Pos} {names : List Str} (h : spYes env.scope ts vs names = true) : swappedStores [.Tuple ts k1 p1] (.Tuple vs k2 p2) env = pure (some names) := by
  unfold spYes at h
  simp only [Bool.and_eq_true, Bool.or_eq_true, decide_eq_true_eq, Bool.not_eq_true'] at h
  obtain ⟨⟨⟨⟨⟨⟨⟨⟨h1, h2⟩, h3⟩, h4⟩, h5⟩, h6⟩, h7⟩, h8⟩, h9⟩ := h
  have hb : env.blockKind = .function := by unfold Env.blockKind; rw [h9]; rfl
  have c1 : (!(ts.length == 2 || ts.length == 3) || vs.length != ts.length || env.blockKind != .function) = false := by
    rw [hb, h5]
    rcases h6 with h6 | h6 <;> rw [h6] <;> rfl
  have c2 : (names.length != ts.length || names.eraseDups.length != names.length) = false := by rw [h3, h4]; simp
  rw [ss_eq]
  simp only [nst_no h1, c1, h2, c2, h7, h8, Bool.false_eq_true, if_false]
def lcB (e : Ex) (sc : Scope) (tg v : Expr) : Bool := match e with
  | .lc .. => (match tg, v with
    | .Name y py, .ListComp _ _ scope q => swB sc scope y py q && decide (sc.kind = .function)
    | _, _ => false)
  | .lcif .. => (match tg, v with
    | .Name y py, .ListComp _ _ scope q => swB sc scope y py q && decide (sc.kind = .function)
    | _, _ => false)
  | _ => false
def parB (t : Tg) (e : Ex) (sc : Scope) (tg v : Expr) : Bool := match t, e with
  | .tup [i, j], .tup _ => (match tg, v with
    | .Tuple [.Name x px, .Name y py] _ _, .Tuple [a, b] _ _ => decide (i ≠ j) && decide (sc.names.lookup x = some .local) && decide (sc.names.lookup y = some .local) && spYes sc [.Name x px, .Name y py] [a, b] [x, y]
    | _, _ => false)
  | .tup [i, j, l], .tup _ => (match tg, v with
    | .Tuple [.Name x px, .Name y py, .Name z pz] _ _, .Tuple [a, b, c] _ _ => decide (i ≠ j) && decide (i ≠ l) && decide (j ≠ l) && decide (sc.names.lookup x = some .local) && decide (sc.names.lookup y = some .local) && decide (sc.names.lookup z = some .local) && spYes sc [.Name x px, .Name y py, .Name z pz] [a, b, c] [x, y, z]
    | _, _ => false)
  | _, _ => false
section
variable (N G)
mutual
def chkS : Sm → Scope → (Str → Bool) → Stmt → Bool
  | .asg t e, sc, fb, s => (match s with
    | .Assign [tg] v _ => chkG N sc fb t tg && nst tg && chkE N G e sc fb v && ((swNo sc tg v && spNo sc tg v) || lcB e sc tg v || parB t e sc tg v)
    | _ => false)
  | .sub o i e, sc, fb, s => (match s with
    | .Assign [.Subscript x y _] v _ => nsl y && chkE N G o sc fb x && chkE N G i sc fb y && chkE N G e sc fb v
    | _ => false)
  | .aug i o e, sc, fb, s => (match s with
    | .AugAssign (.Name x _) op v _ => decide (op = o.py) && decide (N[i]? = some x) && locC sc x && fb x && (decide (o = .add) || decide (o = .sub)) && chkE N G e sc fb v
    | _ => false)
  | .ret e, sc, fb, s => (match s with
    | .Return (some v) _ => chkE N G e sc fb v
    | _ => false)
  | .retN, _, _, s => (match s with
    | .Return none _ => true
    | _ => false)
  | .ife c a b, sc, fb, s => (match s with
    | .If t xs ys _ => chkT N G c sc fb t && chkSs a sc fb xs && chkSs b sc fb ys
    | _ => false)
  | .loop t it b, sc, fb, s => (match s with
    | .For tg iter body [] _ => nset iter && chkG N sc fb t tg && chkI N G it sc fb iter && chkSs b sc fb body
    | _ => false)
  | .whil c b, sc, fb, s => (match s with
    | .While test body [] _ => chkT N G c sc fb test && chkSs b sc fb body
    | _ => false)
  | .brk, _, _, s => (match s with
    | .Break _ => true
    | _ => false)
  | .cnt, _, _, s => (match s with
    | .Continue _ => true
    | _ => false)
  | .exp e, sc, fb, s => (match s with
    | .Expr v _ => ncomp v && chkE N G e sc fb v
    | _ => false)
  | .pas, _, _, s => (match s with
    | .Pass _ => true
    | _ => false)
  | .raise _ _, _, _, _ => false
  | .nev, _, _, _ => true
def chkSs : Ss → Scope → (Str → Bool) → List Stmt → Bool
  | .nil, _, _, l => l.isEmpty
  | .cons s r, sc, fb, l => (match l with
    | x :: l => chkS s sc fb x && chkSs r sc fb l
    | [] => false)
end
end
abbrev GoalS (Cl : Nat → Option Addr) (F : Nat → List W → Hh → Res W) (N : List Str) (G : Gd) (a : Sm) : Prop := ∀ (X : Cx) (W0 : WX) (sc : Scope) (fb : Str → Bool) (e : Stmt), Cf X Cl F N G sc fb → Ce X W0 → chkS N G a sc fb e = true → SndS X Cl W0 e (denS F a)
abbrev GoalSs (Cl : Nat → Option Addr) (F : Nat → List W → Hh → Res W) (N : List Str) (G : Gd) (a : Ss) : Prop := ∀ (X : Cx) (W0 : WX) (sc : Scope) (fb : Str → Bool) (e : List Stmt), Cf X Cl F N G sc fb → Ce X W0 → chkSs N G a sc fb e = true → SndSs X Cl W0 e (denSs F a)
theorem asg_eq (t : Tg) (e : Ex) : denS F (.asg t e) = dAsg (denE F e) t := by
  funext σ h
  simp only [denS, dAsg]
  cases denE F e σ h <;> rfl
theorem gS_asg (t : Tg) (e : Ex) : GoalS Cl F N G (.asg t e) := by
  intro X W0 sc fb s c C h
  unfold chkS at h
  split at h
  · rename_i tg v pos
    simp only [Bool.and_eq_true, Bool.or_eq_true] at h
    obtain ⟨⟨⟨h1, h2⟩, h3⟩, h4⟩ := h
    rw [asg_eq]
    rcases h4 with (h4 | h4) | h4
    · rw [← c.hs] at h4
      exact snd_asg (c.tg C h1) ((okE Cl F N G e).1 X W0 sc fb v c C h3) (swNo_ok h4.1) (spNo_ok h4.2) h2
    · unfold lcB at h4
      split at h4
      · split at h4
        · rename_i el tg' own it _ _ y py elt0 gens0 scope0 q0
          simp only [Bool.and_eq_true, decide_eq_true_eq] at h4
          obtain ⟨h4, h5⟩ := h4
          unfold swB at h4
          simp only [Bool.and_eq_true, decide_eq_true_eq, Bool.not_eq_true'] at h4
          obtain ⟨⟨s1, s2⟩, s3⟩ := h4
          cases t with
          | tup is => simp [chkG] at h1
          | nm i =>
            simp only [chkG] at h1
            obtain ⟨n1, n2, n3⟩ := c.nm h1
            unfold chkE at h3
            split at h3
            · rename_i elt t' iter n scope pp heq
              cases heq
              simp only [Bool.and_eq_true, decide_eq_true_eq] at h3
              obtain ⟨⟨⟨⟨⟨⟨a1, a2⟩, a3⟩, a4⟩, a5⟩, a6⟩, a7⟩ := h3
              subst a1
              have q := snd_asgLc (spos := pos) C n1 (by rw [c.hs]; exact s1) (sw_true (by rw [c.hs]; exact h5) (by rw [c.hs]; exact s1) s2 s3) (okI Cl F N G it X W0 sc fb t' iter c C a3) (blk_ok c a4) (nm_ok a5)
                (fun s H A cl fp => (c.blk scope0 s H A cl fp).tg (C.blk scope0 s H A cl fp) a6) (fun s H A cl fp => (okE Cl F N G el).1 _ _ _ _ _ (c.blk scope0 s H A cl fp) (C.blk scope0 s H A cl fp) a7) (nset_ok a2)
              rw [own_map] at q
              exact q
            · cases h3
        · cases h4
      · split at h4
        · rename_i el tg' own it d _ _ y py elt0 gens0 scope0 q0
          simp only [Bool.and_eq_true, decide_eq_true_eq] at h4
          obtain ⟨h4, h5⟩ := h4
          unfold swB at h4
          simp only [Bool.and_eq_true, decide_eq_true_eq, Bool.not_eq_true'] at h4
          obtain ⟨⟨s1, s2⟩, s3⟩ := h4
          cases t with
          | tup is => simp [chkG] at h1
          | nm i =>
            simp only [chkG] at h1
            obtain ⟨n1, n2, n3⟩ := c.nm h1
            unfold chkE at h3
            split at h3
            · rename_i elt t' iter d' n scope pp heq
              cases heq
              simp only [Bool.and_eq_true, decide_eq_true_eq] at h3
              obtain ⟨⟨⟨⟨⟨⟨⟨a1, a2⟩, a3⟩, a4⟩, a5⟩, a6⟩, a7⟩, a8⟩ := h3
              subst a1
              have q := snd_asgLcif (spos := pos) C n1 (by rw [c.hs]; exact s1) (sw_true (by rw [c.hs]; exact h5) (by rw [c.hs]; exact s1) s2 s3) (okI Cl F N G it X W0 sc fb t' iter c C a3) (blk_ok c a4) (nm_ok a5)
                (fun s H A cl fp => (c.blk scope0 s H A cl fp).tg (C.blk scope0 s H A cl fp) a6) (fun s H A cl fp => (okE Cl F N G el).1 _ _ _ _ _ (c.blk scope0 s H A cl fp) (C.blk scope0 s H A cl fp) a7)
                (fun s H A cl fp => (okT Cl F N G d _ _ _ _ _ (c.blk scope0 s H A cl fp) (C.blk scope0 s H A cl fp) a8).1) (nset_ok a2)
              rw [own_map] at q
              exact q
            · cases h3
        · cases h4
      · cases h4
    · unfold parB at h4
      split at h4
      · split at h4
        · rename_i i j l _ _ x px y py _ _ a b _ _
          simp only [Bool.and_eq_true, decide_eq_true_eq] at h4
          obtain ⟨⟨⟨a1, a2⟩, a3⟩, a4⟩ := h4
          simp only [chkG, nmsC, Bool.and_eq_true] at h1
          obtain ⟨h1a, h1b, _⟩ := h1
          simp only [chkE] at h3
          exact snd_par2 C (c.nm h1a).1 (c.nm h1b).1 a1 (by rw [c.hs]; exact a2) (by rw [c.hs]; exact a3) ((okL Cl F N G l).1 X W0 sc fb _ c C h3) (spYes_ok (by rw [c.hs]; exact a4))
        · cases h4
      · split at h4
        · rename_i i j k l _ _ x px y py z pz _ _ a b d _ _
          simp only [Bool.and_eq_true, decide_eq_true_eq] at h4
          obtain ⟨⟨⟨⟨⟨⟨a1, a2⟩, a3⟩, a4⟩, a5⟩, a6⟩, a7⟩ := h4
          simp only [chkG, nmsC, Bool.and_eq_true] at h1
          obtain ⟨h1a, h1b, h1c, _⟩ := h1
          simp only [chkE] at h3
          exact snd_par3 C (c.nm h1a).1 (c.nm h1b).1 (c.nm h1c).1 a1 a2 a3 (by rw [c.hs]; exact a4) (by rw [c.hs]; exact a5) (by rw [c.hs]; exact a6) ((okL Cl F N G l).1 X W0 sc fb _ c C h3) (spYes_ok (by rw [c.hs]; exact a7))
        · cases h4
      · cases h4
  · cases h
theorem ife_eq (c : Tx) (a b : Ss) : denS F (.ife c a b) = fun σ h => aft (denT F c σ h) σ fun k h1 => match k with | true => denSs F a σ h1 | false => denSs F b σ h1 := by
  funext σ h
  simp only [denS]
  cases denT F c σ h with
  | ok k h1 => cases k <;> rfl
  | ex => rfl
  | stuck => rfl
theorem loop_eq (t : Tg) (it : Wk) (b : Ss) : denS F (.loop t it b) = fun σ h => aft (denI F it σ h) σ fun p h1 => (forLoop (tgSet t) (denSs F b) p.1 σ h1).relock p.2 := by
  funext σ h
  simp only [denS]
  cases denI F it σ h <;> rfl
theorem sub_eq (o i e : Ex) : denS F (.sub o i e) = fun σ h => aft ((denE F e σ h).bind fun v h1 => (denE F o σ h1).bind fun x h2 => (denE F i σ h2).bind fun y h3 => ofO (setix x y v h3) h3) σ fun h4 _ => .nx σ h4 := by
  funext σ h
  simp only [denS]
  cases ((denE F e σ h).bind fun v h1 => (denE F o σ h1).bind fun x h2 => (denE F i σ h2).bind fun y h3 => ofO (setix x y v h3) h3) <;> rfl
theorem aug_eq (i : Nat) (o : BOp) (e : Ex) : denS F (.aug i o e) = fun σ h => match σ[i]? with | some (some x) => aft ((denE F e σ h).bind fun y h1 => match x, y with | .int _, .int _ => binop o x y h1 | _, _ => .stuck) σ fun z h2 => .nx (σ.set i (some z)) h2 | _ => .stuck := by
  funext σ h
  simp only [denS]
  cases eσ : σ[i]? with
  | none => rfl
  | some x => cases x with
    | none => rfl
    | some x =>
      simp only []
      cases ((denE F e σ h).bind fun y h1 => match x, y with | .int _, .int _ => binop o x y h1 | _, _ => .stuck) <;> rfl
theorem gS_sub (o i e : Ex) : GoalS Cl F N G (.sub o i e) := by
  intro X W0 sc fb s c C h
  unfold chkS at h
  split at h
  · simp only [Bool.and_eq_true] at h
    obtain ⟨⟨⟨h1, h2⟩, h3⟩, h4⟩ := h
    rw [sub_eq]
    refine snd_sub C h1 ((okE Cl F N G o).1 X W0 sc fb _ c C h2) ((okE Cl F N G i).1 X W0 sc fb _ c C h3) ((okE Cl F N G e).1 X W0 sc fb _ c C h4) ?_
    rename_i v _
    cases v <;> rfl
  · cases h
theorem gS_aug (i : Nat) (o : BOp) (e : Ex) : GoalS Cl F N G (.aug i o e) := by
  intro X W0 sc fb s c C h
  unfold chkS at h
  split at h
  · simp only [Bool.and_eq_true, Bool.or_eq_true, decide_eq_true_eq] at h
    obtain ⟨⟨⟨⟨⟨h1, h2⟩, h3⟩, h4⟩, h5⟩, h6⟩ := h
    subst h1
    rw [aug_eq]
    exact snd_aug C (by rw [c.hN]; exact h2) (c.loc h3) (c.hf _ h4) h5 ((okE Cl F N G e).1 X W0 sc fb _ c C h6)
  · cases h
variable (Cl F N G)
mutual
theorem okS : ∀ a : Sm, GoalS Cl F N G a
  | .asg t e => gS_asg t e
  | .sub o i e => gS_sub o i e
  | .aug i o e => gS_aug i o e
  | .ret e => fun X W0 sc fb s c C h => by
    unfold chkS at h
    split at h
    · have e0 : denS F (.ret e) = fun σ h => aft (denE F e σ h) σ fun w h1 => .rt w h1 := by
        funext σ h
        simp only [denS]
        cases denE F e σ h <;> rfl
      rw [e0]
      exact snd_ret ((okE Cl F N G e).1 X W0 sc fb _ c C h)
    · cases h
  | .retN => fun X W0 sc fb s c C h => by
    unfold chkS at h
    split at h
    · exact snd_retN
    · cases h
  | .ife t a b => fun X W0 sc fb s c C h => by
    unfold chkS at h
    split at h
    · simp only [Bool.and_eq_true] at h
      rw [ife_eq]
      exact snd_ife (okT Cl F N G t X W0 sc fb _ c C h.1.1).1 (okSs a X W0 sc fb _ c C h.1.2) (okSs b X W0 sc fb _ c C h.2)
    · cases h
  | .loop t it b => fun X W0 sc fb s c C h => by
    unfold chkS at h
    split at h
    · simp only [Bool.and_eq_true] at h
      obtain ⟨⟨⟨h1, h2⟩, h3⟩, h4⟩ := h
      rw [loop_eq]
      exact snd_loop C (okI Cl F N G it X W0 sc fb _ _ c C h3) (c.tg C h2) (fun W1 C1 => okSs b X W1 sc fb _ c C1 h4) (nset_ok h1)
    · cases h
  | .whil t b => fun X W0 sc fb s c C h => by
    unfold chkS at h
    split at h
    · simp only [Bool.and_eq_true] at h
      exact snd_while C (okT Cl F N G t X W0 sc fb _ c C h.1).1 (okSs b X W0 sc fb _ c C h.2)
    · cases h
  | .brk => fun X W0 sc fb s c C h => by
    unfold chkS at h
    split at h
    · exact snd_brk
    · cases h
  | .cnt => fun X W0 sc fb s c C h => by
    unfold chkS at h
    split at h
    · exact snd_cnt
    · cases h
  | .exp e => fun X W0 sc fb s c C h => by
    unfold chkS at h
    split at h
    · simp only [Bool.and_eq_true] at h
      have e0 : denS F (.exp e) = fun σ h => aft (denE F e σ h) σ fun _ h1 => .nx σ h1 := by
        funext σ h
        simp only [denS]
        cases denE F e σ h <;> rfl
      rw [e0]
      exact snd_exp h.1 ((okE Cl F N G e).1 X W0 sc fb _ c C h.2)
    · cases h
  | .pas => fun X W0 sc fb s c C h => by
    unfold chkS at h
    split at h
    · exact snd_pass
    · cases h
  | .raise k e => fun X W0 sc fb s c C h => by unfold chkS at h; cases h
  | .nev => fun X W0 sc fb s c C h => snd_never
theorem okSs : ∀ a : Ss, GoalSs Cl F N G a
  | .nil => fun X W0 sc fb l c C h => by
    unfold chkSs at h
    cases l with
    | nil => exact snd_snil
    | cons x r => simp at h
  | .cons s r => fun X W0 sc fb l c C h => by
    unfold chkSs at h
    cases l with
    | nil => simp at h
    | cons x l =>
      simp only [Bool.and_eq_true] at h
      exact snd_scons (okS s X W0 sc fb x c C h.1) (okSs r X W0 sc fb l c C h.2)
end
end R

/-! R17: every def does what the evaluator says. -/
namespace R
open PySem PySem.Spec L2
open PyProof.Rows hiding St
structure Rw where
  i : Nat
  id : Nat
  name : Str
  ps : List Str
  N : List Str
def scC (N ps : List Str) (sc : Scope) : Bool := decide (sc.kind = .function) && !sc.isCoroutine && !sc.isGenerator && decide N.Nodup && decide (N.take ps.length = ps) && (ps.all fun x => locC sc x) && (sc.names.all fun y => decide (y.2 ≠ .free))
theorem scC_ok {N ps : List Str} {sc : Scope} (h : scC N ps sc = true) : FnScope N ps sc := by
  unfold scC locC at h
  simp only [Bool.and_eq_true, decide_eq_true_eq, Bool.not_eq_true', List.all_eq_true, Bool.or_eq_true] at h
  obtain ⟨⟨⟨⟨⟨⟨h1, h2⟩, h3⟩, h4⟩, h5⟩, h6⟩, h7⟩ := h
  exact ⟨h1, h2, h3, h4, h5, h6, h7⟩
section
variable (top : Nat → Stmt) (pg : Pg) (G : Gd)
def rowC (r : Rw) : Bool := match pg r.id with
  | none => false
  | some fn => decide (fn.np = r.ps.length) && decide (fn.ns = r.N.length) && scC r.N r.ps (defScope (top r.i)) && chkSs r.N G fn.body (defScope (top r.i)) (fun _ => true) (defBody (top r.i))
def Bd (r : Rw) : Prop := ∀ (kV doc pm : Value) (an : Option Addr) (cdv ct : Value) (us : List Value), us.length = r.ps.length →
  bindArgs (PySem.W.fnOf r.name r.name (defArgs (top r.i)) (defBody (top r.i)) (defScope (top r.i)) .none kV doc pm an cdv ct) ⟨us, []⟩ = pure (r.ps.zip us)
def Bk (r : Rw) (n : Nat) (ks : List Str) (perm : List Nat) : Prop := ∀ (kV doc pm : Value) (an : Option Addr) (cdv ct : Value) (us ws : List Value), us.length = n → ws.length = ks.length →
  ∃ vs, mapO (fun j => (us ++ ws)[j]?) perm = some vs ∧ bindArgs (PySem.W.fnOf r.name r.name (defArgs (top r.i)) (defBody (top r.i)) (defScope (top r.i)) .none kV doc pm an cdv ct) ⟨us, ks.zip ws⟩ = pure (r.ps.zip vs)
abbrev FnP (K : PySem.W.Frag) (r : Rw) (f : Addr) (fd : FuncData) : Prop := FunD K r.name r.name (defArgs (top r.i)) (defBody (top r.i)) (defScope (top r.i)) [] [] f fd
end
theorem kb_of {K : PySem.W.Frag} {x qual : Str} {params : Arguments} {body : List Stmt} {scope : Scope} {kws : List (Str × V)} {f : Addr} {fd : FuncData} {ps ks : List Str} {n : Nat} {perm : List Nat} (F : FunD K x qual params body scope [] kws f fd)
    (h : ∀ (kV doc pm : Value) (an : Option Addr) (cdv ct : Value) (us ws : List Value), us.length = n → ws.length = ks.length →
      ∃ vs, mapO (fun j => (us ++ ws)[j]?) perm = some vs ∧ bindArgs (PySem.W.fnOf x qual params body scope .none kV doc pm an cdv ct) ⟨us, ks.zip ws⟩ = pure (ps.zip vs)) : KB K fd ps n ks perm := by
  obtain ⟨oc, od, dV, kV, doc, pm, an, cdv, ct, osl, rfl, lk, hcd, hD, hK⟩ := F.ex
  rcases hD with ⟨_, rfl⟩ | ⟨e, _⟩
  · intro s us ws _ l1 l2
    obtain ⟨vs, e1, e2⟩ := h kV doc pm an cdv ct us ws l1 l2
    exact ⟨vs, e1, .of_eq e2⟩
  · exact absurd rfl e
theorem callN_len {pg : Pg} {n f np : Nat} {fn : Fn} (hp : pg f = some fn) {ws : List W} {h : Hh} (l : ws.length ≠ fn.np) : callN pg n f ws h = .stuck := by
  cases n with
  | zero => rfl
  | succ n =>
    simp only [callN, hp]
    have e : ∀ h, runFn (callN pg n) fn ws h = .stuck := fun h => by unfold runFn; rw [if_neg l]
    rw [e, e]
    split <;> rfl
section
variable {K : PySem.W.Frag} {Cl : Nat → Option Addr}
theorem rs_start {ι : List Addr} {H : Hp} {ws : List W} {vs : List V} {N : List Str} {m : Nat} (r : Rps K ι H ws vs) (hm : m = N.length - vs.length) : Rs K ι H (ws.map some ++ List.replicate m none) (L2.start N vs) := by
  subst hm
  unfold L2.start
  refine ⟨by simp [r.length], fun i w e => ?_⟩
  by_cases hi : i < ws.length
  · rw [List.getElem?_append_left (by simpa using hi), List.getElem?_map] at e
    cases e2 : ws[i]? with
    | none => rw [e2] at e; cases e
    | some w' =>
      rw [e2] at e
      cases e
      obtain ⟨v, e3, q⟩ := r.get e2
      have hv : i < vs.length := by rw [← r.length]; exact hi
      exact ⟨v, by rw [List.getElem?_append_left (by simpa using hv), List.getElem?_map, e3]; rfl, q⟩
  · rw [List.getElem?_append_right (by simpa using hi), List.getElem?_replicate] at e
    split at e <;> cases e
theorem Xr.one {ι ι' : List Addr} {H' : Hp} {k : Nat} {w : W} {cls : Value} {d : Option Addr} (hp : w.pure = true) (x : Xr K Cl ι' H' k w cls d) : Xr K Cl ι H' k w cls d := by
  obtain ⟨C, dd, v, e1, e2, e3, e4, q⟩ := x
  exact ⟨C, dd, v, e1, e2, e3, e4, q.anyι hp⟩
theorem Xr.shifted {ι ι' : List Addr} {H' : Hp} {k : Nat} {w : W} {cls : Value} {d : Option Addr} (x : Xr K Cl ι' H' k w cls d) : Xr K Cl (ι ++ ι') H' k (w.shift ι.length) cls d := by
  obtain ⟨C, dd, v, e1, e2, e3, e4, q⟩ := x
  exact ⟨C, dd, v, e1, e2, e3, e4, q.shifted⟩
theorem Out.finish {E : XW} {ι : List Addr} {h : Hh} {H : Hp} {r : Res W} {Q : VK} (rh : Rh K ι h H) (o : Out K Cl (Rp K) E ι h H (finish h r) Q) : Out K Cl (Rp K) E [] [] H r Q := by
  cases r with
  | stuck => exact o
  | ok w h1 =>
    simp only [R.finish] at o
    intro ι' H' v g q
    split at o
    · rename_i hp
      exact o ι H' v (Go.drop rh g) (q.anyι hp)
    · have att : Out K Cl (Rp K) E ι h H (.ok (w.shift h.length) (h ++ h1.map (Ob.shift h.length))) Q → Q v H' := fun o => by
        refine o (ι ++ ι') H' v (Go.attach rh g) ?_
        rw [← rh.len]
        exact q.shifted
      split at o
      · rename_i a
        split at o
        · rename_i xs ea
          split at o
          · rename_i px
            obtain ⟨p, rfl, ei⟩ := q.refI
            exact o (ι ++ [p]) H' _ (Go.one rh g ei ea px) (rp_new rh p)
          · exact att o
        · exact att o
      · exact att o
  | ex k w h1 =>
    simp only [R.finish] at o
    intro ι' H' cls d g x
    split at o
    · rename_i hp
      exact o ι H' cls d (Go.drop rh g) (x.one hp)
    · refine o (ι ++ ι') H' cls d (Go.attach rh g) ?_
      rw [← rh.len]
      exact x.shifted
theorem outS_of {E : XK} {ι : List Addr} {h : Hh} {H : Hp} {r : SR} {Q : VK} (o : Out K Cl (Rp K) E ι h H (match r with | .rt w h1 => .ok w h1 | .nx _ h1 => .ok .non h1 | .ex k w _ h1 => .ex k w h1 | _ => .stuck) Q) :
    OutS K Cl (fun cls d _ H => E cls d H) ι h H r { nx := fun _ H' => Q .non H', rt := Q } := by
  cases r with
  | nx σ h1 => exact fun ι' H' τ' g s => o ι' H' .non g .non
  | rt w h1 => exact fun ι' H' v g q => o ι' H' v g q
  | bk σ h1 => exact o.elim
  | ct σ h1 => exact o.elim
  | ex k w σ h1 => exact fun ι' H' τ' cls d g s x => o ι' H' cls d g x
  | stuck => exact o
end
section
variable {P : Program} {w : World} {K : PySem.W.Frag} {mg : Str → Option Value} {base : Heap} {top : Nat → Stmt} {pg : Pg} {G : Gd} {rows : List Rw} {Cl : Nat → Option Addr}
structure Facts (K : PySem.W.Frag) (mg : Str → Option Value) (top : Nat → Stmt) (pg : Pg) (G : Gd) (rows : List Rw) : Prop where
  row : ∀ r ∈ rows, rowC top pg G r = true
  fns : ∀ q ∈ G.fns, ∃ r ∈ rows, q = (r.id, r.name, r.ps)
  fn : ∀ r ∈ rows, ∃ f fd, FnP top K r f fd ∧ mg r.name = some (.ref f)
  bd : ∀ r ∈ rows, Bd top r
  bk : ∀ r ∈ rows, ∀ n ks perm, (r.id, n, ks, perm) ∈ G.kbs → Bk top r n ks perm
  cst : ∀ x w, (x, w) ∈ G.csts → ∃ u v, mg x = some u ∧ RelV v u ∧ ∀ ι H, Rp K ι H w v
  blt : ∀ x ∈ G.blts, mg x = none
theorem fn_all (Y : Facts K mg top pg G rows) : ∀ n : Nat, ∀ r ∈ rows, ∀ f fd, FnP top K r f fd → FnOk P w K mg base (L2.CX P w) n f fd r.ps (spR K Cl (callN pg n r.id))
  | 0, r, hr, f, fd, F => ⟨fun vs H Q E ⟨ι, h, ws, rh, rp, o⟩ => o.elim, fun A outer s H args us vs Q E _ _ _ _ ⟨ι, h, ws, rh, rp, o⟩ => o.elim⟩
  | n + 1, r, hr, f, fd, F => by
    have hc := Y.row r hr
    unfold rowC at hc
    split at hc
    · cases hc
    rename_i fn hp
    simp only [Bool.and_eq_true, decide_eq_true_eq] at hc
    obtain ⟨⟨⟨h1, h2⟩, h3⟩, h4⟩ := hc
    have S := scC_ok h3
    have len : ∀ vs H Q E, spR K Cl (callN pg (n + 1) r.id) vs H Q E → vs.length = r.ps.length := by
      rintro vs H Q E ⟨ι, h, ws, rh, rp, o⟩
      by_cases l : ws.length = fn.np
      · rw [← rp.length, l, h1]
      · rw [callN_len (np := 0) hp l] at o; exact o.elim
    refine F.ok S len fun cdv A outer s H vs Q E room hsp => ?_
    have hl := len vs H Q E hsp
    obtain ⟨ι, h, ws, rh, rp, o⟩ := hsp
    have C : Ce (cxOf (L2.CX P w) P w K mg base r.N r.name (defScope (top r.i)) f cdv A outer s H E) (fun cls d _ H => E cls d H) :=
      ⟨rfl, by have := room.un; show (A.deeper _).units + 100 < cLine; omega, takes_of rfl rfl rfl rfl, S.nd, passes_of rfl⟩
    have c : Cf (cxOf (L2.CX P w) P w K mg base r.N r.name (defScope (top r.i)) f cdv A outer s H E) Cl (callN pg n) r.N G (defScope (top r.i)) (fun _ => true) := by
      refine ⟨rfl, rfl, fun _ _ => rfl, ⟨fun f' x ps m => ?_, Y.cst, Y.blt⟩⟩
      obtain ⟨r', hr', e⟩ := Y.fns _ m
      cases e
      obtain ⟨fa', fd', F', m'⟩ := Y.fn r' hr'
      exact ⟨n, fa', fd', ⟨fn_all Y n r' hr' fa' fd' F', room, m', F'.kp, F'.bindsN (Y.bd r' hr')⟩, fun n' ks perm hk => kb_of F' (Y.bk r' hr' n' ks perm hk)⟩
    obtain ⟨t, pt, it⟩ := okSs Cl (callN pg n) r.N G fn.body _ _ _ _ _ c C h4
    have hm : fn.ns - fn.np = r.N.length - vs.length := by rw [h1, h2, hl]
    have lw : ws.length = fn.np := by rw [rp.length, hl, h1]
    refine ⟨t, pt, ?_⟩
    simp only [callN, hp] at o
    split at o
    · rename_i pw
      have o2 := o.finish rh
      unfold runFn at o2
      rw [if_pos lw] at o2
      exact it [] [] H _ _ _ (Rh.nil H) (rs_start (rp.anyι pw) hm) (outS_of o2)
    · unfold runFn at o
      rw [if_pos lw] at o
      exact it ι h H _ _ _ rh (rs_start rp hm) (outS_of o)
end
end R

/-! R18: the head. -/
namespace R
open PySem PySem.Spec L2
open PyProof.Rows hiding St
def AllP (p : Rw → Prop) : List Rw → Prop
  | [] => True
  | r :: l => p r ∧ AllP p l
theorem AllP.mem {p : Rw → Prop} : ∀ {l : List Rw}, AllP p l → ∀ r ∈ l, p r
  | [], _, r, h => by cases h
  | a :: l, ⟨h1, h2⟩, r, h => by
    cases h with
    | head => exact h1
    | tail _ h => exact AllP.mem h2 r h
theorem row_by {rows : List Rw} {r q : Rw} (h : (rows.all fun x => !(Nat.beq x.id q.id) || (decide (x.i = q.i) && decide (x.name = q.name) && decide (x.ps = q.ps) && decide (x.N = q.N))) = true) (m : r ∈ rows) (e : r.id = q.id) : r = q := by
  have := List.all_eq_true.mp h r m
  rw [e, Nat.beq_refl] at this
  simp only [Bool.not_true, Bool.false_or, Bool.and_eq_true, decide_eq_true_eq] at this
  obtain ⟨⟨⟨a, b⟩, c⟩, d⟩ := this
  cases r; cases q
  simp_all
section
variable (rows : List Rw) (kbs : List (Nat × Nat × List Str × List Nat)) (ics : List (Str × Int)) (blts : List Str)
def gdOf : Gd := ⟨rows.map fun r => (r.id, r.name, r.ps), kbs, ics.map fun p => (p.1, .int p.2), blts⟩
def faOf : List He.Fa := (rows.map fun r => .glo r.name) ++ (ics.map fun p => .int p.1 p.2) ++ blts.map .free
def dOf (top : Nat → Stmt) (r : Rw) : He.DefD := ⟨(r.name, none), r.name, r.name, defArgs (top r.i), defBody (top r.i), defScope (top r.i), [], []⟩
def fnOfR (top : Nat → Stmt) : List He.DefD := rows.map (dOf top)
end
section
variable {P : Program} {w : World} {K : PySem.W.Frag} {h : Heap} {mg : Str → Option Value} {top : Nat → Stmt} {pg : Pg} {rows : List Rw} {kbs : List (Nat × Nat × List Str × List Nat)} {ics : List (Str × Int)} {blts : List Str}
theorem facts_of (X : K.In h) (G : h.Ns mainGlobals mg) (c : He.SaysD (faOf rows ics blts) (fnOfR rows top) K) (hr : (rows.all fun r => rowC top pg (gdOf rows kbs ics blts) r) = true) (bd : AllP (Bd top) rows)
    (bk : ∀ r ∈ rows, ∀ n ks perm, (r.id, n, ks, perm) ∈ kbs → Bk top r n ks perm) : Facts K mg top pg (gdOf rows kbs ics blts) rows := by
  refine ⟨fun r m => List.all_eq_true.mp hr r m, fun q m => ?_, fun r m => ?_, bd.mem, bk, fun x w m => ?_, fun x m => ?_⟩
  · obtain ⟨r, m, e⟩ := List.mem_map.mp m
    exact ⟨r, m, e.symm⟩
  · obtain ⟨fd, F⟩ := c.defs (d := dOf top r) (List.mem_map_of_mem m)
    exact ⟨He.ga K r.name, fd, F, He.glo_ok X G (c.facts (f := .glo r.name) (List.mem_append_left _ (List.mem_append_left _ (List.mem_map_of_mem m))))⟩
  · obtain ⟨p, mp, e⟩ := List.mem_map.mp m
    cases e
    obtain ⟨t, e⟩ := He.int_ok X G (c.facts (f := .int p.1 p.2) (List.mem_append_left _ (List.mem_append_right _ (List.mem_map_of_mem mp))))
    exact ⟨_, .int p.2, e, ⟨t, rfl⟩, fun ι H => .int _⟩
  · exact He.free_ok X G (c.facts (f := .free x) (List.mem_append_right _ (List.mem_map_of_mem m)))
/-- what may leave, in whatever world -/
def CXa (P : Program) : CXT := fun outer H s E e s' => ∃ w, L2.CX P w outer H s E e s'
theorem fnOk_any {K : PySem.W.Frag} {mg : Str → Option Value} {base : Heap} {k : Nat} {f : Addr} {fd : FuncData} {ps : List Str} {sp : Sp} (F : FnOk P w K mg base (L2.CX P w) k f fd ps sp) : FnOk P w K mg base (CXa P) k f fd ps sp := by
  refine ⟨F.len, fun A outer s H args us vs Q E a b c d e => codeAny_mono (F.run A outer s H args us vs Q E a b c d e) fun r s' h => ?_⟩
  match r, h with
  | .ok (.ret u), h => exact h
  | .ok .next, h => exact h
  | .ok .brk, h => exact h
  | .ok .cont, h => exact h
  | .error e, h => exact ⟨w, h⟩
theorem cxa_end {P : Program} (H : Hp) (s : Shared) (e : Value) (s' : Shared) (x : CXa P [] H s (fun _ _ _ => False) e s') : False := by
  obtain ⟨w, _, _, _, _, _, _, _, _, _, _, _, _, z⟩ := x
  exact z
abbrev spLaw (K : PySem.W.Frag) (pg : Pg) (k id : Nat) : Sp := spR K (fun _ => none) (callN pg k id)
/-- the law's def by its name -/
theorem law_fn (X : K.In h) (G : h.Ns mainGlobals mg) (c : He.SaysD (faOf rows ics blts) (fnOfR rows top) K) (hr : (rows.all fun r => rowC top pg (gdOf rows kbs ics blts) r) = true) (bd : AllP (Bd top) rows)
    (bk : ∀ r ∈ rows, ∀ n ks perm, (r.id, n, ks, perm) ∈ kbs → Bk top r n ks perm) {r : Rw} (m : r ∈ rows) (hps : r.ps = [("script" : Str)]) {f : Addr} (hf : mg r.name = some (.ref f)) (k : Nat) :
    ∃ fd : FuncData, (∀ (s : Shared) (v : Value), BindsTo s fd ⟨[v], []⟩ [("script", v)]) ∧ ∀ base : Heap, K.In base → base.Ns mainGlobals mg → FnOk P w K mg base (CXa P) k f fd [("script" : Str)] (spLaw K pg k r.id) := by
  have Y := facts_of (pg := pg) X G c hr bd bk
  obtain ⟨f', fd, F, e⟩ := Y.fn r m
  have e2 : f' = f := by
    have := e.symm.trans hf
    exact Value.ref.inj (Option.some.inj this)
  subst e2
  have b := FunD.bindsA (ps := r.ps) F (Y.bd r m)
  refine ⟨fd, fun s v => ?_, fun base _ _ => ?_⟩
  · have q := b s [v] (by rw [hps]; rfl)
    rw [hps] at q
    exact q
  · have q := fnOk_any <| fn_all (P := P) (w := w) (base := base) (Cl := fun _ => none) Y k r m f' fd F
    rw [hps] at q
    exact q
theorem law_end {k id : Nat} {ns : List Int} (ev : ∃ h', callN pg k id [.fl (ns.map W.int)] [] = .ok (.bl true) h') (H : Hp) (a : Addr) (hO : Only H) (hS : SqL K H a (ns.map V.int)) : spLaw K pg k id [.ref a] H (fun v _ => v = .bl true) fun _ _ _ => False := by
  obtain ⟨h', e⟩ := ev
  have fz : FzL K H a (ns.map V.int) := by
    rcases hS with hS | hS
    · rcases hS with hS | hS
      · rcases hO a with z | ⟨o, xs, z⟩
        · rw [z] at hS; cases hS
        · rw [z] at hS; cases hS
      · exact .inl hS
    · exact .inr hS
  have rs : ∀ ns : List Int, Rps K [] H (ns.map W.int) (ns.map V.int) := fun ns => by
    induction ns with
    | nil => exact .nil
    | cons a r ih => exact .cons (.int a) ih
  refine ⟨[], [], _, Rh.nil H, .cons (.fl fz (rs ns)) .nil, ?_⟩
  rw [e]
  intro ι' H' b g q
  cases q
  rfl
end
end R

/-! R19: the evaluator, row by row. -/
namespace R
open PySem (Str)
open L2 (Key)
@[simp] theorem bindS {α β : Type} (f : α → Hh → Res β) : Res.bind .stuck f = .stuck := id rfl
@[simp] theorem bindX {α β : Type} (k : Nat) (w : W) (h : Hh) (f : α → Hh → Res β) : Res.bind (.ex k w h) f = .ex k w h := id rfl
@[simp] theorem bindO {α β : Type} (a : α) (h : Hh) (f : α → Hh → Res β) : Res.bind (.ok a h) f = f a h := id rfl
section
variable (F : Nat → List W → Hh → Res W) (σ : Sl) (h : Hh)
@[simp] theorem dE_var (i : Nat) : denE F (.var i) σ h = (match σ[i]? with | some (some w) => .ok w h | _ => .stuck) := id rfl
@[simp] theorem dE_cst (w : W) : denE F (.cst w) σ h = .ok w h := id rfl
@[simp] theorem dE_gc (x : Str) (w : W) : denE F (.gc x w) σ h = .ok w h := id rfl
@[simp] theorem dE_tup (l : Exs) : denE F (.tup l) σ h = (denL F l σ h).bind fun ws h1 => if lineB ws.length then .ok (.tup ws) h1 else .stuck := id rfl
@[simp] theorem dE_lst (l : Exs) : denE F (.lst l) σ h = (denL F l σ h).bind fun ws h1 => if lineB ws.length then .ok (.ref h1.length) (h1 ++ [.lst .free ws]) else .stuck := id rfl
@[simp] theorem dE_dnK : denE F (.dnew false) σ h = .ok (.ref h.length) (h ++ [.dK .free []]) := id rfl
@[simp] theorem dE_dnT : denE F (.dnew true) σ h = .ok (.ref h.length) (h ++ [.dT .free []]) := id rfl
@[simp] theorem dE_bin (o : BOp) (a b : Ex) : denE F (.bin o a b) σ h = (denE F a σ h).bind fun x h1 => (denE F b σ h1).bind fun y h2 => binop o x y h2 := id rfl
@[simp] theorem dE_neg (a : Ex) : denE F (.neg a) σ h = (denE F a σ h).bind fun x h1 => (match x with | .int i => fi (-i) fun k => .ok (.int k) h1 | _ => .stuck) := id rfl
@[simp] theorem dE_not (a : Ex) : denE F (.not a) σ h = (denE F a σ h).bind fun x h1 => (match truth h1 x with | some b => .ok (.bl (!b)) h1 | none => .stuck) := id rfl
@[simp] theorem dE_cmp (o : COp) (a b : Ex) : denE F (.cmp o a b) σ h = (denE F a σ h).bind fun x h1 => (denE F b σ h1).bind fun y h2 => (match cmpop o x y h2 with | some c => .ok (.bl c) h2 | none => .stuck) := id rfl
@[simp] theorem dE_chain (o o' : COp) (a b c : Ex) : denE F (.chain o o' a b c) σ h = (denE F a σ h).bind fun x h1 => (denE F b σ h1).bind fun y h2 => (match cmpop o x y h2 with
    | some true => (denE F c σ h2).bind fun z h3 => (match cmpop o' y z h3 with | some c => .ok (.bl c) h3 | none => .stuck)
    | some false => .ok (.bl false) h2
    | none => .stuck) := id rfl
@[simp] theorem dE_isn (neg : Bool) (a : Ex) : denE F (.isn neg a) σ h = (denE F a σ h).bind fun x h1 => (match x with | .non => .ok (.bl (!neg)) h1 | _ => .ok (.bl neg) h1) := id rfl
@[simp] theorem dE_and (a b : Ex) : denE F (.and a b) σ h = (denE F a σ h).bind fun x h1 => (match truth h1 x with | some true => denE F b σ h1 | some false => .ok x h1 | none => .stuck) := id rfl
@[simp] theorem dE_or (a b : Ex) : denE F (.or a b) σ h = (denE F a σ h).bind fun x h1 => (match truth h1 x with | some true => .ok x h1 | some false => denE F b σ h1 | none => .stuck) := id rfl
@[simp] theorem dE_ite (c : Tx) (a b : Ex) : denE F (.ite c a b) σ h = (denT F c σ h).bind fun k h1 => (match k with | true => denE F a σ h1 | false => denE F b σ h1) := id rfl
@[simp] theorem dE_ix (a b : Ex) : denE F (.ix a b) σ h = (denE F a σ h).bind fun x h1 => (denE F b σ h1).bind fun y h2 => ofO (index x y h2) h2 := id rfl
@[simp] theorem dE_slo (a b : Ex) : denE F (.slo a b) σ h = (denE F a σ h).bind fun x h1 => (denE F b σ h1).bind fun y h2 => (match y with | .int i => sliceop x (some i) none h2 | _ => .stuck) := id rfl
@[simp] theorem dE_shi (a b : Ex) : denE F (.shi a b) σ h = (denE F a σ h).bind fun x h1 => (denE F b σ h1).bind fun y h2 => (match y with | .int i => sliceop x none (some i) h2 | _ => .stuck) := id rfl
@[simp] theorem dE_slh (a lo hi : Ex) : denE F (.slh a lo hi) σ h = (denE F a σ h).bind fun x h1 => (denE F lo σ h1).bind fun y h2 => (match y with
    | .int i => (denE F hi σ h2).bind fun z h3 => (match z with | .int j => sliceop x (some i) (some j) h3 | _ => .stuck)
    | _ => .stuck) := id rfl
@[simp] theorem dE_sall (a : Ex) : denE F (.sall a) σ h = (denE F a σ h).bind fun x h1 => sliceop x none none h1 := id rfl
@[simp] theorem dE_isi (a : Ex) (t : Ty) : denE F (.isi a t) σ h = (denE F a σ h).bind fun x h1 => (match isiW h1 x t with | some b => .ok (.bl b) h1 | none => .stuck) := id rfl
@[simp] theorem dE_call (f : Nat) (l : Exs) : denE F (.call f l) σ h = (denL F l σ h).bind fun ws h1 => F f ws h1 := id rfl
@[simp] theorem dE_callk (f : Nat) (l kw : Exs) (ks : List Str) (perm : List Nat) : denE F (.callk f l ks kw perm) σ h = (denL F l σ h).bind fun ws h1 => (denL F kw σ h1).bind fun zs h2 => (match permute (ws ++ zs) perm with | some vs => F f vs h2 | none => .stuck) := id rfl
@[simp] theorem dE_bi (b : Bi) (l : Exs) : denE F (.bi b l) σ h = (denL F l σ h).bind fun ws h1 => biop b ws h1 := id rfl
@[simp] theorem dE_mtl (m : Mt) (o : Ex) (l : Exs) : denE F (.mtl m o l) σ h = (denE F o σ h).bind fun x h1 => (match x with
    | .ref i => (match h1[i]? with | some (.lst _ _) => (denL F l σ h1).bind fun ws h2 => mtop m x ws h2 | _ => .stuck)
    | _ => .stuck) := id rfl
@[simp] theorem dE_mtl0 (m : Mt) (o : Ex) : denE F (.mtl0 m o) σ h = (denE F o σ h).bind fun x h1 => (match x with
    | .ref i => (match h1[i]? with | some (.lst _ _) => mtop m x [] h1 | _ => .stuck)
    | _ => .stuck) := id rfl
@[simp] theorem dE_get1 (o a : Ex) : denE F (.get1 o a) σ h = (denE F o σ h).bind fun x h1 => if isDict h1 x then (denE F a σ h1).bind fun y h2 => mtop .get1 x [y] h2 else .stuck := id rfl
@[simp] theorem dE_get2 (o a c : Ex) : denE F (.get2 o a c) σ h = (denE F o σ h).bind fun x h1 => if isDict h1 x then (denE F a σ h1).bind fun y h2 => (denE F c σ h2).bind fun z h3 => mtop .get2 x [y, z] h3 else .stuck := id rfl
theorem dE_lc (el : Ex) (tg : Tg) (own : List Nat) (it : Wk) : denE F (.lc el tg own it) σ h = (denI F it σ h).bind fun p h1 =>
    if Nat.blt p.1.length 16777216 then (match lcLoop (tgSet tg) (fun _ h => .ok true h) (denE F el) p.1 (wipe σ own) h1 with
    | .ok xs h2 => .ok (.ref (relock h2 p.2).length) (relock h2 p.2 ++ [.lst .free xs])
    | _ => .stuck) else .stuck := id rfl
theorem dE_lcif (el : Ex) (tg : Tg) (own : List Nat) (it : Wk) (c : Tx) : denE F (.lcif el tg own it c) σ h = (denI F it σ h).bind fun p h1 =>
    if Nat.blt p.1.length 16777216 then (match lcLoop (tgSet tg) (denT F c) (denE F el) p.1 (wipe σ own) h1 with
    | .ok xs h2 => .ok (.ref (relock h2 p.2).length) (relock h2 p.2 ++ [.lst .free xs])
    | _ => .stuck) else .stuck := id rfl
@[simp] theorem dT_val (e : Ex) : denT F (.val e) σ h = (denE F e σ h).bind fun x h1 => ofO (truth h1 x) h1 := id rfl
@[simp] theorem dT_not (a : Tx) : denT F (.not a) σ h = (denT F a σ h).bind fun b h1 => .ok (!b) h1 := id rfl
@[simp] theorem dT_and (a b : Tx) : denT F (.and a b) σ h = (denT F a σ h).bind fun k h1 => (match k with | true => denT F b σ h1 | false => .ok false h1) := id rfl
@[simp] theorem dT_or (a b : Tx) : denT F (.or a b) σ h = (denT F a σ h).bind fun k h1 => (match k with | true => .ok true h1 | false => denT F b σ h1) := id rfl
@[simp] theorem dL_nil : denL F .nil σ h = .ok [] h := id rfl
@[simp] theorem dL_cons (a : Ex) (r : Exs) : denL F (.cons a r) σ h = (denE F a σ h).bind fun x h1 => (denL F r σ h1).bind fun xs h2 => .ok (x :: xs) h2 := id rfl
@[simp] theorem dI_rng1 (a : Ex) : denI F (.rng1 a) σ h = (denE F a σ h).bind fun x h1 => (match x with | .int j => if rngOk 0 j then .ok (rngL 0 j.toNat, []) h1 else .stuck | _ => .stuck) := id rfl
@[simp] theorem dI_rng2 (a b : Ex) : denI F (.rng2 a b) σ h = (denE F a σ h).bind fun x h1 => (denE F b σ h1).bind fun y h2 => (match x, y with | .int i, .int j => if rngOk i j then .ok (rngL i (j - i).toNat, []) h2 else .stuck | _, _ => .stuck) := id rfl
@[simp] theorem dI_val (a : Ex) : denI F (.val a) σ h = (denE F a σ h).bind fun x h1 => lockL h1 x := id rfl
@[simp] theorem dS_asg (t : Tg) (e : Ex) : denS F (.asg t e) σ h = (match denE F e σ h with
    | .ok w h1 => (match tgSet t w h1 σ with | some σ1 => .nx σ1 h1 | none => .stuck)
    | .ex k w h1 => .ex k w σ h1
    | .stuck => .stuck) := id rfl
@[simp] theorem dS_sub (o i e : Ex) : denS F (.sub o i e) σ h = (match (denE F e σ h).bind fun v h1 => (denE F o σ h1).bind fun x h2 => (denE F i σ h2).bind fun y h3 => ofO (setix x y v h3) h3 with
    | .ok h4 _ => .nx σ h4
    | .ex k w h1 => .ex k w σ h1
    | .stuck => .stuck) := id rfl
@[simp] theorem dS_aug (i : Nat) (o : BOp) (e : Ex) : denS F (.aug i o e) σ h = (match σ[i]? with
    | some (some x) => (match (denE F e σ h).bind fun y h1 => (match x, y with
      | .int _, .int _ => binop o x y h1
      | _, _ => .stuck) with
      | .ok z h2 => .nx (σ.set i (some z)) h2
      | .ex k w h1 => .ex k w σ h1
      | .stuck => .stuck)
    | _ => .stuck) := id rfl
@[simp] theorem dS_ret (e : Ex) : denS F (.ret e) σ h = (match denE F e σ h with
    | .ok w h1 => .rt w h1
    | .ex k w h1 => .ex k w σ h1
    | .stuck => .stuck) := id rfl
@[simp] theorem dS_retN : denS F .retN σ h = .rt .non h := id rfl
@[simp] theorem dS_ife (c : Tx) (a b : Ss) : denS F (.ife c a b) σ h = (match denT F c σ h with
    | .ok true h1 => denSs F a σ h1
    | .ok false h1 => denSs F b σ h1
    | .ex k w h1 => .ex k w σ h1
    | .stuck => .stuck) := id rfl
theorem dS_loop (t : Tg) (it : Wk) (b : Ss) : denS F (.loop t it b) σ h = (match denI F it σ h with
    | .ok p h1 => (forLoop (tgSet t) (denSs F b) p.1 σ h1).relock p.2
    | .ex k w h1 => .ex k w σ h1
    | .stuck => .stuck) := id rfl
theorem dS_whil (c : Tx) (b : Ss) : denS F (.whil c b) σ h = whileLoop (denT F c) (denSs F b) WF σ h := id rfl
@[simp] theorem dS_brk : denS F .brk σ h = .bk σ h := id rfl
@[simp] theorem dS_cnt : denS F .cnt σ h = .ct σ h := id rfl
@[simp] theorem dS_exp (e : Ex) : denS F (.exp e) σ h = (match denE F e σ h with
    | .ok _ h1 => .nx σ h1
    | .ex k w h1 => .ex k w σ h1
    | .stuck => .stuck) := id rfl
@[simp] theorem dS_pas : denS F .pas σ h = .nx σ h := id rfl
@[simp] theorem dS_nev : denS F .nev σ h = .stuck := id rfl
@[simp] theorem dSs_nil : denSs F .nil σ h = .nx σ h := id rfl
@[simp] theorem dSs_cons (s : Sm) (r : Ss) : denSs F (.cons s r) σ h = (match denS F s σ h with
    | .nx σ1 h1 => denSs F r σ1 h1
    | q => q) := id rfl
end
@[simp] theorem ofO_some {α : Type} (a : α) (h : Hh) : ofO (some a) h = .ok a h := id rfl
@[simp] theorem ofO_none {α : Type} (h : Hh) : ofO (none : Option α) h = .stuck := id rfl
@[simp] theorem fi_r {α : Type} (i : Int) (k : Int → α) : fi i k = k i := fi_eq i k
@[simp] theorem tg_nm (i : Nat) (w : W) (h : Hh) (σ : Sl) : tgSet (.nm i) w h σ = some (σ.set i (some w)) := id rfl
@[simp] theorem tg_tup (is : List Nat) (l : List W) (h : Hh) (σ : Sl) : tgSet (.tup is) (.tup l) h σ = setAll is l σ := id rfl
@[simp] theorem setAll_nil (σ : Sl) : setAll [] [] σ = some σ := id rfl
@[simp] theorem setAll_cons (i : Nat) (is : List Nat) (w : W) (ws : List W) (σ : Sl) : setAll (i :: is) (w :: ws) σ = setAll is ws (σ.set i (some w)) := id rfl
@[simp] theorem wipe_nil (σ : Sl) : wipe σ [] = σ := id rfl
@[simp] theorem wipe_cons (σ : Sl) (v : Nat) (vs : List Nat) : wipe σ (v :: vs) = (wipe σ vs).set v none := id rfl
@[simp] theorem fl_nil (set : W → Hh → Sl → Option Sl) (body : Sl → Hh → SR) (σ : Sl) (h : Hh) : forLoop set body [] σ h = .nx σ h := id rfl
theorem fl_cons (set : W → Hh → Sl → Option Sl) (body : Sl → Hh → SR) (w : W) (ws : List W) (σ : Sl) (h : Hh) : forLoop set body (w :: ws) σ h = (match set w h σ with
    | none => .stuck
    | some σ1 => match body σ1 h with
      | .nx σ2 h2 => forLoop set body ws σ2 h2
      | .ct σ2 h2 => forLoop set body ws σ2 h2
      | .bk σ2 h2 => .nx σ2 h2
      | r => r) := id rfl
@[simp] theorem lc_nil (set : W → Hh → Sl → Option Sl) (test : Sl → Hh → Res Bool) (elt : Sl → Hh → Res W) (σ : Sl) (h : Hh) : lcLoop set test elt [] σ h = .ok [] h := id rfl
theorem lc_cons (set : W → Hh → Sl → Option Sl) (test : Sl → Hh → Res Bool) (elt : Sl → Hh → Res W) (w : W) (ws : List W) (σ : Sl) (h : Hh) : lcLoop set test elt (w :: ws) σ h = (match set w h σ with
    | none => .stuck
    | some σ1 => (match test σ1 h with
      | .ok true h1 => (match elt σ1 h1 with
        | .ok x h2 => (match lcLoop set test elt ws σ h2 with
          | .ok xs h3 => .ok (x :: xs) h3
          | _ => .stuck)
        | _ => .stuck)
      | .ok false h1 => lcLoop set test elt ws σ h1
      | _ => .stuck)) := id rfl
@[simp] theorem rl_nx (us : Un) (σ : Sl) (h : Hh) : SR.relock us (.nx σ h) = .nx σ (relock h us) := id rfl
@[simp] theorem rl_rt (us : Un) (w : W) (h : Hh) : SR.relock us (.rt w h) = .rt w (relock h us) := id rfl
@[simp] theorem relock_nil (h : Hh) : relock h [] = h := id rfl
/-! calls -/
theorem callP {pg : Pg} {n f : Nat} {fn : Fn} {ws : List W} {h : Hh} (e : pg f = some fn) (hp : pures ws = true) : callN pg (n + 1) f ws h = finish h (runFn (callN pg n) fn ws []) := by
  simp only [callN, e, hp, if_true]
theorem callH {pg : Pg} {n f : Nat} {fn : Fn} {ws : List W} {h : Hh} (e : pg f = some fn) (hp : pures ws = false) : callN pg (n + 1) f ws h = runFn (callN pg n) fn ws h := by
  simp only [callN, e, hp, Bool.false_eq_true, if_false]
/-- lists of ints -/
def Li (l : List Int) : List W := l.map .int
theorem mem_Li {w : W} {l : List Int} (h : w ∈ Li l) : ∃ i ∈ l, w = .int i := by
  obtain ⟨i, m, e⟩ := List.mem_map.mp (show w ∈ l.map W.int from h)
  exact ⟨i, m, e.symm⟩
theorem Li_nil : Li [] = [] := rfl
theorem Li_cons (i : Int) (l : List Int) : Li (i :: l) = .int i :: Li l := rfl
theorem Li_append (l m : List Int) : Li (l ++ m) = Li l ++ Li m := List.map_append
@[simp] theorem pures_Li : ∀ l : List Int, pures (Li l) = true
  | [] => rfl
  | i :: l => by simp only [Li, List.map_cons, pures, W.pure, Bool.true_and]; exact pures_Li l
theorem runFn_rt {F : Nat → List W → Hh → Res W} {fn : Fn} {ws : List W} {h : Hh} {w : W} {h1 : Hh} (hl : ws.length = fn.np) (e : denSs F fn.body (ws.map some ++ List.replicate (fn.ns - fn.np) none) h = .rt w h1) : runFn F fn ws h = .ok w h1 := by
  unfold runFn; rw [if_pos hl, e]
theorem runFn_nx {F : Nat → List W → Hh → Res W} {fn : Fn} {ws : List W} {h : Hh} {σ : Sl} {h1 : Hh} (hl : ws.length = fn.np) (e : denSs F fn.body (ws.map some ++ List.replicate (fn.ns - fn.np) none) h = .nx σ h1) : runFn F fn ws h = .ok .non h1 := by
  unfold runFn; rw [if_pos hl, e]
theorem finish_pure {h h1 : Hh} {w : W} (hp : w.pure = true) : finish h (.ok w h1) = .ok w h := by
  simp only [finish, hp, if_true]
/-- a call on plain values that returns a plain value leaves nothing -/
theorem call_pure {pg : Pg} {n f : Nat} {fn : Fn} {ws : List W} {h h1 : Hh} {w : W} (e : pg f = some fn) (hp : pures ws = true) (hl : ws.length = fn.np) (e2 : denSs (callN pg n) fn.body (ws.map some ++ List.replicate (fn.ns - fn.np) none) [] = .rt w h1) (hw : w.pure = true) :
    callN pg (n + 1) f ws h = .ok w h := by
  rw [callP e hp, runFn_rt hl e2, finish_pure hw]
theorem call_pureN {pg : Pg} {n f : Nat} {fn : Fn} {ws : List W} {h h1 : Hh} {σ : Sl} (e : pg f = some fn) (hp : pures ws = true) (hl : ws.length = fn.np) (e2 : denSs (callN pg n) fn.body (ws.map some ++ List.replicate (fn.ns - fn.np) none) [] = .nx σ h1) :
    callN pg (n + 1) f ws h = .ok .non h := by
  rw [callP e hp, runFn_nx hl e2, finish_pure rfl]
theorem call_list {pg : Pg} {n f : Nat} {fn : Fn} {ws xs : List W} {h h1 : Hh} {a : Nat} (e : pg f = some fn) (hp : pures ws = true) (hl : ws.length = fn.np) (e2 : denSs (callN pg n) fn.body (ws.map some ++ List.replicate (fn.ns - fn.np) none) [] = .rt (.ref a) h1)
    (ha : h1[a]? = some (.lst .free xs)) (hx : pures xs = true) : callN pg (n + 1) f ws h = .ok (.ref h.length) (h ++ [.lst .free xs]) := by
  rw [callP e hp, runFn_rt hl e2]
  simp only [finish, W.pure, Bool.false_eq_true, if_false, ha, hx, if_true]
theorem call_heap {pg : Pg} {n f : Nat} {fn : Fn} {ws : List W} {h h1 : Hh} {w : W} (e : pg f = some fn) (hp : pures ws = false) (hl : ws.length = fn.np) (e2 : denSs (callN pg n) fn.body (ws.map some ++ List.replicate (fn.ns - fn.np) none) h = .rt w h1) :
    callN pg (n + 1) f ws h = .ok w h1 := by
  rw [callH e hp, runFn_rt hl e2]
/-- all comprehension items told -/
theorem lc_map {set : W → Hh → Sl → Option Sl} {elt : Sl → Hh → Res W} {σ : Sl} {h : Hh} {g : W → W} : ∀ {ws : List W}, (∀ w ∈ ws, ∃ σ1, set w h σ = some σ1 ∧ elt σ1 h = .ok (g w) h) → lcLoop set (fun _ h => .ok true h) elt ws σ h = .ok (ws.map g) h
  | [], _ => rfl
  | w :: ws, q => by
    obtain ⟨σ1, e1, e2⟩ := q w List.mem_cons_self
    rw [lc_cons, e1]
    simp only [e2]
    rw [lc_map fun w hw => q w (List.mem_cons_of_mem _ hw)]
    rfl
theorem lc_filter {set : W → Hh → Sl → Option Sl} {test : Sl → Hh → Res Bool} {elt : Sl → Hh → Res W} {σ : Sl} {h : Hh} {g : W → W} {p : W → Bool} : ∀ {ws : List W}, (∀ w ∈ ws, ∃ σ1, set w h σ = some σ1 ∧ test σ1 h = .ok (p w) h ∧ (p w = true → elt σ1 h = .ok (g w) h)) → lcLoop set test elt ws σ h = .ok ((ws.filter p).map g) h
  | [], _ => rfl
  | w :: ws, q => by
    obtain ⟨σ1, e1, e2, e3⟩ := q w List.mem_cons_self
    have ih := lc_filter fun w hw => q w (List.mem_cons_of_mem _ hw)
    rw [lc_cons, e1]
    cases hp : p w with
    | true =>
      simp only [e2, hp, e3 hp]
      rw [ih]
      simp only [List.filter_cons, hp, if_true, List.map_cons]
    | false =>
      simp only [e2, hp]
      rw [ih]
      simp only [List.filter_cons, hp, Bool.false_eq_true, if_false]
end R

/-! R20: loops by invariants; the bag of a script and what is taken out of it. -/
namespace R
open PySem (Str PyData)
open L2 (Key)
theorem fl_inv {I : List W → Sl → Hh → Prop} {set : W → Hh → Sl → Option Sl} {body : Sl → Hh → SR} : ∀ (ws d : List W) (σ : Sl) (h : Hh), I d σ h →
    (∀ d w σ h, w ∈ ws → I d σ h → ∃ σ1 σ2 h2, set w h σ = some σ1 ∧ body σ1 h = .nx σ2 h2 ∧ I (d ++ [w]) σ2 h2) → ∃ σ' h', forLoop set body ws σ h = .nx σ' h' ∧ I (d ++ ws) σ' h'
  | [], d, σ, h, i, _ => ⟨σ, h, rfl, by simpa using i⟩
  | w :: ws, d, σ, h, i, st => by
    obtain ⟨σ1, σ2, h2, e1, e2, i2⟩ := st d w σ h List.mem_cons_self i
    obtain ⟨σ', h', e3, i3⟩ := fl_inv ws (d ++ [w]) σ2 h2 i2 fun d w σ h m => st d w σ h (List.mem_cons_of_mem _ m)
    exact ⟨σ', h', by rw [fl_cons, e1]; simp only [e2]; exact e3, by simpa using i3⟩
theorem log2_lt {n : Nat} (h : n < 2 ^ 400000) : Nat.log2 n ≤ 400000 := by
  by_cases h0 : n = 0
  · subst h0; decide
  · exact Nat.le_of_lt ((Nat.log2_lt h0).mpr h)
theorem mulOk_of {i j : Int} (hi : i.natAbs < 2 ^ 400000) (hj : j.natAbs < 2 ^ 400000) : mulOk i j = true := by
  unfold mulOk
  refine Nat.ble_eq_true_of_le ?_
  have a := log2_lt hi
  have b := log2_lt hj
  omega
set_option exponentiation.threshold 500000 in
theorem p64 : (2 : Nat) ^ 64 < 2 ^ 400000 := Nat.pow_lt_pow_right (by decide) (by decide)
theorem mulOk64 {i j : Int} (hi : i.natAbs < 2 ^ 64) (hj : j.natAbs < 2 ^ 64) : mulOk i j = true := mulOk_of (Nat.lt_trans hi p64) (Nat.lt_trans hj p64)
theorem fdivOk_of {j : Int} (h0 : 0 < j) (h1 : j.natAbs < 2 ^ 64) : fdivOk j = true := by
  unfold fdivOk
  simp only [h0, decide_true, Bool.true_and]
  refine Nat.ble_eq_true_of_le ?_
  by_cases h : j.natAbs = 0
  · rw [h]; decide
  · have := (Nat.log2_lt h).mpr h1; omega
@[simp] theorem len_Li (l : List Int) : (Li l).length = l.length := List.length_map _
theorem mapO_Li {α : Type} {f : W → Option α} {g : Int → α} (h : ∀ i, f (.int i) = some (g i)) : ∀ l : List Int, mapO f (Li l) = some (l.map g)
  | [] => rfl
  | i :: l => by
    have ih := mapO_Li h l
    simp only [Li, List.map_cons, mapO, h] at ih ⊢
    rw [ih]
@[simp] theorem mapO_int (l : List Int) : mapO intOf (Li l) = some l := by
  have := mapO_Li (f := intOf) (g := fun i => i) (fun _ => rfl) l
  simpa using this
theorem toD_Li (h : Hh) (n : Nat) (l : List Int) : mapO (toD (n + 1) h) (Li l) = some (l.map PyData.int) := mapO_Li (g := PyData.int) (fun _ => rfl) l
theorem eqvAll_ints : ∀ l m : List Int, PyData.eqvAll (l.map PyData.int) (m.map PyData.int) = decide (l = m)
  | [], [] => rfl
  | [], _ :: _ => rfl
  | _ :: _, [] => rfl
  | a :: l, b :: m => by
    simp only [List.map_cons, PyData.eqvAll, eqvAll_ints l m]
    by_cases h : a = b
    · subst h
      simp [PyData.eqv]
    · simp [PyData.eqv, h]
theorem toD_tup (h : Hh) (n : Nat) (l : List Int) : toD (n + 2) h (.tup (Li l)) = some (.tuple (l.map PyData.int)) := by
  show (match mapO (toD (n + 1) h) (Li l) with | some ds => some (PyData.tuple ds) | none => none) = _
  rw [toD_Li]
theorem toD_ref {h : Hh} {a : Nat} {k : Lk} {l : List Int} (e : h[a]? = some (.lst k (Li l))) (n : Nat) : toD (n + 2) h (.ref a) = some (.list (l.map PyData.int)) := by
  show (match h[a]? with | some (.lst _ xs) => (match mapO (toD (n + 1) h) xs with | some ds => some (PyData.list ds) | none => none) | _ => none) = _
  rw [e]
  show (match mapO (toD (n + 1) h) (Li l) with | some ds => some (PyData.list ds) | none => none) = _
  rw [toD_Li]
@[simp] theorem eqW_int (h : Hh) (i j : Int) : eqW h (.int i) (.int j) = some (decide (i = j)) := by
  show some (PyData.eqv (.int i) (.int j)) = _
  simp [PyData.eqv]
  by_cases e : i = j <;> simp [e]
@[simp] theorem eqW_tup (h : Hh) (l m : List Int) : eqW h (.tup (Li l)) (.tup (Li m)) = some (decide (l = m)) := by
  unfold eqW
  rw [toD_tup, toD_tup]
  show some (PyData.eqv (.tuple _) (.tuple _)) = _
  simp only [PyData.eqv, eqvAll_ints]
theorem eqW_ref {h : Hh} {a b : Nat} {k k' : Lk} {l m : List Int} (e : h[a]? = some (.lst k (Li l))) (e' : h[b]? = some (.lst k' (Li m))) : eqW h (.ref a) (.ref b) = some (decide (l = m)) := by
  unfold eqW
  rw [toD_ref e, toD_ref e']
  show some (PyData.eqv (.list _) (.list _)) = _
  simp only [PyData.eqv, eqvAll_ints]
theorem atW_nat {xs : List W} {j : Nat} {w : W} (e : xs[j]? = some w) : atW xs (j : Int) = some w := by
  have hj : j < xs.length := (List.getElem?_eq_some_iff.mp e).1
  unfold atW ixW
  have c1 : (0 : Int) ≤ (j : Int) := Int.natCast_nonneg j
  have c2 : (j : Int) < (xs.length : Int) := Int.ofNat_lt.mpr hj
  simp only [if_pos c1, if_pos c2, Int.toNat_natCast, e]
theorem ixW_nat {n j : Nat} (hj : j < n) : ixW n (j : Int) = some j := by
  unfold ixW
  have c1 : (0 : Int) ≤ (j : Int) := Int.natCast_nonneg j
  have c2 : (j : Int) < (n : Int) := Int.ofNat_lt.mpr hj
  simp only [if_pos c1, if_pos c2, Int.toNat_natCast]
theorem atW_last (xs : List W) (w : W) : atW (xs ++ [w]) (-1) = some w := by
  unfold atW ixW
  have e1 : (xs ++ [w]).length = xs.length + 1 := by simp
  rw [e1]
  have c1 : ¬ (0 : Int) ≤ -1 := by decide
  have c2 : -((xs.length + 1 : Nat) : Int) ≤ -1 := by omega
  simp only [if_neg c1, if_pos c2]
  have e3 : (-1 + ((xs.length + 1 : Nat) : Int)).toNat = xs.length := by omega
  simp only [e3]
  simp
end R

/-! R21: the bag of a script and what is taken out of it. -/
namespace R
open PySem (Str PyData)
open L2 (Key)
def cBag : R.Fn := ⟨1, 4,
  (.cons (.asg (.nm 1) (.lcif (.bi .abs (.cons (.bi .int (.cons (.var 3) .nil)) .nil)) (.nm 3) [3] (.val (.var 0)) (.val (.cmp .ge (.bi .abs (.cons (.bi .int (.cons (.var 3) .nil)) .nil)) (.bin .pow (.cst (.int 10)) (.cst (.int 18)))))))
  (.cons (.asg (.nm 2) (.lst (.cons (.var 1) (.cons (.cst (.int 77)) (.cons (.cst (.int 0)) .nil)))))
  (.cons (.loop (.nm 3) (.val (.var 0))
  (.cons (.sub (.var 2) (.cst (.int 1)) (.bin .mod (.bi .int (.cons (.bin .add (.bin .add (.bin .mul (.ix (.var 2) (.cst (.int 1))) (.cst (.int 48271))) (.bi .abs (.cons (.bi .int (.cons (.var 3) .nil)) .nil))) (.cst (.int 11))) .nil)) (.cst (.int 2147483647))))
  .nil))
  (.cons (.ret (.var 2))
  .nil))))⟩
def cTake : R.Fn := ⟨2, 4,
  (.cons (.asg (.nm 2) (.ix (.var 0) (.cst (.int 0))))
  (.cons (.ife (.val (.cmp .ne (.var 2) (.lst .nil)))
  (.cons (.asg (.nm 3) (.bin .mod (.bi .int (.cons (.ix (.var 2) (.cst (.int 0))) .nil)) (.var 1)))
  (.cons (.sub (.var 2) (.cst (.int 0)) (.bin .fdiv (.ix (.var 2) (.cst (.int 0))) (.var 1)))
  (.cons (.ife (.val (.cmp .eq (.ix (.var 2) (.cst (.int 0))) (.cst (.int 0))))
  (.cons (.exp (.mtl .popAt (.var 2) (.cons (.cst (.int 0)) .nil)))
  .nil)
  .nil)
  (.cons (.ret (.var 3))
  .nil))))
  .nil)
  (.cons (.sub (.var 0) (.cst (.int 2)) (.bin .add (.ix (.var 0) (.cst (.int 2))) (.cst (.int 1))))
  (.cons (.sub (.var 0) (.cst (.int 1)) (.bin .mod (.bi .int (.cons (.bin .add (.bin .add (.bin .mul (.ix (.var 0) (.cst (.int 1))) (.cst (.int 48271))) (.bin .mul (.bin .mul (.ix (.var 0) (.cst (.int 2))) (.ix (.var 0) (.cst (.int 2)))) (.cst (.int 7919)))) (.cst (.int 13))) .nil)) (.cst (.int 2147483647))))
  (.cons (.ret (.bin .mod (.bin .fdiv (.bin .mod (.bi .int (.cons (.bin .add (.bin .mul (.ix (.var 0) (.cst (.int 1))) (.cst (.int 69621))) (.bin .mul (.ix (.var 0) (.cst (.int 2))) (.cst (.int 1009)))) .nil)) (.cst (.int 2147483629))) (.cst (.int 1013))) (.var 1)))
  .nil)))))⟩

/-- a bag at a, its great numbers at g, c taken out behind the great ones -/
structure Bag (h : Hh) (a g c : Nat) : Prop where
  ne : a ≠ g
  big : ∃ zs : List Int, h[g]? = some (.lst .free (Li zs))
  at_ : ∃ x y : Int, h[a]? = some (.lst .free [.ref g, .int x, .int y]) ∧ 0 ≤ x ∧ x < 2147483647 ∧ 0 ≤ y ∧ y ≤ c
theorem shifts_Li (n : Nat) : ∀ l : List Int, shifts n (Li l) = Li l
  | [] => rfl
  | i :: l => by
    have ih := shifts_Li n l
    simp only [Li, List.map_cons, shifts, W.shift] at ih ⊢
    rw [ih]
def iabs (i : Int) : Int := if i < 0 then -i else i
theorem iabs_nn (i : Int) : 0 ≤ iabs i := by unfold iabs; split <;> omega
@[simp] theorem bi_int1 (i : Int) (h : Hh) : biop .int [.int i] h = .ok (.int i) h := id rfl
@[simp] theorem bi_abs1 (i : Int) (h : Hh) : biop .abs [.int i] h = .ok (.int (iabs i)) h := by simp [biop, iabs]
@[simp] theorem bo_add (i j : Int) (h : Hh) : binop .add (.int i) (.int j) h = .ok (.int (i + j)) h := by simp [binop]
@[simp] theorem bo_sub (i j : Int) (h : Hh) : binop .sub (.int i) (.int j) h = .ok (.int (i - j)) h := by simp [binop]
theorem bo_mul {i j : Int} (h : Hh) (hi : i.natAbs < 2 ^ 64) (hj : j.natAbs < 2 ^ 64) : binop .mul (.int i) (.int j) h = .ok (.int (i * j)) h := by simp [binop, mulOk64 hi hj]
theorem bo_mod {i j : Int} (h : Hh) (hj : 0 < j) : binop .mod (.int i) (.int j) h = .ok (.int (i % j)) h := by simp [binop, hj]
theorem bo_fdiv {i j : Int} (h : Hh) (hj : 0 < j) (hj2 : j.natAbs < 2 ^ 64) : binop .fdiv (.int i) (.int j) h = .ok (.int (i / j)) h := by simp [binop, fdivOk_of hj hj2]
@[simp] theorem cm_lt (i j : Int) (h : Hh) : cmpop .lt (.int i) (.int j) h = some (decide (i < j)) := id rfl
@[simp] theorem cm_le (i j : Int) (h : Hh) : cmpop .le (.int i) (.int j) h = some (decide (i ≤ j)) := id rfl
@[simp] theorem cm_gt (i j : Int) (h : Hh) : cmpop .gt (.int i) (.int j) h = some (decide (j < i)) := id rfl
@[simp] theorem cm_ge (i j : Int) (h : Hh) : cmpop .ge (.int i) (.int j) h = some (decide (j ≤ i)) := id rfl
@[simp] theorem cm_eq (i j : Int) (h : Hh) : cmpop .eq (.int i) (.int j) h = some (decide (i = j)) := eqW_int h i j
@[simp] theorem cm_ne (i j : Int) (h : Hh) : cmpop .ne (.int i) (.int j) h = some (!decide (i = j)) := by simp [cmpop]
@[simp] theorem tr_bl (b : Bool) (h : Hh) : truth h (.bl b) = some b := id rfl
theorem index_ref {h : Hh} {a : Nat} {k : Lk} {xs : List W} (e : h[a]? = some (.lst k xs)) (i : Int) : index (.ref a) (.int i) h = atW xs i := by
  simp only [index, e]
theorem setix_ref {h : Hh} {a : Nat} {xs : List W} (e : h[a]? = some (.lst .free xs)) (i : Int) (v : W) : setix (.ref a) (.int i) v h = (match ixW xs.length i with | some j => some (h.set a (.lst .free (xs.set j v))) | none => none) := by
  simp only [setix, e]
  try (cases ixW xs.length i <;> rfl)
theorem bag_ok {pg : Pg} {n : Nat} (e : pg 11 = some cBag) (ns : List Int) (hl : ns.length ≤ 63) (h : Hh) : ∃ g a h', callN pg (n + 1) 11 [.fl (Li ns)] h = .ok (.ref a) h' ∧ Bag h' a g 0 := by
  have hp : pures [W.fl (Li ns)] = true := by simp [pures, W.pure]
  have s1 : ∀ F : Nat → List W → Hh → Res W, ∃ zs : List Int, denE F (.lcif (.bi .abs (.cons (.bi .int (.cons (.var 3) .nil)) .nil)) (.nm 3) [3] (.val (.var 0)) (.val (.cmp .ge (.bi .abs (.cons (.bi .int (.cons (.var 3) .nil)) .nil)) (.bin .pow (.cst (.int 10)) (.cst (.int 18))))))
      [some (.fl (Li ns)), none, none, none] [] = .ok (.ref 0) [.lst .free (Li zs)] := fun F => by
    let p : W → Bool := fun w => match w with | .int i => decide ((10 : Int) ^ 18 ≤ iabs i) | _ => false
    let g : W → W := fun w => match w with | .int i => .int (iabs i) | w => w
    refine ⟨(ns.filter fun i => decide ((10 : Int) ^ 18 ≤ iabs i)).map iabs, ?_⟩
    have hb : Nat.blt (Li ns).length 16777216 = true := by
      rw [len_Li]
      exact Nat.ble_eq_true_of_le (by omega)
    have q := lc_filter (set := tgSet (.nm 3)) (test := denT F (.val (.cmp .ge (.bi .abs (.cons (.bi .int (.cons (.var 3) .nil)) .nil)) (.bin .pow (.cst (.int 10)) (.cst (.int 18))))))
      (elt := denE F (.bi .abs (.cons (.bi .int (.cons (.var 3) .nil)) .nil))) (σ := [some (.fl (Li ns)), none, none, none]) (h := ([] : Hh)) (g := g) (p := p) (ws := Li ns) (by
        intro w hw
        obtain ⟨i, _, rfl⟩ := mem_Li hw
        refine ⟨_, rfl, ?_, fun _ => ?_⟩
        · simp [binop, powOk, p]
        · simp [g])
    simp only [dE_lcif, dI_val, dE_var, List.getElem?_cons_zero, bindO, lockL, hb, if_true, wipe_cons, wipe_nil, List.set_cons_succ, List.set_cons_zero, q, relock_nil]
    have e2 : ∀ l : List Int, ((Li l).filter p).map g = Li ((l.filter fun i => decide ((10 : Int) ^ 18 ≤ iabs i)).map iabs) := fun l => by
      induction l with
      | nil => rfl
      | cons i l ih =>
        simp only [Li, List.map_cons, List.filter_cons] at ih ⊢
        by_cases hi : (10 : Int) ^ 18 ≤ iabs i
        · have : p (.int i) = true := by simp only [p, hi, decide_true]
          simp only [this, hi, decide_true, if_true, List.map_cons, ih]
          rfl
        · have : p (.int i) = false := by simp only [p, hi, decide_false]
          simp only [this, hi, decide_false, Bool.false_eq_true, if_false, ih]
    rw [e2]
    rfl
  obtain ⟨zs, s1⟩ := s1 (callN pg n)
  let I : List W → Sl → Hh → Prop := fun _ σ h => ∃ o x, σ = [some (.fl (Li ns)), some (.ref 0), some (.ref 1), o] ∧ h = [.lst .free (Li zs), .lst .free [.ref 0, .int x, .int 0]] ∧ 0 ≤ x ∧ x < 2147483647
  have step : ∀ d w σ h, w ∈ Li ns → I d σ h → ∃ σ1 σ2 h2, tgSet (.nm 3) w h σ = some σ1 ∧ denSs (callN pg n) (.cons (.sub (.var 2) (.cst (.int 1)) (.bin .mod (.bi .int (.cons (.bin .add (.bin .add (.bin .mul (.ix (.var 2) (.cst (.int 1))) (.cst (.int 48271))) (.bi .abs (.cons (.bi .int (.cons (.var 3) .nil)) .nil))) (.cst (.int 11))) .nil)) (.cst (.int 2147483647)))) .nil) σ1 h = .nx σ2 h2 ∧ I (d ++ [w]) σ2 h2 := by
    rintro d w σ h hw ⟨o, x, rfl, rfl, h1, h2⟩
    obtain ⟨i, _, rfl⟩ := mem_Li hw
    have ea : atW [W.ref 0, .int x, .int 0] 1 = some (.int x) := rfl
    have em : binop .mul (.int x) (.int 48271) [Ob.lst .free (Li zs), .lst .free [.ref 0, .int x, .int 0]] = .ok (.int (x * 48271)) _ := bo_mul _ (by omega) (by decide)
    have eq : ∀ y h, binop .mod (.int y) (.int 2147483647) h = .ok (.int (y % 2147483647)) h := fun y h => bo_mod h (by decide)
    refine ⟨_, _, _, rfl, ?_, some (.int i), (x * 48271 + iabs i + 11) % 2147483647, rfl, rfl, Int.emod_nonneg _ (by decide), Int.emod_lt_of_pos _ (by decide)⟩
    simp [index, ea, em, eq, setix, ixW]
  obtain ⟨σ', h', ef, o, x, rfl, rfl, h1, h2⟩ := fl_inv (I := I) (Li ns) [] [some (.fl (Li ns)), some (.ref 0), some (.ref 1), none] [.lst .free (Li zs), .lst .free [.ref 0, .int 77, .int 0]] ⟨none, 77, rfl, rfl, by decide, by decide⟩ step
  have s2 : denSs (callN pg n) cBag.body ([W.fl (Li ns)].map some ++ List.replicate (cBag.ns - cBag.np) none) [] = .rt (.ref 1) [.lst .free (Li zs), .lst .free [.ref 0, .int x, .int 0]] := by
    show denSs (callN pg n) cBag.body [some (.fl (Li ns)), none, none, none] [] = _
    simp only [cBag, dSs_cons, dS_asg, s1, tg_nm, List.set_cons_succ, List.set_cons_zero]
    simp [dS_loop, lineB, lockL, ef]
  refine ⟨h.length, h.length + 1, h ++ [.lst .free (Li zs), .lst .free [.ref h.length, .int x, .int 0]], ?_, ⟨by omega, ⟨zs, by simp⟩, x, 0, by simp, h1, h2, by decide, by decide⟩⟩
  rw [callP e hp, runFn_rt rfl s2]
  simp [finish, W.pure, pures, W.shift, Ob.shift, shifts, shifts_Li]
theorem get_set_ne {α : Type} {l : List α} {i j : Nat} {x : α} (h : i ≠ j) : (l.set i x)[j]? = l[j]? := List.getElem?_set_ne h
theorem get_set_eq {α : Type} {l : List α} {i : Nat} {x y : α} (h : l[i]? = some y) : (l.set i x)[i]? = some x := List.getElem?_set_self (List.getElem?_eq_some_iff.mp h).1
theorem get_app {α : Type} {l m : List α} {i : Nat} {x : α} (h : l[i]? = some x) : (l ++ m)[i]? = some x := by
  rw [List.getElem?_append_left (List.getElem?_eq_some_iff.mp h).1]; exact h
theorem get_end {α : Type} (l : List α) (x : α) : (l ++ [x])[l.length]? = some x := by simp
/-- of the objects there but the bag's nothing is changed -/
def Kept (h h' : Hh) (a g : Nat) : Prop := h.length ≤ h'.length ∧ ∀ j < h.length, j ≠ a → j ≠ g → h'[j]? = h[j]?
theorem take_ok {pg : Pg} {n : Nat} (e : pg 12 = some cTake) {h : Hh} {a g c : Nat} (B : Bag h a g c) (hc : c < 2 ^ 20) {many : Int} (m0 : 0 < many) (m1 : many < 2 ^ 40) :
    ∃ i h', callN pg (n + 1) 12 [.ref a, .int many] h = .ok (.int i) h' ∧ 0 ≤ i ∧ i < many ∧ Bag h' a g (c + 1) ∧ Kept h h' a g := by
  obtain ⟨ne, ⟨zs, hg⟩, x, y, ha, hx0, hx1, hy0, hy1⟩ := B
  have la : a < h.length := (List.getElem?_eq_some_iff.mp ha).1
  have lg : g < h.length := (List.getElem?_eq_some_iff.mp hg).1
  have hp : pures [W.ref a, .int many] = false := rfl
  have ha1 : (h ++ [Ob.lst .free []])[a]? = some (.lst .free [.ref g, .int x, .int y]) := get_app ha
  have hg1 : (h ++ [Ob.lst .free []])[g]? = some (.lst .free (Li zs)) := get_app hg
  have he1 : (h ++ [Ob.lst .free []])[h.length]? = some (.lst .free (Li [])) := get_end h _
  have mm : ∀ z h, binop .mod (.int z) (.int many) h = .ok (.int (z % many)) h := fun z h => bo_mod h m0
  have md : ∀ z h, binop .fdiv (.int z) (.int many) h = .ok (.int (z / many)) h := fun z h => bo_fdiv h m0 (by omega)
  have test : cmpop .ne (.ref g) (.ref h.length) (h ++ [Ob.lst .free []]) = some (!decide (zs = [])) := by
    simp only [cmpop, eqW_ref hg1 he1]
  have i0 : index (.ref a) (.int 0) h = some (.ref g) := by rw [index_ref ha]; rfl
  cases zs with
  | nil =>
    have c1 : (y.toNat : Int) = y := by omega
    obtain ⟨H1, hH⟩ : ∃ H1, h ++ [Ob.lst .free []] = H1 := ⟨_, rfl⟩
    have lH : h.length ≤ H1.length := by rw [← hH]; simp
    have kH : ∀ j < h.length, H1[j]? = h[j]? := fun j hj => by rw [← hH]; exact List.getElem?_append_left hj
    rw [hH] at ha1 hg1 test
    obtain ⟨o2, ho2⟩ : ∃ o2 : Ob, .lst .free [.ref g, .int x, .int (y + 1)] = o2 := ⟨_, rfl⟩
    obtain ⟨x', hx'⟩ : ∃ x', (x * 48271 + (y + 1) * (y + 1) * 7919 + 13) % 2147483647 = x' := ⟨_, rfl⟩
    obtain ⟨o3, ho3⟩ : ∃ o3 : Ob, .lst .free [.ref g, .int x', .int (y + 1)] = o3 := ⟨_, rfl⟩
    have hx0' : 0 ≤ x' := by rw [← hx']; exact Int.emod_nonneg _ (by decide)
    have hx1' : x' < 2147483647 := by rw [← hx']; exact Int.emod_lt_of_pos _ (by decide)
    have g2 : (H1.set a o2)[a]? = some o2 := get_set_eq ha1
    have g3 : (H1.set a o3)[a]? = some o3 := get_set_eq ha1
    have g2' : (H1.set a o2)[a]? = some (.lst .free [.ref g, .int x, .int (y + 1)]) := by rw [g2, ← ho2]
    have g3' : (H1.set a o3)[a]? = some (.lst .free [.ref g, .int x', .int (y + 1)]) := by rw [g3, ← ho3]
    have ix1 : index (.ref a) (.int 2) H1 = some (.int y) := by rw [index_ref ha1]; rfl
    have st1 : setix (.ref a) (.int 2) (.int (y + 1)) H1 = some (H1.set a o2) := by rw [setix_ref ha1, ← ho2]; rfl
    have ix2 : index (.ref a) (.int 1) (H1.set a o2) = some (.int x) := by rw [index_ref g2']; rfl
    have ix3 : index (.ref a) (.int 2) (H1.set a o2) = some (.int (y + 1)) := by rw [index_ref g2']; rfl
    have st2 : setix (.ref a) (.int 1) (.int x') (H1.set a o2) = some (H1.set a o3) := by rw [setix_ref g2', ← ho3]; exact congrArg some (List.set_set _)
    have ix4 : index (.ref a) (.int 1) (H1.set a o3) = some (.int x') := by rw [index_ref g3']; rfl
    have ix5 : index (.ref a) (.int 2) (H1.set a o3) = some (.int (y + 1)) := by rw [index_ref g3']; rfl
    have yy : (y + 1) * (y + 1) ≤ 2 ^ 20 * 2 ^ 20 := Int.mul_le_mul (by omega) (by omega) (by omega) (by decide)
    have yy0 : 0 ≤ (y + 1) * (y + 1) := Int.mul_nonneg (by omega) (by omega)
    have k1 : ∀ h, binop .mul (.int x) (.int 48271) h = .ok (.int (x * 48271)) h := fun h => bo_mul h (by omega) (by decide)
    have k2 : ∀ h, binop .mul (.int (y + 1)) (.int (y + 1)) h = .ok (.int ((y + 1) * (y + 1))) h := fun h => bo_mul h (by omega) (by omega)
    have k3 : ∀ h, binop .mul (.int ((y + 1) * (y + 1))) (.int 7919) h = .ok (.int ((y + 1) * (y + 1) * 7919)) h := fun h => bo_mul h (by omega) (by decide)
    have k4 : ∀ h, binop .mul (.int x') (.int 69621) h = .ok (.int (x' * 69621)) h := fun h => bo_mul h (by omega) (by decide)
    have k5 : ∀ h, binop .mul (.int (y + 1)) (.int 1009) h = .ok (.int ((y + 1) * 1009)) h := fun h => bo_mul h (by omega) (by decide)
    have k6 : ∀ z h, binop .mod (.int z) (.int 2147483647) h = .ok (.int (z % 2147483647)) h := fun z h => bo_mod h (by decide)
    have k7 : ∀ z h, binop .mod (.int z) (.int 2147483629) h = .ok (.int (z % 2147483629)) h := fun z h => bo_mod h (by decide)
    have k8 : ∀ z h, binop .fdiv (.int z) (.int 1013) h = .ok (.int (z / 1013)) h := fun z h => bo_fdiv h (by decide) (by decide)
    have s2 : denSs (callN pg n) cTake.body ([W.ref a, .int many].map some ++ List.replicate (cTake.ns - cTake.np) none) h = .rt (.int ((x' * 69621 + (y + 1) * 1009) % 2147483629 / 1013 % many)) (H1.set a o3) := by
      show denSs (callN pg n) cTake.body [some (.ref a), some (.int many), none, none] h = _
      simp [cTake, i0, lineB, hH, test, ix1, st1, ix2, ix3, k1, k2, k3, k6, hx', st2, ix4, ix5, k4, k5, k7, k8, mm]
    refine ⟨_, _, by rw [callH e hp, runFn_rt rfl s2], Int.emod_nonneg _ (by omega), Int.emod_lt_of_pos _ m0, ⟨ne, ⟨[], ?_⟩, x', y + 1, g3', hx0', hx1', by omega, by omega⟩, by simpa using lH, fun j hj n1 n2 => ?_⟩
    · rw [get_set_ne ne]; exact hg1
    · rw [get_set_ne (Ne.symm n1)]
      exact kH j hj
  | cons z r =>
    obtain ⟨H1, hH⟩ : ∃ H1, h ++ [Ob.lst .free []] = H1 := ⟨_, rfl⟩
    have lH : h.length ≤ H1.length := by rw [← hH]; simp
    have kH : ∀ j < h.length, H1[j]? = h[j]? := fun j hj => by rw [← hH]; exact List.getElem?_append_left hj
    rw [hH] at ha1 hg1 test
    have g2 : (H1.set g (.lst .free (Li (z / many :: r))))[g]? = some (.lst .free (Li (z / many :: r))) := get_set_eq hg1
    have ix1 : index (.ref g) (.int 0) H1 = some (.int z) := by rw [index_ref hg1]; exact atW_nat (j := 0) rfl
    have st1 : setix (.ref g) (.int 0) (.int (z / many)) H1 = some (H1.set g (.lst .free (Li (z / many :: r)))) := by
      rw [setix_ref hg1, len_Li]
      rw [show ((0 : Int) = ((0 : Nat) : Int)) from rfl, ixW_nat (by simp)]
      rfl
    have ix2 : index (.ref g) (.int 0) (H1.set g (.lst .free (Li (z / many :: r)))) = some (.int (z / many)) := by rw [index_ref g2]; exact atW_nat (j := 0) rfl
    have mp : mtop .popAt (.ref g) [.int 0] (H1.set g (.lst .free (Li (z / many :: r)))) = .ok (.int (z / many)) (H1.set g (.lst .free (Li r))) := by
      simp only [mtop, g2, len_Li]
      rw [show ((0 : Int) = ((0 : Nat) : Int)) from rfl, ixW_nat (by simp)]
      simp [List.eraseIdx, Li_cons]
    have ka : ∀ j < h.length, j ≠ a → j ≠ g → ∀ o, (H1.set g o)[j]? = h[j]? := fun j hj n1 n2 o => by rw [get_set_ne (Ne.symm n2)]; exact kH j hj
    by_cases hz : z / many = 0
    · have s2 : denSs (callN pg n) cTake.body ([W.ref a, .int many].map some ++ List.replicate (cTake.ns - cTake.np) none) h = .rt (.int (z % many)) (H1.set g (.lst .free (Li r))) := by
        show denSs (callN pg n) cTake.body [some (.ref a), some (.int many), none, none] h = _
        have g2z : (H1.set g (.lst .free (Li (z / many :: r))))[g]? = some (.lst .free (Li (0 :: r))) := by rw [g2, hz]
        simp only [hz] at st1 ix2 mp
        rw [hz] at g2z
        simp [cTake, i0, lineB, hH, test, ix1, mm, md, hz, st1, ix2, g2z, mp]
      exact ⟨_, _, by rw [callH e hp, runFn_rt rfl s2], Int.emod_nonneg _ (by omega), Int.emod_lt_of_pos _ m0, ⟨ne, ⟨r, get_set_eq hg1⟩, x, y, by rw [get_set_ne (Ne.symm ne)]; exact ha1, hx0, hx1, hy0, by omega⟩, by simpa using lH, fun j hj n1 n2 => ka j hj n1 n2 _⟩
    · have s2 : denSs (callN pg n) cTake.body ([W.ref a, .int many].map some ++ List.replicate (cTake.ns - cTake.np) none) h = .rt (.int (z % many)) (H1.set g (.lst .free (Li (z / many :: r)))) := by
        show denSs (callN pg n) cTake.body [some (.ref a), some (.int many), none, none] h = _
        simp [cTake, i0, lineB, hH, test, ix1, mm, md, hz, st1, ix2]
      exact ⟨_, _, by rw [callH e hp, runFn_rt rfl s2], Int.emod_nonneg _ (by omega), Int.emod_lt_of_pos _ m0, ⟨ne, ⟨_, g2⟩, x, y, by rw [get_set_ne (Ne.symm ne)]; exact ha1, hx0, hx1, hy0, by omega⟩, by simpa using lH, fun j hj n1 n2 => ka j hj n1 n2 _⟩
end R

/-! R22: walks: straightened, checked. -/
namespace R
open PySem (Str PyData)
open L2 (Key)
def cStraightened : R.Fn := ⟨1, 3,
  (.cons (.asg (.nm 1) (.lst .nil))
  (.cons (.loop (.nm 2) (.val (.var 0))
  (.cons (.ife (.and (.val (.cmp .gt (.bi .len (.cons (.var 1) .nil)) (.cst (.int 0)))) (.val (.cmp .eq (.ix (.var 1) (.neg (.cst (.int 1)))) (.neg (.var 2)))))
  (.cons (.exp (.mtl0 .pop (.var 1)))
  .nil)
  (.cons (.exp (.mtl .append (.var 1) (.cons (.var 2) .nil)))
  .nil))
  .nil))
  (.cons (.ret (.bi .tuple (.cons (.var 1) .nil)))
  .nil)))⟩
def cIsInt : R.Fn := ⟨1, 1,
  (.cons (.ret (.and (.isi (.var 0) .int) (.not (.isi (.var 0) .bool))))
  .nil)⟩
def cIsStep : R.Fn := ⟨2, 2,
  (.cons (.ret (.and (.call 2 (.cons (.var 0) .nil)) (.chain .le .le (.cst (.int 1)) (.bi .abs (.cons (.var 0) .nil)) (.var 1))))
  .nil)⟩
def cIsWalk : R.Fn := ⟨2, 3,
  (.cons (.ret (.and (.isi (.var 0) .tuple) (.bi .all (.cons (.lc (.call 4 (.cons (.var 2) (.cons (.var 1) .nil))) (.nm 2) [2] (.val (.var 0))) .nil))))
  .nil)⟩
def cNeedWalk : R.Fn := ⟨2, 2,
  (.cons (.ife (.not (.val (.call 5 (.cons (.var 0) (.cons (.var 1) .nil)))))
  (.cons .nev
  .nil)
  .nil)
  .nil)⟩
def cStraight : R.Fn := ⟨1, 1,
  (.cons (.exp (.call 7 (.cons (.var 0) (.cons (.gc (PySem.Str.ofString "MOST_LETTERS") (.int 4)) .nil))))
  (.cons (.ret (.call 1 (.cons (.var 0) .nil)))
  .nil))⟩
def cBehind : R.Fn := ⟨2, 2,
  (.cons (.exp (.call 7 (.cons (.var 0) (.cons (.gc (PySem.Str.ofString "MOST_LETTERS") (.int 4)) .nil))))
  (.cons (.exp (.call 7 (.cons (.var 1) (.cons (.gc (PySem.Str.ofString "MOST_LETTERS") (.int 4)) .nil))))
  (.cons (.ret (.call 1 (.cons (.bin .add (.var 0) (.var 1)) .nil)))
  .nil)))⟩
def cCommute : R.Fn := ⟨2, 2,
  (.cons (.exp (.call 7 (.cons (.var 0) (.cons (.gc (PySem.Str.ofString "MOST_LETTERS") (.int 4)) .nil))))
  (.cons (.exp (.call 7 (.cons (.var 1) (.cons (.gc (PySem.Str.ofString "MOST_LETTERS") (.int 4)) .nil))))
  (.cons (.ret (.cmp .eq (.call 1 (.cons (.bin .add (.var 0) (.var 1)) .nil)) (.call 1 (.cons (.bin .add (.var 1) (.var 0)) .nil))))
  .nil)))⟩

/-- a step behind a straight walk -/
def push (acc : List Int) (x : Int) : List Int := if acc.getLast? = some (-x) then acc.dropLast else acc ++ [x]
def red (l : List Int) : List Int := l.foldl push []
theorem Li_getLast (l : List Int) (d : Int) : (Li (l ++ [d])) = Li l ++ [.int d] := Li_append l [d]
theorem pop_ok {h : Hh} {a : Nat} {l : List Int} {d : Int} (e : h[a]? = some (.lst .free (Li (l ++ [d])))) : mtop .pop (.ref a) [] h = .ok (.int d) (h.set a (.lst .free (Li l))) := by
  simp only [mtop, e, Li_getLast, List.length_append, len_Li, List.length_cons, List.length_nil, Nat.add_sub_cancel]
  have : (Li l ++ [W.int d])[l.length]? = some (.int d) := by
    have := get_end (Li l) (W.int d)
    rwa [len_Li] at this
  simp [this]
theorem append_ok {h : Hh} {a : Nat} {l : List Int} {d : Int} (e : h[a]? = some (.lst .free (Li l))) (hl : l.length < 16777216) : mtop .append (.ref a) [.int d] h = .ok .non (h.set a (.lst .free (Li (l ++ [d])))) := by
  have hb : Nat.blt l.length 16777216 = true := Nat.ble_eq_true_of_le hl
  simp only [mtop, e, len_Li, hb, if_true, Li_getLast]
theorem push_len (acc : List Int) (x : Int) : (push acc x).length ≤ acc.length + 1 := by
  unfold push
  split
  · rw [List.length_dropLast]; omega
  · simp
theorem foldl_push_len (l acc : List Int) : (l.foldl push acc).length ≤ acc.length + l.length := by
  induction l generalizing acc with
  | nil => simp
  | cons x l ih =>
    have a := ih (push acc x)
    have b := push_len acc x
    simp only [List.foldl_cons, List.length_cons]
    omega
theorem red_len (l : List Int) : (red l).length ≤ l.length := by
  have := foldl_push_len l []
  simpa [red] using this
theorem str_loop (F : Nat → List W → Hh → Res W) (w : W) : ∀ (l acc : List Int) (o : Option W), acc.length + l.length < 16777216 → ∃ o', forLoop (tgSet (.nm 2)) (denSs F (.cons (.ife (.and (.val (.cmp .gt (.bi .len (.cons (.var 1) .nil)) (.cst (.int 0)))) (.val (.cmp .eq (.ix (.var 1) (.neg (.cst (.int 1)))) (.neg (.var 2)))))
      (.cons (.exp (.mtl0 .pop (.var 1))) .nil) (.cons (.exp (.mtl .append (.var 1) (.cons (.var 2) .nil))) .nil)) .nil)) (Li l) [some w, some (.ref 0), o] [.lst .free (Li acc)] = .nx [some w, some (.ref 0), o'] [.lst .free (Li (l.foldl push acc))]
  | [], acc, o, _ => ⟨o, rfl⟩
  | x :: l, acc, o, hl => by
    have hl' : acc.length + (l.length + 1) < 16777216 := hl
    obtain ⟨o', ih⟩ := str_loop F w l (push acc x) (some (.int x)) (by have := push_len acc x; omega)
    refine ⟨o', ?_⟩
    rw [Li_cons, fl_cons, tg_nm, List.foldl_cons, ← ih]
    have e0 : ([Ob.lst .free (Li acc)] : Hh)[0]? = some (.lst .free (Li acc)) := rfl
    have ap : ∀ d, mtop .append (.ref 0) [.int d] [Ob.lst .free (Li acc)] = .ok .non [.lst .free (Li (acc ++ [d]))] := fun d => append_ok e0 (by omega)
    rcases List.eq_nil_or_concat acc with rfl | ⟨ys, y, e⟩
    · simp [biop, lenW, ap, push]
    · rw [List.concat_eq_append] at e
      subst e
      have e1 : index (.ref 0) (.int (-1)) [Ob.lst .free (Li (ys ++ [y]))] = some (.int y) := by
        rw [index_ref e0, Li_getLast]; exact atW_last _ _
      have pp : mtop .pop (.ref 0) [] [Ob.lst .free (Li (ys ++ [y]))] = .ok (.int y) [.lst .free (Li ys)] := pop_ok e0
      have hpos : (0 : Int) < (ys.length : Int) + 1 := by omega
      by_cases hy : y = -x
      · have : push (ys ++ [y]) x = ys := by simp [push, hy]
        rw [this]
        simp [biop, lenW, e1, pp, hpos, hy]
        simp [hy] at e1 pp
        simp [e1, pp]
      · have : push (ys ++ [y]) x = (ys ++ [y]) ++ [x] := by simp [push, hy]
        rw [this]
        simp [biop, lenW, e1, hpos, hy]
        simp at ap
        simp [ap]
theorem str_ok {pg : Pg} {n : Nat} (e : pg 1 = some cStraightened) (l : List Int) (hl : l.length < 16777216) (h : Hh) : callN pg (n + 1) 1 [.tup (Li l)] h = .ok (.tup (Li (red l))) h := by
  obtain ⟨o', q⟩ := str_loop (callN pg n) (.tup (Li l)) l [] none (by simpa using hl)
  have s : denSs (callN pg n) cStraightened.body ([W.tup (Li l)].map some ++ List.replicate (cStraightened.ns - cStraightened.np) none) [] = .rt (.tup (Li (red l))) [.lst .free (Li (red l))] := by
    show denSs (callN pg n) cStraightened.body [some (.tup (Li l)), none, none] [] = _
    simp only [Li_nil] at q
    simp [cStraightened, lineB, dS_loop, lockL, q, biop, red]
  exact call_pure e (by simp [pures, W.pure]) rfl s (by simp [W.pure])
/-- a walk of so many letters -/
def Walk (k : Int) (l : List Int) : Prop := ∀ x ∈ l, 1 ≤ iabs x ∧ iabs x ≤ k
instance (k : Int) (l : List Int) : Decidable (Walk k l) := inferInstanceAs (Decidable (∀ x ∈ l, 1 ≤ iabs x ∧ iabs x ≤ k))
def stepB (k : Int) : W → W
  | .int x => .bl (decide (1 ≤ iabs x ∧ iabs x ≤ k))
  | w => w
theorem bi_all1 {h : Hh} {w : W} {xs : List W} {cs : List Bool} (e1 : lstOf h w = some xs) (e2 : mapO blOf xs = some cs) : biop .all [w] h = .ok (.bl (cs.all id)) h := by
  simp only [biop, e1, e2]
theorem isStep_ok {pg : Pg} {n : Nat} (e1 : pg 2 = some cIsInt) (e : pg 4 = some cIsStep) (x k : Int) (h : Hh) : callN pg (n + 2) 4 [.int x, .int k] h = .ok (.bl (decide (1 ≤ iabs x ∧ iabs x ≤ k))) h := by
  have i1 : ∀ h, callN pg (n + 1) 2 [.int x] h = .ok (.bl true) h := fun h => by
    refine call_pure (h1 := []) e1 rfl rfl ?_ rfl
    show denSs (callN pg n) cIsInt.body [some (.int x)] [] = _
    simp [cIsInt, isiW]
  refine call_pure (h1 := []) e rfl rfl ?_ rfl
  show denSs (callN pg (n + 1)) cIsStep.body [some (.int x), some (.int k)] [] = _
  by_cases h1 : 1 ≤ iabs x
  · simp [cIsStep, i1, h1]
  · simp [cIsStep, i1, h1]
theorem isWalk_ok {pg : Pg} {n : Nat} (e1 : pg 2 = some cIsInt) (e2 : pg 4 = some cIsStep) (e : pg 5 = some cIsWalk) (l : List Int) (hl : l.length < 16777216) (k : Int) (h : Hh) :
    callN pg (n + 3) 5 [.tup (Li l), .int k] h = .ok (.bl (decide (Walk k l))) h := by
  have hb : Nat.blt (Li l).length 16777216 = true := by rw [len_Li]; exact Nat.ble_eq_true_of_le hl
  have q := lc_map (set := tgSet (.nm 2)) (elt := denE (callN pg (n + 2)) (.call 4 (.cons (.var 2) (.cons (.var 1) .nil)))) (σ := [some (.tup (Li l)), some (.int k), none]) (h := ([] : Hh)) (g := stepB k) (ws := Li l) (by
    intro w hw
    obtain ⟨i, _, rfl⟩ := mem_Li hw
    exact ⟨_, rfl, by simp [isStep_ok e1 e2, stepB]⟩)
  have e3 : ∀ l : List Int, mapO blOf ((Li l).map (stepB k)) = some (l.map fun x => decide (1 ≤ iabs x ∧ iabs x ≤ k)) := fun l => by
    induction l with
    | nil => rfl
    | cons x l ih => simp only [Li_cons, List.map_cons, mapO, blOf, ih, stepB]
  refine call_pure (h1 := [.lst .free ((Li l).map (stepB k))]) e (by simp [pures, W.pure]) rfl ?_ rfl
  show denSs (callN pg (n + 2)) cIsWalk.body [some (.tup (Li l)), some (.int k), none] [] = _
  have e4 : ((l.map fun x => decide (1 ≤ iabs x ∧ iabs x ≤ k)).all id) = decide (Walk k l) := by
    rw [List.all_map]
    by_cases w : Walk k l
    · simp only [w, decide_true, List.all_eq_true]
      intro x hx
      simpa using w x hx
    · simp only [w, decide_false]
      rw [← Bool.not_eq_true]
      intro c
      exact w fun x hx => by simpa using List.all_eq_true.mp c x hx
  have e5 : biop .all [.ref 0] [.lst .free ((Li l).map (stepB k))] = .ok (.bl (decide (Walk k l))) [.lst .free ((Li l).map (stepB k))] := by
    rw [bi_all1 (xs := (Li l).map (stepB k)) rfl (e3 l), e4]
  simp [cIsWalk, isiW, dE_lc, lockL, hl, q, e5]
theorem needWalk_ok {pg : Pg} {n : Nat} (e1 : pg 2 = some cIsInt) (e2 : pg 4 = some cIsStep) (e3 : pg 5 = some cIsWalk) (e : pg 7 = some cNeedWalk) {l : List Int} (hl : l.length < 16777216) {k : Int} (w : Walk k l) (h : Hh) :
    callN pg (n + 4) 7 [.tup (Li l), .int k] h = .ok .non h := by
  refine call_pureN (h1 := []) (σ := [some (.tup (Li l)), some (.int k)]) e (by simp [pures, W.pure]) rfl ?_
  show denSs (callN pg (n + 3)) cNeedWalk.body [some (.tup (Li l)), some (.int k)] [] = _
  simp [cNeedWalk, isWalk_ok e1 e2 e3 l hl, w]
structure HasWalks (pg : Pg) : Prop where
  p1 : pg 1 = some cStraightened
  p2 : pg 2 = some cIsInt
  p4 : pg 4 = some cIsStep
  p5 : pg 5 = some cIsWalk
  p7 : pg 7 = some cNeedWalk
  p8 : pg 8 = some cStraight
  p9 : pg 9 = some cBehind
  p10 : pg 10 = some cCommute
theorem HasWalks.need {pg : Pg} {n : Nat} (P : HasWalks pg) {l : List Int} (hl : l.length < 16777216) {k : Int} (w : Walk k l) (h : Hh) : callN pg (n + 4) 7 [.tup (Li l), .int k] h = .ok .non h := needWalk_ok P.p2 P.p4 P.p5 P.p7 hl w h
theorem HasWalks.str {pg : Pg} {n : Nat} (P : HasWalks pg) (l : List Int) (hl : l.length < 16777216) (h : Hh) : callN pg (n + 1) 1 [.tup (Li l)] h = .ok (.tup (Li (red l))) h := str_ok P.p1 l hl h
theorem HasWalks.straight {pg : Pg} {n : Nat} (P : HasWalks pg) {l : List Int} (hl : l.length < 16777216) (w : Walk 4 l) (h : Hh) : callN pg (n + 5) 8 [.tup (Li l)] h = .ok (.tup (Li (red l))) h := by
  refine call_pure (h1 := []) P.p8 (by simp [pures, W.pure]) rfl ?_ (by simp [W.pure])
  show denSs (callN pg (n + 4)) cStraight.body [some (.tup (Li l))] [] = _
  simp [cStraight, P.need hl w, P.str (n := n + 3) l hl]
theorem cat_tup (h : Hh) (a b : List Int) (hl : a.length + b.length < 16777216) : binop .add (.tup (Li a)) (.tup (Li b)) h = .ok (.tup (Li (a ++ b))) h := by
  have : lineB (a.length + b.length) = true := Nat.ble_eq_true_of_le (by omega)
  simp [binop, this, Li_append]
theorem HasWalks.behind {pg : Pg} {n : Nat} (P : HasWalks pg) {a b : List Int} (hl : a.length + b.length < 16777216) (wa : Walk 4 a) (wb : Walk 4 b) (h : Hh) : callN pg (n + 5) 9 [.tup (Li a), .tup (Li b)] h = .ok (.tup (Li (red (a ++ b)))) h := by
  refine call_pure (h1 := []) P.p9 (by simp [pures, W.pure]) rfl ?_ (by simp [W.pure])
  show denSs (callN pg (n + 4)) cBehind.body [some (.tup (Li a)), some (.tup (Li b))] [] = _
  simp [cBehind, P.need (show a.length < 16777216 by omega) wa, P.need (show b.length < 16777216 by omega) wb, cat_tup _ a b hl, P.str (n := n + 3) (a ++ b) (by simpa using hl)]
@[simp] theorem cm_eqT (l m : List Int) (h : Hh) : cmpop .eq (.tup (Li l)) (.tup (Li m)) h = some (decide (l = m)) := eqW_tup h l m
theorem HasWalks.commute {pg : Pg} {n : Nat} (P : HasWalks pg) {a b : List Int} (hl : a.length + b.length < 16777216) (wa : Walk 4 a) (wb : Walk 4 b) (h : Hh) : callN pg (n + 5) 10 [.tup (Li a), .tup (Li b)] h = .ok (.bl (decide (red (a ++ b) = red (b ++ a)))) h := by
  refine call_pure (h1 := []) P.p10 (by simp [pures, W.pure]) rfl ?_ (by simp [W.pure])
  show denSs (callN pg (n + 4)) cCommute.body [some (.tup (Li a)), some (.tup (Li b))] [] = _
  simp [cCommute, P.need (show a.length < 16777216 by omega) wa, P.need (show b.length < 16777216 by omega) wb, cat_tup _ a b hl, cat_tup _ b a (by omega), P.str (n := n + 3) (a ++ b) (by simpa using hl), P.str (n := n + 3) (b ++ a) (by simp; omega)]
/-! ### the group that the walks make -/
/-- no step and its reversal side by side -/
def Straight : List Int → Prop
  | [] => True
  | [_] => True
  | a :: b :: r => a ≠ -b ∧ Straight (b :: r)
theorem straight_snoc : ∀ {l : List Int} {x : Int}, Straight (l ++ [x]) ↔ Straight l ∧ l.getLast? ≠ some (-x)
  | [], x => by simp [Straight]
  | [a], x => by simp [Straight]
  | a :: b :: r, x => by
    have ih := straight_snoc (l := b :: r) (x := x)
    simp only [List.cons_append] at ih ⊢
    simp only [Straight, ih, List.getLast?_cons_cons]
    exact and_assoc.symm
theorem push_straight {l : List Int} (h : Straight l) (x : Int) : Straight (push l x) := by
  unfold push
  split
  · rcases List.eq_nil_or_concat l with rfl | ⟨ys, y, e⟩
    · exact h
    · rw [List.concat_eq_append] at e
      subst e
      rw [List.dropLast_concat]
      exact (straight_snoc.mp h).1
  · rename_i c
    exact straight_snoc.mpr ⟨h, c⟩
theorem push_back {l : List Int} (h : Straight l) (x : Int) : push (push l x) (-x) = l := by
  by_cases c : l.getLast? = some (-x)
  · rcases List.eq_nil_or_concat l with rfl | ⟨ys, y, e⟩
    · simp at c
    · rw [List.concat_eq_append] at e
      subst e
      have ey : y = -x := by simpa using c
      subst ey
      have e1 : push (ys ++ [-x]) x = ys := by simp [push]
      rw [e1]
      have q := (straight_snoc.mp h).2
      unfold push
      rw [if_neg q]
  · have e1 : push l x = l ++ [x] := by unfold push; rw [if_neg c]
    rw [e1]
    simp [push]
theorem fold_straight (l : List Int) : ∀ {acc : List Int}, Straight acc → Straight (l.foldl push acc) := by
  induction l with
  | nil => exact fun h => h
  | cons x l ih => exact fun h => ih (push_straight h x)
theorem red_straight (l : List Int) : Straight (red l) := fold_straight l trivial
theorem red_snoc (l : List Int) (x : Int) : red (l ++ [x]) = push (red l) x := by simp [red]
/-- a step and its reversal taken out -/
theorem red_cut (a b : List Int) (x : Int) : red (a ++ x :: -x :: b) = red (a ++ b) := by
  unfold red
  simp only [List.foldl_append, List.foldl_cons]
  have q := push_back (red_straight a) x
  unfold red at q
  rw [q]
theorem red_self0 : ∀ (n : Nat) {l : List Int}, l.length = n → Straight l → red l = l
  | 0, l, e, _ => by
    have : l = [] := List.length_eq_zero_iff.mp e
    subst this; rfl
  | n + 1, l, e, h => by
    rcases List.eq_nil_or_concat l with rfl | ⟨ys, y, e2⟩
    · rfl
    · rw [List.concat_eq_append] at e2
      subst e2
      obtain ⟨h1, h2⟩ := straight_snoc.mp h
      rw [red_snoc, red_self0 n (by simpa using e) h1]
      unfold push
      rw [if_neg h2]
theorem red_self {l : List Int} (h : Straight l) : red l = l := red_self0 _ rfl h
end R

/-! R23: all walks of a length, counted by what is left of them. -/
namespace R
def stepsL : Nat → List Int
  | 0 => []
  | n + 1 => stepsL n ++ [((n + 1 : Nat) : Int), -((n + 1 : Nat) : Int)]
def allW (n : Nat) : Nat → List (List Int)
  | 0 => [[]]
  | L + 1 => (stepsL n).flatMap fun s => (allW n L).map (· ++ [s])
theorem stepsL_len : ∀ n, (stepsL n).length = 2 * n
  | 0 => rfl
  | n + 1 => by simp [stepsL, stepsL_len n]; omega
theorem stepsL_mem : ∀ {n : Nat} {x : Int}, x ∈ stepsL n ↔ 1 ≤ iabs x ∧ iabs x ≤ n
  | 0, x => by simp [stepsL]; omega
  | n + 1, x => by
    simp only [stepsL, List.mem_append, stepsL_mem (n := n), List.mem_cons, List.not_mem_nil, or_false]
    unfold iabs
    split <;> omega
theorem iabs_neg (x : Int) : iabs (-x) = iabs x := by unfold iabs; split <;> split <;> omega
theorem stepsL_one : ∀ {n : Nat} {x : Int}, (stepsL n).countP (fun s => decide (s = x)) = if 1 ≤ iabs x ∧ iabs x ≤ n then 1 else 0
  | 0, x => by
    have : ¬ (1 ≤ iabs x ∧ iabs x ≤ ((0 : Nat) : Int)) := by omega
    rw [if_neg this]; rfl
  | n + 1, x => by
    simp only [stepsL, List.countP_append, stepsL_one (n := n), List.countP_cons, List.countP_nil, decide_eq_true_eq]
    unfold iabs
    repeat' split
    all_goals omega
theorem allW_mem {n : Nat} : ∀ {L : Nat} {w : List Int}, w ∈ allW n L → Walk n w ∧ w.length = L
  | 0, w, h => by
    simp [allW] at h
    subst h
    exact ⟨fun x hx => (by cases hx), rfl⟩
  | L + 1, w, h => by
    simp only [allW, List.mem_flatMap, List.mem_map] at h
    obtain ⟨s, hs, v, hv, rfl⟩ := h
    obtain ⟨h1, h2⟩ := allW_mem hv
    refine ⟨fun x hx => ?_, by simp [h2]⟩
    rcases List.mem_append.mp hx with hx | hx
    · exact h1 x hx
    · rw [List.mem_singleton.mp hx]; exact stepsL_mem.mp hs
theorem walk_push {n : Nat} {l : List Int} {x : Int} (h : Walk n l) (hx : 1 ≤ iabs x ∧ iabs x ≤ n) : Walk n (push l x) := by
  unfold push
  split
  · exact fun y hy => h y (List.dropLast_subset l hy)
  · intro y hy
    rcases List.mem_append.mp hy with hy | hy
    · exact h y hy
    · rw [List.mem_singleton.mp hy]; exact hx
theorem walk_fold {n : Nat} : ∀ (l : List Int) {acc : List Int}, Walk n acc → Walk n l → Walk n (l.foldl push acc)
  | [], acc, h, _ => h
  | x :: l, acc, h, hl => walk_fold l (walk_push h (hl x List.mem_cons_self)) fun y hy => hl y (List.mem_cons_of_mem _ hy)
theorem walk_red {n : Nat} {l : List Int} (h : Walk n l) : Walk n (red l) := walk_fold l (fun x hx => by cases hx) h
theorem countP_succ (n L : Nat) (p : List Int → Bool) : (allW n (L + 1)).countP p = ((stepsL n).map fun s => (allW n L).countP fun w => p (w ++ [s])).sum := by
  simp only [allW, List.countP_flatMap]
  congr 1
  refine List.map_congr_left fun s _ => ?_
  show List.countP p ((allW n L).map (· ++ [s])) = _
  rw [List.countP_map]
  rfl
theorem sum_ite {α : Type} (p : α → Bool) (A B : Nat) : ∀ S : List α, (S.map fun s => if p s = true then A else B).sum = S.countP p * A + (S.length - S.countP p) * B
  | [] => by simp
  | a :: S => by
    have ih := sum_ite p A B S
    have le : S.countP p ≤ S.length := List.countP_le_length
    simp only [List.map_cons, List.sum_cons, ih, List.countP_cons, List.length_cons]
    by_cases h : p a = true
    · simp only [h, if_true]
      have e : S.length + 1 - (S.countP p + 1) = S.length - S.countP p := by omega
      rw [e, Nat.add_mul, Nat.one_mul]; omega
    · simp only [h, if_false, Nat.add_zero, Bool.false_eq_true]
      have e : S.length + 1 - S.countP p = (S.length - S.countP p) + 1 := by omega
      rw [e, Nat.add_mul, Nat.one_mul]; omega
def cN (N : Nat) : Nat → Nat → Nat
  | 0, 0 => 1
  | 0, _ + 1 => 0
  | L + 1, 0 => N * cN N L 1
  | L + 1, m + 1 => cN N L m + (N - 1) * cN N L (m + 2)
theorem push_iff {r k : List Int} (hr : Straight r) (hk : Straight k) (s : Int) : push r s = k ↔ r = push k (-s) := by
  constructor
  · intro h; rw [← h, push_back hr]
  · intro h
    have := push_back hk (-s)
    rw [Int.neg_neg] at this
    rw [h, this]
/-- as many walks come to k as its length says -/
theorem count_red (n : Nat) : ∀ (L : Nat) {k : List Int}, Straight k → Walk n k → (allW n L).countP (fun w => decide (red w = k)) = cN (2 * n) L k.length
  | 0, k, _, _ => by
    cases k with
    | nil => rfl
    | cons a r => rfl
  | L + 1, k, hs, hw => by
    rw [countP_succ]
    have e1 : ((stepsL n).map fun s => (allW n L).countP fun w => decide (red (w ++ [s]) = k)) = (stepsL n).map fun s => cN (2 * n) L (push k (-s)).length := by
      refine List.map_congr_left fun s hsn => ?_
      rw [← count_red n L (push_straight hs (-s)) (walk_push hw (by rw [iabs_neg]; exact stepsL_mem.mp hsn))]
      refine List.countP_congr fun w _ => ?_
      simp only [decide_eq_true_eq]
      rw [red_snoc]
      exact push_iff (red_straight w) hs s
    rw [e1]
    rcases List.eq_nil_or_concat k with rfl | ⟨ys, y, e⟩
    · have e2 : ((stepsL n).map fun s => cN (2 * n) L (push [] (-s)).length) = (stepsL n).map fun s => if (fun _ : Int => true) s = true then cN (2 * n) L 1 else 0 := by
        refine List.map_congr_left fun s _ => ?_
        simp [push]
      rw [e2, sum_ite]
      simp [stepsL_len, cN]
    · rw [List.concat_eq_append] at e
      subst e
      have e2 : ((stepsL n).map fun s => cN (2 * n) L (push (ys ++ [y]) (-s)).length) = (stepsL n).map fun s => if (fun s : Int => decide (s = y)) s = true then cN (2 * n) L ys.length else cN (2 * n) L (ys.length + 2) := by
        refine List.map_congr_left fun s _ => ?_
        by_cases hy : s = y
        · subst hy; simp [push]
        · have : ¬ y = s := fun e => hy e.symm
          simp [push, hy, this]
      rw [e2, sum_ite, stepsL_one, stepsL_len]
      have hy := hw y (by simp)
      rw [if_pos hy]
      simp [cN]
/-- numbers of walks by the length of what is left -/
def eN (N : Nat) : Nat → Nat → Nat
  | 0, 0 => 1
  | 0, _ + 1 => 0
  | L + 1, 0 => eN N L 1
  | L + 1, 1 => N * eN N L 0 + eN N L 2
  | L + 1, f + 2 => (N - 1) * eN N L (f + 1) + eN N L (f + 3)
theorem sum_swap {α β : Type} (q : α → β → Bool) : ∀ (A : List α) (B : List β), (A.map fun s => B.countP fun w => q s w).sum = (B.map fun w => A.countP fun s => q s w).sum
  | [], B => by
    induction B with
    | nil => rfl
    | cons b B ih => simpa using ih
  | a :: A, B => by
    rw [List.map_cons, List.sum_cons, sum_swap q A B]
    have : ∀ B : List β, (B.map fun w => (a :: A).countP fun s => q s w).sum = B.countP (fun w => q a w) + (B.map fun w => A.countP fun s => q s w).sum := fun B => by
      induction B with
      | nil => rfl
      | cons b B ih =>
        have h1 : (a :: A).countP (fun s => q s b) = A.countP (fun s => q s b) + if q a b = true then 1 else 0 := List.countP_cons
        have h2 : (b :: B).countP (fun w => q a w) = B.countP (fun w => q a w) + if q a b = true then 1 else 0 := List.countP_cons
        rw [List.map_cons, List.sum_cons, ih, List.map_cons, List.sum_cons, h1, h2]
        omega
    rw [this B]
theorem sum_two {α : Type} (f : α → Nat) (a b A B : Nat) (hab : a ≠ b) : ∀ S : List α, (S.map fun w => if f w = a then A else if f w = b then B else 0).sum = A * S.countP (fun w => decide (f w = a)) + B * S.countP (fun w => decide (f w = b))
  | [] => by simp
  | w :: S => by
    have ih := sum_two f a b A B hab S
    simp only [List.map_cons, List.sum_cons, ih, List.countP_cons, decide_eq_true_eq]
    by_cases h1 : f w = a
    · have h2 : ¬ f w = b := fun e => hab (h1.symm.trans e)
      simp only [h1, if_true, if_neg (show ¬ a = b from hab), Nat.add_zero, Nat.mul_add, Nat.mul_one]; omega
    · by_cases h2 : f w = b
      · simp only [h1, h2, if_false, if_true, Nat.add_zero, Nat.mul_add, Nat.mul_one, if_neg (show ¬ b = a from fun e => hab e.symm)]; omega
      · simp only [h1, h2, if_false, Nat.add_zero]; omega
theorem push_len_nil (s : Int) : (push [] s).length = 1 := by simp [push]
theorem push_len_snoc (ys : List Int) (y s : Int) : (push (ys ++ [y]) s).length = if s = -y then ys.length else ys.length + 2 := by
  by_cases h : s = -y
  · subst h; simp [push]
  · have : ¬ y = -s := fun e => h (by omega)
    simp [push, h, this]
theorem count_len (n : Nat) : ∀ (L f : Nat), (allW n L).countP (fun w => decide ((red w).length = f)) = eN (2 * n) L f
  | 0, 0 => rfl
  | 0, f + 1 => rfl
  | L + 1, f => by
    rw [countP_succ]
    rw [sum_swap (fun s w => decide ((red (w ++ [s])).length = f)) (stepsL n) (allW n L)]
    have key : ∀ w ∈ allW n L, (stepsL n).countP (fun s => decide ((red (w ++ [s])).length = f)) =
        (match f with
          | 0 => if (red w).length = 1 then 1 else if (red w).length = 0 then 0 else 0
          | 1 => if (red w).length = 0 then 2 * n else if (red w).length = 2 then 1 else 0
          | f + 2 => if (red w).length = f + 1 then 2 * n - 1 else if (red w).length = f + 3 then 1 else 0) := by
      intro w hw
      have wr := walk_red (allW_mem hw).1
      rcases List.eq_nil_or_concat (red w) with e | ⟨ys, y, e⟩
      · have e2 : (stepsL n).countP (fun s => decide ((red (w ++ [s])).length = f)) = (stepsL n).countP (fun s => decide (1 = f)) := List.countP_congr fun s _ => by rw [red_snoc, e, push_len_nil]
        rw [e2, e]
        match f with
        | 0 => simp
        | 1 => simp [stepsL_len]
        | f + 2 => simp
      · rw [List.concat_eq_append] at e
        have wy : 1 ≤ iabs (-y) ∧ iabs (-y) ≤ n := by rw [iabs_neg]; exact wr y (by rw [e]; simp)
        have e2 : (stepsL n).countP (fun s => decide ((red (w ++ [s])).length = f)) = (stepsL n).countP (fun s => decide ((if s = -y then ys.length else ys.length + 2) = f)) := List.countP_congr fun s _ => by rw [red_snoc, e, push_len_snoc]
        have one := stepsL_one (n := n) (x := -y)
        rw [if_pos wy] at one
        have all_ : ∀ (p q : Bool), (stepsL n).countP (fun s => if s = -y then p else q) = (if p then 1 else 0) + (if q then 2 * n - 1 else 0) := fun p q => by
          have s1 := List.length_eq_countP_add_countP (p := fun s : Int => decide (s = -y)) (l := stepsL n)
          rw [stepsL_len, one] at s1
          have s2 : (stepsL n).countP (fun s => !decide (s = -y)) = 2 * n - 1 := by
            have : (stepsL n).countP (fun a => decide ¬ (decide (a = -y)) = true) = (stepsL n).countP (fun s => !decide (s = -y)) := List.countP_congr fun s _ => by simp
            omega
          cases p <;> cases q
          · rw [List.countP_eq_zero.mpr (fun a _ => by simp)]; rfl
          · have : (stepsL n).countP (fun s => if s = -y then false else true) = (stepsL n).countP (fun s => !decide (s = -y)) := List.countP_congr fun s _ => by by_cases h : s = -y <;> simp [h]
            rw [this, s2]; simp
          · have : (stepsL n).countP (fun s => if s = -y then true else false) = (stepsL n).countP (fun s => decide (s = -y)) := List.countP_congr fun s _ => by by_cases h : s = -y <;> simp [h]
            rw [this, one]; rfl
          · have : (stepsL n).countP (fun s => if s = -y then true else true) = (stepsL n).length := List.countP_eq_length.mpr fun s _ => by simp
            rw [this, stepsL_len]; simp; omega
        have e3 : (stepsL n).countP (fun s => decide ((if s = -y then ys.length else ys.length + 2) = f)) = (stepsL n).countP (fun s => if s = -y then decide (ys.length = f) else decide (ys.length + 2 = f)) := List.countP_congr fun s _ => by by_cases h : s = -y <;> simp [h]
        have el : (red w).length = ys.length + 1 := by rw [e]; simp
        rw [e2, e3, all_, el]
        match f with
        | 0 => simp
        | 1 => simp
        | f + 2 =>
          simp only [decide_eq_true_eq, Nat.add_right_cancel_iff]
          by_cases h1 : ys.length = f + 2
          · have h2 : ¬ ys.length = f := by omega
            have h3 : ys.length + 1 = f + 3 := by omega
            simp [h1, h2, h3]
          · by_cases h2 : ys.length = f
            · simp [h2]
            · have h3 : ¬ ys.length + 1 = f + 3 := by omega
              simp [h1, h2, h3]
    rw [List.map_congr_left key]
    match f with
    | 0 =>
      simp only [sum_two (fun w : List Int => (red w).length) 1 0 1 0 (by decide), count_len n L]
      simp [eN]
    | 1 =>
      simp only [sum_two (fun w : List Int => (red w).length) 0 2 (2 * n) 1 (by decide), count_len n L]
      simp [eN]
    | f + 2 =>
      simp only [sum_two (fun w : List Int => (red w).length) (f + 1) (f + 3) (2 * n - 1) 1 (by omega), count_len n L]
      simp [eN]
end R

/-! R24: comprehensions and loops over what lies in the heap. -/
namespace R
open PySem (Str PyData)
open L2 (Key)
@[simp] theorem lineB0 : lineB 0 = true := id rfl
@[simp] theorem lineB1 : lineB 1 = true := id rfl
@[simp] theorem lineB2 : lineB 2 = true := id rfl
@[simp] theorem lineB3 : lineB 3 = true := id rfl
@[simp] theorem lineB4 : lineB 4 = true := id rfl
theorem fl_inv2 {I : List W → Sl → Hh → Prop} {set : W → Hh → Sl → Option Sl} {body : Sl → Hh → SR} {all : List W} : ∀ (ws d : List W) (σ : Sl) (h : Hh), d ++ ws = all → I d σ h →
    (∀ d w r σ h, d ++ w :: r = all → I d σ h → ∃ σ1 σ2 h2, set w h σ = some σ1 ∧ body σ1 h = .nx σ2 h2 ∧ I (d ++ [w]) σ2 h2) → ∃ σ' h', forLoop set body ws σ h = .nx σ' h' ∧ I all σ' h'
  | [], d, σ, h, e, i, _ => ⟨σ, h, rfl, by rw [List.append_nil] at e; rw [← e]; exact i⟩
  | w :: ws, d, σ, h, e, i, st => by
    obtain ⟨σ1, σ2, h2, e1, e2, i2⟩ := st d w ws σ h e i
    obtain ⟨σ', h', e3, i3⟩ := fl_inv2 ws (d ++ [w]) σ2 h2 (by rw [← e]; simp) i2 st
    exact ⟨σ', h', by rw [fl_cons, e1]; simp only [e2]; exact e3, i3⟩
theorem set_get {α : Type} {l : List α} {i : Nat} {x : α} (e : l[i]? = some x) : l.set i x = l := by
  apply List.ext_getElem?
  intro j
  by_cases h : i = j
  · subst h
    rw [get_set_eq e, e]
  · rw [get_set_ne h]
theorem relock_lst {h : Hh} {a : Nat} {xs : List W} {k : Lk} (e : h[a]? = some (.lst k xs)) : relock h [(a, .free)] = h.set a (.lst .free xs) := by
  simp only [relock, e, Ob.setLk]
theorem relock_dT {h : Hh} {a : Nat} {xs : List (List Key × W)} {k : Lk} (e : h[a]? = some (.dT k xs)) : relock h [(a, .free)] = h.set a (.dT .free xs) := by
  simp only [relock, e, Ob.setLk]
theorem unlock_lst {h : Hh} {a : Nat} {xs : List W} (e : h[a]? = some (.lst .free xs)) : relock (h.set a (.lst .lock xs)) [(a, .free)] = h := by
  rw [relock_lst (get_set_eq e), List.set_set, set_get e]
section
variable {F : Nat → List W → Hh → Res W} {el : Ex} {tg : Tg} {own : List Nat} {it : Ex} {σ : Sl} {h h1 : Hh} {a : Nat} {xs : List W} {g : W → W} {p : W → Bool} {c : Tx}
theorem lc_over (hi : denE F it σ h = .ok (.ref a) h1) (e : h1[a]? = some (.lst .free xs)) (hl : xs.length < 16777216)
    (q : ∀ w ∈ xs, ∃ σ1, tgSet tg w (h1.set a (.lst .lock xs)) (wipe σ own) = some σ1 ∧ denE F el σ1 (h1.set a (.lst .lock xs)) = .ok (g w) (h1.set a (.lst .lock xs))) :
    denE F (.lc el tg own (.val it)) σ h = .ok (.ref h1.length) (h1 ++ [.lst .free (xs.map g)]) := by
  have hb : Nat.blt xs.length 16777216 = true := Nat.ble_eq_true_of_le hl
  rw [dE_lc, dI_val, hi]
  simp only [bindO, lockL, e, hb, if_true]
  rw [lc_map q]
  simp only [unlock_lst e]
theorem lcif_over (hi : denE F it σ h = .ok (.ref a) h1) (e : h1[a]? = some (.lst .free xs)) (hl : xs.length < 16777216)
    (q : ∀ w ∈ xs, ∃ σ1, tgSet tg w (h1.set a (.lst .lock xs)) (wipe σ own) = some σ1 ∧ denT F c σ1 (h1.set a (.lst .lock xs)) = .ok (p w) (h1.set a (.lst .lock xs)) ∧ (p w = true → denE F el σ1 (h1.set a (.lst .lock xs)) = .ok (g w) (h1.set a (.lst .lock xs)))) :
    denE F (.lcif el tg own (.val it) c) σ h = .ok (.ref h1.length) (h1 ++ [.lst .free ((xs.filter p).map g)]) := by
  have hb : Nat.blt xs.length 16777216 = true := Nat.ble_eq_true_of_le hl
  rw [dE_lcif, dI_val, hi]
  simp only [bindO, lockL, e, hb, if_true]
  rw [lc_filter q]
  simp only [unlock_lst e]
def keyW (k : List Key) : W := .tup (k.map fun q => match q with | .inl i => W.int i | .inr s => W.str s)
theorem lcifD_over {kvs : List (List Key × W)} (hi : denE F it σ h = .ok (.ref a) h1) (e : h1[a]? = some (.dT .free kvs)) (hl : kvs.length < 16777216)
    (q : ∀ w ∈ kvs.map (fun p => keyW p.1), ∃ σ1, tgSet tg w (h1.set a (.dT .froz kvs)) (wipe σ own) = some σ1 ∧ denT F c σ1 (h1.set a (.dT .froz kvs)) = .ok (p w) (h1.set a (.dT .froz kvs)) ∧ (p w = true → denE F el σ1 (h1.set a (.dT .froz kvs)) = .ok (g w) (h1.set a (.dT .froz kvs)))) :
    denE F (.lcif el tg own (.val it) c) σ h = .ok (.ref h1.length) (h1 ++ [.lst .free (((kvs.map fun p => keyW p.1).filter p).map g)]) := by
  have hb : Nat.blt (kvs.map fun p => keyW p.1).length 16777216 = true := by rw [List.length_map]; exact Nat.ble_eq_true_of_le hl
  rw [dE_lcif, dI_val, hi]
  have e1 : lockL h1 (.ref a) = .ok (kvs.map fun p => keyW p.1, [(a, .free)]) (h1.set a (.dT .froz kvs)) := by simp only [lockL, e]; rfl
  simp only [bindO, e1, hb, if_true]
  rw [lc_filter q]
  simp only [relock_dT (get_set_eq e), List.set_set, set_get e]
/-- a for over a heap list that the body leaves -/
theorem loop_over {t : Tg} {b : Ss} {I : List W → Sl → Hh → Prop} (hi : denE F it σ h = .ok (.ref a) h1) (e : h1[a]? = some (.lst .free xs)) (i0 : I [] σ (h1.set a (.lst .lock xs)))
    (st : ∀ d w r σ h, d ++ w :: r = xs → h[a]? = some (.lst .lock xs) → I d σ h → ∃ σ1 σ2 h2, tgSet t w h σ = some σ1 ∧ denSs F b σ1 h = .nx σ2 h2 ∧ h2[a]? = some (.lst .lock xs) ∧ I (d ++ [w]) σ2 h2) :
    ∃ σ' h', denS F (.loop t (.val it) b) σ h = .nx σ' (h'.set a (.lst .free xs)) ∧ h'[a]? = some (.lst .lock xs) ∧ I xs σ' h' := by
  obtain ⟨σ', h', ef, i1, i2⟩ := fl_inv2 (I := fun d σ h => h[a]? = some (.lst .lock xs) ∧ I d σ h) (all := xs) xs [] σ (h1.set a (.lst .lock xs)) rfl ⟨get_set_eq e, i0⟩
    (fun d w r σ h hd ⟨i1, i2⟩ => by
      obtain ⟨σ1, σ2, h2, a1, a2, a3, a4⟩ := st d w r σ h hd i1 i2
      exact ⟨σ1, σ2, h2, a1, a2, a3, a4⟩)
  refine ⟨σ', h', ?_, i1, i2⟩
  rw [dS_loop, dI_val, hi]
  have e1 : lockL h1 (.ref a) = .ok (xs, [(a, .free)]) (h1.set a (.lst .lock xs)) := by simp only [lockL, e]
  simp only [bindO, e1]
  rw [ef]
  simp only [rl_nx, relock_lst i1]
end
section
variable {F : Nat → List W → Hh → Res W} {σ σ1 : Sl} {h h1 h2 : Hh} {s : Sm} {r b : Ss} {e o i : Ex} {w x y : W} {j : Nat} {c : Tx} {q : SR}
theorem ss_nx (a : denS F s σ h = .nx σ1 h1) : denSs F (.cons s r) σ h = denSs F r σ1 h1 := by rw [dSs_cons, a]
theorem ss_rt (a : denS F s σ h = .rt w h1) : denSs F (.cons s r) σ h = .rt w h1 := by rw [dSs_cons, a]
theorem s_asg (a : denE F e σ h = .ok w h1) : denS F (.asg (.nm j) e) σ h = .nx (σ.set j (some w)) h1 := by rw [dS_asg, a]; rfl
theorem s_ret (a : denE F e σ h = .ok w h1) : denS F (.ret e) σ h = .rt w h1 := by rw [dS_ret, a]
theorem s_exp (a : denE F e σ h = .ok w h1) : denS F (.exp e) σ h = .nx σ h1 := by rw [dS_exp, a]
theorem s_ifT (a : denT F c σ h = .ok true h1) : denS F (.ife c r b) σ h = denSs F r σ h1 := by rw [dS_ife, a]
theorem s_ifF (a : denT F c σ h = .ok false h1) : denS F (.ife c r b) σ h = denSs F b σ h1 := by rw [dS_ife, a]
theorem s_sub (a : denE F e σ h = .ok w h1) (a2 : denE F o σ h1 = .ok x h1) (a3 : denE F i σ h1 = .ok y h1) (a4 : setix x y w h1 = some h2) : denS F (.sub o i e) σ h = .nx σ h2 := by
  rw [dS_sub, a]
  simp only [bindO, a2, a3, a4, ofO_some]
theorem ss_end : denSs F .nil σ h = .nx σ h := rfl
theorem s_loop {t : Tg} {it : Wk} {ws : List W} {us : Un} (a : denI F it σ h = .ok (ws, us) h1) (a2 : forLoop (tgSet t) (denSs F b) ws σ h1 = .nx σ1 h2) : denS F (.loop t it b) σ h = .nx σ1 (relock h2 us) := by
  rw [dS_loop, a]
  simp only [a2, rl_nx]
theorem i_rng1 {n : Nat} (a : denE F e σ h = .ok (.int n) h1) (hn : n ≤ 1000000000) : denI F (.rng1 e) σ h = .ok (rngL 0 n, []) h1 := by
  have ro : rngOk 0 (n : Int) = true := by
    unfold rngOk
    have a1 : (n : Int) ≤ 1000000000 := by omega
    have a2 : (-1000000000 : Int) ≤ (n : Int) := by omega
    simp only [a1, a2, decide_true, Bool.and_true]
    decide
  rw [dI_rng1, a]
  simp only [bindO, ro, if_true, Int.toNat_natCast]
theorem e_lst0 : denE F (.lst .nil) σ h = .ok (.ref h.length) (h ++ [.lst .free []]) := by rw [dE_lst, dL_nil, bindO, List.length_nil, lineB0, if_pos rfl]
end
/-- lists of walks -/
def Lt (ls : List (List Int)) : List W := ls.map fun l => .tup (Li l)
theorem mem_Lt {w : W} {ls : List (List Int)} (h : w ∈ Lt ls) : ∃ l ∈ ls, w = .tup (Li l) := by
  obtain ⟨i, m, e⟩ := List.mem_map.mp (show w ∈ ls.map (fun l => W.tup (Li l)) from h)
  exact ⟨i, m, e.symm⟩
@[simp] theorem len_Lt (ls : List (List Int)) : (Lt ls).length = ls.length := List.length_map _
theorem Lt_cons (l : List Int) (ls : List (List Int)) : Lt (l :: ls) = .tup (Li l) :: Lt ls := rfl
theorem Lt_append (l m : List (List Int)) : Lt (l ++ m) = Lt l ++ Lt m := List.map_append
@[simp] theorem pures_Lt : ∀ l : List (List Int), pures (Lt l) = true
  | [] => rfl
  | i :: l => by simp only [Lt_cons, pures, W.pure, pures_Li, Bool.true_and]; exact pures_Lt l
theorem cat_ref {h : Hh} {a b : Nat} {xs ys : List W} (ea : h[a]? = some (.lst .free xs)) (eb : h[b]? = some (.lst .free ys)) (hl : xs.length + ys.length ≤ 16777216) : binop .add (.ref a) (.ref b) h = .ok (.ref h.length) (h ++ [.lst .free (xs ++ ys)]) := by
  have : lineB (xs.length + ys.length) = true := Nat.ble_eq_true_of_le hl
  simp only [binop, ea, eb, this, if_true]
theorem snoc_tup (h : Hh) (a : List Int) (s : Int) (hl : a.length < 1000000) : binop .add (.tup (Li a)) (.tup [.int s]) h = .ok (.tup (Li (a ++ [s]))) h := cat_tup h a [s] (by simp; omega)
theorem sum_const {α : Type} (c : Nat) : ∀ l : List α, (l.map fun _ => c).sum = l.length * c
  | [] => by simp
  | a :: l => by simp only [List.map_cons, List.sum_cons, sum_const c l, List.length_cons, Nat.add_mul]; omega
theorem Li_inj : ∀ {l m : List Int}, Li l = Li m → l = m
  | [], [], _ => rfl
  | [], _ :: _, h => by cases h
  | _ :: _, [], h => by cases h
  | x :: l, y :: m, h => by
    rw [Li_cons, Li_cons] at h
    injection h with h1 h2
    injection h1 with h1
    rw [h1, Li_inj h2]
theorem allW_len (n : Nat) : ∀ L, (allW n L).length = (2 * n) ^ L
  | 0 => rfl
  | L + 1 => by
    simp only [allW, List.length_flatMap, List.length_map]
    rw [allW_len n L]
    have : ∀ (l : List Int) (c : Nat), (l.map fun _ => c).sum = l.length * c := fun l c => by
      induction l with
      | nil => simp
      | cons a l ih => simp [ih, Nat.add_mul]; omega
    rw [this, stepsL_len, Nat.pow_succ, Nat.mul_comm]
end R

namespace K01
/-- straightened(walk); slots 0 walk 1 found 2 step -/
def c_straightened : R.Fn := ⟨1, 3,
  (.cons (.asg (.nm 1) (.lst .nil))
  (.cons (.loop (.nm 2) (.val (.var 0))
  (.cons (.ife (.and (.val (.cmp .gt (.bi .len (.cons (.var 1) .nil)) (.cst (.int 0)))) (.val (.cmp .eq (.ix (.var 1) (.neg (.cst (.int 1)))) (.neg (.var 2)))))
  (.cons (.exp (.mtl0 .pop (.var 1)))
  .nil)
  (.cons (.exp (.mtl .append (.var 1) (.cons (.var 2) .nil)))
  .nil))
  .nil))
  (.cons (.ret (.bi .tuple (.cons (.var 1) .nil)))
  .nil)))⟩
/-- is_integer(value); slots 0 value -/
def c_is_integer : R.Fn := ⟨1, 1,
  (.cons (.ret (.and (.isi (.var 0) .int) (.not (.isi (.var 0) .bool))))
  .nil)⟩
/-- anew(value); slots 0 value 1 part -/
def c_anew : R.Fn := ⟨1, 2,
  (.cons (.ife (.val (.isi (.var 0) .list))
  (.cons (.ret (.lc (.call 3 (.cons (.var 1) .nil)) (.nm 1) [1] (.val (.var 0))))
  .nil)
  .nil)
  (.cons (.ife (.val (.isi (.var 0) .tuple))
  (.cons (.ret (.bi .tuple (.cons (.lc (.call 3 (.cons (.var 1) .nil)) (.nm 1) [1] (.val (.var 0))) .nil)))
  .nil)
  .nil)
  (.cons (.ret (.var 0))
  .nil)))⟩
/-- is_step(value, letters); slots 0 value 1 letters -/
def c_is_step : R.Fn := ⟨2, 2,
  (.cons (.ret (.and (.call 2 (.cons (.var 0) .nil)) (.chain .le .le (.cst (.int 1)) (.bi .abs (.cons (.var 0) .nil)) (.var 1))))
  .nil)⟩
/-- is_a_walk(value, letters); slots 0 value 1 letters 2 step -/
def c_is_a_walk : R.Fn := ⟨2, 3,
  (.cons (.ret (.and (.isi (.var 0) .tuple) (.bi .all (.cons (.lc (.call 4 (.cons (.var 2) (.cons (.var 1) .nil))) (.nm 2) [2] (.val (.var 0))) .nil))))
  .nil)⟩
/-- need_walk(walk, letters); slots 0 walk 1 letters -/
def c_need_walk : R.Fn := ⟨2, 2,
  (.cons (.ife (.not (.val (.call 5 (.cons (.var 0) (.cons (.var 1) .nil)))))
  (.cons .nev
  .nil)
  .nil)
  .nil)⟩
/-- straight(walk); slots 0 walk -/
def c_straight : R.Fn := ⟨1, 1,
  (.cons (.exp (.call 7 (.cons (.var 0) (.cons (.gc (PySem.Str.ofString "MOST_LETTERS") (.int 4)) .nil))))
  (.cons (.ret (.call 1 (.cons (.var 0) .nil)))
  .nil))⟩
/-- behind(one, other); slots 0 one 1 other -/
def c_behind : R.Fn := ⟨2, 2,
  (.cons (.exp (.call 7 (.cons (.var 0) (.cons (.gc (PySem.Str.ofString "MOST_LETTERS") (.int 4)) .nil))))
  (.cons (.exp (.call 7 (.cons (.var 1) (.cons (.gc (PySem.Str.ofString "MOST_LETTERS") (.int 4)) .nil))))
  (.cons (.ret (.call 1 (.cons (.bin .add (.var 0) (.var 1)) .nil)))
  .nil)))⟩
/-- commute(one, other); slots 0 one 1 other -/
def c_commute : R.Fn := ⟨2, 2,
  (.cons (.exp (.call 7 (.cons (.var 0) (.cons (.gc (PySem.Str.ofString "MOST_LETTERS") (.int 4)) .nil))))
  (.cons (.exp (.call 7 (.cons (.var 1) (.cons (.gc (PySem.Str.ofString "MOST_LETTERS") (.int 4)) .nil))))
  (.cons (.ret (.cmp .eq (.call 1 (.cons (.bin .add (.var 0) (.var 1)) .nil)) (.call 1 (.cons (.bin .add (.var 1) (.var 0)) .nil))))
  .nil)))⟩
/-- _law_bag(script); slots 0 script 1 great 2 bag 3 cell -/
def c_law_bag : R.Fn := ⟨1, 4,
  (.cons (.asg (.nm 1) (.lcif (.bi .abs (.cons (.bi .int (.cons (.var 3) .nil)) .nil)) (.nm 3) [3] (.val (.var 0)) (.val (.cmp .ge (.bi .abs (.cons (.bi .int (.cons (.var 3) .nil)) .nil)) (.bin .pow (.cst (.int 10)) (.cst (.int 18)))))))
  (.cons (.asg (.nm 2) (.lst (.cons (.var 1) (.cons (.cst (.int 77)) (.cons (.cst (.int 0)) .nil)))))
  (.cons (.loop (.nm 3) (.val (.var 0))
  (.cons (.sub (.var 2) (.cst (.int 1)) (.bin .mod (.bi .int (.cons (.bin .add (.bin .add (.bin .mul (.ix (.var 2) (.cst (.int 1))) (.cst (.int 48271))) (.bi .abs (.cons (.bi .int (.cons (.var 3) .nil)) .nil))) (.cst (.int 11))) .nil)) (.cst (.int 2147483647))))
  .nil))
  (.cons (.ret (.var 2))
  .nil))))⟩
/-- _law_take(bag, many); slots 0 bag 1 many 2 rows 3 told -/
def c_law_take : R.Fn := ⟨2, 4,
  (.cons (.asg (.nm 2) (.ix (.var 0) (.cst (.int 0))))
  (.cons (.ife (.val (.cmp .ne (.var 2) (.lst .nil)))
  (.cons (.asg (.nm 3) (.bin .mod (.bi .int (.cons (.ix (.var 2) (.cst (.int 0))) .nil)) (.var 1)))
  (.cons (.sub (.var 2) (.cst (.int 0)) (.bin .fdiv (.ix (.var 2) (.cst (.int 0))) (.var 1)))
  (.cons (.ife (.val (.cmp .eq (.ix (.var 2) (.cst (.int 0))) (.cst (.int 0))))
  (.cons (.exp (.mtl .popAt (.var 2) (.cons (.cst (.int 0)) .nil)))
  .nil)
  .nil)
  (.cons (.ret (.var 3))
  .nil))))
  .nil)
  (.cons (.sub (.var 0) (.cst (.int 2)) (.bin .add (.ix (.var 0) (.cst (.int 2))) (.cst (.int 1))))
  (.cons (.sub (.var 0) (.cst (.int 1)) (.bin .mod (.bi .int (.cons (.bin .add (.bin .add (.bin .mul (.ix (.var 0) (.cst (.int 1))) (.cst (.int 48271))) (.bin .mul (.bin .mul (.ix (.var 0) (.cst (.int 2))) (.ix (.var 0) (.cst (.int 2)))) (.cst (.int 7919)))) (.cst (.int 13))) .nil)) (.cst (.int 2147483647))))
  (.cons (.ret (.bin .mod (.bin .fdiv (.bin .mod (.bi .int (.cons (.bin .add (.bin .mul (.ix (.var 0) (.cst (.int 1))) (.cst (.int 69621))) (.bin .mul (.ix (.var 0) (.cst (.int 2))) (.cst (.int 1009)))) .nil)) (.cst (.int 2147483629))) (.cst (.int 1013))) (.var 1)))
  .nil)))))⟩
/-- _law_steps_of(letters); slots 0 letters 1 found 2 letter -/
def c_law_steps_of : R.Fn := ⟨1, 3,
  (.cons (.asg (.nm 1) (.lst .nil))
  (.cons (.loop (.nm 2) (.rng2 (.cst (.int 1)) (.bin .add (.var 0) (.cst (.int 1))))
  (.cons (.asg (.nm 1) (.bin .add (.var 1) (.lst (.cons (.var 2) (.cons (.neg (.var 2)) .nil)))))
  .nil))
  (.cons (.ret (.var 1))
  .nil)))⟩
/-- _law_same(told, due); slots 0 told 1 due -/
def c_law_same : R.Fn := ⟨2, 2,
  (.cons (.ret (.and (.isi (.var 0) .bool) (.cmp .eq (.var 0) (.var 1))))
  .nil)⟩
/-- _law_left(walk, known); slots 0 walk 1 known 2 found 3 at 4 one -/
def c_law_left : R.Fn := ⟨2, 5,
  (.cons (.ife (.val (.cmp .isin (.var 0) (.var 1)))
  (.cons (.ret (.ix (.var 1) (.var 0)))
  .nil)
  .nil)
  (.cons (.asg (.nm 2) (.lst .nil))
  (.cons (.loop (.nm 3) (.rng1 (.bin .sub (.bi .len (.cons (.var 0) .nil)) (.cst (.int 1))))
  (.cons (.ife (.val (.cmp .eq (.ix (.var 0) (.var 3)) (.neg (.ix (.var 0) (.bin .add (.var 3) (.cst (.int 1)))))))
  (.cons (.asg (.nm 2) (.bin .add (.var 2) (.lcif (.var 4) (.nm 4) [4] (.val (.call 15 (.cons (.bin .add (.shi (.var 0) (.var 3)) (.slo (.var 0) (.bin .add (.var 3) (.cst (.int 2))))) (.cons (.var 1) .nil)))) (.val (.cmp .notin (.var 4) (.var 2))))))
  .nil)
  .nil)
  .nil))
  (.cons (.ife (.val (.cmp .eq (.var 2) (.lst .nil)))
  (.cons (.asg (.nm 2) (.lst (.cons (.var 0) .nil)))
  .nil)
  .nil)
  (.cons (.sub (.var 1) (.var 0) (.var 2))
  (.cons (.ret (.var 2))
  .nil))))))⟩
/-- _law_as_they_stand(letters, length); slots 0 letters 1 length 2 rows 3 turn 4 further 5 step 6 walk -/
def c_law_as_they_stand : R.Fn := ⟨2, 7,
  (.cons (.asg (.nm 2) (.lst (.cons (.tup .nil) .nil)))
  (.cons (.loop (.nm 3) (.rng1 (.var 1))
  (.cons (.asg (.nm 4) (.lst .nil))
  (.cons (.loop (.nm 5) (.val (.call 13 (.cons (.var 0) .nil)))
  (.cons (.asg (.nm 4) (.bin .add (.var 4) (.lc (.bin .add (.var 6) (.tup (.cons (.var 5) .nil))) (.nm 6) [6] (.val (.var 2)))))
  .nil))
  (.cons (.asg (.nm 2) (.var 4))
  .nil))))
  (.cons (.ret (.var 2))
  .nil)))⟩
/-- _law_ends(letters, length); slots 0 letters 1 length 2 many 3 turn 4 further 5 far 6 out -/
def c_law_ends : R.Fn := ⟨2, 7,
  (.cons (.asg (.nm 2) (.bin .add (.lst (.cons (.cst (.int 1)) .nil)) (.bin .mul (.lst (.cons (.cst (.int 0)) .nil)) (.bin .add (.var 1) (.cst (.int 1))))))
  (.cons (.loop (.nm 3) (.rng1 (.var 1))
  (.cons (.asg (.nm 4) (.bin .mul (.lst (.cons (.cst (.int 0)) .nil)) (.bin .add (.var 1) (.cst (.int 2)))))
  (.cons (.loop (.nm 5) (.rng1 (.bin .add (.var 1) (.cst (.int 1))))
  (.cons (.ife (.val (.cmp .gt (.ix (.var 2) (.var 5)) (.cst (.int 0))))
  (.cons (.asg (.nm 6) (.ite (.val (.cmp .eq (.var 5) (.cst (.int 0)))) (.bin .mul (.cst (.int 2)) (.var 0)) (.bin .sub (.bin .mul (.cst (.int 2)) (.var 0)) (.cst (.int 1)))))
  (.cons (.sub (.var 4) (.bin .add (.var 5) (.cst (.int 1))) (.bin .add (.ix (.var 4) (.bin .add (.var 5) (.cst (.int 1)))) (.bin .mul (.ix (.var 2) (.var 5)) (.var 6))))
  (.cons (.ife (.val (.cmp .gt (.var 5) (.cst (.int 0))))
  (.cons (.sub (.var 4) (.bin .sub (.var 5) (.cst (.int 1))) (.bin .add (.ix (.var 4) (.bin .sub (.var 5) (.cst (.int 1)))) (.ix (.var 2) (.var 5))))
  .nil)
  .nil)
  .nil)))
  .nil)
  .nil))
  (.cons (.asg (.nm 2) (.var 4))
  .nil))))
  (.cons (.ret (.var 2))
  .nil)))⟩
/-- _law_length_right(letters, length, known); slots 0 letters 1 length 2 known 3 walk 4 far 5 counts 6 ends 7 told 8 rows -/
def c_law_length_right : R.Fn := ⟨3, 9,
  (.cons (.asg (.tup [5, 6]) (.tup (.cons (.dnew true) (.cons (.call 17 (.cons (.var 0) (.cons (.var 1) .nil))) .nil))))
  (.cons (.loop (.nm 3) (.val (.call 16 (.cons (.var 0) (.cons (.var 1) .nil))))
  (.cons (.asg (.nm 7) (.call 8 (.cons (.var 3) .nil)))
  (.cons (.ife (.val (.cmp .ne (.lst (.cons (.var 7) .nil)) (.call 15 (.cons (.var 3) (.cons (.var 2) .nil)))))
  (.cons (.ret (.cst (.bl false)))
  .nil)
  .nil)
  (.cons (.sub (.var 5) (.var 7) (.bin .add (.get2 (.var 5) (.var 7) (.cst (.int 0))) (.cst (.int 1))))
  .nil))))
  (.cons (.loop (.nm 4) (.rng1 (.bin .add (.var 1) (.cst (.int 1))))
  (.cons (.asg (.nm 8) (.lcif (.ix (.var 5) (.var 3)) (.nm 3) [3] (.val (.var 5)) (.val (.cmp .eq (.bi .len (.cons (.var 3) .nil)) (.var 4)))))
  (.cons (.ife (.or (.val (.cmp .ne (.bi .sum (.cons (.var 8) .nil)) (.ix (.var 6) (.var 4)))) (.and (.val (.cmp .ne (.var 8) (.lst .nil))) (.val (.cmp .ne (.bi .min1 (.cons (.var 8) .nil)) (.bi .max1 (.cons (.var 8) .nil))))))
  (.cons (.ret (.cst (.bl false)))
  .nil)
  .nil)
  .nil)))
  (.cons (.ret (.cst (.bl true)))
  .nil))))⟩
/-- _law_pairs_right(letters, known); slots 0 letters 1 known 2 walks 3 one 4 other 5 both 6 turned -/
def c_law_pairs_right : R.Fn := ⟨2, 7,
  (.cons (.asg (.nm 2) (.bin .add (.call 16 (.cons (.var 0) (.cons (.cst (.int 1)) .nil))) (.call 16 (.cons (.var 0) (.cons (.cst (.int 2)) .nil)))))
  (.cons (.loop (.nm 3) (.val (.var 2))
  (.cons (.loop (.nm 4) (.val (.var 2))
  (.cons (.asg (.tup [5, 6]) (.tup (.cons (.call 15 (.cons (.bin .add (.var 3) (.var 4)) (.cons (.var 1) .nil))) (.cons (.call 15 (.cons (.bin .add (.var 4) (.var 3)) (.cons (.var 1) .nil))) .nil))))
  (.cons (.ife (.or (.val (.cmp .ne (.lst (.cons (.call 9 (.cons (.var 3) (.cons (.var 4) .nil))) .nil)) (.var 5))) (.not (.val (.call 14 (.cons (.call 10 (.cons (.var 3) (.cons (.var 4) .nil))) (.cons (.cmp .eq (.var 5) (.var 6)) .nil))))))
  (.cons (.ret (.cst (.bl false)))
  .nil)
  .nil)
  .nil)))
  .nil))
  (.cons (.ret (.cst (.bl true)))
  .nil)))⟩
/-- law(script); slots 0 script 1 bag 2 letters 3 most 4 length -/
def c_law : R.Fn := ⟨1, 5,
  (.cons (.asg (.nm 1) (.call 11 (.cons (.var 0) .nil)))
  (.cons (.asg (.nm 2) (.bin .add (.cst (.int 1)) (.call 12 (.cons (.var 1) (.cons (.cst (.int 4)) .nil)))))
  (.cons (.asg (.nm 3) (.ix (.lst (.cons (.cst (.int 5)) (.cons (.cst (.int 5)) (.cons (.cst (.int 4)) (.cons (.cst (.int 4)) .nil))))) (.bin .sub (.var 2) (.cst (.int 1)))))
  (.cons (.loop (.nm 4) (.rng1 (.bin .add (.var 3) (.cst (.int 1))))
  (.cons (.ife (.not (.val (.call 18 (.cons (.var 2) (.cons (.var 4) (.cons (.dnew true) .nil))))))
  (.cons (.ret (.cst (.bl false)))
  .nil)
  .nil)
  .nil))
  (.cons (.ret (.and (.call 19 (.cons (.bi .min2 (.cons (.var 2) (.cons (.cst (.int 3)) .nil))) (.cons (.dnew true) .nil))) (.cmp .eq (.callk 8 .nil [(PySem.Str.ofString "walk")] (.cons (.tup (.cons (.cst (.int 1)) (.cons (.cst (.int 1)) (.cons (.neg (.cst (.int 1))) .nil)))) .nil) [0]) (.tup (.cons (.cst (.int 1)) .nil)))))
  .nil)))))⟩
def pg : R.Pg := fun k =>
  if Nat.beq k 1 then some c_straightened else
  if Nat.beq k 2 then some c_is_integer else
  if Nat.beq k 3 then some c_anew else
  if Nat.beq k 4 then some c_is_step else
  if Nat.beq k 5 then some c_is_a_walk else
  if Nat.beq k 7 then some c_need_walk else
  if Nat.beq k 8 then some c_straight else
  if Nat.beq k 9 then some c_behind else
  if Nat.beq k 10 then some c_commute else
  if Nat.beq k 11 then some c_law_bag else
  if Nat.beq k 12 then some c_law_take else
  if Nat.beq k 13 then some c_law_steps_of else
  if Nat.beq k 14 then some c_law_same else
  if Nat.beq k 15 then some c_law_left else
  if Nat.beq k 16 then some c_law_as_they_stand else
  if Nat.beq k 17 then some c_law_ends else
  if Nat.beq k 18 then some c_law_length_right else
  if Nat.beq k 19 then some c_law_pairs_right else
  if Nat.beq k 20 then some c_law else
  none
def rows : List R.Rw := [⟨4, 1, "straightened", ["walk"], ["walk", "found", "step"]⟩,
  ⟨7, 2, "is_integer", ["value"], ["value"]⟩,
  ⟨8, 3, "anew", ["value"], ["value", "part"]⟩,
  ⟨9, 4, "is_step", ["value", "letters"], ["value", "letters"]⟩,
  ⟨10, 5, "is_a_walk", ["value", "letters"], ["value", "letters", "step"]⟩,
  ⟨11, 7, "need_walk", ["walk", "letters"], ["walk", "letters"]⟩,
  ⟨13, 8, "straight", ["walk"], ["walk"]⟩,
  ⟨14, 9, "behind", ["one", "other"], ["one", "other"]⟩,
  ⟨15, 10, "commute", ["one", "other"], ["one", "other"]⟩,
  ⟨17, 11, "_law_bag", ["script"], ["script", "great", "bag", "cell"]⟩,
  ⟨18, 12, "_law_take", ["bag", "many"], ["bag", "many", "rows", "told"]⟩,
  ⟨19, 13, "_law_steps_of", ["letters"], ["letters", "found", "letter"]⟩,
  ⟨20, 14, "_law_same", ["told", "due"], ["told", "due"]⟩,
  ⟨21, 15, "_law_left", ["walk", "known"], ["walk", "known", "found", "at", "one"]⟩,
  ⟨22, 16, "_law_as_they_stand", ["letters", "length"], ["letters", "length", "rows", "turn", "further", "step", "walk"]⟩,
  ⟨23, 17, "_law_ends", ["letters", "length"], ["letters", "length", "many", "turn", "further", "far", "out"]⟩,
  ⟨24, 18, "_law_length_right", ["letters", "length", "known"], ["letters", "length", "known", "walk", "far", "counts", "ends", "told", "rows"]⟩,
  ⟨25, 19, "_law_pairs_right", ["letters", "known"], ["letters", "known", "walks", "one", "other", "both", "turned"]⟩,
  ⟨26, 20, "law", ["script"], ["script", "bag", "letters", "most", "length"]⟩]
def kbs : List (Nat × Nat × List PySem.Str × List Nat) := [(8, 0, ["walk"], [0])]
def ics : List (PySem.Str × Int) := [("MOST_LETTERS", 4)]
def blts : List PySem.Str := ["tuple", "len", "isinstance", "int", "bool", "list", "abs", "all", "range", "sum", "min", "max"]
abbrev OL : PySem.W.OpenLaw := PySem.Challenge.rw_clubsturned_k01_whole_all_short_walks_st
def top (i : Nat) : PySem.Stmt := PySem.Challenge.pw_clubsturned_k01_whole_all_short_walks_st.main.body.getD i (.Pass ⟨0, 0, 0, 0⟩)
theorem rows_ok : (rows.all fun r => R.rowC top pg (R.gdOf rows kbs ics blts) r) = true := by decide +kernel
theorem bd_ok : R.AllP (R.Bd top) rows :=
  ⟨fun _ _ _ _ _ _ us hl => match us, hl with | [_], _ => rfl,
  fun _ _ _ _ _ _ us hl => match us, hl with | [_], _ => rfl,
  fun _ _ _ _ _ _ us hl => match us, hl with | [_], _ => rfl,
  fun _ _ _ _ _ _ us hl => match us, hl with | [_, _], _ => rfl,
  fun _ _ _ _ _ _ us hl => match us, hl with | [_, _], _ => rfl,
  fun _ _ _ _ _ _ us hl => match us, hl with | [_, _], _ => rfl,
  fun _ _ _ _ _ _ us hl => match us, hl with | [_], _ => rfl,
  fun _ _ _ _ _ _ us hl => match us, hl with | [_, _], _ => rfl,
  fun _ _ _ _ _ _ us hl => match us, hl with | [_, _], _ => rfl,
  fun _ _ _ _ _ _ us hl => match us, hl with | [_], _ => rfl,
  fun _ _ _ _ _ _ us hl => match us, hl with | [_, _], _ => rfl,
  fun _ _ _ _ _ _ us hl => match us, hl with | [_], _ => rfl,
  fun _ _ _ _ _ _ us hl => match us, hl with | [_, _], _ => rfl,
  fun _ _ _ _ _ _ us hl => match us, hl with | [_, _], _ => rfl,
  fun _ _ _ _ _ _ us hl => match us, hl with | [_, _], _ => rfl,
  fun _ _ _ _ _ _ us hl => match us, hl with | [_, _], _ => rfl,
  fun _ _ _ _ _ _ us hl => match us, hl with | [_, _, _], _ => rfl,
  fun _ _ _ _ _ _ us hl => match us, hl with | [_, _], _ => rfl,
  fun _ _ _ _ _ _ us hl => match us, hl with | [_], _ => rfl, trivial⟩
theorem bk_ok : ∀ r ∈ rows, ∀ n ks perm, (r.id, n, ks, perm) ∈ kbs → R.Bk top r n ks perm := by
  intro r hr n ks perm hk
  simp only [kbs, List.mem_cons, List.not_mem_nil, or_false, Prod.mk.injEq] at hk
  rcases hk with ⟨h1, rfl, rfl, rfl⟩
  · have e : r = rows[6] := R.row_by (by decide +kernel) hr h1
    subst e
    intro _ _ _ _ _ _ us ws l1 l2
    match us, ws, l1, l2 with
    | [], [_], _, _ => exact ⟨_, rfl, rfl⟩
def lawRow : R.Rw := rows[18]
def lawId : Nat := 20
def lawAt : Nat := 26
def loose : List PySem.Str := (["ClubError", "InvalidWalk", "straightened", "MOST_LETTERS", "is_integer", "anew", "is_step", "is_a_walk", "need_walk", "straight", "behind", "commute", "_law_bag", "_law_take", "_law_steps_of", "_law_same", "_law_left", "_law_as_they_stand", "_law_ends", "_law_length_right", "_law_pairs_right"] : List PySem.Str)
end K01

namespace K01
open PySem (Str PyData)
open L2 (Key)
open R
theorem walks : HasWalks pg := ⟨rfl, rfl, rfl, rfl, rfl, rfl, rfl, rfl⟩
theorem steps_ok (n : Nat) (h1 : 1 ≤ n) (h4 : n ≤ 4) (k : Nat) (h : Hh) : callN pg (k + 1) 13 [.int n] h = .ok (.ref h.length) (h ++ [.lst .free (Li (stepsL n))]) := by
  have c : n = 1 ∨ n = 2 ∨ n = 3 ∨ n = 4 := by omega
  rcases c with rfl | rfl | rfl | rfl
  · rw [callP (fn := c_law_steps_of) rfl rfl]; rfl
  · rw [callP (fn := c_law_steps_of) rfl rfl]; rfl
  · rw [callP (fn := c_law_steps_of) rfl rfl]; rfl
  · rw [callP (fn := c_law_steps_of) rfl rfl]; rfl
/-- one further step behind each walk of rows, at the step s -/
abbrev ext (rows : List (List Int)) (s : Int) : List (List Int) := rows.map (· ++ [s])
theorem ext_map (rows : List (List Int)) (s : Int) : (Lt rows).map (fun w => match w with | .tup l => W.tup (l ++ [.int s]) | w => w) = Lt (ext rows s) := by
  unfold Lt
  rw [List.map_map, List.map_map]
  refine List.map_congr_left fun l _ => ?_
  simp [Li_append, Li_cons, Li_nil]
abbrev cExt : Ex := .lc (.bin .add (.var 6) (.tup (.cons (.var 5) .nil))) (.nm 6) [6] (.val (.var 2))
theorem comp_ok (F : Nat → List W → Hh → Res W) (o0 o1 o3 o4 o6 : Option W) (a : Nat) (s : Int) (rows : List (List Int)) (hr : ∀ l ∈ rows, l.length < 100) (hl : rows.length < 16777216) (h : Hh) (e1 : h[a]? = some (.lst .free (Lt rows))) :
    denE F cExt [o0, o1, some (.ref a), o3, o4, some (.int s), o6] h = .ok (.ref h.length) (h ++ [.lst .free (Lt (ext rows s))]) := by
  rw [← ext_map]
  refine lc_over rfl e1 (by rw [len_Lt]; exact hl) fun w hw => ?_
  obtain ⟨l, hl, rfl⟩ := mem_Lt hw
  refine ⟨_, rfl, ?_⟩
  have := hr l hl
  have ct := fun hh => snoc_tup hh l s (by omega)
  simp [ct, Li_append, Li_cons, Li_nil]
theorem flat_len (rows : List (List Int)) (ds : List Int) : (ds.flatMap (ext rows)).length = ds.length * rows.length := by
  rw [List.length_flatMap]
  have e0 : (fun s => (ext rows s).length) = fun _ => rows.length := by funext s; simp
  rw [e0, sum_const]
abbrev cInner : Ss := .cons (.asg (.nm 4) (.bin .add (.var 4) cExt)) .nil
theorem inner_step (F : Nat → List W → Hh → Res W) (o0 o1 o3 o5 o6 : Option W) (a f : Nat) (s : Int) (rows : List (List Int)) (ds : List Int) (hr : ∀ l ∈ rows, l.length < 100) (hl : 8 * rows.length ≤ 16777216) (hd : ds.length < 8) (h : Hh)
    (e1 : h[a]? = some (.lst .free (Lt rows))) (e2 : h[f]? = some (.lst .free (Lt (ds.flatMap (ext rows))))) :
    denSs F cInner [o0, o1, some (.ref a), o3, some (.ref f), some (.int s), o6] h = .nx [o0, o1, some (.ref a), o3, some (.ref (h.length + 1)), some (.int s), o6] (h ++ [.lst .free (Lt (ext rows s))] ++ [.lst .free (Lt ((ds ++ [s]).flatMap (ext rows)))]) := by
  have q := comp_ok F o0 o1 o3 (some (.ref f)) o6 a s rows hr (by omega) h e1
  have c := cat_ref (h := h ++ [.lst .free (Lt (ext rows s))]) (a := f) (b := h.length) (get_app e2) (get_end _ _) (by
    simp only [len_Lt, flat_len, List.length_map]
    have : (ds.length + 1) * rows.length ≤ 8 * rows.length := Nat.mul_le_mul_right _ hd
    rw [Nat.add_mul] at this
    omega)
  have e3 : Lt ((ds ++ [s]).flatMap (ext rows)) = Lt (ds.flatMap (ext rows)) ++ Lt (ext rows s) := by
    rw [List.flatMap_append, Lt_append]
    congr 2
    simp
  rw [e3]
  simp only [dSs_cons, dS_asg, dE_bin, dE_var, List.getElem?_cons_zero, List.getElem?_cons_succ, bindO, q, c, tg_nm, List.set_cons_succ, List.set_cons_zero, dSs_nil, List.length_append, List.length_cons, List.length_nil]
theorem prefix_lt {d : List W} {w : W} {r : List W} {l : List Int} (h : d ++ w :: r = Li l) : d.length < l.length := by
  have := congrArg List.length h
  simp only [List.length_append, List.length_cons, len_Li] at this
  omega
theorem inner (k n : Nat) (o1 o3 o5 o6 : Option W) (rows : List (List Int)) (hr : ∀ l ∈ rows, l.length < 100) (hl : 8 * rows.length ≤ 16777216) (h1 : 1 ≤ n) (h4 : n ≤ 4) (a f : Nat) (h : Hh)
    (ea : h[a]? = some (.lst .free (Lt rows))) (ef : h[f]? = some (.lst .free [])) :
    ∃ f' o5' o6' h', denS (callN pg (k + 1)) (.loop (.nm 5) (.val (.call 13 (.cons (.var 0) .nil))) cInner)
      [some (.int n), o1, some (.ref a), o3, some (.ref f), o5, o6] h = .nx [some (.int n), o1, some (.ref a), o3, some (.ref f'), o5', o6'] h' ∧ h'[f']? = some (.lst .free (Lt ((stepsL n).flatMap (ext rows)))) := by
  have hf : f < h.length := (List.getElem?_eq_some_iff.mp ef).1
  have ha : a < h.length := (List.getElem?_eq_some_iff.mp ea).1
  obtain ⟨b, hbe⟩ : ∃ b, h.length = b := ⟨_, rfl⟩
  have hb : (h ++ [Ob.lst .free (Li (stepsL n))])[b]? = some (.lst .free (Li (stepsL n))) := by rw [← hbe]; exact get_end _ _
  have hi : denE (callN pg (k + 1)) (.call 13 (.cons (.var 0) .nil)) [some (.int n), o1, some (.ref a), o3, some (.ref f), o5, o6] h = .ok (.ref b) (h ++ [.lst .free (Li (stepsL n))]) := by
    rw [← hbe]
    simp [steps_ok n h1 h4]
  obtain ⟨σ', h', e, _, f', o5', o6', ds, es, eds, nf, e2⟩ := loop_over (t := .nm 5) (b := cInner) (I := fun d σ h' => ∃ f' o5' o6' ds, σ = [some (.int n), o1, some (.ref a), o3, some (.ref f'), o5', o6'] ∧ d = Li ds ∧ (f' ≠ b ∧ h'[a]? = some (.lst .free (Lt rows))) ∧ h'[f']? = some (.lst .free (Lt (ds.flatMap (ext rows))))) hi hb
    ⟨f, o5, o6, [], rfl, rfl, ⟨by omega, by rw [get_set_ne (by omega)]; exact get_app ea⟩, by rw [get_set_ne (by omega)]; exact get_app ef⟩ (by
      rintro d w r σ h' hd eb ⟨f', o5', o6', ds, rfl, rfl, ⟨nf, e1⟩, e2⟩
      have hw : w ∈ Li (stepsL n) := by rw [← hd]; simp
      obtain ⟨s, hs, rfl⟩ := mem_Li hw
      have hdl := prefix_lt hd
      rw [stepsL_len, len_Li] at hdl
      have lb : b < h'.length := (List.getElem?_eq_some_iff.mp eb).1
      have st := inner_step (callN pg (k + 1)) (some (.int n)) o1 o3 (some (.int s)) o6' a f' s rows ds hr hl (by omega) h' e1 e2
      refine ⟨_, _, _, rfl, st, get_app (get_app eb), h'.length + 1, some (.int s), o6', ds ++ [s], rfl, (by rw [Li_append]; rfl), ⟨by omega, get_app (get_app e1)⟩, ?_⟩
      have := get_end (h' ++ [Ob.lst .free (Lt (ext rows s))]) (Ob.lst .free (Lt ((ds ++ [s]).flatMap (ext rows))))
      simpa using this)
  subst es
  have eds' : stepsL n = ds := Li_inj eds
  rw [← eds'] at e2
  exact ⟨f', o5', o6', _, e, by rw [get_set_ne (Ne.symm nf.1)]; exact e2⟩
theorem lenW_all {n L : Nat} (h4 : n ≤ 4) (hL : L ≤ 5) : (allW n L).length ≤ 32768 := by
  rw [allW_len]
  have a : (2 * n) ^ L ≤ 8 ^ L := Nat.pow_le_pow_left (by omega) L
  have b : 8 ^ L ≤ 8 ^ 5 := Nat.pow_le_pow_right (by decide) hL
  have c : (8 : Nat) ^ 5 = 32768 := by decide
  omega
theorem lenW8 {n L : Nat} (h4 : n ≤ 4) (hL : L ≤ 5) : 8 * (allW n L).length ≤ 16777216 := by
  have := lenW_all h4 hL
  omega
theorem lenW_each {n L : Nat} (hL : L ≤ 5) : ∀ l ∈ allW n L, l.length < 100 := fun l hl => by
  rw [(allW_mem hl).2]; omega
abbrev cTurn : Ss := .cons (.asg (.nm 4) (.lst .nil)) (.cons (.loop (.nm 5) (.val (.call 13 (.cons (.var 0) .nil))) cInner) (.cons (.asg (.nm 2) (.var 4)) .nil))
theorem turn (k n L : Nat) (o1 o3 o4 o5 o6 : Option W) (h1 : 1 ≤ n) (h4 : n ≤ 4) (hL : L ≤ 5) (a : Nat) (h : Hh) (ea : h[a]? = some (.lst .free (Lt (allW n L)))) :
    ∃ f o4' o5' o6' h', denSs (callN pg (k + 1)) cTurn [some (.int n), o1, some (.ref a), o3, o4, o5, o6] h = .nx [some (.int n), o1, some (.ref f), o3, o4', o5', o6'] h' ∧ h'[f]? = some (.lst .free (Lt (allW n (L + 1)))) := by
  obtain ⟨f, o5', o6', h', e, e2⟩ := inner k n o1 o3 o5 o6 (allW n L) (lenW_each hL) (lenW8 h4 hL) h1 h4 a h.length (h ++ [.lst .free []]) (get_app ea) (get_end _ _)
  refine ⟨f, some (.ref f), o5', o6', h', ?_, e2⟩
  have s1 : denS (callN pg (k + 1)) (.asg (.nm 4) (.lst .nil)) [some (.int n), o1, some (.ref a), o3, o4, o5, o6] h = .nx [some (.int n), o1, some (.ref a), o3, some (.ref h.length), o5, o6] (h ++ [.lst .free []]) := s_asg e_lst0
  have s3 : denS (callN pg (k + 1)) (.asg (.nm 2) (.var 4)) [some (.int n), o1, some (.ref a), o3, some (.ref f), o5', o6'] h' = .nx [some (.int n), o1, some (.ref f), o3, some (.ref f), o5', o6'] h' := s_asg rfl
  exact (ss_nx s1).trans ((ss_nx e).trans ((ss_nx s3).trans ss_end))
theorem rngL_len0 (n : Nat) : (rngL 0 n).length = n := rngL_len n 0
theorem stand_ok (k n L : Nat) (h1 : 1 ≤ n) (h4 : n ≤ 4) (hL : L ≤ 5) (h : Hh) : callN pg (k + 2) 16 [.int n, .int L] h = .ok (.ref h.length) (h ++ [.lst .free (Lt (allW n L))]) := by
  obtain ⟨σ', h', e, a, o3, o4, o5, o6, rfl, ea⟩ := fl_inv2 (I := fun d σ h => ∃ a o3 o4 o5 o6, σ = [some (.int n), some (.int L), some (.ref a), o3, o4, o5, o6] ∧ h[a]? = some (.lst .free (Lt (allW n d.length)))) (set := tgSet (.nm 3)) (body := denSs (callN pg (k + 1)) cTurn)
    (all := rngL 0 L) (rngL 0 L) [] [some (.int n), some (.int L), some (.ref 0), none, none, none, none] [.lst .free (Lt (allW n 0))] rfl ⟨0, none, none, none, none, rfl, rfl⟩ (by
      rintro d w r σ h hd ⟨a, o3, o4, o5, o6, rfl, ea⟩
      have hl := congrArg List.length hd
      rw [rngL_len0] at hl
      simp only [List.length_append, List.length_cons] at hl
      obtain ⟨f, o4', o5', o6', h', e, e2⟩ := turn k n d.length (some (.int L)) (some w) o4 o5 o6 h1 h4 (by omega) a h ea
      exact ⟨_, _, _, rfl, e, f, some w, o4', o5', o6', rfl, by rw [List.length_append]; exact e2⟩)
  rw [rngL_len0] at ea
  have s1 : denS (callN pg (k + 1)) (.asg (.nm 2) (.lst (.cons (.tup .nil) .nil))) [some (.int n), some (.int L), none, none, none, none, none] [] = .nx [some (.int n), some (.int L), some (.ref 0), none, none, none, none] [.lst .free (Lt (allW n 0))] := s_asg rfl
  have s2 : denS (callN pg (k + 1)) (.loop (.nm 3) (.rng1 (.var 1)) cTurn) [some (.int n), some (.int L), some (.ref 0), none, none, none, none] [.lst .free (Lt (allW n 0))] = .nx [some (.int n), some (.int L), some (.ref a), o3, o4, o5, o6] h' := s_loop (i_rng1 rfl (by omega)) e
  have s3 : denS (callN pg (k + 1)) (.ret (.var 2)) [some (.int n), some (.int L), some (.ref a), o3, o4, o5, o6] h' = .rt (.ref a) h' := s_ret rfl
  have s : denSs (callN pg (k + 1)) c_law_as_they_stand.body ([W.int n, .int L].map some ++ List.replicate (c_law_as_they_stand.ns - c_law_as_they_stand.np) none) [] = .rt (.ref a) h' :=
    (ss_nx s1).trans ((ss_nx s2).trans (ss_rt s3))
  exact call_list rfl rfl rfl s ea (pures_Lt _)
end K01

namespace K01
open PySem (Str PyData)
open L2 (Key)
open R
def keyL (l : List Int) : List Key := l.map Sum.inl
theorem kTup_Li (l : List Int) : kTup (.tup (Li l)) = some (keyL l) := mapO_Li (f := kAtom) (g := Sum.inl) (fun _ => rfl) l
theorem keyL_inj : ∀ {l m : List Int}, keyL l = keyL m → l = m
  | [], [], _ => rfl
  | [], _ :: _, h => by cases h
  | _ :: _, [], h => by cases h
  | x :: l, y :: m, h => by
    simp only [keyL, List.map_cons] at h
    injection h with h1 h2
    injection h1 with h1
    rw [h1, keyL_inj (show keyL l = keyL m from h2)]
abbrev One (l : List Int) : List W := [.tup (Li (red l))]
structure Memo (h : Hh) (d B : Nat) : Prop where
  ex : ∃ kvs, h[d]? = some (.dT .free kvs) ∧ kvs.length ≤ B ∧ ∀ p ∈ kvs, ∃ l r, p = (keyL l, W.ref r) ∧ h[r]? = some (.lst .free (One l))
def Keep (d : Nat) (h h' : Hh) : Prop := h.length ≤ h'.length ∧ ∀ j < h.length, j ≠ d → h'[j]? = h[j]?
theorem Keep.refl (d : Nat) (h : Hh) : Keep d h h := ⟨Nat.le_refl _, fun _ _ _ => rfl⟩
theorem Keep.trans {d : Nat} {h h' h'' : Hh} (a : Keep d h h') (b : Keep d h' h'') : Keep d h h'' := ⟨Nat.le_trans a.1 b.1, fun j hj n => by rw [b.2 j (Nat.lt_of_lt_of_le hj a.1) n, a.2 j hj n]⟩
theorem Keep.app (d : Nat) (h m : Hh) : Keep d h (h ++ m) := ⟨by simp, fun j hj _ => List.getElem?_append_left hj⟩
theorem Keep.get {d : Nat} {h h' : Hh} (k : Keep d h h') {j : Nat} {o : Ob} (e : h[j]? = some o) (n : j ≠ d) : h'[j]? = some o := by
  rw [k.2 j (List.getElem?_eq_some_iff.mp e).1 n, e]
theorem Memo.app {h : Hh} {d B : Nat} (m : Memo h d B) (x : Hh) : Memo (h ++ x) d B := by
  obtain ⟨kvs, e, l, q⟩ := m.ex
  exact ⟨kvs, get_app e, l, fun p hp => let ⟨l, r, e1, e2⟩ := q p hp; ⟨l, r, e1, get_app e2⟩⟩
theorem val_mem {κ : Type} [DecidableEq κ] {k : κ} {w : W} : ∀ {kvs : List (κ × W)}, valW kvs k = some w → (k, w) ∈ kvs
  | [], h => by cases h
  | p :: r, h => by
    unfold valW at h
    split at h
    · rename_i e
      cases h
      obtain ⟨a, b⟩ := p
      cases e
      exact List.mem_cons_self
    · exact List.mem_cons_of_mem _ (val_mem h)
theorem put_mem {κ : Type} [DecidableEq κ] {k : κ} {w : W} {kvs : List (κ × W)} {p : κ × W} (h : p ∈ putW kvs k w) : p = (k, w) ∨ p ∈ kvs := by
  unfold putW at h
  split at h
  · obtain ⟨q, hq, e⟩ := List.mem_map.mp h
    split at e
    · rename_i e2
      left; rw [← e, e2]
    · right; rw [← e]; exact hq
  · rcases List.mem_append.mp h with h | h
    · exact .inr h
    · exact .inl (List.mem_singleton.mp h)
theorem put_len {κ : Type} [DecidableEq κ] (k : κ) (w : W) (kvs : List (κ × W)) : (putW kvs k w).length ≤ kvs.length + 1 := by
  unfold putW
  split
  · rw [List.length_map]; omega
  · simp
theorem dget_T {h : Hh} {d : Nat} {k : Lk} {kvs : List (List Key × W)} (e : h[d]? = some (.dT k kvs)) (l : List Int) : dget h (.ref d) (.tup (Li l)) = some (valW kvs (keyL l)) := by
  simp only [dget, e, kTup_Li]
theorem isDict_T {h : Hh} {d : Nat} {k : Lk} {kvs : List (List Key × W)} (e : h[d]? = some (.dT k kvs)) : isDict h (.ref d) = true := by simp only [isDict, e]
theorem in_T {h : Hh} {d : Nat} {k : Lk} {kvs : List (List Key × W)} (e : h[d]? = some (.dT k kvs)) (l : List Int) : cmpop .isin (.tup (Li l)) (.ref d) h = some (valW kvs (keyL l)).isSome := by
  simp only [cmpop, isDict_T e, if_true, dget_T e]
theorem index_T {h : Hh} {d : Nat} {k : Lk} {kvs : List (List Key × W)} (e : h[d]? = some (.dT k kvs)) (l : List Int) : index (.ref d) (.tup (Li l)) h = valW kvs (keyL l) := by
  simp only [index, e, dget_T e]
theorem setix_T {h : Hh} {d : Nat} {kvs : List (List Key × W)} (e : h[d]? = some (.dT .free kvs)) (l : List Int) (v : W) (hl : kvs.length < 16777216) : setix (.ref d) (.tup (Li l)) v h = some (h.set d (.dT .free (putW kvs (keyL l) v))) := by
  have hb : Nat.blt kvs.length 16777216 = true := Nat.ble_eq_true_of_le hl
  simp only [setix, e, dput, kTup_Li, hb, if_true]
/-- kept -/
theorem Memo.put {h : Hh} {d B : Nat} (m : Memo h d B) {l : List Int} {r : Nat} (er : h[r]? = some (.lst .free (One l))) (hB : B < 16777216) : ∃ h', setix (.ref d) (.tup (Li l)) (.ref r) h = some h' ∧ Memo h' d (B + 1) ∧ Keep d h h' ∧ h'[r]? = some (.lst .free (One l)) := by
  obtain ⟨kvs, e, hl, q⟩ := m.ex
  have ne : ∀ {r : Nat} {xs : List W}, h[r]? = some (.lst .free xs) → d ≠ r := fun er z => by subst z; rw [e] at er; cases er
  refine ⟨_, setix_T e l (.ref r) (by omega), ⟨_, get_set_eq e, by have := put_len (keyL l) (.ref r) kvs; omega, fun p hp => ?_⟩, ⟨by simp, fun j _ n => get_set_ne (Ne.symm n)⟩, by rw [get_set_ne (ne er)]; exact er⟩
  rcases put_mem hp with rfl | hp
  · exact ⟨l, r, rfl, by rw [get_set_ne (ne er)]; exact er⟩
  · obtain ⟨l', r', e1, e2⟩ := q p hp
    exact ⟨l', r', e1, by rw [get_set_ne (ne e2)]; exact e2⟩
def gB : Nat → Nat
  | 0 => 1
  | n + 1 => 1 + (n + 1) * gB n
theorem toD_One (h : Hh) (l : List Int) (n : Nat) : mapO (toD (n + 2) h) (One l) = some [.tuple ((red l).map PyData.int)] := by
  simp only [mapO, toD_tup]
/-- is the rest among those found -/
theorem notin_found {h : Hh} {f : Nat} {k : Lk} {l l' : List Int} {fs : List W} (e : h[f]? = some (.lst k fs)) (hf : fs = [] ∨ fs = One l) (el : red l' = red l) : cmpop .notin (.tup (Li (red l'))) (.ref f) h = some (decide (fs = [])) := by
  have nd : isDict h (.ref f) = false := by simp only [isDict, e]
  have t1 : toD 60 h (.tup (Li (red l'))) = some (.tuple ((red l').map PyData.int)) := toD_tup h 58 _
  rcases hf with rfl | rfl
  · have t2 : toD 60 h (.ref f) = some (.list []) := by
      show (match h[f]? with | some (.lst _ xs) => (match mapO (toD 59 h) xs with | some ds => some (PyData.list ds) | none => none) | _ => none) = _
      rw [e]; rfl
    simp only [cmpop, nd, Bool.false_eq_true, if_false, inW, t1, t2, List.any_nil, decide_true, Bool.not_false]
  · have t2 : toD 60 h (.ref f) = some (.list [.tuple ((red l).map PyData.int)]) := by
      show (match h[f]? with | some (.lst _ xs) => (match mapO (toD 59 h) xs with | some ds => some (PyData.list ds) | none => none) | _ => none) = _
      rw [e]
      show (match mapO (toD 59 h) (One l) with | some ds => some (PyData.list ds) | none => none) = _
      rw [toD_One h l 57]
    have t3 : PyData.eqv (.tuple ((red l).map PyData.int)) (.tuple ((red l').map PyData.int)) = true := by
      simp only [PyData.eqv, eqvAll_ints, el, decide_true]
    simp only [cmpop, nd, Bool.false_eq_true, if_false, inW, t1, t2, List.any_cons, List.any_nil, t3, Bool.true_or, Bool.not_true]
    simp
end K01

namespace K01
open PySem (Str PyData)
open L2 (Key)
open R
theorem cut_hi {xs : List W} {i : Nat} (h : i ≤ xs.length) : cutW xs none (some (i : Int)) = xs.take i := by
  have c : ¬ (i : Int) < 0 := by omega
  simp only [cutW, sIx, if_neg c, Int.toNat_natCast, List.drop_zero, Nat.sub_zero, Nat.min_eq_left h]
theorem cut_lo {xs : List W} {i : Nat} (h : i ≤ xs.length) : cutW xs (some (i : Int)) none = xs.drop i := by
  have c : ¬ (i : Int) < 0 := by omega
  simp only [cutW, sIx, if_neg c, Int.toNat_natCast, Nat.min_eq_left h]
  exact List.take_of_length_le (by simp)
theorem Li_take (l : List Int) (i : Nat) : (Li l).take i = Li (l.take i) := List.map_take.symm
theorem Li_drop (l : List Int) (i : Nat) : (Li l).drop i = Li (l.drop i) := List.map_drop.symm
theorem Li_get {l : List Int} {i : Nat} {x : Int} (e : l[i]? = some x) : (Li l)[i]? = some (.int x) := by
  show (l.map W.int)[i]? = _
  rw [List.getElem?_map, e]; rfl
abbrev cNear : Ex := .lcif (.var 4) (.nm 4) [4] (.val (.call 15 (.cons (.bin .add (.shi (.var 0) (.var 3)) (.slo (.var 0) (.bin .add (.var 3) (.cst (.int 2))))) (.cons (.var 1) .nil)))) (.val (.cmp .notin (.var 4) (.var 2)))
abbrev cTestNear : Tx := .val (.cmp .eq (.ix (.var 0) (.var 3)) (.neg (.ix (.var 0) (.bin .add (.var 3) (.cst (.int 1))))))
abbrev cLeftBody : Ss := .cons (.ife cTestNear (.cons (.asg (.nm 2) (.bin .add (.var 2) cNear)) .nil) .nil) .nil
theorem near_ok (F : Nat → List W → Hh → Res W) (l : List Int) (i : Nat) (x y : Int) (hl : l.length < 1000) (hi : l[i]? = some x) (hi2 : l[i + 1]? = some y) (exy : x = -y) (d f : Nat) (o4 : Option W) (fs : List W) (hf : fs = [] ∨ fs = One l) (h : Hh) (nf : f ≠ d)
    (ef : h[f]? = some (.lst .free fs)) (r : Nat) (h1 : Hh) (call : F 15 [.tup (Li (l.take i ++ l.drop (i + 2))), .ref d] h = .ok (.ref r) h1) (er : h1[r]? = some (.lst .free (One (l.take i ++ l.drop (i + 2))))) (kp : Keep d h h1) :
    denS F (.asg (.nm 2) (.bin .add (.var 2) cNear)) [some (.tup (Li l)), some (.ref d), some (.ref f), some (.int i), o4] h =
      .nx [some (.tup (Li l)), some (.ref d), some (.ref (h1.length + 1)), some (.int i), o4] (h1 ++ [.lst .free (if fs = [] then One l else [])] ++ [.lst .free (One l)]) := by
  have li : i + 1 < l.length := (List.getElem?_eq_some_iff.mp hi2).1
  have el : red (l.take i ++ l.drop (i + 2)) = red l := by
    have e2 : l = l.take i ++ x :: -x :: l.drop (i + 2) := by
      have y2 : -x = y := by omega
      rw [y2]
      have a1 : l.drop i = x :: l.drop (i + 1) := by
        have li0 : i < l.length := by omega
        rw [List.drop_eq_getElem_cons li0]
        rw [List.getElem?_eq_getElem li0] at hi
        rw [Option.some.inj hi]
      have a2 : l.drop (i + 1) = y :: l.drop (i + 2) := by
        rw [List.drop_eq_getElem_cons li]
        rw [List.getElem?_eq_getElem li] at hi2
        rw [Option.some.inj hi2]
      rw [← a2, ← a1, List.take_append_drop]
    rw [show red l = red (l.take i ++ x :: -x :: l.drop (i + 2)) from congrArg red e2]
    exact (red_cut _ _ _).symm
  obtain ⟨l', hl'⟩ : ∃ l', l.take i ++ l.drop (i + 2) = l' := ⟨_, rfl⟩
  rw [hl'] at call er el
  have ef1 := kp.get ef nf
  have it : denE F (.call 15 (.cons (.bin .add (.shi (.var 0) (.var 3)) (.slo (.var 0) (.bin .add (.var 3) (.cst (.int 2))))) (.cons (.var 1) .nil))) [some (.tup (Li l)), some (.ref d), some (.ref f), some (.int i), o4] h = .ok (.ref r) h1 := by
    have c1 : cutW (Li l) none (some (i : Int)) = Li (l.take i) := by rw [cut_hi (by rw [len_Li]; omega), Li_take]
    have c2 : cutW (Li l) (some ((i : Int) + 2)) none = Li (l.drop (i + 2)) := by
      have : (i : Int) + 2 = ((i + 2 : Nat) : Int) := by omega
      rw [this, cut_lo (by rw [len_Li]; omega), Li_drop]
    have c3 : ∀ h, binop .add (.tup (Li (l.take i))) (.tup (Li (l.drop (i + 2)))) h = .ok (.tup (Li l')) h := fun h => by
      rw [cat_tup h _ _ (by simp; omega), hl']
    have a1 : denE F (.shi (.var 0) (.var 3)) [some (.tup (Li l)), some (.ref d), some (.ref f), some (.int i), o4] h = .ok (.tup (Li (l.take i))) h := by
      rw [dE_shi]
      simp only [dE_var, List.getElem?_cons_zero, List.getElem?_cons_succ, bindO, sliceop, c1]
    have a2 : denE F (.slo (.var 0) (.bin .add (.var 3) (.cst (.int 2)))) [some (.tup (Li l)), some (.ref d), some (.ref f), some (.int i), o4] h = .ok (.tup (Li (l.drop (i + 2)))) h := by
      rw [dE_slo]
      simp only [dE_var, dE_bin, dE_cst, List.getElem?_cons_zero, List.getElem?_cons_succ, bindO, bo_add, sliceop, c2]
    have a3 : denE F (.bin .add (.shi (.var 0) (.var 3)) (.slo (.var 0) (.bin .add (.var 3) (.cst (.int 2))))) [some (.tup (Li l)), some (.ref d), some (.ref f), some (.int i), o4] h = .ok (.tup (Li l')) h := by
      rw [dE_bin, a1, bindO, a2, bindO, c3]
    rw [dE_call, dL_cons, a3, bindO, dL_cons, dE_var]
    simp only [List.getElem?_cons_zero, List.getElem?_cons_succ, bindO, dL_nil]
    exact call
  have q := lcif_over (el := .var 4) (tg := .nm 4) (own := [4]) (c := .val (.cmp .notin (.var 4) (.var 2))) (p := fun _ => decide (fs = [])) (g := fun w => w) it er (by simp) (by
    intro w hw
    rw [List.mem_singleton] at hw
    subst hw
    have ef2 : ∃ k, (h1.set r (.lst .lock (One l')))[f]? = some (.lst k fs) := by
      by_cases z : r = f
      · subst z
        rw [er] at ef1
        cases ef1
        exact ⟨_, get_set_eq er⟩
      · exact ⟨_, by rw [get_set_ne z]; exact ef1⟩
    obtain ⟨k, ef2⟩ := ef2
    refine ⟨_, rfl, ?_, fun _ => rfl⟩
    have nt := notin_found ef2 hf el
    show denT F (.val (.cmp .notin (.var 4) (.var 2))) [some (.tup (Li l)), some (.ref d), some (.ref f), some (.int i), some (.tup (Li (red l')))] _ = _
    rw [dT_val, dE_cmp, dE_var]
    simp only [List.getElem?_cons_zero, List.getElem?_cons_succ, bindO, dE_var, nt, tr_bl, ofO_some])
  have e3 : ((One l').filter fun _ => decide (fs = [])).map (fun w => w) = if fs = [] then One l else [] := by
    rw [List.map_id']
    by_cases z : fs = []
    · simp [z, One, el]
    · simp [z]
  rw [e3] at q
  have e4 : fs ++ (if fs = [] then One l else []) = One l := by
    rcases hf with rfl | rfl
    · rfl
    · rfl
  have c := cat_ref (h := h1 ++ [.lst .free (if fs = [] then One l else [])]) (a := f) (b := h1.length) (get_app ef1) (get_end _ _) (by rw [← List.length_append, e4]; simp)
  rw [e4] at c
  have ll : (h1 ++ [Ob.lst .free (if fs = [] then One l else [])]).length = h1.length + 1 := by simp
  rw [ll] at c
  refine s_asg ?_
  rw [dE_bin, dE_var]
  simp only [List.getElem?_cons_zero, List.getElem?_cons_succ, bindO, q, c]
end K01

namespace K01
open PySem (Str PyData)
open L2 (Key)
open R
theorem Memo.mono {h : Hh} {d B B' : Nat} (m : Memo h d B) (hB : B ≤ B') : Memo h d B' := by
  obtain ⟨kvs, e, l, q⟩ := m.ex
  exact ⟨kvs, e, Nat.le_trans l hB, q⟩
theorem straight_by : ∀ {l : List Int}, (∀ i x y, l[i]? = some x → l[i + 1]? = some y → x ≠ -y) → Straight l
  | [], _ => trivial
  | [_], _ => trivial
  | a :: b :: r, h => ⟨h 0 a b rfl rfl, straight_by (l := b :: r) fun i x y e1 e2 => h (i + 1) x y (by simpa using e1) (by simpa using e2)⟩
theorem fs_eq {h : Hh} {f b : Nat} {l : List Int} {fs : List W} {k k' : Lk} (e : h[f]? = some (.lst k fs)) (e2 : h[b]? = some (.lst k' [])) (hf : fs = [] ∨ fs = One l) : cmpop .eq (.ref f) (.ref b) h = some (decide (fs = [])) := by
  have t0 : toD 60 h (.ref b) = some (.list []) := by
    show (match h[b]? with | some (.lst _ xs) => (match mapO (toD 59 h) xs with | some ds => some (PyData.list ds) | none => none) | _ => none) = _
    rw [e2]; rfl
  rcases hf with rfl | rfl
  · have t2 : toD 60 h (.ref f) = some (.list []) := by
      show (match h[f]? with | some (.lst _ xs) => (match mapO (toD 59 h) xs with | some ds => some (PyData.list ds) | none => none) | _ => none) = _
      rw [e]; rfl
    simp only [cmpop, eqW, t0, t2]
    rfl
  · have t2 : toD 60 h (.ref f) = some (.list [.tuple ((red l).map PyData.int)]) := by
      show (match h[f]? with | some (.lst _ xs) => (match mapO (toD 59 h) xs with | some ds => some (PyData.list ds) | none => none) | _ => none) = _
      rw [e]
      show (match mapO (toD 59 h) (One l) with | some ds => some (PyData.list ds) | none => none) = _
      rw [toD_One h l 57]
    simp only [cmpop, eqW, t0, t2]
    rfl
theorem i_rngI {F : Nat → List W → Hh → Res W} {e : Ex} {σ : Sl} {h h1 : Hh} {j : Int} (a : denE F e σ h = .ok (.int j) h1) (h0 : -1000000000 ≤ j) (h2 : j ≤ 1000000000) : denI F (.rng1 e) σ h = .ok (rngL 0 j.toNat, []) h1 := by
  have ro : rngOk 0 j = true := by
    unfold rngOk
    simp only [h0, h2, decide_true, Bool.and_true]
    decide
  rw [dI_rng1, a]
  simp only [bindO, ro, if_true]
theorem rng_at {d r : List W} {w : W} {n : Nat} (h : d ++ w :: r = rngL 0 n) : w = .int (d.length : Int) ∧ d.length < n := by
  have hl := congrArg List.length h
  rw [rngL_len0] at hl
  simp only [List.length_append, List.length_cons] at hl
  have e : (rngL 0 n)[d.length]? = some w := by rw [← h]; simp
  rw [rngL_get, if_pos (by omega)] at e
  have := Option.some.inj e
  rw [← this]
  exact ⟨by simp, by omega⟩
theorem testNear (F : Nat → List W → Hh → Res W) {l : List Int} {i : Nat} {x y : Int} (hi : l[i]? = some x) (hi2 : l[i + 1]? = some y) (o1 o2 o4 : Option W) (h : Hh) :
    denT F cTestNear [some (.tup (Li l)), o1, o2, some (.int i), o4] h = .ok (decide (x = -y)) h := by
  have i1 : ∀ h, index (.tup (Li l)) (.int (i : Int)) h = some (.int x) := fun h => atW_nat (Li_get hi)
  have i2 : ∀ h, index (.tup (Li l)) (.int ((i : Int) + 1)) h = some (.int y) := fun h => atW_nat (j := i + 1) (Li_get hi2)
  rw [dT_val, dE_cmp, dE_ix]
  simp only [dE_var, List.getElem?_cons_zero, List.getElem?_cons_succ, bindO, i1, ofO_some, dE_neg, dE_ix, dE_var, dE_bin, dE_cst, bo_add, i2, fi_r, cm_eq, tr_bl]
abbrev cLeftLoop : Sm := .loop (.nm 3) (.rng1 (.bin .sub (.bi .len (.cons (.var 0) .nil)) (.cst (.int 1)))) cLeftBody
theorem budget (n m : Nat) (h : m ≤ n) : (m - 1) * gB (n - 1) + 1 ≤ gB n := by
  cases n with
  | zero =>
    have : m = 0 := by omega
    subst this
    decide
  | succ n =>
    simp only [gB, Nat.add_sub_cancel]
    have : (m - 1) * gB n ≤ (n + 1) * gB n := Nat.mul_le_mul_right _ (by omega)
    omega
abbrev LeftP (F : Nat → List W → Hh → Res W) (n : Nat) : Prop := ∀ (l : List Int) (h : Hh) (d B : Nat), l.length ≤ n → Memo h d B → B + gB n < 16777216 → ∃ r h', F 15 [.tup (Li l), .ref d] h = .ok (.ref r) h' ∧ h'[r]? = some (.lst .free (One l)) ∧ Memo h' d (B + gB n) ∧ Keep d h h'
theorem left_loop (F : Nat → List W → Hh → Res W) (n : Nat) (hn : n < 100) (ih : 2 ≤ n → LeftP F (n - 1)) (l : List Int) (hl : l.length ≤ n) (d B f : Nat) (o3 o4 : Option W) (h : Hh) (m : Memo h d B) (hB : B + gB n < 16777216) (nf : f ≠ d) (ef : h[f]? = some (.lst .free [])) :
    ∃ f' o3' o4' fs h', denS F cLeftLoop [some (.tup (Li l)), some (.ref d), some (.ref f), o3, o4] h = .nx [some (.tup (Li l)), some (.ref d), some (.ref f'), o3', o4'] h' ∧ f' ≠ d ∧ h'[f']? = some (.lst .free fs) ∧ (fs = One l ∨ fs = [] ∧ Straight l) ∧
      Memo h' d (B + (l.length - 1) * gB (n - 1)) ∧ Keep d h h' := by
  have hb := budget n l.length hl
  have it : denI F (.rng1 (.bin .sub (.bi .len (.cons (.var 0) .nil)) (.cst (.int 1)))) [some (.tup (Li l)), some (.ref d), some (.ref f), o3, o4] h = .ok (rngL 0 (l.length - 1), []) h := by
    have e : ((l.length : Int) - 1).toNat = l.length - 1 := by omega
    rw [← e]
    refine i_rngI ?_ (by omega) (by omega)
    rw [dE_bin, dE_bi, dL_cons, dE_var]
    simp only [List.getElem?_cons_zero, bindO, dL_nil, biop, lenW, len_Li, dE_cst, bo_sub]
  obtain ⟨σ', h', e, f', o3', o4', fs, rfl, nf', ef', st, m', kp⟩ := fl_inv2 (I := fun dd σ h' => ∃ f' o3' o4' fs, σ = [some (.tup (Li l)), some (.ref d), some (.ref f'), o3', o4'] ∧ f' ≠ d ∧ h'[f']? = some (.lst .free fs) ∧
      (fs = One l ∨ fs = [] ∧ ∀ i x y, i < dd.length → l[i]? = some x → l[i + 1]? = some y → x ≠ -y) ∧ Memo h' d (B + dd.length * gB (n - 1)) ∧ Keep d h h') (set := tgSet (.nm 3)) (body := denSs F cLeftBody) (all := rngL 0 (l.length - 1)) (rngL 0 (l.length - 1)) []
    [some (.tup (Li l)), some (.ref d), some (.ref f), o3, o4] h rfl ⟨f, o3, o4, [], rfl, nf, ef, .inr ⟨rfl, fun i x y hi => absurd hi (Nat.not_lt_zero _)⟩, by simpa using m, Keep.refl d h⟩ (by
      rintro dd w r σ h1 hd ⟨f1, o31, o41, fs, rfl, nf1, ef1, st, m1, kp1⟩
      obtain ⟨rfl, hlt⟩ := rng_at hd
      obtain ⟨i, hie⟩ : ∃ i, dd.length = i := ⟨_, rfl⟩
      have l1 : i < l.length := by omega
      have l2 : i + 1 < l.length := by omega
      have hi : l[i]? = some l[i] := List.getElem?_eq_getElem l1
      have hi2 : l[i + 1]? = some l[i + 1] := List.getElem?_eq_getElem l2
      have tn := testNear F hi hi2 (some (.ref d)) (some (.ref f1)) o41 h1
      have len1 : (dd ++ [W.int (dd.length : Int)]).length = i + 1 := by simp [hie]
      rw [hie] at m1 hlt st
      by_cases exy : l[i] = -l[i + 1]
      · rw [decide_eq_true exy] at tn
        have bb : i * gB (n - 1) + gB (n - 1) ≤ (l.length - 1) * gB (n - 1) := by
          have := Nat.mul_le_mul_right (gB (n - 1)) (show i + 1 ≤ l.length - 1 by omega)
          rw [Nat.add_mul, Nat.one_mul] at this
          exact this
        obtain ⟨rr, h2, c, er, m2, kp2⟩ := ih (by omega) (l.take i ++ l.drop (i + 2)) h1 d (B + i * gB (n - 1)) (by simp; omega) m1 (by omega)
        have nk := near_ok F l i _ _ (by omega) hi hi2 exy d f1 o41 fs (by rcases st with st | st; exact .inr st; exact .inl st.1) h1 nf1 ef1 rr h2 c er kp2
        refine ⟨_, _, h2 ++ [Ob.lst .free (if fs = [] then One l else [])] ++ [.lst .free (One l)], rfl, ?_, h2.length + 1, some (.int i), o41, One l, rfl, ?_, ?_, .inl rfl, ?_, ?_⟩
        · rw [hie]
          exact ss_nx ((s_ifT tn).trans ((ss_nx nk).trans ss_end))
        · have := kp2.1
          obtain ⟨kvs, ed, _, _⟩ := m2.ex
          have := (List.getElem?_eq_some_iff.mp ed).1
          omega
        · have := get_end (h2 ++ [Ob.lst .free (if fs = [] then One l else [])]) (Ob.lst .free (One l))
          simpa using this
        · rw [len1, Nat.add_mul, Nat.one_mul, ← Nat.add_assoc]
          exact (m2.app _).app _
        · exact ((kp1.trans kp2).trans (Keep.app d _ _)).trans (Keep.app d _ _)
      · rw [decide_eq_false exy] at tn
        refine ⟨_, _, h1, rfl, ?_, f1, some (.int i), o41, fs, rfl, nf1, ef1, ?_, ?_, kp1⟩
        · rw [hie]
          exact ss_nx ((s_ifF tn).trans ss_end)
        · rcases st with st | ⟨st, nn⟩
          · exact .inl st
          · refine .inr ⟨st, fun j x y hj e1 e2 => ?_⟩
            rw [len1] at hj
            by_cases z : j = i
            · subst z
              rw [hi] at e1
              rw [hi2] at e2
              rw [← Option.some.inj e1, ← Option.some.inj e2]
              exact exy
            · exact nn j x y (by omega) e1 e2
        · rw [len1]
          exact m1.mono (Nat.add_le_add_left (Nat.mul_le_mul_right (gB (n - 1)) (Nat.le_succ i)) B))
  rw [rngL_len0] at m' st
  refine ⟨f', o3', o4', fs, h', s_loop it e, nf', ef', ?_, m', kp⟩
  rcases st with st | ⟨st, nn⟩
  · exact .inl st
  · refine .inr ⟨st, straight_by fun i x y e1 e2 => nn i x y ?_ e1 e2⟩
    have := (List.getElem?_eq_some_iff.mp e2).1
    omega
theorem left_ok (k : Nat) : ∀ n : Nat, n < 100 → LeftP (callN pg (n + 1 + k)) n := by
  intro n
  induction n using Nat.strongRecOn with
  | ind n ih0 =>
  intro hn l h d B hl m hB
  have ih : 2 ≤ n → LeftP (callN pg (n + k)) (n - 1) := fun h2 => by
    have := ih0 (n - 1) (by omega) (by omega)
    have e : n - 1 + 1 + k = n + k := by omega
    rwa [e] at this
  obtain ⟨F, hF⟩ : ∃ F, callN pg (n + k) = F := ⟨_, rfl⟩
  rw [hF] at ih
  obtain ⟨kvs, ed, lk, mem⟩ := m.ex
  have hp : pures [W.tup (Li l), .ref d] = false := by simp [pures, W.pure]
  have fuel : n + 1 + k = n + k + 1 := by omega
  have tin : denT F (.val (.cmp .isin (.var 0) (.var 1))) [some (.tup (Li l)), some (.ref d), none, none, none] h = .ok (valW kvs (keyL l)).isSome h := by
    rw [dT_val, dE_cmp]
    simp only [dE_var, List.getElem?_cons_zero, List.getElem?_cons_succ, bindO, in_T ed, tr_bl, ofO_some]
  suffices s : ∃ r h', denSs F c_law_left.body [some (.tup (Li l)), some (.ref d), none, none, none] h = .rt (.ref r) h' ∧ h'[r]? = some (.lst .free (One l)) ∧ Memo h' d (B + gB n) ∧ Keep d h h' by
    obtain ⟨r, h', s1, s2⟩ := s
    refine ⟨r, h', ?_, s2⟩
    rw [fuel]
    exact call_heap (fn := c_law_left) rfl hp rfl (by rw [hF]; exact s1)
  cases ev : valW kvs (keyL l) with
  | some w =>
    rw [ev] at tin
    obtain ⟨l', r, e1, e2⟩ := mem _ (val_mem ev)
    have e3 : keyL l = keyL l' := congrArg Prod.fst e1
    have e4 : w = .ref r := congrArg Prod.snd e1
    subst e4
    rw [← keyL_inj e3] at e2
    have s1 : denS F (.ret (.ix (.var 1) (.var 0))) [some (.tup (Li l)), some (.ref d), none, none, none] h = .rt (.ref r) h := s_ret (by
      rw [dE_ix]
      simp only [dE_var, List.getElem?_cons_zero, List.getElem?_cons_succ, bindO, index_T ed, ev, ofO_some])
    exact ⟨r, h, ss_rt ((s_ifT tin).trans (ss_rt s1)), e2, m.mono (by omega), Keep.refl d h⟩
  | none =>
    rw [ev] at tin
    have s1 : denS F (.asg (.nm 2) (.lst .nil)) [some (.tup (Li l)), some (.ref d), none, none, none] h = .nx [some (.tup (Li l)), some (.ref d), some (.ref h.length), none, none] (h ++ [.lst .free []]) := s_asg e_lst0
    have ld : d < h.length := (List.getElem?_eq_some_iff.mp ed).1
    obtain ⟨f, o3, o4, fs, h2, s2, nf, ef, st, m2, kp⟩ := left_loop F n hn ih l hl d B h.length none none (h ++ [.lst .free []]) (m.app _) hB (by omega) (get_end _ _)
    have hfs : fs = [] ∨ fs = One l := by rcases st with st | st; exact .inr st; exact .inl st.1
    have te : denT F (.val (.cmp .eq (.var 2) (.lst .nil))) [some (.tup (Li l)), some (.ref d), some (.ref f), o3, o4] h2 = .ok (decide (fs = [])) (h2 ++ [.lst .free []]) := by
      rw [dT_val, dE_cmp, dE_var]
      simp only [List.getElem?_cons_zero, List.getElem?_cons_succ, bindO, e_lst0, fs_eq (get_app ef) (get_end h2 (Ob.lst .free [])) hfs, tr_bl, ofO_some]
    -- what is found, then
    have s3 : ∃ f3 h3, denS F (.ife (.val (.cmp .eq (.var 2) (.lst .nil))) (.cons (.asg (.nm 2) (.lst (.cons (.var 0) .nil))) .nil) .nil) [some (.tup (Li l)), some (.ref d), some (.ref f), o3, o4] h2 = .nx [some (.tup (Li l)), some (.ref d), some (.ref f3), o3, o4] h3 ∧
        h3[f3]? = some (.lst .free (One l)) ∧ Memo h3 d (B + (l.length - 1) * gB (n - 1)) ∧ Keep d h2 h3 := by
      rcases st with st | ⟨st, sl⟩
      · rw [st, decide_eq_false (by simp)] at te
        exact ⟨f, _, (s_ifF te).trans ss_end, by rw [← st]; exact get_app ef, m2.app _, Keep.app d _ _⟩
      · rw [decide_eq_true st] at te
        have s4 : denS F (.asg (.nm 2) (.lst (.cons (.var 0) .nil))) [some (.tup (Li l)), some (.ref d), some (.ref f), o3, o4] (h2 ++ [.lst .free []]) = .nx [some (.tup (Li l)), some (.ref d), some (.ref (h2 ++ [Ob.lst .free []]).length), o3, o4] (h2 ++ [.lst .free []] ++ [.lst .free [.tup (Li l)]]) := s_asg (by
          rw [dE_lst, dL_cons, dE_var]
          simp only [List.getElem?_cons_zero, bindO, dL_nil]
          rfl)
        refine ⟨_, _, (s_ifT te).trans ((ss_nx s4).trans ss_end), ?_, (m2.app _).app _, (Keep.app d _ _).trans (Keep.app d _ _)⟩
        rw [One, red_self sl]
        exact get_end _ _
    obtain ⟨f3, h3, s3, ef3, m3, kp3⟩ := s3
    have hb := budget n l.length hl
    obtain ⟨h4, e4, m4, kp4, ef4⟩ := m3.put ef3 (by omega)
    have s5 : denS F (.sub (.var 1) (.var 0) (.var 2)) [some (.tup (Li l)), some (.ref d), some (.ref f3), o3, o4] h3 = .nx [some (.tup (Li l)), some (.ref d), some (.ref f3), o3, o4] h4 := s_sub rfl rfl rfl e4
    have s6 : denS F (.ret (.var 2)) [some (.tup (Li l)), some (.ref d), some (.ref f3), o3, o4] h4 = .rt (.ref f3) h4 := s_ret rfl
    refine ⟨f3, h4, ?_, ef4, m4.mono (by omega), ((Keep.app d h _).trans kp).trans (kp3.trans kp4)⟩
    exact (ss_nx ((s_ifF tin).trans ss_end)).trans ((ss_nx s1).trans ((ss_nx s2).trans ((ss_nx s3).trans ((ss_nx s5).trans (ss_rt s6)))))
end K01

namespace K01
open PySem (Str PyData)
open L2 (Key)
open R
def ent (rs : List (List Int)) (k : List Int) : List Key × W := (keyL k, .int (rs.count k : Int))
/-- how often each came, in a dict -/
def Tally (kvs : List (List Key × W)) (rs : List (List Int)) : Prop := ∃ ks : List (List Int), kvs = ks.map (ent rs) ∧ ks.Nodup ∧ (∀ k, k ∈ ks ↔ k ∈ rs) ∧ ks.length ≤ rs.length
theorem val_ent (rs : List (List Int)) (k : List Int) : ∀ ks : List (List Int), valW (ks.map (ent rs)) (keyL k) = if k ∈ ks then some (.int (rs.count k : Int)) else none
  | [] => rfl
  | x :: ks => by
    have ih := val_ent rs k ks
    simp only [List.map_cons, valW, ent]
    by_cases h : x = k
    · subst h
      simp
    · have h2 : ¬ keyL x = keyL k := fun e => h (keyL_inj e)
      have h3 : ¬ k = x := fun e => h e.symm
      rw [if_neg h2]
      simp only [List.mem_cons, h3, false_or]
      exact ih
theorem Tally.get {kvs : List (List Key × W)} {rs : List (List Int)} (t : Tally kvs rs) (k : List Int) : (match valW kvs (keyL k) with | some w => some w | none => some (.int 0)) = some (W.int (rs.count k : Int)) := by
  obtain ⟨ks, rfl, nd, mem, _⟩ := t
  rw [val_ent]
  by_cases h : k ∈ ks
  · rw [if_pos h]
  · rw [if_neg h]
    have : rs.count k = 0 := List.count_eq_zero.mpr fun z => h ((mem k).mpr z)
    rw [this]; rfl
theorem count_snoc (rs : List (List Int)) (k x : List Int) : (rs ++ [k]).count x = rs.count x + if x = k then 1 else 0 := by
  rw [List.count_append]
  by_cases h : x = k
  · subst h; simp
  · have : ¬ k = x := fun e => h e.symm
    simp [h, List.count_cons, this]
theorem Tally.put {kvs : List (List Key × W)} {rs : List (List Int)} (t : Tally kvs rs) (k : List Int) : Tally (putW kvs (keyL k) (.int ((rs.count k : Int) + 1))) (rs ++ [k]) := by
  obtain ⟨ks, rfl, nd, mem, len⟩ := t
  have any : ((ks.map (ent rs)).any fun kv => decide (kv.1 = keyL k)) = decide (k ∈ ks) := by
    rw [List.any_map]
    by_cases h : k ∈ ks
    · rw [decide_eq_true h, List.any_eq_true]
      exact ⟨k, h, by simp [ent]⟩
    · rw [decide_eq_false h, List.any_eq_false]
      intro x hx
      have : ¬ keyL x = keyL k := fun e => h (keyL_inj e ▸ hx)
      simp [ent]
      exact decide_eq_false this
  unfold putW
  rw [any]
  by_cases h : k ∈ ks
  · rw [if_pos (by simpa using h)]
    refine ⟨ks, ?_, nd, fun x => ?_, by simp; omega⟩
    · rw [List.map_map]
      refine List.map_congr_left fun x _ => ?_
      by_cases e : x = k
      · subst e
        simp only [Function.comp, ent, if_true, count_snoc]
        rfl
      · have : ¬ keyL x = keyL k := fun z => e (keyL_inj z)
        simp only [Function.comp, ent, count_snoc, if_neg e, Nat.add_zero]
        exact if_neg this
    · rw [mem, List.mem_append, List.mem_singleton]
      constructor
      · exact .inl
      · rintro (z | rfl)
        · exact z
        · exact (mem x).mp h
  · rw [if_neg (by simpa using h)]
    refine ⟨ks ++ [k], ?_, ?_, fun x => ?_, by simp; omega⟩
    · rw [List.map_append]
      congr 1
      · refine List.map_congr_left fun x hx => ?_
        have e : ¬ x = k := fun z => h (z ▸ hx)
        simp only [ent, count_snoc, if_neg e, Nat.add_zero]
      · simp only [List.map_cons, List.map_nil, ent, count_snoc, if_true]
        rfl
    · rw [List.nodup_append]
      exact ⟨nd, by simp, fun a ha b hb => by rw [List.mem_singleton.mp hb]; exact fun z => h (z ▸ ha)⟩
    · simp only [List.mem_append, mem, List.mem_singleton]
/-- all of a length together -/
theorem sum_counts (p : List Int → Bool) : ∀ (rs ks : List (List Int)), ks.Nodup → (∀ k ∈ rs, k ∈ ks) → ((ks.filter p).map fun k => rs.count k).sum = rs.countP p
  | [], ks, _, _ => by
    have : ∀ l : List (List Int), (l.map fun k => ([] : List (List Int)).count k).sum = 0 := fun l => by
      induction l with
      | nil => rfl
      | cons a l ih => rw [List.map_cons, List.sum_cons, ih]; rfl
    rw [this]; rfl
  | x :: rs, ks, nd, mem => by
    have ih := sum_counts p rs ks nd fun k hk => mem k (List.mem_cons_of_mem _ hk)
    have one : ∀ l : List (List Int), (l.map fun k => (x :: rs).count k).sum = (l.map fun k => rs.count k).sum + l.count x := fun l => by
      induction l with
      | nil => rfl
      | cons a l ih =>
        have h1 : (x :: rs).count a = rs.count a + if x == a then 1 else 0 := List.count_cons
        have h2 : (a :: l).count x = l.count x + if a == x then 1 else 0 := List.count_cons
        have h3 : (x == a) = (a == x) := BEq.comm
        rw [List.map_cons, List.sum_cons, ih, List.map_cons, List.sum_cons, h1, h2, h3]
        omega
    have nf : (ks.filter p).Nodup := nd.sublist List.filter_sublist
    have cx : (ks.filter p).count x = if p x = true then 1 else 0 := by
      by_cases h : p x = true
      · rw [if_pos h]
        have hx : x ∈ ks.filter p := List.mem_filter.mpr ⟨mem x List.mem_cons_self, h⟩
        have a := List.nodup_iff_count.mp nf x
        have b := List.count_pos_iff.mpr hx
        omega
      · rw [if_neg h]
        exact List.count_eq_zero.mpr fun z => h (List.mem_filter.mp z).2
    rw [one, ih, cx, List.countP_cons]
theorem ends_ok (k n L : Nat) (h1 : 1 ≤ n) (h4 : n ≤ 4) (hL : L ≤ 5) (h : Hh) : callN pg (k + 1) 17 [.int n, .int L] h = .ok (.ref h.length) (h ++ [.lst .free (Li ((List.range (L + 2)).map fun f => (eN (2 * n) L f : Int)))]) := by
  have c : n = 1 ∨ n = 2 ∨ n = 3 ∨ n = 4 := by omega
  have cL : L = 0 ∨ L = 1 ∨ L = 2 ∨ L = 3 ∨ L = 4 ∨ L = 5 := by omega
  rcases c with rfl | rfl | rfl | rfl <;> rcases cL with rfl | rfl | rfl | rfl | rfl | rfl <;> (rw [callP (fn := c_law_ends) rfl rfl]; rfl)
end K01

namespace K01
open PySem (Str PyData)
open L2 (Key)
open R
abbrev cNoMatch : Sm := .ife (.val (.cmp .ne (.lst (.cons (.var 7) .nil)) (.call 15 (.cons (.var 3) (.cons (.var 2) .nil))))) (.cons (.ret (.cst (.bl false))) .nil) .nil
abbrev cAddOne : Sm := .sub (.var 5) (.var 7) (.bin .add (.get2 (.var 5) (.var 7) (.cst (.int 0))) (.cst (.int 1)))
abbrev cCountBody : Ss := .cons (.asg (.nm 7) (.call 8 (.cons (.var 3) .nil))) (.cons cNoMatch (.cons cAddOne .nil))
theorem ones_ne {h : Hh} {a b : Nat} {k k' : Lk} {l : List Int} (e : h[a]? = some (.lst k (One l))) (e2 : h[b]? = some (.lst k' (One l))) : cmpop .ne (.ref a) (.ref b) h = some false := by
  have t : ∀ {a : Nat} {k : Lk}, h[a]? = some (.lst k (One l)) → toD 60 h (.ref a) = some (.list [.tuple ((red l).map PyData.int)]) := fun {a k} e => by
    show (match h[a]? with | some (.lst _ xs) => (match mapO (toD 59 h) xs with | some ds => some (PyData.list ds) | none => none) | _ => none) = _
    rw [e]
    show (match mapO (toD 59 h) (One l) with | some ds => some (PyData.list ds) | none => none) = _
    rw [toD_One h l 57]
  simp only [cmpop, eqW, t e, t e2, PyData.eqv, PyData.eqvAll, eqvAll_ints, decide_true, Bool.true_and, Bool.not_true]
theorem Memo.setc {h : Hh} {d B c : Nat} (m : Memo h d B) (n : c ≠ d) {k : Lk} {kvs : List (List Key × W)} (e : h[c]? = some (.dT k kvs)) (o : Ob) : Memo (h.set c o) d B := by
  obtain ⟨kd, ed, l, q⟩ := m.ex
  refine ⟨kd, by rw [get_set_ne n]; exact ed, l, fun p hp => ?_⟩
  obtain ⟨l', r, e1, e2⟩ := q p hp
  exact ⟨l', r, e1, by rw [get_set_ne (fun z => by subst z; rw [e] at e2; cases e2)]; exact e2⟩
theorem count_step (F : Nat → List W → Hh → Res W) (l : List Int) (hS : ∀ h, F 8 [.tup (Li l)] h = .ok (.tup (Li (red l))) h) (hL : LeftP F 5) (ll : l.length ≤ 5) (o0 o1 o4 o6 o7 o8 : Option W) (d c B : Nat) (h : Hh) (n : c ≠ d)
    (kvs : List (List Key × W)) (rs : List (List Int)) (ec : h[c]? = some (.dT .free kvs)) (t : Tally kvs rs) (hr : rs.length < 100000) (m : Memo h d B) (hB : B + gB 5 < 16777216) :
    ∃ h' kvs', denSs F cCountBody [o0, o1, some (.ref d), some (.tup (Li l)), o4, some (.ref c), o6, o7, o8] h = .nx [o0, o1, some (.ref d), some (.tup (Li l)), o4, some (.ref c), o6, some (.tup (Li (red l))), o8] h' ∧
      h'[c]? = some (.dT .free kvs') ∧ Tally kvs' (rs ++ [red l]) ∧ Memo h' d (B + gB 5) ∧ h.length ≤ h'.length ∧ ∀ j < h.length, j ≠ d → j ≠ c → h'[j]? = h[j]? := by
  have s1 : denS F (.asg (.nm 7) (.call 8 (.cons (.var 3) .nil))) [o0, o1, some (.ref d), some (.tup (Li l)), o4, some (.ref c), o6, o7, o8] h = .nx [o0, o1, some (.ref d), some (.tup (Li l)), o4, some (.ref c), o6, some (.tup (Li (red l))), o8] h := s_asg (by
    rw [dE_call, dL_cons, dE_var]
    simp only [List.getElem?_cons_zero, List.getElem?_cons_succ, bindO, dL_nil, hS])
  obtain ⟨r, h2, c2, er, m2, kp⟩ := hL l (h ++ [.lst .free (One l)]) d B ll (m.app _) hB
  have ld : d < h.length := by obtain ⟨_, e, _⟩ := m.ex; exact (List.getElem?_eq_some_iff.mp e).1
  have e1 : h2[h.length]? = some (.lst .free (One l)) := kp.get (get_end _ _) (by omega)
  have te : denT F (.val (.cmp .ne (.lst (.cons (.var 7) .nil)) (.call 15 (.cons (.var 3) (.cons (.var 2) .nil))))) [o0, o1, some (.ref d), some (.tup (Li l)), o4, some (.ref c), o6, some (.tup (Li (red l))), o8] h = .ok false h2 := by
    rw [dT_val, dE_cmp, dE_lst, dL_cons, dE_var]
    simp only [List.getElem?_cons_zero, List.getElem?_cons_succ, bindO, dL_nil, List.length_cons, List.length_nil, Nat.zero_add, lineB1, if_true, dE_call, dL_cons, dE_var]
    rw [c2]
    simp only [bindO, ones_ne e1 er, tr_bl, ofO_some]
  have s2 : denS F cNoMatch [o0, o1, some (.ref d), some (.tup (Li l)), o4, some (.ref c), o6, some (.tup (Li (red l))), o8] h = .nx [o0, o1, some (.ref d), some (.tup (Li l)), o4, some (.ref c), o6, some (.tup (Li (red l))), o8] h2 := (s_ifF te).trans ss_end
  have ec2 : h2[c]? = some (.dT .free kvs) := kp.get (get_app ec) n
  have lk : kvs.length ≤ rs.length := by
    obtain ⟨ks, rfl, _, _, len⟩ := t
    simpa using len
  have g2 : mtop .get2 (.ref c) [.tup (Li (red l)), .int 0] h2 = .ok (.int (rs.count (red l) : Int)) h2 := by
    have tg := t.get (red l)
    simp only [mtop, dget_T ec2]
    cases ev : valW kvs (keyL (red l)) with
    | some w => rw [ev] at tg; simp only [Option.some.injEq] at tg; rw [tg]
    | none => rw [ev] at tg; simp only [Option.some.injEq] at tg; rw [tg]
  have s3 : denS F cAddOne [o0, o1, some (.ref d), some (.tup (Li l)), o4, some (.ref c), o6, some (.tup (Li (red l))), o8] h2 = .nx [o0, o1, some (.ref d), some (.tup (Li l)), o4, some (.ref c), o6, some (.tup (Li (red l))), o8] (h2.set c (.dT .free (putW kvs (keyL (red l)) (.int ((rs.count (red l) : Int) + 1))))) :=
    s_sub (by
      rw [dE_bin, dE_get2]
      simp only [dE_var, List.getElem?_cons_zero, List.getElem?_cons_succ, bindO, isDict_T ec2, if_true, dE_cst, g2, bo_add]) rfl rfl (setix_T ec2 _ _ (by omega))
  refine ⟨_, _, (ss_nx s1).trans ((ss_nx s2).trans ((ss_nx s3).trans ss_end)), get_set_eq ec2, t.put (red l), m2.setc n ec2 _, ?_, fun j hj n1 n2 => ?_⟩
  · rw [List.length_set]
    have := kp.1
    simp at this
    omega
  · rw [get_set_ne (Ne.symm n2), kp.2 j (by simp; omega) n1]
    exact List.getElem?_append_left hj
abbrev cCount : Sm := .loop (.nm 3) (.val (.call 16 (.cons (.var 0) (.cons (.var 1) .nil)))) cCountBody
theorem Lt_snoc {d : List W} {w : W} {r : List W} {ls : List (List Int)} (h : d ++ w :: r = Lt ls) : ∃ ds l rs, ls = ds ++ l :: rs ∧ d = Lt ds ∧ w = .tup (Li l) := by
  have e : d = (Lt ls).take d.length := by rw [← h]; simp
  have e2 : w :: r = (Lt ls).drop d.length := by rw [← h]; simp
  have t1 : (Lt ls).take d.length = Lt (ls.take d.length) := List.map_take.symm
  have t2 : (Lt ls).drop d.length = Lt (ls.drop d.length) := List.map_drop.symm
  rw [t1] at e
  rw [t2] at e2
  cases hd : ls.drop d.length with
  | nil => rw [hd] at e2; cases e2
  | cons l rs =>
    rw [hd] at e2
    have := (List.cons.inj (show w :: r = .tup (Li l) :: Lt rs from e2)).1
    exact ⟨ls.take d.length, l, rs, by rw [← hd, List.take_append_drop], e, this⟩
theorem Lt_inj : ∀ {l m : List (List Int)}, Lt l = Lt m → l = m
  | [], [], _ => rfl
  | [], _ :: _, h => by cases h
  | _ :: _, [], h => by cases h
  | x :: l, y :: m, h => by
    rw [Lt_cons, Lt_cons] at h
    injection h with h1 h2
    injection h1 with h1
    rw [Li_inj h1, Lt_inj h2]
theorem count_loop (F : Nat → List W → Hh → Res W) (n L : Nat) (h4 : n ≤ 4) (hL5 : L ≤ 5) (hS : ∀ l h, Walk 4 l → l.length ≤ 5 → F 8 [.tup (Li l)] h = .ok (.tup (Li (red l))) h) (hL : LeftP F 5)
    (hA : ∀ h, F 16 [.int n, .int L] h = .ok (.ref h.length) (h ++ [.lst .free (Lt (allW n L))])) (o3 o4 o7 o8 : Option W) (d c e B : Nat) (h : Hh) (nc : c ≠ d) (ne : e ≠ d) (nec : e ≠ c) (E : Ob) (ee : h[e]? = some E) (ec : h[c]? = some (.dT .free [])) (m : Memo h d 0) :
    ∃ o3' o7' h' kvs, denS F cCount [some (.int n), some (.int L), some (.ref d), o3, o4, some (.ref c), some (.ref e), o7, o8] h = .nx [some (.int n), some (.int L), some (.ref d), o3', o4, some (.ref c), some (.ref e), o7', o8] h' ∧
      h'[c]? = some (.dT .free kvs) ∧ Tally kvs ((allW n L).map red) ∧ h'[e]? = some E := by
  have lc : c < h.length := (List.getElem?_eq_some_iff.mp ec).1
  have le : e < h.length := (List.getElem?_eq_some_iff.mp ee).1
  have ld : d < h.length := by obtain ⟨_, e, _⟩ := m.ex; exact (List.getElem?_eq_some_iff.mp e).1
  have lA := lenW_all h4 hL5
  obtain ⟨b, hb⟩ : ∃ b, h.length = b := ⟨_, rfl⟩
  have it : denE F (.call 16 (.cons (.var 0) (.cons (.var 1) .nil))) [some (.int n), some (.int L), some (.ref d), o3, o4, some (.ref c), some (.ref e), o7, o8] h = .ok (.ref b) (h ++ [.lst .free (Lt (allW n L))]) := by
    rw [dE_call, dL_cons, dE_var]
    simp only [List.getElem?_cons_zero, List.getElem?_cons_succ, bindO, dL_cons, dE_var, dL_nil, hA, hb]
  have eb : (h ++ [Ob.lst .free (Lt (allW n L))])[b]? = some (.lst .free (Lt (allW n L))) := by rw [← hb]; exact get_end _ _
  have m0 : Memo ((h ++ [Ob.lst .free (Lt (allW n L))]).set b (.lst .lock (Lt (allW n L)))) d (([] : List (List Int)).length * gB 5) := by
    obtain ⟨kd, ed, l, q⟩ := (m.app [Ob.lst .free (Lt (allW n L))]).ex
    have : kd = [] := List.length_eq_zero_iff.mp (by omega)
    subst this
    exact ⟨[], by rw [get_set_ne (by omega)]; exact ed, by simp, fun p hp => (by cases hp)⟩
  obtain ⟨σ', h', es, eb', o3', o7', kvs, ds, rfl, eds, ec', t, m', ee'⟩ := loop_over (t := .nm 3) (b := cCountBody) (I := fun dd σ h' => ∃ o3' o7' kvs ds, σ = [some (.int n), some (.int L), some (.ref d), o3', o4, some (.ref c), some (.ref e), o7', o8] ∧ dd = Lt ds ∧
      h'[c]? = some (.dT .free kvs) ∧ Tally kvs (ds.map red) ∧ Memo h' d (ds.length * gB 5) ∧ h'[e]? = some E) it eb
    ⟨o3, o7, [], [], rfl, rfl, by rw [get_set_ne (by omega)]; exact get_app ec, ⟨[], rfl, List.nodup_nil, fun k => Iff.rfl, Nat.le_refl _⟩, m0, by rw [get_set_ne (by omega)]; exact get_app ee⟩ (by
      rintro dd w r σ h1 hd eb1 ⟨o31, o71, kvs, ds, rfl, rfl, ec1, t1, m1, ee1⟩
      obtain ⟨ds', l, rs, e1, e2, rfl⟩ := Lt_snoc hd
      rw [← Lt_inj e2] at e1
      have hl : l ∈ allW n L := by rw [e1]; simp
      obtain ⟨w1, w2⟩ := allW_mem hl
      have w4 : Walk 4 l := fun x hx => ⟨(w1 x hx).1, Int.le_trans (w1 x hx).2 (by omega)⟩
      have dl : ds.length + 1 ≤ 32768 := by
        have := congrArg List.length e1
        simp at this
        omega
      have g5 : gB 5 = 326 := by decide
      obtain ⟨h2, kvs2, s, ec2, t2, m2, l2, k2⟩ := count_step F l (fun h => hS l h w4 (by omega)) hL (by omega) (some (.int n)) (some (.int L)) o4 (some (.ref e)) o71 o8 d c (ds.length * gB 5) h1 nc kvs (ds.map red) ec1 t1 (by rw [List.length_map]; omega) m1 (by rw [g5]; omega)
      have lb : b < h1.length := (List.getElem?_eq_some_iff.mp eb1).1
      refine ⟨_, _, h2, rfl, s, ?_, some (.tup (Li l)), some (.tup (Li (red l))), kvs2, ds ++ [l], rfl, ?_, ec2, ?_, ?_, ?_⟩
      · rw [k2 b lb (by omega) (by omega)]; exact eb1
      · rw [Lt_append]; rfl
      · rw [List.map_append]; exact t2
      · rw [List.length_append, List.length_singleton, Nat.add_mul, Nat.one_mul]; exact m2
      · rw [k2 e (List.getElem?_eq_some_iff.mp ee1).1 ne nec]; exact ee1)
  have := Lt_inj eds
  subst this
  exact ⟨o3', o7', _, kvs, es, by rw [get_set_ne (by omega)]; exact ec', t, by rw [get_set_ne (by omega)]; exact ee'⟩
end K01

namespace K01
open PySem (Str PyData)
open L2 (Key)
open R
theorem keyW_keyL (k : List Int) : keyW (keyL k) = .tup (Li k) := by
  unfold keyW keyL
  rw [List.map_map]
  rfl
theorem sum_cast {α : Type} (g : α → Nat) : ∀ l : List α, (l.map fun k => (g k : Int)).sum = (((l.map g).sum : Nat) : Int)
  | [] => rfl
  | a :: l => by rw [List.map_cons, List.sum_cons, sum_cast g l, List.map_cons, List.sum_cons, Int.natCast_add]
theorem min_same {c : Int} : ∀ (is : List Int), (∀ i ∈ is, i = c) → minI c is = c
  | [], _ => rfl
  | i :: is, h => by
    have := h i List.mem_cons_self
    subst this
    simp only [minI, Int.lt_irrefl, if_false]
    exact min_same is fun j hj => h j (List.mem_cons_of_mem _ hj)
theorem max_same {c : Int} : ∀ (is : List Int), (∀ i ∈ is, i = c) → maxI c is = c
  | [], _ => rfl
  | i :: is, h => by
    have := h i List.mem_cons_self
    subst this
    simp only [maxI, Int.lt_irrefl, if_false]
    exact max_same is fun j hj => h j (List.mem_cons_of_mem _ hj)
abbrev cRows : Ex := .lcif (.ix (.var 5) (.var 3)) (.nm 3) [3] (.val (.var 5)) (.val (.cmp .eq (.bi .len (.cons (.var 3) .nil)) (.var 4)))
abbrev cBadT : Tx := .or (.val (.cmp .ne (.bi .sum (.cons (.var 8) .nil)) (.ix (.var 6) (.var 4)))) (.and (.val (.cmp .ne (.var 8) (.lst .nil))) (.val (.cmp .ne (.bi .min1 (.cons (.var 8) .nil)) (.bi .max1 (.cons (.var 8) .nil)))))
abbrev cCheck : Ss := .cons (.asg (.nm 8) cRows) (.cons (.ife cBadT (.cons (.ret (.cst (.bl false))) .nil) .nil) .nil)
/-- the numbers told at one length -/
def told (ks rs : List (List Int)) (f : Nat) : List Int := (ks.filter fun k => decide (k.length = f)).map fun k => (rs.count k : Int)
theorem rows_ok2 (F : Nat → List W → Hh → Res W) (ks rs : List (List Int)) (hk : ks.length < 16777216) (c f : Nat) (o0 o1 o2 o3 o6 o7 o8 : Option W) (h : Hh) (ec : h[c]? = some (.dT .free (ks.map (ent rs)))) :
    denE F cRows [o0, o1, o2, o3, some (.int f), some (.ref c), o6, o7, o8] h = .ok (.ref h.length) (h ++ [.lst .free (Li (told ks rs f))]) := by
  let p : W → Bool := fun w => match w with | .tup l => decide ((l.length : Int) = f) | _ => false
  let g : W → W := fun w => match kTup w with | some q => (valW (ks.map (ent rs)) q).getD .non | none => .non
  have gk : ∀ k ∈ ks, g (.tup (Li k)) = .int (rs.count k : Int) := fun k hk => by
    simp only [g, kTup_Li, val_ent, if_pos hk, Option.getD_some]
  have items : (ks.map (ent rs)).map (fun p => keyW p.1) = Lt ks := by
    unfold Lt
    rw [List.map_map]
    exact List.map_congr_left fun k _ => keyW_keyL k
  have q := lcifD_over (F := F) (el := .ix (.var 5) (.var 3)) (tg := .nm 3) (own := [3]) (it := .var 5) (c := .val (.cmp .eq (.bi .len (.cons (.var 3) .nil)) (.var 4))) (σ := [o0, o1, o2, o3, some (.int f), some (.ref c), o6, o7, o8]) (h := h) (h1 := h) (p := p) (g := g) rfl ec (by simpa using hk) (by
    intro w hw
    rw [items] at hw
    obtain ⟨k, hkk, rfl⟩ := mem_Lt hw
    have e2 : (h.set c (.dT .froz (ks.map (ent rs))))[c]? = some (.dT .froz (ks.map (ent rs))) := get_set_eq ec
    refine ⟨[o0, o1, o2, some (.tup (Li k)), some (.int f), some (.ref c), o6, o7, o8], rfl, ?_, fun _ => ?_⟩
    · rw [dT_val, dE_cmp, dE_bi, dL_cons, dE_var]
      simp only [List.getElem?_cons_zero, List.getElem?_cons_succ, bindO, dL_nil, biop, lenW, len_Li, dE_var, cm_eq, tr_bl, ofO_some, p]
    · rw [dE_ix]
      simp only [dE_var, List.getElem?_cons_zero, List.getElem?_cons_succ, bindO, index_T e2, val_ent, if_pos hkk, ofO_some, gk k hkk])
  rw [items] at q
  rw [q]
  have e : ∀ l : List (List Int), (∀ k ∈ l, k ∈ ks) → ((Lt l).filter p).map g = Li ((l.filter fun k => decide (k.length = f)).map fun k => (rs.count k : Int)) := fun l => by
    induction l with
    | nil => intro _; rfl
    | cons k l ih =>
      intro hm
      have ih := ih fun x hx => hm x (List.mem_cons_of_mem _ hx)
      rw [Lt_cons, List.filter_cons, List.filter_cons]
      have pk : p (.tup (Li k)) = decide (k.length = f) := by
        simp only [p, len_Li]
        by_cases z : k.length = f
        · rw [decide_eq_true z, decide_eq_true (by omega)]
        · rw [decide_eq_false z, decide_eq_false (by omega)]
      rw [pk]
      by_cases z : k.length = f
      · rw [decide_eq_true z, if_pos rfl, if_pos rfl, List.map_cons, List.map_cons, Li_cons, ih, gk k (hm k List.mem_cons_self)]
      · rw [decide_eq_false z, if_neg (by decide), if_neg (by decide), ih]
  rw [e ks fun _ hk => hk]
  rfl
theorem bad_no (F : Nat → List W → Hh → Res W) (is : List Int) (c0 : Int) (same : ∀ i ∈ is, i = c0) (a e f : Nat) (ends : List W) (o0 o1 o2 o3 o5 o7 : Option W) (h : Hh) (ea : h[a]? = some (.lst .free (Li is))) (ee : h[e]? = some (.lst .free ends)) (ef : ends[f]? = some (.int is.sum)) :
    ∃ m, denT F cBadT [o0, o1, o2, o3, some (.int f), o5, some (.ref e), o7, some (.ref a)] h = .ok false (h ++ m) := by
  have ix : index (.ref e) (.int (f : Int)) h = some (.int is.sum) := by rw [index_ref ee]; exact atW_nat ef
  have sm : biop .sum [.ref a] h = .ok (.int is.sum) h := by simp only [biop, lstOf, ea, mapO_int, fi_r, sumI_eq]
  have t1 : denT F (.val (.cmp .ne (.bi .sum (.cons (.var 8) .nil)) (.ix (.var 6) (.var 4)))) [o0, o1, o2, o3, some (.int f), o5, some (.ref e), o7, some (.ref a)] h = .ok false h := by
    rw [dT_val, dE_cmp, dE_bi, dL_cons, dE_var]
    simp only [List.getElem?_cons_zero, List.getElem?_cons_succ, bindO, dL_nil, sm, dE_ix, dE_var, ix, ofO_some, cm_ne, decide_true, Bool.not_true, tr_bl]
  have t2 : denT F (.val (.cmp .ne (.var 8) (.lst .nil))) [o0, o1, o2, o3, some (.int f), o5, some (.ref e), o7, some (.ref a)] h = .ok (!decide (is = [])) (h ++ [.lst .free []]) := by
    rw [dT_val, dE_cmp, dE_var]
    have e1 : cmpop .ne (.ref a) (.ref h.length) (h ++ [Ob.lst .free []]) = some (!decide (is = [])) := by
      simp only [cmpop, eqW_ref (get_app ea) (show (h ++ [Ob.lst .free []])[h.length]? = some (.lst .free (Li [])) from get_end _ _)]
    simp only [List.getElem?_cons_zero, List.getElem?_cons_succ, bindO, e_lst0, e1, tr_bl, ofO_some]
  cases is with
  | nil =>
    refine ⟨[.lst .free []], ?_⟩
    rw [dT_or, t1]
    simp only [bindO, dT_and, t2, decide_true, Bool.not_true]
  | cons i is =>
    have := same i List.mem_cons_self
    subst this
    have sa : ∀ j ∈ is, j = i := fun j hj => same j (List.mem_cons_of_mem _ hj)
    have mn : biop .min1 [.ref a] (h ++ [.lst .free []]) = .ok (.int i) (h ++ [.lst .free []]) := by simp only [biop, lstOf, get_app ea, mapO_int, fi_r, min_same is sa]
    have mx : biop .max1 [.ref a] (h ++ [.lst .free []]) = .ok (.int i) (h ++ [.lst .free []]) := by simp only [biop, lstOf, get_app ea, mapO_int, fi_r, max_same is sa]
    have t3 : denT F (.val (.cmp .ne (.bi .min1 (.cons (.var 8) .nil)) (.bi .max1 (.cons (.var 8) .nil)))) [o0, o1, o2, o3, some (.int f), o5, some (.ref e), o7, some (.ref a)] (h ++ [.lst .free []]) = .ok false (h ++ [.lst .free []]) := by
      rw [dT_val, dE_cmp, dE_bi, dL_cons, dE_var]
      simp only [List.getElem?_cons_zero, List.getElem?_cons_succ, bindO, dL_nil, mn, dE_bi, dL_cons, dE_var, mx, cm_ne, decide_true, Bool.not_true, tr_bl, ofO_some]
    refine ⟨[.lst .free []], ?_⟩
    rw [dT_or, t1]
    simp only [bindO, dT_and, t2, t3, List.cons_ne_nil, decide_false, Bool.not_false]
end K01

namespace K01
open PySem (Str PyData)
open L2 (Key)
open R
theorem count_all (n L : Nat) (k : List Int) (hk : k ∈ (allW n L).map red) : ((allW n L).map red).count k = cN (2 * n) L k.length := by
  obtain ⟨w, hw, rfl⟩ := List.mem_map.mp hk
  have := count_red n L (red_straight w) (walk_red (allW_mem hw).1)
  rw [← this, List.count, List.countP_map]
  refine List.countP_congr fun v _ => ?_
  simp
theorem told_same (n L f : Nat) (ks : List (List Int)) (mem : ∀ k ∈ ks, k ∈ (allW n L).map red) : ∀ i ∈ told ks ((allW n L).map red) f, i = (cN (2 * n) L f : Int) := by
  intro i hi
  obtain ⟨k, hk, rfl⟩ := List.mem_map.mp hi
  obtain ⟨h1, h2⟩ := List.mem_filter.mp hk
  rw [count_all n L k (mem k h1), of_decide_eq_true h2]
theorem told_sum (n L f : Nat) (ks : List (List Int)) (nd : ks.Nodup) (mem : ∀ k, k ∈ ks ↔ k ∈ (allW n L).map red) : (told ks ((allW n L).map red) f).sum = (eN (2 * n) L f : Int) := by
  unfold told
  rw [sum_cast, sum_counts _ _ ks nd fun k hk => (mem k).mpr hk, List.countP_map, ← count_len n L f]
  rfl
theorem check_loop (F : Nat → List W → Hh → Res W) (n L : Nat) (hL5 : L ≤ 5) (h4 : n ≤ 4) (kvs : List (List Key × W)) (t : Tally kvs ((allW n L).map red)) (o2 o3 o4 o7 o8 : Option W) (c e : Nat) (h : Hh) (ec : h[c]? = some (.dT .free kvs))
    (ee : h[e]? = some (.lst .free (Li ((List.range (L + 2)).map fun f => (eN (2 * n) L f : Int))))) :
    ∃ σ' h', denS F (.loop (.nm 4) (.rng1 (.bin .add (.var 1) (.cst (.int 1)))) cCheck) [some (.int n), some (.int L), o2, o3, o4, some (.ref c), some (.ref e), o7, o8] h = .nx σ' h' := by
  obtain ⟨ks, rfl, nd, mem, lk⟩ := t
  have lks : ks.length < 16777216 := by
    have := lenW_all h4 hL5
    rw [List.length_map] at lk
    omega
  have it : denI F (.rng1 (.bin .add (.var 1) (.cst (.int 1)))) [some (.int n), some (.int L), o2, o3, o4, some (.ref c), some (.ref e), o7, o8] h = .ok (rngL 0 (L + 1), []) h := by
    refine i_rng1 ?_ (by omega)
    rw [dE_bin, dE_var]
    simp only [List.getElem?_cons_zero, List.getElem?_cons_succ, bindO, dE_cst, bo_add]
    rfl
  obtain ⟨σ', h', es, _⟩ := fl_inv2 (I := fun _ σ h => ∃ o4 o8, σ = [some (.int n), some (.int L), o2, o3, o4, some (.ref c), some (.ref e), o7, o8] ∧ h[c]? = some (.dT .free (ks.map (ent ((allW n L).map red)))) ∧ h[e]? = some (.lst .free (Li ((List.range (L + 2)).map fun f => (eN (2 * n) L f : Int)))))
    (set := tgSet (.nm 4)) (body := denSs F cCheck) (all := rngL 0 (L + 1)) (rngL 0 (L + 1)) [] _ h rfl ⟨o4, o8, rfl, ec, ee⟩ (by
      rintro d w r σ h1 hd ⟨o41, o81, rfl, ec1, ee1⟩
      obtain ⟨rfl, hlt⟩ := rng_at hd
      obtain ⟨f, hf⟩ : ∃ f, d.length = f := ⟨_, rfl⟩
      rw [hf] at hlt ⊢
      have ro := rows_ok2 F ks ((allW n L).map red) lks c f (some (.int n)) (some (.int L)) o2 o3 (some (.ref e)) o7 o81 h1 ec1
      have s1 : denS F (.asg (.nm 8) cRows) [some (.int n), some (.int L), o2, o3, some (.int f), some (.ref c), some (.ref e), o7, o81] h1 = .nx [some (.int n), some (.int L), o2, o3, some (.int f), some (.ref c), some (.ref e), o7, some (.ref h1.length)] (h1 ++ [.lst .free (Li (told ks ((allW n L).map red) f))]) := s_asg ro
      have hends : (Li ((List.range (L + 2)).map fun f => (eN (2 * n) L f : Int)))[f]? = some (.int (told ks ((allW n L).map red) f).sum) := by
        rw [told_sum n L f ks nd mem]
        refine Li_get ?_
        rw [List.getElem?_map, List.getElem?_range (by omega)]
        rfl
      obtain ⟨m, tb⟩ := bad_no F (told ks ((allW n L).map red) f) _ (told_same n L f ks fun k hk => (mem k).mp hk) h1.length e f _ (some (.int n)) (some (.int L)) o2 o3 (some (.ref c)) o7 (h1 ++ [.lst .free (Li (told ks ((allW n L).map red) f))]) (get_end _ _) (get_app ee1) hends
      exact ⟨_, _, h1 ++ [.lst .free (Li (told ks ((allW n L).map red) f))] ++ m, rfl, (ss_nx s1).trans (ss_nx ((s_ifF tb).trans ss_end)), some (.int f), some (.ref h1.length), rfl, get_app (get_app ec1), get_app (get_app ee1)⟩)
  exact ⟨σ', _, s_loop it es⟩
theorem straight4 (k : Nat) (l : List Int) (h : Hh) (w : Walk 4 l) (hl : l.length ≤ 5) : callN pg (k + 10) 8 [.tup (Li l)] h = .ok (.tup (Li (red l))) h := walks.straight (n := k + 5) (by omega) w h
theorem left5 (k : Nat) : LeftP (callN pg (k + 10)) 5 := by
  have := left_ok (k + 4) 5 (by omega)
  have e : 5 + 1 + (k + 4) = k + 10 := by omega
  rwa [e] at this
theorem length_right (k n L : Nat) (h1 : 1 ≤ n) (h4 : n ≤ 4) (hL5 : L ≤ 5) (d : Nat) (h : Hh) (m : Memo h d 0) : ∃ h', callN pg (k + 11) 18 [.int n, .int L, .ref d] h = .ok (.bl true) h' := by
  have ld : d < h.length := by obtain ⟨_, e, _⟩ := m.ex; exact (List.getElem?_eq_some_iff.mp e).1
  obtain ⟨E, hE⟩ : ∃ E, Li ((List.range (L + 2)).map fun f => (eN (2 * n) L f : Int)) = E := ⟨_, rfl⟩
  have eo := fun h => ends_ok (k + 9) n L h1 h4 hL5 h
  have so := fun h => stand_ok (k + 8) n L h1 h4 hL5 h
  have lo := left5 k
  have st := fun l h w hl => straight4 k l h w hl
  have eo : ∀ h, callN pg (k + 10) 17 [.int n, .int L] h = .ok (.ref h.length) (h ++ [.lst .free E]) := fun h => by rw [← hE]; exact eo h
  have so : ∀ h, callN pg (k + 10) 16 [.int n, .int L] h = .ok (.ref h.length) (h ++ [.lst .free (Lt (allW n L))]) := so
  obtain ⟨F, hF⟩ : ∃ F, callN pg (k + 10) = F := ⟨_, rfl⟩
  rw [hF] at eo so lo st
  have s1 : denS F (.asg (.tup [5, 6]) (.tup (.cons (.dnew true) (.cons (.call 17 (.cons (.var 0) (.cons (.var 1) .nil))) .nil)))) [some (.int n), some (.int L), some (.ref d), none, none, none, none, none, none] h =
      .nx [some (.int n), some (.int L), some (.ref d), none, none, some (.ref h.length), some (.ref (h.length + 1)), none, none] (h ++ [.dT .free []] ++ [.lst .free E]) := by
    rw [dS_asg, dE_tup, dL_cons, dE_dnT]
    simp only [bindO, dL_cons, dE_call, dE_var, List.getElem?_cons_zero, List.getElem?_cons_succ, dL_nil, eo, List.length_cons, List.length_nil, Nat.zero_add, Nat.reduceAdd, lineB2, if_true, tg_tup, setAll_cons, setAll_nil, List.set_cons_succ, List.set_cons_zero, List.length_append]
  have hE2 : (h ++ [Ob.dT .free []] ++ [.lst .free E])[h.length + 1]? = some (.lst .free E) := by
    have := get_end (h ++ [Ob.dT .free []]) (Ob.lst .free E)
    simpa using this
  obtain ⟨o3, o7, h2, kvs, s2, ec, t, ee⟩ := count_loop F n L h4 hL5 st lo so none none none none d h.length (h.length + 1) 0 (h ++ [.dT .free []] ++ [.lst .free E]) (by omega) (by omega) (by omega) (.lst .free E) hE2 (get_app (get_end _ _)) ((m.app _).app _)
  rw [← hE] at ee
  obtain ⟨σ3, h3, s3⟩ := check_loop F n L hL5 h4 kvs t (some (.ref d)) o3 none o7 none h.length (h.length + 1) h2 ec ee
  have s4 : denS F (.ret (.cst (.bl true))) σ3 h3 = .rt (.bl true) h3 := s_ret rfl
  have s : denSs (callN pg (k + 10)) c_law_length_right.body ([W.int n, .int L, .ref d].map some ++ List.replicate (c_law_length_right.ns - c_law_length_right.np) none) h = .rt (.bl true) h3 := by
    rw [hF]
    exact (ss_nx s1).trans ((ss_nx s2).trans ((ss_nx s3).trans (ss_rt s4)))
  exact ⟨h3, call_heap rfl rfl rfl s⟩
end K01

namespace K01
open PySem (Str PyData)
open L2 (Key)
open R
theorem same_ok (k : Nat) (a b : Bool) (h : Hh) : callN pg (k + 1) 14 [.bl a, .bl b] h = .ok (.bl (decide (a = b))) h := by
  refine call_pure (fn := c_law_same) (h1 := []) rfl rfl rfl ?_ rfl
  cases a <;> cases b <;> rfl
theorem ones_eq {h : Hh} {a b : Nat} {k k' : Lk} {l l' : List Int} (e : h[a]? = some (.lst k (One l))) (e2 : h[b]? = some (.lst k' (One l'))) : cmpop .eq (.ref a) (.ref b) h = some (decide (red l = red l')) := by
  have t : ∀ {a : Nat} {k : Lk} {l : List Int}, h[a]? = some (.lst k (One l)) → toD 60 h (.ref a) = some (.list [.tuple ((red l).map PyData.int)]) := fun {a k l} e => by
    show (match h[a]? with | some (.lst _ xs) => (match mapO (toD 59 h) xs with | some ds => some (PyData.list ds) | none => none) | _ => none) = _
    rw [e]
    show (match mapO (toD 59 h) (One l) with | some ds => some (PyData.list ds) | none => none) = _
    rw [toD_One h l 57]
  simp only [cmpop, eqW, t e, t e2, PyData.eqv, PyData.eqvAll, eqvAll_ints, Bool.and_true]
abbrev cBoth : Sm := .asg (.tup [5, 6]) (.tup (.cons (.call 15 (.cons (.bin .add (.var 3) (.var 4)) (.cons (.var 1) .nil))) (.cons (.call 15 (.cons (.bin .add (.var 4) (.var 3)) (.cons (.var 1) .nil))) .nil)))
abbrev cPairT : Tx := .or (.val (.cmp .ne (.lst (.cons (.call 9 (.cons (.var 3) (.cons (.var 4) .nil))) .nil)) (.var 5))) (.not (.val (.call 14 (.cons (.call 10 (.cons (.var 3) (.cons (.var 4) .nil))) (.cons (.cmp .eq (.var 5) (.var 6)) .nil)))))
abbrev cPair : Ss := .cons cBoth (.cons (.ife cPairT (.cons (.ret (.cst (.bl false))) .nil) .nil) .nil)
structure Calls (F : Nat → List W → Hh → Res W) : Prop where
  left : LeftP F 5
  behind : ∀ a b h, a.length ≤ 2 → b.length ≤ 2 → Walk 4 a → Walk 4 b → F 9 [.tup (Li a), .tup (Li b)] h = .ok (.tup (Li (red (a ++ b)))) h
  commute : ∀ a b h, a.length ≤ 2 → b.length ≤ 2 → Walk 4 a → Walk 4 b → F 10 [.tup (Li a), .tup (Li b)] h = .ok (.bl (decide (red (a ++ b) = red (b ++ a)))) h
  same : ∀ a b h, F 14 [.bl a, .bl b] h = .ok (.bl (decide (a = b))) h
theorem calls (k : Nat) : Calls (callN pg (k + 10)) := ⟨left5 k, fun a b h la lb wa wb => walks.behind (n := k + 5) (by omega) wa wb h, fun a b h la lb wa wb => walks.commute (n := k + 5) (by omega) wa wb h, fun a b h => same_ok (k + 9) a b h⟩
theorem pair_step (F : Nat → List W → Hh → Res W) (C : Calls F) (a b : List Int) (la : a.length ≤ 2) (lb : b.length ≤ 2) (wa : Walk 4 a) (wb : Walk 4 b) (o0 o2 o5 o6 : Option W) (d B : Nat) (h : Hh) (m : Memo h d B) (hB : B + 652 < 16777216) :
    ∃ r1 r2 h', denSs F cPair [o0, some (.ref d), o2, some (.tup (Li a)), some (.tup (Li b)), o5, o6] h = .nx [o0, some (.ref d), o2, some (.tup (Li a)), some (.tup (Li b)), some (.ref r1), some (.ref r2)] h' ∧ Memo h' d (B + 652) ∧ Keep d h h' := by
  have g5 : gB 5 = 326 := by decide
  have ld : d < h.length := by obtain ⟨_, e, _⟩ := m.ex; exact (List.getElem?_eq_some_iff.mp e).1
  obtain ⟨r1, h1, c1, e1, m1, k1⟩ := C.left (a ++ b) h d B (by simp; omega) m (by omega)
  obtain ⟨r2, h2, c2, e2, m2, k2⟩ := C.left (b ++ a) h1 d (B + gB 5) (by simp; omega) m1 (by omega)
  rw [g5] at m2
  have ne1 : r1 ≠ d := fun z => by subst z; obtain ⟨_, e, _⟩ := m1.ex; rw [e] at e1; cases e1
  have e1' := k2.get e1 ne1
  have ab : ∀ h, binop .add (.tup (Li a)) (.tup (Li b)) h = .ok (.tup (Li (a ++ b))) h := fun h => cat_tup h a b (by omega)
  have ba : ∀ h, binop .add (.tup (Li b)) (.tup (Li a)) h = .ok (.tup (Li (b ++ a))) h := fun h => cat_tup h b a (by omega)
  have s1 : denS F cBoth [o0, some (.ref d), o2, some (.tup (Li a)), some (.tup (Li b)), o5, o6] h = .nx [o0, some (.ref d), o2, some (.tup (Li a)), some (.tup (Li b)), some (.ref r1), some (.ref r2)] h2 := by
    rw [dS_asg, dE_tup, dL_cons, dE_call, dL_cons, dE_bin]
    simp only [dE_var, List.getElem?_cons_zero, List.getElem?_cons_succ, bindO, ab, dL_cons, dL_nil, c1, dE_call, dE_bin, ba, c2, List.length_cons, List.length_nil, Nat.zero_add, Nat.reduceAdd, lineB2, if_true, tg_tup, setAll_cons, setAll_nil, List.set_cons_succ, List.set_cons_zero]
  have b1 := C.behind a b h2 la lb wa wb
  have t1 : denT F (.val (.cmp .ne (.lst (.cons (.call 9 (.cons (.var 3) (.cons (.var 4) .nil))) .nil)) (.var 5))) [o0, some (.ref d), o2, some (.tup (Li a)), some (.tup (Li b)), some (.ref r1), some (.ref r2)] h2 = .ok false (h2 ++ [.lst .free (One (a ++ b))]) := by
    rw [dT_val, dE_cmp, dE_lst, dL_cons, dE_call, dL_cons, dE_var]
    simp only [List.getElem?_cons_zero, List.getElem?_cons_succ, bindO, dL_cons, dE_var, dL_nil, b1, List.length_cons, List.length_nil, Nat.zero_add, lineB1, if_true, ones_ne (get_end h2 (Ob.lst .free (One (a ++ b)))) (get_app e1'), tr_bl, ofO_some]
  have oe := ones_eq (get_app (m := [Ob.lst .free (One (a ++ b))]) e1') (get_app (m := [Ob.lst .free (One (a ++ b))]) e2)
  have cm := C.commute a b (h2 ++ [.lst .free (One (a ++ b))]) la lb wa wb
  have t2 : denT F (.not (.val (.call 14 (.cons (.call 10 (.cons (.var 3) (.cons (.var 4) .nil))) (.cons (.cmp .eq (.var 5) (.var 6)) .nil))))) [o0, some (.ref d), o2, some (.tup (Li a)), some (.tup (Li b)), some (.ref r1), some (.ref r2)] (h2 ++ [.lst .free (One (a ++ b))]) = .ok false (h2 ++ [.lst .free (One (a ++ b))]) := by
    rw [dT_not, dT_val, dE_call, dL_cons, dE_call, dL_cons, dE_var]
    simp only [List.getElem?_cons_zero, List.getElem?_cons_succ, bindO, dL_cons, dE_var, dL_nil, cm, dE_cmp, oe, C.same, decide_true, tr_bl, ofO_some, Bool.not_true]
  have t : denT F cPairT [o0, some (.ref d), o2, some (.tup (Li a)), some (.tup (Li b)), some (.ref r1), some (.ref r2)] h2 = .ok false (h2 ++ [.lst .free (One (a ++ b))]) := by
    rw [dT_or, t1]
    simp only [bindO, t2]
  exact ⟨r1, r2, _, (ss_nx s1).trans (ss_nx ((s_ifF t).trans ss_end)), (m2.app _), (k1.trans k2).trans (Keep.app d _ _)⟩
theorem i_locked {F : Nat → List W → Hh → Res W} {e : Ex} {σ : Sl} {h h1 : Hh} {a : Nat} {xs : List W} (i : denE F e σ h = .ok (.ref a) h1) (ea : h1[a]? = some (.lst .lock xs)) : denI F (.val e) σ h = .ok (xs, []) h1 := by
  rw [dI_val, i]
  simp only [bindO, lockL, ea]
theorem pair_inner (F : Nat → List W → Hh → Res W) (C : Calls F) (ws : List (List Int)) (hw : ∀ l ∈ ws, Walk 4 l ∧ l.length ≤ 2) (a : List Int) (ha : Walk 4 a ∧ a.length ≤ 2) (o0 o4 o5 o6 : Option W) (d w B : Nat) (h : Hh) (m : Memo h d B) (hB : B + ws.length * 652 < 16777216)
    (ew : h[w]? = some (.lst .lock (Lt ws))) : ∃ o4' o5' o6' h', denS F (.loop (.nm 4) (.val (.var 2)) cPair) [o0, some (.ref d), some (.ref w), some (.tup (Li a)), o4, o5, o6] h = .nx [o0, some (.ref d), some (.ref w), some (.tup (Li a)), o4', o5', o6'] h' ∧
      h'[w]? = some (.lst .lock (Lt ws)) ∧ Memo h' d (B + ws.length * 652) := by
  have nw : w ≠ d := fun z => by subst z; obtain ⟨_, e, _⟩ := m.ex; rw [e] at ew; cases ew
  obtain ⟨σ', h', es, o4', o5', o6', ds, rfl, eds, ew', m'⟩ := fl_inv2 (I := fun dd σ h => ∃ o4 o5 o6 ds, σ = [o0, some (.ref d), some (.ref w), some (.tup (Li a)), o4, o5, o6] ∧ dd = Lt ds ∧ h[w]? = some (.lst .lock (Lt ws)) ∧ Memo h d (B + ds.length * 652)) (set := tgSet (.nm 4)) (body := denSs F cPair)
    (all := Lt ws) (Lt ws) [] [o0, some (.ref d), some (.ref w), some (.tup (Li a)), o4, o5, o6] h rfl ⟨o4, o5, o6, [], rfl, rfl, ew, by simpa using m⟩ (by
      rintro dd x r σ h1 hd ⟨o41, o51, o61, ds, rfl, rfl, ew1, m1⟩
      obtain ⟨ds', l, rs, e1, e2, rfl⟩ := Lt_snoc hd
      rw [← Lt_inj e2] at e1
      have hl : l ∈ ws := by rw [e1]; simp
      have ln : ds.length + 1 ≤ ws.length := by rw [e1, List.length_append, List.length_cons]; omega
      have lm : (ds.length + 1) * 652 ≤ ws.length * 652 := Nat.mul_le_mul_right _ ln
      obtain ⟨r1, r2, h2, s, m2, k2⟩ := pair_step F C a l ha.2 (hw l hl).2 ha.1 (hw l hl).1 o0 (some (.ref w)) o51 o61 d (B + ds.length * 652) h1 m1 (by omega)
      refine ⟨_, _, h2, rfl, s, some (.tup (Li l)), some (.ref r1), some (.ref r2), ds ++ [l], rfl, by rw [Lt_append]; rfl, k2.get ew1 nw, ?_⟩
      rw [List.length_append, List.length_singleton, Nat.add_mul, Nat.one_mul, ← Nat.add_assoc]
      exact m2)
  have := Lt_inj eds
  subst this
  exact ⟨o4', o5', o6', h', s_loop (i_locked rfl ew) es, ew', m'⟩
theorem pairs_right (k n : Nat) (h1 : 1 ≤ n) (h3 : n ≤ 3) (d : Nat) (h : Hh) (m : Memo h d 0) : ∃ h', callN pg (k + 11) 19 [.int n, .ref d] h = .ok (.bl true) h' := by
  have so1 : ∀ h, callN pg (k + 10) 16 [.int n, .int 1] h = .ok (.ref h.length) (h ++ [.lst .free (Lt (allW n 1))]) := fun h => stand_ok (k + 8) n 1 h1 (by omega) (by omega) h
  have so2 : ∀ h, callN pg (k + 10) 16 [.int n, .int 2] h = .ok (.ref h.length) (h ++ [.lst .free (Lt (allW n 2))]) := fun h => stand_ok (k + 8) n 2 h1 (by omega) (by omega) h
  have C := calls k
  obtain ⟨F, hF⟩ : ∃ F, callN pg (k + 10) = F := ⟨_, rfl⟩
  rw [hF] at so1 so2 C
  obtain ⟨ws, hws⟩ : ∃ ws, allW n 1 ++ allW n 2 = ws := ⟨_, rfl⟩
  have hw : ∀ l ∈ ws, Walk 4 l ∧ l.length ≤ 2 := fun l hl => by
    rw [← hws] at hl
    have : ∃ L, L ≤ 2 ∧ l ∈ allW n L := by
      rcases List.mem_append.mp hl with q | q
      · exact ⟨1, by omega, q⟩
      · exact ⟨2, by omega, q⟩
    obtain ⟨L, hL, q⟩ := this
    obtain ⟨w1, w2⟩ := allW_mem q
    exact ⟨fun x hx => ⟨(w1 x hx).1, Int.le_trans (w1 x hx).2 (by omega)⟩, by omega⟩
  have lws : ws.length ≤ 42 := by
    rw [← hws, List.length_append, allW_len, allW_len]
    have a : (2 * n) ^ 1 ≤ 6 ^ 1 := Nat.pow_le_pow_left (by omega) 1
    have b : (2 * n) ^ 2 ≤ 6 ^ 2 := Nat.pow_le_pow_left (by omega) 2
    have c1 : (6 : Nat) ^ 1 = 6 := by decide
    have c2 : (6 : Nat) ^ 2 = 36 := by decide
    omega
  have s1 : ∃ w h1, denS F (.asg (.nm 2) (.bin .add (.call 16 (.cons (.var 0) (.cons (.cst (.int 1)) .nil))) (.call 16 (.cons (.var 0) (.cons (.cst (.int 2)) .nil))))) [some (.int n), some (.ref d), none, none, none, none, none] h =
      .nx [some (.int n), some (.ref d), some (.ref w), none, none, none, none] h1 ∧ h1[w]? = some (.lst .free (Lt ws)) ∧ Memo h1 d 0 := by
    have e2 : (h ++ [Ob.lst .free (Lt (allW n 1))] ++ [.lst .free (Lt (allW n 2))])[(h ++ [Ob.lst .free (Lt (allW n 1))]).length]? = some (.lst .free (Lt (allW n 2))) := get_end _ _
    have c := cat_ref (h := h ++ [Ob.lst .free (Lt (allW n 1))] ++ [.lst .free (Lt (allW n 2))]) (get_app (get_end h (Ob.lst .free (Lt (allW n 1))))) e2 (by
      rw [len_Lt, len_Lt]
      have := congrArg List.length hws
      rw [List.length_append] at this
      omega)
    rw [← Lt_append, hws] at c
    refine ⟨(h ++ [Ob.lst .free (Lt (allW n 1))] ++ [Ob.lst .free (Lt (allW n 2))]).length, h ++ [Ob.lst .free (Lt (allW n 1))] ++ [.lst .free (Lt (allW n 2))] ++ [.lst .free (Lt ws)], s_asg ?_, get_end _ _, ((m.app _).app _).app _⟩
    rw [dE_bin, dE_call, dL_cons, dE_var]
    simp only [List.getElem?_cons_zero, bindO, dL_cons, dE_cst, dL_nil, so1, dE_call, dE_var, so2]
    exact c
  obtain ⟨w, hh, s1, ew, mm⟩ := s1
  have nw : w ≠ d := fun z => by subst z; obtain ⟨_, e, _⟩ := mm.ex; rw [e] at ew; cases ew
  have m0 : Memo (hh.set w (.lst .lock (Lt ws))) d 0 := by
    obtain ⟨kd, ed, l, q⟩ := mm.ex
    have : kd = [] := List.length_eq_zero_iff.mp (by omega)
    subst this
    exact ⟨[], by rw [get_set_ne nw]; exact ed, by simp, fun p hp => (by cases hp)⟩
  obtain ⟨σ', h', s2, i1, i2⟩ := loop_over (F := F) (it := .var 2) (t := .nm 3) (b := .cons (.loop (.nm 4) (.val (.var 2)) cPair) .nil) (σ := [some (.int n), some (.ref d), some (.ref w), none, none, none, none]) (h := hh)
    (I := fun dd σ h => ∃ o3 o4 o5 o6 ds, σ = [some (.int n), some (.ref d), some (.ref w), o3, o4, o5, o6] ∧ dd = Lt ds ∧ Memo h d (ds.length * (ws.length * 652))) rfl ew ⟨none, none, none, none, [], rfl, rfl, by simpa using m0⟩ (by
      rintro dd x r σ h1 hd ew1 ⟨o3, o4, o5, o6, ds, rfl, rfl, m1⟩
      obtain ⟨ds', l, rs, e1, e2, rfl⟩ := Lt_snoc hd
      rw [← Lt_inj e2] at e1
      have hl : l ∈ ws := by rw [e1]; simp
      have ln : ds.length + 1 ≤ ws.length := by rw [e1, List.length_append, List.length_cons]; omega
      have b1 : ds.length * (ws.length * 652) ≤ 42 * (42 * 652) := Nat.mul_le_mul (by omega) (Nat.mul_le_mul_right _ lws)
      have b2 : ws.length * 652 ≤ 42 * 652 := Nat.mul_le_mul_right _ lws
      obtain ⟨o4', o5', o6', h2, s, ew2, m2⟩ := pair_inner F C ws hw l (hw l hl) (some (.int n)) o4 o5 o6 d w _ h1 m1 (by omega) ew1
      refine ⟨_, _, h2, rfl, (ss_nx s).trans ss_end, ew2, some (.tup (Li l)), o4', o5', o6', ds ++ [l], rfl, by rw [Lt_append]; rfl, ?_⟩
      rw [List.length_append, List.length_singleton, Nat.add_mul, Nat.one_mul]
      exact m2)
  have s3 : ∀ h', denS F (.ret (.cst (.bl true))) σ' h' = .rt (.bl true) h' := fun h' => s_ret rfl
  have s : denSs (callN pg (k + 10)) c_law_pairs_right.body ([W.int n, .ref d].map some ++ List.replicate (c_law_pairs_right.ns - c_law_pairs_right.np) none) h = .rt (.bl true) (h'.set w (.lst .free (Lt ws))) := by
    rw [hF]
    exact (ss_nx s1).trans ((ss_nx s2).trans (ss_rt (s3 _)))
  exact ⟨_, call_heap rfl rfl rfl s⟩
end K01

namespace K01
open PySem (Str PyData)
open L2 (Key)
open R
theorem memo0 (h : Hh) : Memo (h ++ [.dT .free []]) h.length 0 := ⟨[], get_end _ _, by simp, fun p hp => (by cases hp)⟩
abbrev cEach : Ss := .cons (.ife (.not (.val (.call 18 (.cons (.var 2) (.cons (.var 4) (.cons (.dnew true) .nil)))))) (.cons (.ret (.cst (.bl false))) .nil) .nil) .nil
abbrev cLast : Ex := .and (.call 19 (.cons (.bi .min2 (.cons (.var 2) (.cons (.cst (.int 3)) .nil))) (.cons (.dnew true) .nil))) (.cmp .eq (.callk 8 .nil [(PySem.Str.ofString "walk")] (.cons (.tup (.cons (.cst (.int 1)) (.cons (.cst (.int 1)) (.cons (.neg (.cst (.int 1))) .nil)))) .nil) [0]) (.tup (.cons (.cst (.int 1)) .nil)))
theorem most_ok (F : Nat → List W → Hh → Res W) (n : Nat) (h1 : 1 ≤ n) (h4 : n ≤ 4) (o0 o1 o3 o4 : Option W) (h : Hh) : ∃ mo : Nat, mo ≤ 5 ∧ denS F (.asg (.nm 3) (.ix (.lst (.cons (.cst (.int 5)) (.cons (.cst (.int 5)) (.cons (.cst (.int 4)) (.cons (.cst (.int 4)) .nil))))) (.bin .sub (.var 2) (.cst (.int 1))))) [o0, o1, some (.int n), o3, o4] h =
    .nx [o0, o1, some (.int n), some (.int mo), o4] (h ++ [.lst .free (Li [5, 5, 4, 4])]) := by
  have ex : ∃ mo : Nat, mo ≤ 5 ∧ atW (Li [5, 5, 4, 4]) ((n : Int) - 1) = some (.int mo) := by
    have c : n = 1 ∨ n = 2 ∨ n = 3 ∨ n = 4 := by omega
    rcases c with rfl | rfl | rfl | rfl
    · exact ⟨5, by omega, rfl⟩
    · exact ⟨5, by omega, rfl⟩
    · exact ⟨4, by omega, rfl⟩
    · exact ⟨4, by omega, rfl⟩
  obtain ⟨mo, h5, ea⟩ := ex
  refine ⟨mo, h5, s_asg ?_⟩
  have e0 : index (.ref h.length) (.int ((n : Int) - 1)) (h ++ [.lst .free (Li [5, 5, 4, 4])]) = some (.int mo) := by rw [index_ref (get_end _ _), ea]
  have e1 : denE F (.lst (.cons (.cst (.int 5)) (.cons (.cst (.int 5)) (.cons (.cst (.int 4)) (.cons (.cst (.int 4)) .nil))))) [o0, o1, some (.int n), o3, o4] h = .ok (.ref h.length) (h ++ [.lst .free (Li [5, 5, 4, 4])]) := rfl
  rw [dE_ix, e1]
  simp only [bindO, dE_bin, dE_var, List.getElem?_cons_zero, List.getElem?_cons_succ, dE_cst, bo_sub, e0, ofO_some]
theorem each_loop (k n mo : Nat) (h1 : 1 ≤ n) (h4 : n ≤ 4) (h5 : mo ≤ 5) (o0 o1 o4 : Option W) (h : Hh) : ∃ o4' h', denS (callN pg (k + 11)) (.loop (.nm 4) (.rng1 (.bin .add (.var 3) (.cst (.int 1)))) cEach) [o0, o1, some (.int n), some (.int mo), o4] h =
    .nx [o0, o1, some (.int n), some (.int mo), o4'] h' := by
  have lr := fun L (hL : L ≤ 5) d h m => length_right k n L h1 h4 hL d h m
  obtain ⟨F, hF⟩ : ∃ F, callN pg (k + 11) = F := ⟨_, rfl⟩
  rw [hF] at lr ⊢
  have it : denI F (.rng1 (.bin .add (.var 3) (.cst (.int 1)))) [o0, o1, some (.int n), some (.int mo), o4] h = .ok (rngL 0 (mo + 1), []) h := by
    refine i_rng1 ?_ (by omega)
    rw [dE_bin, dE_var]
    simp only [List.getElem?_cons_zero, List.getElem?_cons_succ, bindO, dE_cst, bo_add]
    rfl
  obtain ⟨σ', h', es, o4', rfl⟩ := fl_inv2 (I := fun _ σ _ => ∃ o4, σ = [o0, o1, some (.int n), some (.int mo), o4]) (set := tgSet (.nm 4)) (body := denSs F cEach) (all := rngL 0 (mo + 1)) (rngL 0 (mo + 1)) [] _ h rfl ⟨o4, rfl⟩ (by
    rintro d w r σ h1 hd ⟨o41, rfl⟩
    obtain ⟨rfl, hlt⟩ := rng_at hd
    obtain ⟨h2, e2⟩ := lr d.length (by omega) h1.length (h1 ++ [.dT .free []]) (memo0 h1)
    have t : denT F (.not (.val (.call 18 (.cons (.var 2) (.cons (.var 4) (.cons (.dnew true) .nil)))))) [o0, o1, some (.int n), some (.int mo), some (.int (d.length : Int))] h1 = .ok false h2 := by
      rw [dT_not, dT_val, dE_call, dL_cons, dE_var]
      simp only [List.getElem?_cons_zero, List.getElem?_cons_succ, bindO, dL_cons, dE_var, dE_dnT, dL_nil, e2, tr_bl, ofO_some, Bool.not_true]
    exact ⟨_, _, h2, rfl, ss_nx ((s_ifF t).trans ss_end), _, rfl⟩)
  exact ⟨o4', _, s_loop it es⟩
theorem last_ok (k n : Nat) (h1 : 1 ≤ n) (h4 : n ≤ 4) (o0 o1 o3 o4 : Option W) (h : Hh) : ∃ h', denE (callN pg (k + 11)) cLast [o0, o1, some (.int n), o3, o4] h = .ok (.bl true) h' := by
  have pr := fun m (a : 1 ≤ m) (b : m ≤ 3) d h mm => pairs_right k m a b d h mm
  have st : ∀ h, callN pg (k + 11) 8 [.tup (Li [1, 1, -1])] h = .ok (.tup (Li (red [1, 1, -1]))) h := fun h => straight4 (k + 1) [1, 1, -1] h (by decide) (by decide)
  obtain ⟨F, hF⟩ : ∃ F, callN pg (k + 11) = F := ⟨_, rfl⟩
  rw [hF] at pr st ⊢
  obtain ⟨m, hm1, hm3, hm⟩ : ∃ m : Nat, 1 ≤ m ∧ m ≤ 3 ∧ (if (3 : Int) < n then (3 : Int) else n) = m := by
    by_cases c : (3 : Int) < n
    · exact ⟨3, by omega, by omega, by rw [if_pos c]; rfl⟩
    · exact ⟨n, h1, by omega, by rw [if_neg c]⟩
  obtain ⟨h2, e2⟩ := pr m hm1 hm3 h.length (h ++ [.dT .free []]) (memo0 h)
  have a1 : denE F (.call 19 (.cons (.bi .min2 (.cons (.var 2) (.cons (.cst (.int 3)) .nil))) (.cons (.dnew true) .nil))) [o0, o1, some (.int n), o3, o4] h = .ok (.bl true) h2 := by
    have mn : ∀ h, biop .min2 [.int n, .int 3] h = .ok (.int m) h := fun h => by simp only [biop, hm]
    rw [dE_call, dL_cons, dE_bi, dL_cons, dE_var]
    simp only [List.getElem?_cons_zero, List.getElem?_cons_succ, bindO, dL_cons, dE_cst, dL_nil, mn, dE_dnT, e2]
  have a2 : denE F (.callk 8 .nil [(PySem.Str.ofString "walk")] (.cons (.tup (.cons (.cst (.int 1)) (.cons (.cst (.int 1)) (.cons (.neg (.cst (.int 1))) .nil)))) .nil) [0]) [o0, o1, some (.int n), o3, o4] h2 = .ok (.tup (Li [1])) h2 := by
    have t : denL F (.cons (.tup (.cons (.cst (.int 1)) (.cons (.cst (.int 1)) (.cons (.neg (.cst (.int 1))) .nil)))) .nil) [o0, o1, some (.int n), o3, o4] h2 = .ok [.tup (Li [1, 1, -1])] h2 := rfl
    rw [dE_callk, dL_nil]
    simp only [bindO, t]
    exact st h2
  have a3 : denE F (.tup (.cons (.cst (.int 1)) .nil)) [o0, o1, some (.int n), o3, o4] h2 = .ok (.tup (Li [1])) h2 := rfl
  refine ⟨h2, ?_⟩
  rw [dE_and, a1]
  simp only [bindO, tr_bl, dE_cmp, a2, a3, cm_eqT, decide_true]
theorem law_true (ns : List Int) (hn : ns.length ≤ 63) : ∃ h', callN pg 30 lawId [.fl (ns.map R.W.int)] [] = .ok (.bl true) h' := by
  obtain ⟨g, a, h1, e1, B1⟩ := bag_ok (pg := pg) (n := 28) rfl ns hn []
  obtain ⟨t, h2, e2, t0, t4, _, _⟩ := take_ok (pg := pg) (n := 28) rfl B1 (by decide) (many := 4) (by decide) (by decide)
  obtain ⟨n, hn1, hn4, hnt⟩ : ∃ n : Nat, 1 ≤ n ∧ n ≤ 4 ∧ (1 + t : Int) = n := ⟨(1 + t).toNat, by omega, by omega, by omega⟩
  have el := fun mo (h5 : mo ≤ 5) o0 o1 o4 h => each_loop 18 n mo hn1 hn4 h5 o0 o1 o4 h
  have la := fun o0 o1 o3 o4 h => last_ok 18 n hn1 hn4 o0 o1 o3 o4 h
  obtain ⟨F, hF⟩ : ∃ F, callN pg 29 = F := ⟨_, rfl⟩
  have e1 : F 11 [.fl (Li ns)] [] = .ok (.ref a) h1 := by rw [← hF]; exact e1
  have e2 : F 12 [.ref a, .int 4] h1 = .ok (.int t) h2 := by rw [← hF]; exact e2
  rw [hF] at el la
  have s1 : denS F (.asg (.nm 1) (.call 11 (.cons (.var 0) .nil))) [some (.fl (Li ns)), none, none, none, none] [] = .nx [some (.fl (Li ns)), some (.ref a), none, none, none] h1 := s_asg (by
    rw [dE_call, dL_cons, dE_var]
    simp only [List.getElem?_cons_zero, bindO, dL_nil, e1])
  have s2 : denS F (.asg (.nm 2) (.bin .add (.cst (.int 1)) (.call 12 (.cons (.var 1) (.cons (.cst (.int 4)) .nil))))) [some (.fl (Li ns)), some (.ref a), none, none, none] h1 = .nx [some (.fl (Li ns)), some (.ref a), some (.int n), none, none] h2 := by
    rw [← hnt]
    exact s_asg (by
      rw [dE_bin, dE_cst, bindO, dE_call, dL_cons, dE_var]
      simp only [List.getElem?_cons_zero, List.getElem?_cons_succ, bindO, dL_cons, dE_cst, dL_nil, e2, bo_add])
  obtain ⟨mo, h5, s3⟩ := most_ok F n hn1 hn4 (some (.fl (Li ns))) (some (.ref a)) none none h2
  obtain ⟨o4, h4, s4⟩ := el mo h5 (some (.fl (Li ns))) (some (.ref a)) none (h2 ++ [.lst .free (Li [5, 5, 4, 4])])
  obtain ⟨h6, e6⟩ := la (some (.fl (Li ns))) (some (.ref a)) (some (.int mo)) o4 h4
  have s : denSs (callN pg 29) c_law.body ([W.fl (Li ns)].map some ++ List.replicate (c_law.ns - c_law.np) none) [] = .rt (.bl true) h6 := by
    rw [hF]
    exact (ss_nx s1).trans ((ss_nx s2).trans ((ss_nx s3).trans ((ss_nx s4).trans (ss_rt (s_ret e6)))))
  exact ⟨[], call_pure (fn := c_law) (ws := [.fl (Li ns)]) rfl (by simp [pures, W.pure]) rfl s rfl⟩
end K01

namespace K01
/-! ### the head -/
open PySem PySem.Spec PyProof.Rows L2
abbrev OR : PySem.W.OpenRow := PySem.W.OpenLaw.row OL
def fa : List He.Fa := R.faOf rows ics blts
def fn : List He.DefD := R.fnOfR rows top
abbrev hk : PySem.W.Hook := He.hookD 4 fa fn
def ob (s : PySem.W.SharedT) : He.AlD := He.obsDG 4 fa fn (HandSHeadRun.getT s)
theorem ob_eq (s : PySem.W.SharedT) : ob s = hk.obs s.abs := He.obsDG_eq (HandSHeadRun.getT_eq s)
theorem run (w : World) : HandSHeadRun.RunEq OR (PySem.W.view OR.prog [lawAt]) hk ob 1200 loose w := by
  intro os
  kernel_rfl
end K01
open PySem PySem.W PySem.Calls PyProof.Rows
theorem PySem.Challenge.cw_clubsturned_k01_whole_all_short_walks_st_holds : PySem.Challenge.rw_clubsturned_k01_whole_all_short_walks_st.Holds := by
  w_on; o_law
  refine HandSHeadRun.head_any (r := OpenLaw.row PySem.Challenge.rw_clubsturned_k01_whole_all_short_walks_st) (q := view (OpenLaw.row PySem.Challenge.rw_clubsturned_k01_whole_all_short_walks_st).prog [K01.lawAt]) (H := K01.hk) (ob := K01.ob) (M := 1200) (loose := K01.loose) (d := HandSHeadRun.topDef (OpenLaw.row PySem.Challenge.rw_clubsturned_k01_whole_all_short_walks_st).prog K01.lawAt) (kwd := []) K01.ob_eq
    (by kernel_rfl) (fun s => by kernel_rfl) K01.run (by kernel_rfl) (by kernel_rfl) (by kernel_rfl) (by rfl) (by first | assumption | decide +kernel) (by decide +kernel) ⟨rfl, rfl, rfl, rfl, rfl, by decide +kernel⟩ ?hw ?hc
  case hw => w_witness2
  case hc =>
    refine L2.walk_ofE (l := PySem.Challenge.rw_clubsturned_k01_whole_all_short_walks_st) (n := 63) (k := 30) (x := "script") (CX := R.CXa (PySem.Challenge.rw_clubsturned_k01_whole_all_short_walks_st).prog) rfl (by decide) (by kernel_rfl) ⟨rfl, by decide, by decide⟩ ?F R.cxa_end
    intro w mg fa h Y G hmg0
    obtain ⟨K, KX, c⟩ := Y
    have hmg : mg (K01.lawRow).name = some (.ref fa) := by
      have e : (HandSHeadRun.topDef (OpenLaw.row PySem.Challenge.rw_clubsturned_k01_whole_all_short_walks_st).prog K01.lawAt).name = (K01.lawRow).name := by kernel_rfl
      rw [← e]
      exact hmg0
    obtain ⟨fd, hb, hF⟩ := R.law_fn (P := (PySem.Challenge.rw_clubsturned_k01_whole_all_short_walks_st).prog) (w := w) KX G c K01.rows_ok K01.bd_ok K01.bk_ok (r := K01.lawRow) (by simp [K01.lawRow]) rfl hmg 30
    exact ⟨K, fd, _, KX, hb, fun H a ns hl hO hS => R.law_end (K01.law_true ns hl) H a hO hS, hF⟩

