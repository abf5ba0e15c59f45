import PyProof.Rows.All
import PySem.Challenge.RW_lentgate_k25_deeds_written_and_read
import Wide.All
import OpenK.AllK
import Wide.FinOn
import HandS.ForMost
import HandS.ForExc
import HandS.HeadHook2
import HandS.TupSets
import HandS.CallSlots
import HandS.TupAny
import HandS.IsInst
import HandS.Flow
import HandS.Walk
import KE.DataEq
import HandS.SortInts
import HandS.Conv
import HandS.WordsDict
import HandS.TupLen
import HandS.Text
import HandS.More
import HandS.RaiseMore
import HandS.ExcOwn
import HandS.Zip
import HandS.DictSubView
import KE.KDictList
import HandS.Small
import HandS.Ends
import HandS.Words
import HandS.WordsExc
import HandS.Defaults
import HandS.Head0
import HandS.Head1
import HandS.Head2
import HandS.HeadEnd
set_option Elab.async false
set_option linter.all false
set_option maxRecDepth 100000
set_option maxHeartbeats 0
/-! Z: a small language of its own for the defs of this program: terms, values, a run. -/
namespace Z
open PySem L2

/-! ### values, objects -/
inductive D where
  | non | bl (b : Bool) | int (i : Int) | str (s : Str) | tup (xs : List D) | lst (xs : List D) | ref (n : Nat)
  /-- a written tuple of the module's -/
  | ctup (xs : List D)
inductive Ob where
  | lst (xs : List D) | dk (kvs : List (Key × D)) | dt (kvs : List (List Key × D)) | ins (C : Str) (fs : List (Str × D)) | frz (o : Ob)
abbrev Sto := List Ob
inductive Slot where
  | no | val (d : D) | own (xs : List D)
abbrev En := List Slot
inductive Out (α : Type) where
  | ok (a : α) (S : Sto) | exc (c : Str) (S : Sto) | bad
def Out.bind {α β : Type} (o : Out α) (f : α → Sto → Out β) : Out β := match o with
  | .ok a S => f a S
  | .exc c S => .exc c S
  | .bad => .bad
/-- what is behind a statement -/
inductive Fl where
  | nx (e : En) (S : Sto) | rt (d : D) (S : Sto) | ex (c : Str) (e : En) (S : Sto) | bad

mutual
/-- data: no reference within -/
def D.pure : D → Bool
  | .ref _ => false
  | .ctup _ => false
  | .tup xs => D.pures xs
  | .lst xs => D.pures xs
  | _ => true
def D.pures : List D → Bool
  | [] => true
  | x :: xs => x.pure && D.pures xs
end
mutual
/-- Python's == on data -/
def D.eqv : D → D → Bool
  | .non, .non => true
  | .bl a, .bl b => a == b
  | .bl a, .int j => (if a then 1 else 0) == j
  | .int i, .bl b => i == (if b then 1 else 0)
  | .int i, .int j => i == j
  | .str x, .str y => x == y
  | .lst xs, .lst ys => D.eqvs xs ys
  | .tup xs, .tup ys => D.eqvs xs ys
  | _, _ => false
def D.eqvs : List D → List D → Bool
  | [], [] => true
  | x :: xs, y :: ys => D.eqv x y && D.eqvs xs ys
  | _, _ => false
end
mutual
/-- the very same -/
def D.same : D → D → Bool
  | .non, .non => true
  | .bl a, .bl b => a == b
  | .int i, .int j => i == j
  | .str x, .str y => x == y
  | .lst xs, .lst ys => D.sames xs ys
  | .tup xs, .tup ys => D.sames xs ys
  | .ref a, .ref b => a == b
  | _, _ => false
def D.sames : List D → List D → Bool
  | [], [] => true
  | x :: xs, y :: ys => D.same x y && D.sames xs ys
  | _, _ => false
end
mutual
def D.depth : D → Nat
  | .tup xs => D.depths xs + 1
  | .lst xs => D.depths xs + 1
  | _ => 0
def D.depths : List D → Nat
  | [] => 0
  | x :: xs => max x.depth (D.depths xs)
end
def D.key : D → Option Key
  | .int i => some (.inl i)
  | .str x => some (.inr x)
  | _ => none
def D.keys : List D → Option (List Key)
  | [] => some []
  | x :: xs => match x.key, D.keys xs with
    | some k, some ks => some (k :: ks)
    | _, _ => none
def D.tkey : D → Option (List Key)
  | .tup xs => D.keys xs
  | _ => none
def keyD : Key → D
  | .inl i => .int i
  | .inr x => .str x

/-! ### tables -/
section
variable {κ : Type} [DecidableEq κ]
def look (kvs : List (κ × D)) (k : κ) : Option D := (kvs.find? fun kv => decide (kv.1 = k)).map (·.2)
def put (kvs : List (κ × D)) (k : κ) (v : D) : List (κ × D) :=
  if (kvs.any fun kv => decide (kv.1 = k)) = true then kvs.map (fun kv => if kv.1 = k then (kv.1, v) else kv) else kvs ++ [(k, v)]
def drop (kvs : List (κ × D)) (k : κ) : List (κ × D) := kvs.filter fun kv => decide (kv.1 ≠ k)
end

/-! ### terms -/
inductive Bn where
  | add | sub | mul | fdiv | mod | pow | shr | band
inductive Cm where
  | eq | ne | lt | le | gt | ge | isN | notN | isin | notin
inductive Ty where
  | int | bool | str | tuple | list
/-- built-ins by their names -/
inductive Bi where
  | len | all | any | sum | max2 | min2 | maxL | minL | tupOf | lstOf | sorted | strOf | intOf | ord
/-- methods of built-in things -/
inductive Bm where
  | get1 | get2 | pop | append | join | split | partition | count
inductive Tg where
  | one (i : Nat) | many (is : List Nat)

mutual
inductive Ex where
  | var (i : Nat) | int (i : Int) | str (s : Str) | bl (b : Bool) | non | gl (x : Str)
  | bin (o : Bn) (a b : Ex) | neg (a : Ex) | cmp (o : Cm) (a b : Ex) | chain (o p : Cm) (a b c : Ex)
  | and (a b : Ex) | or (a b : Ex) | not (a : Ex) | ite (t a b : Ex)
  | tup (es : Exs) | lst (es : Exs) | lstR (es : Exs) | dk0 | dt0 | dkR (ks : List Key) (vs : Exs)
  | isE (neg : Bool) (a : Ex) | rep (es : Exs) (k : Ex)
  | tget (x : Str) (e : Ex) (d : D) | lrng (a b : Ex)
  | ix (a i : Ex) | slTo (a hi : Ex) | slFr (a lo : Ex) | slBt (a lo hi : Ex)
  | at (a : Ex) (f : Str)
  | call (f : Str) (es : Exs) | new (C : Str) (es : Exs) | me (o : Ex) (m : Str) (es : Exs) | sup (C m : Str) (es : Exs)
  | bi (b : Bi) (es : Exs) | isi (a : Ex) (t : Ty)
  | bm (o : Ex) (m : Bm) (es : Exs)
  | comp (r : Bool) (own : List (Str × Nat)) (tg : Tg) (it : It) (cd : Ex) (e : Ex)
  /-- e, while the table o may not be written -/
  | lock (o e : Ex)
  /-- list(e.values()) -/
  | lvals (e : Ex)
  /-- lists put together, those of the store too -/
  | cat (a b : Ex)
inductive Exs where
  | nil | cons (e : Ex) (es : Exs)
inductive It where
  | seq (e : Ex) | r1 (a : Ex) | r2 (a b : Ex) | enum (e : Ex) | zip (a b : Ex) | keys (e : Ex) | vals (e : Ex)
end
inductive St where
  | skip | seq (a b : St) | ex (e : Ex) | set (i : Nat) (e : Ex) | unp (is : List Nat) (e : Ex) | setA (o : Ex) (f : Str) (e : Ex) | setI (o k e : Ex)
  | ret (e : Ex) | retN | ite (c : Ex) (a b : St) | for (tg : Tg) (it : It) (b : St) | while (c : Ex) (b : St) | raise (C : Str)
  | ownN (i : Nat) (es : Exs) | ownA (i : Nat) (e : Ex) | frz (i : Nat)
  | try1 (b : St) (C : Str) (i : Nat) (a : Ex)
  /-- never reached -/
  | never
  | lock (o : Ex) (s : St)

/-- a table of the module's that is written out and never changed -/
inductive Tab where
  | k (kvs : List (Key × D)) | t (kvs : List (List Key × D))
structure CDef where
  np : Nat
  N : List Str
  body : St
structure Prog where
  defs : List (Str × CDef)
  mt : List ((Str × Str) × Str)
  gl : List (Str × D)
  sub : List (Str × Str)
  fns : List (Str × Str)
  ats : List (Str × Str)
  fuel : Nat
  tabs : List (Str × Tab) := []
end Z


/-! Z: what a term is worth, what a statement does. -/
namespace Z
open PySem L2

def sums : List D → Option Int
  | [] => some 0
  | .int i :: r => match sums r with
    | some s => some (i + s)
    | none => none
  | _ :: _ => none
def bools : List D → Option (List Bool)
  | [] => some []
  | .bl b :: r => match bools r with
    | some s => some (b :: s)
    | none => none
  | _ :: _ => none
def asInts : List D → Option (List Int)
  | [] => some []
  | .int i :: r => match asInts r with
    | some s => some (i :: s)
    | none => none
  | _ :: _ => none
def asStrs : List D → Option (List Str)
  | [] => some []
  | .str i :: r => match asStrs r with
    | some s => some (i :: s)
    | none => none
  | _ :: _ => none
def signs (s : Str) : List D := s.cps.toList.map fun c => D.str ⟨#[c]⟩
def cut {α : Type} (xs : List α) (lo hi : Option Int) : List α := (xs.drop (HT.sIx xs.length 0 lo)).take (HT.sIx xs.length xs.length hi - HT.sIx xs.length 0 lo)
def small (i : Int) : Bool := decide (-(2 ^ 64) < i) && decide (i < 2 ^ 64)

/-- a text many times -/
def repS (x : Str) (n : Nat) : Str := ⟨(List.replicate n x.cps).foldl (· ++ ·) #[]⟩
def evalB : Bn → D → D → Option D
  | .add, .int i, .int j => some (.int (i + j))
  | .add, .str x, .str y => if x.length + y.length ≤ sizeLine then some (.str (x ++ y)) else none
  | .add, .tup xs, .tup ys => if xs.length + ys.length ≤ sizeLine then some (.tup (xs ++ ys)) else none
  | .add, .lst xs, .lst ys => if xs.length + ys.length ≤ sizeLine then some (.lst (xs ++ ys)) else none
  | .sub, .int i, .int j => some (.int (i - j))
  | .mul, .int i, .int j => if (small i || small j) = true then some (.int (i * j)) else none
  | .mul, .str x, .int k => if (2 ≤ k ∧ k ≤ 1000) ∧ (1 ≤ x.length ∧ x.length ≤ 1000) ∧ (repS x k.toNat).length ≤ sizeLine then some (.str (repS x k.toNat)) else none
  | .fdiv, .int i, .int j => if 0 < j ∧ j < 1073741824 then some (.int (i / j)) else none
  | .mod, .int i, .int j => if 0 < j then some (.int (i % j)) else none
  | .pow, .int i, .int j => if 0 ≤ j ∧ j ≤ 1000000 ∧ i.natAbs < 2 ^ 64 then some (.int (i ^ j.toNat)) else none
  | .shr, .int i, .int j => if 0 ≤ j then some (.int (i / 2 ^ j.toNat)) else none
  | .band, .int i, .int j => some (.int (Builtin.bitAnd i j))
  | _, _, _ => none

def isNon : D → Bool
  | .non => true
  | _ => false
/-- a list of the store is looked at as a list -/
def view (S : Sto) : D → D
  | .ref n => match S[n]? with
    | some (.lst xs) => .lst xs
    | _ => .ref n
  | d => d
/-- what a table tells of a key -/
def tabGet (S : Sto) (n : Nat) (i : D) : Option (Option D) := match S[n]? with
  | some (.dk kvs) => i.key.map fun k => look kvs k
  | some (.frz (.dk kvs)) => i.key.map fun k => look kvs k
  | some (.dt kvs) => i.tkey.map fun k => look kvs k
  | some (.frz (.dt kvs)) => i.tkey.map fun k => look kvs k
  | _ => none
def isIn (S : Sto) (x y : D) : Option Bool := match view S y with
  | .lst xs => if (x.pure && D.pures xs) = true ∧ min (D.depths xs) x.depth ≤ 60 then some (xs.any fun z => D.eqv z x) else none
  | .tup xs => if (x.pure && D.pures xs) = true ∧ min (D.depths xs) x.depth ≤ 60 then some (xs.any fun z => D.eqv z x) else none
  | .ctup xs => if (x.pure && D.pures xs) = true ∧ min (D.depths xs) x.depth ≤ 60 then some (xs.any fun z => D.eqv z x) else none
  | .str t => (match x with
    | .str s => some (!(Builtin.Str.occurrences t s 0 t.length 1).isEmpty)
    | _ => none)
  | .ref n => (tabGet S n x).map Option.isSome
  | _ => none
def evalC (S : Sto) : Cm → D → D → Option Bool
  | .eq, x, y => if ((view S x).pure && (view S y).pure) = true ∧ min (view S x).depth (view S y).depth ≤ 60 then some (D.eqv (view S x) (view S y)) else none
  | .ne, x, y => if ((view S x).pure && (view S y).pure) = true ∧ min (view S x).depth (view S y).depth ≤ 60 then some (!D.eqv (view S x) (view S y)) else none
  | .lt, .int i, .int j => some (decide (i < j))
  | .le, .int i, .int j => some (decide (i ≤ j))
  | .gt, .int i, .int j => some (decide (j < i))
  | .ge, .int i, .int j => some (decide (j ≤ i))
  | .lt, .str i, .str j => some (decide (i.cps.toList < j.cps.toList))
  | .le, .str i, .str j => some (!decide (j.cps.toList < i.cps.toList))
  | .gt, .str i, .str j => some (decide (j.cps.toList < i.cps.toList))
  | .ge, .str i, .str j => some (!decide (i.cps.toList < j.cps.toList))
  | .isN, x, .non => some (isNon x)
  | .notN, x, .non => some (!isNon x)
  | .isin, x, y => isIn S x y
  | .notin, x, y => (isIn S x y).map (!·)
  | _, _, _ => none
def truth (S : Sto) (x : D) : Option Bool := match view S x with
  | .non => some false
  | .bl b => some b
  | .int i => some (i != 0)
  | .str s => if s.length ≤ sizeLine then some ((s.length : Int) != 0) else none
  | .tup xs => some (!xs.isEmpty)
  | .lst xs => some (!xs.isEmpty)
  | .ref n => (match S[n]? with
    | some (.dk kvs) => some (!kvs.isEmpty)
    | _ => none)
  | .ctup _ => none
def evalIx (S : Sto) (x i : D) : Option D := match view S x with
  | .tup xs => (match i with
    | .int k => atI xs k
    | _ => none)
  | .lst xs => (match i with
    | .int k => atI xs k
    | _ => none)
  | .str s => (match i with
    | .int k => if s.length ≤ sizeLine then (atI s.cps.toList k).map fun c => D.str ⟨#[c]⟩ else none
    | _ => none)
  | .ref n => (tabGet S n i).bind id
  | _ => none
def evalSl (S : Sto) (x : D) (lo hi : Option Int) : Option D := match view S x with
  | .tup xs => some (.tup (cut xs lo hi))
  | .lst xs => some (.lst (cut xs lo hi))
  | .str s => if s.length ≤ sizeLine then some (.str (cutS s lo hi)) else none
  | _ => none
def Ty.isL : Ty → Bool
  | .list => true
  | _ => false
def isTy : D → Sto → Ty → Option Bool
  | .non, _, _ => some false
  | .bl _, _, .int => some true
  | .bl _, _, .bool => some true
  | .bl _, _, _ => some false
  | .int _, _, .int => some true
  | .int _, _, _ => some false
  | .str _, _, .str => some true
  | .str _, _, _ => some false
  | .tup _, _, .tuple => some true
  | .tup _, _, _ => some false
  | .lst _, _, .list => some true
  | .lst _, _, _ => some false
  | .ctup _, _, _ => none
  | .ref n, S, t => match S[n]? with
    | some (.lst _) => some t.isL
    | _ => none

/-- a sorted list: of asInts -/
def insI (x : Int) : List Int → List Int
  | [] => [x]
  | y :: r => if x ≤ y then x :: y :: r else y :: insI x r
def sortI : List Int → List Int
  | [] => []
  | x :: r => insI x (sortI r)
def maxI : List Int → Int → Int
  | [], m => m
  | x :: r, m => maxI r (if m < x then x else m)
def minI : List Int → Int → Int
  | [], m => m
  | x :: r, m => minI r (if x < m then x else m)

/-- rows of numbers and texts: their order -/
def kindK : Key → Bool
  | .inl _ => true
  | .inr _ => false
def ltK : Key → Key → Bool
  | .inl i, .inl j => decide (i < j)
  | .inr s, .inr t => decide (s.cps.toList < t.cps.toList)
  | _, _ => false
def ltR : List Key → List Key → Bool
  | a :: r, b :: q => if a = b then ltR r q else ltK a b
  | _, _ => false
def insR (x : List Key) : List (List Key) → List (List Key)
  | [] => [x]
  | y :: r => if ltR y x = true then y :: insR x r else x :: y :: r
def sortR : List (List Key) → List (List Key)
  | [] => []
  | x :: r => insR x (sortR r)
def rowsOf : List D → Option (List (List Key))
  | [] => some []
  | x :: xs => match x.tkey, rowsOf xs with
    | some k, some ks => some (k :: ks)
    | _, _ => none
def rowD (k : List Key) : D := .tup (k.map keyD)
/-- rows alike, none empty, fewer than 64 -/
def rowsB : List (List Key) → Bool
  | [] => true
  | r :: rs => !r.isEmpty && ((rs.all fun k => decide (k.map kindK = r.map kindK)) && decide (rs.length < 63))
def sortedD (xs : List D) : Option D := match asInts xs with
  | some is => some (.lst ((sortI is).map D.int))
  | none => match rowsOf xs with
    | some ks => if rowsB ks = true then some (.lst ((sortR ks).map rowD)) else none
    | none => none
def evalBi (S : Sto) : Bi → List D → Option D
  | .len, [x] => (match view S x with
    | .lst xs => some (.int xs.length)
    | .tup xs => some (.int xs.length)
    | .str s => if s.length ≤ sizeLine then some (.int s.length) else none
    | .ref n => (match S[n]? with
      | some (.dk kvs) => some (.int kvs.length)
      | some (.dt kvs) => some (.int kvs.length)
      | _ => none)
    | _ => none)
  | .all, [x] => (match view S x with
    | .lst xs => (bools xs).map fun bs => D.bl (bs.all id)
    | _ => none)
  | .any, [x] => (match view S x with
    | .lst xs => (bools xs).map fun bs => D.bl (bs.any id)
    | _ => none)
  | .sum, [x] => (match view S x with
    | .lst xs => (sums xs).map D.int
    | _ => none)
  | .max2, [.int i, .int j] => some (.int (if j > i then j else i))
  | .min2, [.int i, .int j] => some (.int (if j < i then j else i))
  | .maxL, [x] => (match view S x with
    | .lst xs => (match asInts xs with
      | some (i :: r) => some (.int (maxI r i))
      | _ => none)
    | _ => none)
  | .minL, [x] => (match view S x with
    | .lst xs => (match asInts xs with
      | some (i :: r) => some (.int (minI r i))
      | _ => none)
    | _ => none)
  | .tupOf, [x] => (match view S x with
    | .lst xs => some (.tup xs)
    | .tup xs => some (.tup xs)
    | _ => none)
  | .lstOf, [x] => (match view S x with
    | .lst xs => some (.lst xs)
    | .tup xs => some (.lst xs)
    | _ => none)
  | .sorted, [x] => (match view S x with
    | .lst xs => sortedD xs
    | .ref n => (match S[n]? with
      | some (.dk kvs) => (asInts (kvs.map fun kv => keyD kv.1)).bind fun is => if is.length < 64 then some (D.lst ((sortI is).map D.int)) else none
      | _ => none)
    | _ => none)
  | .strOf, [.int i] => if i.natAbs.log2 < 1920 then some (.str (toString i)) else none
  | .strOf, [.str s] => some (.str s)
  | .intOf, [.int i] => some (.int i)
  | .intOf, [.bl b] => some (.int (if b then 1 else 0))
  | .intOf, [.str s] => if s.length ≤ 640 then (PySem.intText? s).map D.int else none
  | .ord, [.str s] => if s.length = 1 then some (.int (s.cps.getD 0 0 : Nat)) else none
  | _, _ => none

def isTab (S : Sto) (n : Nat) : Bool := match S[n]? with
  | some (.dk _) => true
  | some (.dt _) => true
  | _ => false
/-- the receiver's kind -/
def recvOk (S : Sto) : Bm → D → Bool
  | .get1, .ref n => isTab S n
  | .get2, .ref n => isTab S n
  | .pop, .ref n => isTab S n
  | .append, .ref n => (match S[n]? with
    | some (.lst _) => true
    | _ => false)
  | .join, .str _ => true
  | .split, .str _ => true
  | .partition, .str _ => true
  | _, _ => false
/-- a method of a built-in thing: the value and the store behind it -/
def evalBm (S : Sto) : Bm → D → List D → Option (D × Sto)
  | .get1, .ref n, [k] => if isTab S n = true then (tabGet S n k).map fun o => (o.getD .non, S) else none
  | .get2, .ref n, [k, d] => if isTab S n = true then (tabGet S n k).map fun o => (o.getD d, S) else none
  | .pop, .ref n, [k] => (match S[n]? with
    | some (.dk kvs) => k.key.bind fun k => (look kvs k).map fun v => (v, S.set n (.dk (drop kvs k)))
    | _ => none)
  | .append, .ref n, [x] => (match S[n]? with
    | some (.lst xs) => if xs.length < sizeLine then some (.non, S.set n (.lst (xs ++ [x]))) else none
    | _ => none)
  | .join, .str a, [x] => (match view S x with
    | .lst xs => (asStrs xs).bind fun ys => if (ys.map (·.length)).sum + ys.length * a.length ≤ 16777216 then some (.str (Txt.join a ys), S) else none
    | _ => none)
  | .split, .str a, [.str b] => if (b.length == 0) = false ∧ a.length + 2 ≤ sizeLine then some (.lst ((Txt.split a b).map D.str), S) else none
  | .partition, .str a, [.str b] => if (b.length == 0) = false ∧ a.length ≤ sizeLine then some (.tup [.str (Txt.partition a b).1, .str (Txt.partition a b).2.1, .str (Txt.partition a b).2.2], S) else none
  | _, _, _ => none
def putFD (f : Str) (v : D) : List (Str × D) → List (Str × D)
  | [] => [(f, v)]
  | (g, x) :: r => if g = f then (g, v) :: r else (g, x) :: putFD f v r
/-- o[k] = v -/
def evalSet (S : Sto) (o k v : D) : Option Sto := match o with
  | .ref n => (match S[n]? with
    | some (.dk kvs) => if kvs.length < sizeLine then k.key.map fun k => S.set n (.dk (put kvs k v)) else none
    | some (.dt kvs) => if kvs.length < sizeLine then k.tkey.map fun k => S.set n (.dt (put kvs k v)) else none
    | some (.lst xs) => (match k with
      | .int i => (ixN xs.length i).map fun j => S.set n (.lst (xs.set j v))
      | _ => none)
    | _ => none)
  | _ => none

/-! ### what is walked -/
def rngD (lo : Int) (n : Nat) : List D := (List.range n).map fun (i : Nat) => D.int (lo + (i : Int))
def enumD (xs : List D) : List D := (List.range xs.length).zipWith (fun (i : Nat) (x : D) => D.tup [.int (i : Int), x]) xs
def zipD (xs ys : List D) : List D := xs.zipWith (fun x y => D.tup [x, y]) ys
/-- a list of the store still stands -/
def stands (n : Nat) (xs : List D) (S : Sto) : Bool := match S[n]? with
  | some (.lst ys) => D.sames ys xs
  | _ => false
/-- what a walk goes over: the things, what must stand -/
inductive Sr where
  | free (xs : List D) | at (n : Nat) (xs : List D) | en (n : Nat) (xs : List D)
def Sr.xs : Sr → List D
  | .free xs => xs
  | .at _ xs => xs
  | .en _ xs => enumD xs
def Sr.ok : Sr → Sto → Bool
  | .free _, _ => true
  | .at n xs, S => stands n xs S
  | .en n xs, S => stands n xs S
def bindT : Tg → D → En → Option En
  | .one i, d, e => if i < e.length then some (e.set i (.val d)) else none
  | .many is, .tup xs, e => if is.length = xs.length ∧ (is.all fun i => decide (i < e.length)) = true then some ((is.zip xs).foldl (fun e p => e.set p.1 (.val p.2)) e) else none
  | _, _, _ => none
def wipeE (e : En) : List Nat → En
  | [] => e
  | v :: vs => (wipeE e vs).set v .no
def loopC (f : D → Sto → Out (Option D)) (c : Sto → Bool) : List D → List D → Sto → Out (List D)
  | [], acc, S => if c S = true then .ok acc S else .bad
  | x :: xs, acc, S => if c S = true then (match f x S with
    | .ok (some d) S1 => if acc.length < sizeLine then loopC f c xs (acc ++ [d]) S1 else .bad
    | .ok none S1 => loopC f c xs acc S1
    | _ => .bad) else .bad
def loopF (f : D → En → Sto → Fl) (c : Sto → Bool) : List D → En → Sto → Fl
  | [], e, S => if c S = true then .nx e S else .bad
  | x :: xs, e, S => if c S = true then (match f x e S with
    | .nx e1 S1 => loopF f c xs e1 S1
    | r => r) else .bad
/-- a table that may be locked: its number, what it holds -/
def openTab (S : Sto) (n : Nat) : Option Ob := match S[n]? with
  | some (.dk kvs) => some (.dk kvs)
  | some (.dt kvs) => some (.dt kvs)
  | _ => none
def tabKeys : Ob → List D
  | .dk kvs => kvs.map fun kv => keyD kv.1
  | .dt kvs => kvs.map fun kv => .tup (kv.1.map keyD)
  | _ => []
def tabVals : Ob → List D
  | .dk kvs => kvs.map (·.2)
  | .dt kvs => kvs.map (·.2)
  | _ => []
/-- unlocked again -/
def unlock (n : Nat) (o : Ob) (S : Sto) : Option Sto := match S[n]? with
  | some (.frz _) => some (S.set n o)
  | _ => none
def Out.unlock {α : Type} (n : Nat) (o : Ob) : Out α → Out α
  | .ok a S => (match Z.unlock n o S with
    | some S1 => .ok a S1
    | none => .bad)
  | _ => .bad
def Fl.unlock (n : Nat) (o : Ob) : Fl → Fl
  | .nx e S => (match Z.unlock n o S with
    | some S1 => .nx e S1
    | none => .bad)
  | .rt d S => (match Z.unlock n o S with
    | some S1 => .rt d S1
    | none => .bad)
  | _ => .bad

inductive Src where
  | s (s : Sr)
def runC (f : D → Sto → Out (Option D)) : Src → Sto → Out (List D)
  | .s s, S => loopC f s.ok s.xs [] S
def runF (f : D → En → Sto → Fl) : Src → En → Sto → Fl
  | .s s, e, S => loopF f s.ok s.xs e S
/-- where a table lies that is to be locked: no step of the run -/
def locV : Ex → En → Sto → Option D
  | .var i, e, _ => (match e[i]? with
    | some (.val d) => some d
    | _ => none)
  | .at a f, e, S => (match locV a e S with
    | some (.ref m) => (match S[m]? with
      | some (.ins _ fs) => fs.lookup f
      | _ => none)
    | _ => none)
  | .ix a (.str k), e, S => (match locV a e S with
    | some (.ref m) => (match S[m]? with
      | some (.dk kvs) => look kvs (.inr k)
      | _ => none)
    | _ => none)
  | _, _, _ => none
/-- its number and what it holds -/
def loc (o : Ex) (e : En) (S : Sto) : Option (Nat × Ob) := match locV o e S with
  | some (.ref n) => (openTab S n).map fun ob => (n, ob)
  | _ => none

def tabAt : Option Tab → D → D → Option D
  | some (.k kvs), y, d => y.key.map fun k => (look kvs k).getD d
  | some (.t kvs), y, d => y.tkey.map fun k => (look kvs k).getD d
  | none, _, _ => none
section
variable (P : Prog) (R : Str → List D → Sto → Out D)
def optB (S : Sto) : Option Bool → Out D
  | some b => .ok (.bl b) S
  | none => .bad
def optD (S : Sto) : Option D → Out D
  | some d => .ok d S
  | none => .bad
def optDS : Option (D × Sto) → Out D
  | some (d, S) => .ok d S
  | none => .bad
def meth (S : Sto) (x : D) (m : Str) : Option Str := match x with
  | .ref n => (match S[n]? with
    | some (.ins C fs) => if (fs.lookup m).isNone = true then P.mt.lookup (C, m) else none
    | _ => none)
  | _ => none
def attr (S : Sto) (x : D) (f : Str) : Option D := match x with
  | .ref n => (match S[n]? with
    | some (.ins C fs) => if (P.ats.any fun p => decide (p.1 = C) && decide (p.2 = f)) = true then fs.lookup f else none
    | _ => none)
  | _ => none
def merge (kvs more : List (Key × D)) : List (Key × D) := more.foldl (fun acc kv => put acc kv.1 kv.2) kvs
mutual
def eval : Ex → En → Sto → Out D
  | .var i, e, S => (match e[i]? with
    | some (.val d) => .ok d S
    | _ => .bad)
  | .int i, _, S => .ok (.int i) S
  | .str s, _, S => .ok (.str s) S
  | .bl b, _, S => .ok (.bl b) S
  | .non, _, S => .ok .non S
  | .gl x, _, S => optD S (P.gl.lookup x)
  | .bin o a b, e, S => (eval a e S).bind fun x S => (eval b e S).bind fun y S => optD S (evalB o x y)
  | .neg a, e, S => (eval a e S).bind fun x S => (match x with
    | .int i => .ok (.int (-i)) S
    | _ => .bad)
  | .cmp o a b, e, S => (eval a e S).bind fun x S => (eval b e S).bind fun y S => optB S (evalC S o x y)
  | .chain o p a b c, e, S => (eval a e S).bind fun x S => (eval b e S).bind fun y S => (match evalC S o x y with
    | some true => (eval c e S).bind fun z S => optB S (evalC S p y z)
    | some false => .ok (.bl false) S
    | none => .bad)
  | .and a b, e, S => (eval a e S).bind fun x S => (match truth S x with
    | some true => eval b e S
    | some false => .ok x S
    | none => .bad)
  | .or a b, e, S => (eval a e S).bind fun x S => (match truth S x with
    | some true => .ok x S
    | some false => eval b e S
    | none => .bad)
  | .not a, e, S => (eval a e S).bind fun x S => optB S ((truth S x).map (!·))
  | .ite t a b, e, S => (eval t e S).bind fun x S => (match truth S x with
    | some true => eval a e S
    | some false => eval b e S
    | none => .bad)
  | .tup es, e, S => (evals es e S).bind fun xs S => if xs.length ≤ sizeLine then .ok (.tup xs) S else .bad
  | .lst es, e, S => (evals es e S).bind fun xs S => if xs.length ≤ sizeLine then .ok (.lst xs) S else .bad
  | .lstR es, e, S => (evals es e S).bind fun xs S => if xs.length ≤ sizeLine then .ok (.ref S.length) (S ++ [.lst xs]) else .bad
  | .dk0, _, S => .ok (.ref S.length) (S ++ [.dk []])
  | .dt0, _, S => .ok (.ref S.length) (S ++ [.dt []])
  | .dkR ks vs, e, S => (evals vs e S).bind fun vs S => .ok (.ref S.length) (S ++ [.dk (merge [] (ks.zip vs))])
  | .isE neg a, e, S => (eval a e S).bind fun x S => (match x with
    | .ref n => (match S[n]? with
      | some (.dk kvs) => .ok (.bl (neg != kvs.isEmpty)) S
      | _ => .bad)
    | _ => .bad)
  | .tget x a d, e, S => (eval a e S).bind fun y S => optD S (tabAt (P.tabs.lookup x) y d)
  | .lrng a b, e, S => (eval a e S).bind fun x S => (eval b e S).bind fun y S => (match x, y with
    | .int i, .int j => if (-(2 ^ 62) ≤ i ∧ i < 2 ^ 62 ∧ -(2 ^ 62) ≤ j ∧ j < 2 ^ 62 ∧ (j - i).toNat ≤ 2 ^ 24) then .ok (.lst (rngD i (j - i).toNat)) S else .bad
    | _, _ => .bad)
  | .rep es k, e, S => (evals es e S).bind fun xs S => if xs.length ≤ sizeLine then (eval k e S).bind fun y S => (match y with
    | .int k => if -(2 ^ 63) ≤ k ∧ k < 2 ^ 63 ∧ xs.length * k.toNat ≤ sizeLine then .ok (.lst (List.replicate k.toNat xs).flatten) S else .bad
    | _ => .bad) else .bad
  | .ix a i, e, S => (eval a e S).bind fun x S => (eval i e S).bind fun y S => optD S (evalIx S x y)
  | .slTo a hi, e, S => (eval a e S).bind fun x S => (eval hi e S).bind fun h S => (match h with
    | .int j => optD S (evalSl S x none (some j))
    | _ => .bad)
  | .slFr a lo, e, S => (eval a e S).bind fun x S => (eval lo e S).bind fun h S => (match h with
    | .int j => optD S (evalSl S x (some j) none)
    | _ => .bad)
  | .slBt a lo hi, e, S => (eval a e S).bind fun x S => (eval lo e S).bind fun l S => (match l with
    | .int i => (eval hi e S).bind fun h S => (match h with
      | .int j => optD S (evalSl S x (some i) (some j))
      | _ => .bad)
    | _ => .bad)
  | .at a f, e, S => (eval a e S).bind fun x S => optD S (attr P S x f)
  | .call f es, e, S => (evals es e S).bind fun xs S => R f xs S
  | .new C es, e, S => (evals es e S).bind fun xs S => (match P.mt.lookup (C, ("__init__" : Str)) with
    | some f => (match R f (.ref S.length :: xs) (S ++ [.ins C []]) with
      | .ok .non S1 => .ok (.ref S.length) S1
      | .exc c S1 => .exc c S1
      | _ => .bad)
    | none => .bad)
  | .me o m es, e, S => (eval o e S).bind fun x S => (match meth P S x m with
    | some f => (evals es e S).bind fun xs S => R f (x :: xs) S
    | none => .bad)
  | .sup C m es, e, S => (evals es e S).bind fun xs S => (match P.mt.lookup (C, m) with
    | some f => R f xs S
    | none => .bad)
  | .bi b es, e, S => (evals es e S).bind fun xs S => optD S (evalBi S b xs)
  | .isi a t, e, S => (eval a e S).bind fun x S => optB S (isTy x S t)
  | .bm o m es, e, S => (eval o e S).bind fun x S => if recvOk S m x = true then (evals es e S).bind fun xs S => optDS (evalBm S m x xs) else .bad
  | .comp r own tg it cd el, e, S => ((src it e S).bind fun w S => runC (fun x S => match bindT tg x (wipeE e (own.map (·.2))) with
      | some e1 => (eval cd e1 S).bind fun b S => (match truth S b with
        | some true => (eval el e1 S).bind fun d S => .ok (some d) S
        | some false => .ok none S
        | none => .bad)
      | none => .bad) w S).bind fun acc S => if r = true then .ok (.ref S.length) (S ++ [.lst acc]) else .ok (.lst acc) S
  | .lock o a, e, S => (match loc o e S with
    | some (n, ob) => (eval a e (S.set n (.frz ob))).unlock n ob
    | none => .bad)
  | .lvals a, e, S => (eval a e S).bind fun x S => (match x with
    | .ref n => (match openTab S n with
      | some ob => .ok (.lst (tabVals ob)) S
      | none => .bad)
    | _ => .bad)
  | .cat a b, e, S => (eval a e S).bind fun x S => (eval b e S).bind fun y S => (match view S x, view S y with
    | .lst xs, .lst ys => if xs.length + ys.length ≤ sizeLine then .ok (.lst (xs ++ ys)) S else .bad
    | _, _ => .bad)
def evals : Exs → En → Sto → Out (List D)
  | .nil, _, S => .ok [] S
  | .cons a r, e, S => (eval a e S).bind fun x S => (evals r e S).bind fun xs S => .ok (x :: xs) S
/-- what a walk goes over; a table is locked meanwhile -/
def src : It → En → Sto → Out Src
  | .seq a, e, S => (eval a e S).bind fun x S => (match x with
    | .lst xs => .ok (.s (.free xs)) S
    | .tup xs => .ok (.s (.free xs)) S
    | .str s => .ok (.s (.free (signs s))) S
    | .ctup xs => .ok (.s (.free xs)) S
    | .ref n => (match S[n]? with
      | some (.lst xs) => .ok (.s (.at n xs)) S
      | _ => .bad)
    | _ => .bad)
  | .r1 a, e, S => (eval a e S).bind fun x S => (match x with
    | .int j => if -(2 ^ 62) ≤ j ∧ j < 2 ^ 62 then .ok (.s (.free (rngD 0 j.toNat))) S else .bad
    | _ => .bad)
  | .r2 a b, e, S => (eval a e S).bind fun x S => (eval b e S).bind fun y S => (match x, y with
    | .int i, .int j => if -(2 ^ 62) ≤ i ∧ i < 2 ^ 62 ∧ -(2 ^ 62) ≤ j ∧ j < 2 ^ 62 then .ok (.s (.free (rngD i (j - i).toNat))) S else .bad
    | _, _ => .bad)
  | .enum a, e, S => (eval a e S).bind fun x S => (match x with
    | .lst xs => .ok (.s (.free (enumD xs))) S
    | .ref n => (match S[n]? with
      | some (.lst xs) => .ok (.s (.en n xs)) S
      | _ => .bad)
    | _ => .bad)
  | .zip a b, e, S => (eval a e S).bind fun x S => (eval b e S).bind fun y S => (match x, y with
    | .lst xs, .lst ys => .ok (.s (.free (zipD xs ys))) S
    | .tup xs, .tup ys => .ok (.s (.free (zipD xs ys))) S
    | .tup xs, .lst ys => .ok (.s (.free (zipD xs ys))) S
    | _, _ => .bad)
  | .keys a, e, S => (eval a e S).bind fun x S => (match x with
    | .ref n => (match S[n]? with
      | some (.frz (.dk kvs)) => .ok (.s (.free (tabKeys (.dk kvs)))) S
      | some (.frz (.dt kvs)) => .ok (.s (.free (tabKeys (.dt kvs)))) S
      | _ => .bad)
    | _ => .bad)
  | .vals a, e, S => (eval a e S).bind fun x S => (match x with
    | .ref n => (match S[n]? with
      | some (.frz (.dk kvs)) => .ok (.s (.free (tabVals (.dk kvs)))) S
      | some (.frz (.dt kvs)) => .ok (.s (.free (tabVals (.dt kvs)))) S
      | _ => .bad)
    | _ => .bad)
end
def Out.fl {α : Type} (o : Out α) (e : En) (f : α → Sto → Fl) : Fl := match o with
  | .ok a S => f a S
  | .exc c S => .ex c e S
  | .bad => .bad
def loopW (c : En → Sto → Out Bool) (f : En → Sto → Fl) : Nat → En → Sto → Fl
  | 0, _, _ => .bad
  | n + 1, e, S => (c e S).fl e fun b S => if b = true then (match f e S with
    | .nx e1 S1 => loopW c f n e1 S1
    | r => r) else .nx e S
def setE (e : En) (i : Nat) (s : Slot) (S : Sto) : Fl := if i < e.length then .nx (e.set i s) S else .bad
def isSub (c C : Str) : Bool := decide (c = C) || P.sub.any fun p => decide (p.1 = c) && decide (p.2 = C)
def exec : St → En → Sto → Fl
  | .skip, e, S => .nx e S
  | .seq a b, e, S => (match exec a e S with
    | .nx e1 S1 => exec b e1 S1
    | r => r)
  | .ex a, e, S => (eval P R a e S).fl e fun _ S => .nx e S
  | .set i a, e, S => (eval P R a e S).fl e fun d S => setE e i (.val d) S
  | .unp is a, e, S => (eval P R a e S).fl e fun d S => (match bindT (.many is) d e with
    | some e1 => .nx e1 S
    | none => .bad)
  | .setA o f a, e, S => (eval P R a e S).fl e fun d S => (eval P R o e S).fl e fun x S => (match x with
    | .ref n => (match S[n]? with
      | some (.ins C fs) => if fs.length < 1000 ∧ (P.ats.any fun p => decide (p.1 = C) && decide (p.2 = f)) = true then .nx e (S.set n (.ins C (putFD f d fs))) else .bad
      | _ => .bad)
    | _ => .bad)
  | .setI o k a, e, S => (eval P R a e S).fl e fun d S => (eval P R o e S).fl e fun x S => (eval P R k e S).fl e fun i S => (match evalSet S x i d with
    | some S1 => .nx e S1
    | none => .bad)
  | .ret a, e, S => (eval P R a e S).fl e fun d S => .rt d S
  | .retN, e, S => .rt .non S
  | .ite c a b, e, S => (eval P R c e S).fl e fun x S => (match truth S x with
    | some true => exec a e S
    | some false => exec b e S
    | none => .bad)
  | .for tg it b, e, S => (src P R it e S).fl e fun w S => runF (fun x e S => match bindT tg x e with
    | some e1 => exec b e1 S
    | none => .bad) w e S
  | .while c b, e, S => loopW (fun e S => (eval P R c e S).bind fun x S => (match truth S x with
    | some t => .ok t S
    | none => .bad)) (fun e S => exec b e S) P.fuel e S
  | .raise C, e, S => .ex C e S
  | .ownN i es, e, S => (evals P R es e S).fl e fun xs S => if xs.length ≤ sizeLine then setE e i (.own xs) S else .bad
  | .ownA i a, e, S => (eval P R a e S).fl e fun d S => (match e[i]? with
    | some (.own xs) => if xs.length < sizeLine then .nx (e.set i (.own (xs ++ [d]))) S else .bad
    | _ => .bad)
  | .frz i, e, S => (match e[i]? with
    | some (.own xs) => .nx (e.set i (.val (.lst xs))) S
    | _ => .bad)
  | .try1 b C i a, e, S => (match exec b e S with
    | .ex c e1 S1 => if isSub P c C = true then (eval P R a e1 S1).fl e1 fun d S => setE e1 i (.val d) S else .ex c e1 S1
    | r => r)
  | .never, _, _ => .bad
  | .lock o s, e, S => (match loc o e S with
    | some (n, ob) => (exec s e (S.set n (.frz ob))).unlock n ob
    | none => .bad)
end
/-- a def's run: n levels of calls -/
def run (P : Prog) : Nat → Str → List D → Sto → Out D
  | 0, _, _, _ => .bad
  | n + 1, f, ds, S => match P.defs.lookup f with
    | none => .bad
    | some d => if ds.length = d.np then (match exec P (run P n) d.body (ds.map Slot.val ++ List.replicate (d.N.length - d.np) .no) S with
      | .nx _ S1 => .ok .non S1
      | .rt v S1 => .ok v S1
      | .ex c _ S1 => .exc c S1
      | .bad => .bad) else .bad
end Z


/-! Z: sorted of rows that are alike. -/
namespace Z
open PySem PySem.Spec PyProof.Rows L2
/-! ### the order -/
theorem ltS_irr (a : List Nat) : ¬ a < a := List.lt_irrefl a
theorem ltK_irr : ∀ a : Key, ltK a a = false
  | .inl i => decide_eq_false (Int.lt_irrefl i)
  | .inr s => decide_eq_false (ltS_irr _)
theorem ltK_trans {a b c : Key} (h : ltK a b = true) (k : ltK b c = true) : ltK a c = true := by
  cases a <;> cases b <;> cases c <;> first | cases h | cases k | skip
  · rename_i i j l
    exact decide_eq_true (Int.lt_trans (of_decide_eq_true h) (of_decide_eq_true k))
  · rename_i i j l
    exact decide_eq_true (List.lt_trans (of_decide_eq_true h) (of_decide_eq_true k))
theorem str_ext {s t : Str} (h : s.cps.toList = t.cps.toList) : s = t := by
  obtain ⟨a⟩ := s
  obtain ⟨b⟩ := t
  have : a = b := Array.toList_inj.mp h
  rw [this]
theorem ltS_tri (a b : List Nat) : a < b ∨ a = b ∨ b < a := by
  by_cases h : a < b
  · exact .inl h
  · by_cases k : b < a
    · exact .inr (.inr k)
    · exact .inr (.inl (List.le_antisymm (List.not_lt.mp k) (List.not_lt.mp h)))
theorem ltK_tri {a b : Key} (h : kindK a = kindK b) : ltK a b = true ∨ a = b ∨ ltK b a = true := by
  cases a <;> cases b <;> first | cases h | skip
  · rename_i i j
    rcases Int.lt_trichotomy i j with q | q | q
    · exact .inl (decide_eq_true q)
    · exact .inr (.inl (by rw [q]))
    · exact .inr (.inr (decide_eq_true q))
  · rename_i i j
    rcases ltS_tri i.cps.toList j.cps.toList with q | q | q
    · exact .inl (decide_eq_true q)
    · exact .inr (.inl (by rw [str_ext q]))
    · exact .inr (.inr (decide_eq_true q))
theorem ltR_irr : ∀ a : List Key, ltR a a = false
  | [] => rfl
  | a :: r => by
    show (if a = a then ltR r r else ltK a a) = false
    rw [if_pos rfl, ltR_irr r]
theorem ltR_cons {a b : Key} {r q : List Key} : ltR (a :: r) (b :: q) = if a = b then ltR r q else ltK a b := rfl
theorem ltR_trans : ∀ {a b c : List Key}, ltR a b = true → ltR b c = true → ltR a c = true
  | [], _, _, h, _ => by cases h
  | _ :: _, [], _, h, _ => by cases h
  | _ :: _, _ :: _, [], _, k => by cases k
  | a :: r, b :: q, c :: p, h, k => by
    rw [ltR_cons] at h k ⊢
    by_cases e : a = b
    · subst e
      rw [if_pos rfl] at h
      by_cases e2 : a = c
      · subst e2
        rw [if_pos rfl] at k ⊢
        exact ltR_trans h k
      · rw [if_neg e2] at k ⊢
        exact k
    · rw [if_neg e] at h
      by_cases e2 : b = c
      · subst e2
        rw [if_neg e]
        exact h
      · rw [if_neg e2] at k
        have z := ltK_trans h k
        rw [if_neg (fun e3 => by rw [e3, ltK_irr] at z; cases z)]
        exact z
theorem ltR_tri : ∀ {a b : List Key}, a.map kindK = b.map kindK → ltR a b = true ∨ a = b ∨ ltR b a = true
  | [], [], _ => .inr (.inl rfl)
  | [], _ :: _, h => by cases h
  | _ :: _, [], h => by cases h
  | a :: r, b :: q, h => by
    rw [List.map_cons, List.map_cons] at h
    obtain ⟨h1, h2⟩ := List.cons.inj h
    rw [ltR_cons, ltR_cons]
    by_cases e : a = b
    · subst e
      rw [if_pos rfl, if_pos rfl]
      rcases ltR_tri h2 with z | z | z
      · exact .inl z
      · exact .inr (.inl (by rw [z]))
      · exact .inr (.inr z)
    · rw [if_neg e, if_neg (Ne.symm e)]
      rcases ltK_tri h1 with z | z | z
      · exact .inl z
      · exact absurd z e
      · exact .inr (.inr z)
/-! ### sorting plainly -/
theorem insR_perm (x : List Key) : ∀ l, (insR x l).Perm (x :: l)
  | [] => List.Perm.refl _
  | y :: r => by
    unfold insR
    split
    · exact ((insR_perm x r).cons y).trans (List.Perm.swap x y r)
    · exact List.Perm.refl _
theorem sortR_perm : ∀ l, (sortR l).Perm l
  | [] => List.Perm.refl _
  | x :: r => (insR_perm x (sortR r)).trans ((sortR_perm r).cons x)
abbrev Asc (l : List (List Key)) : Prop := l.Pairwise fun x y => ltR y x = false
theorem insR_asc {k : List Bool} (x : List Key) (hx : x.map kindK = k) : ∀ l : List (List Key), (∀ y ∈ l, y.map kindK = k) → Asc l → Asc (insR x l)
  | [], _, _ => List.pairwise_singleton ..
  | y :: r, hl, h => by
    obtain ⟨h1, h2⟩ := List.pairwise_cons.mp h
    have hy := hl y List.mem_cons_self
    unfold insR
    split
    · rename_i c
      refine List.pairwise_cons.mpr ⟨fun z hz => ?_, insR_asc x hx r (fun z hz => hl z (List.mem_cons_of_mem _ hz)) h2⟩
      rcases List.mem_cons.mp ((insR_perm x r).mem_iff.mp hz) with rfl | hz
      · cases q : ltR z y with
        | false => rfl
        | true =>
          have := ltR_trans c q
          rw [ltR_irr] at this
          cases this
      · exact h1 z hz
    · rename_i c
      refine List.pairwise_cons.mpr ⟨fun z hz => ?_, h⟩
      have c' : ltR y x = false := by simpa using c
      rcases List.mem_cons.mp hz with rfl | hz
      · exact c'
      · cases q : ltR z x with
        | false => rfl
        | true =>
          have n := h1 z hz
          rcases ltR_tri (a := x) (b := y) (by rw [hx, hy]) with w | w | w
          · have := ltR_trans q w
            rw [n] at this
            cases this
          · rw [w, n] at q
            cases q
          · rw [w] at c'
            cases c'
theorem sortR_asc {k : List Bool} : ∀ l : List (List Key), (∀ y ∈ l, y.map kindK = k) → Asc (sortR l)
  | [], _ => List.Pairwise.nil
  | x :: r, h => insR_asc x (h x List.mem_cons_self) _ (fun y hy => h y (List.mem_cons_of_mem _ ((sortR_perm r).mem_iff.mp hy))) (sortR_asc r fun y hy => h y (List.mem_cons_of_mem _ hy))
theorem asc_one {k : List Bool} : ∀ {a b : List (List Key)}, a.Perm b → (∀ y ∈ b, y.map kindK = k) → Asc a → Asc b → a = b
  | [], b, p, _, _, _ => by rw [List.nil_perm.mp p]
  | x :: a, b, p, hk, h1, h2 => by
    cases b with
    | nil => cases p.length_eq
    | cons y b =>
      obtain ⟨a1, a2⟩ := List.pairwise_cons.mp h1
      obtain ⟨b1, b2⟩ := List.pairwise_cons.mp h2
      have e : x = y := by
        have mx : x ∈ y :: b := p.mem_iff.mp List.mem_cons_self
        have my : y ∈ x :: a := p.mem_iff.mpr List.mem_cons_self
        rcases List.mem_cons.mp mx with z | mx
        · exact z
        rcases List.mem_cons.mp my with z | my
        · exact z.symm
        have n1 := b1 x mx
        have n2 := a1 y my
        rcases ltR_tri (a := x) (b := y) (by rw [hk x (List.mem_cons_of_mem _ mx), hk y List.mem_cons_self]) with w | w | w
        · rw [n1] at w; cases w
        · exact w
        · rw [n2] at w; cases w
      subst e
      rw [asc_one (List.Perm.cons_inv p) (fun y hy => hk y (List.mem_cons_of_mem _ hy)) a2 b2]
/-! ### a rank among the rows -/
def rankR (L : List (List Key)) (k : List Key) : Int := (L.countP fun u => ltR u k : Nat)
theorem count_le {α : Type} {f g : α → Bool} : ∀ {L : List α}, (∀ x ∈ L, f x = true → g x = true) → L.countP f ≤ L.countP g
  | [], _ => Nat.le_refl _
  | x :: r, h => by
    have ih := count_le (L := r) fun y hy => h y (List.mem_cons_of_mem _ hy)
    have hx := h x List.mem_cons_self
    rw [List.countP_cons, List.countP_cons]
    cases e : f x with
    | false => simp; omega
    | true => rw [hx e]; simp; omega
theorem count_lt {α : Type} {f g : α → Bool} : ∀ {L : List α}, (∀ x ∈ L, f x = true → g x = true) → (∃ x ∈ L, g x = true ∧ f x = false) → L.countP f < L.countP g
  | [], _, ⟨_, h, _⟩ => by cases h
  | x :: r, h, ⟨y, hy, h1, h2⟩ => by
    have le := count_le (L := r) fun y hy => h y (List.mem_cons_of_mem _ hy)
    have hx := h x List.mem_cons_self
    rw [List.countP_cons, List.countP_cons]
    rcases List.mem_cons.mp hy with rfl | hy
    · rw [h1, h2]; simp; omega
    · have ih := count_lt (L := r) (fun y hy => h y (List.mem_cons_of_mem _ hy)) ⟨y, hy, h1, h2⟩
      cases e : f x with
      | false => simp; omega
      | true => rw [hx e]; simp; omega
theorem rank_lt {k : List Bool} {L : List (List Key)} (hL : ∀ y ∈ L, y.map kindK = k) {p q : List Key} (hp : p ∈ L) (hq : q ∈ L) : decide (rankR L p < rankR L q) = ltR p q := by
  unfold rankR
  cases e : ltR p q with
  | true =>
    refine decide_eq_true (Int.ofNat_lt.mpr (count_lt (fun x _ h => ltR_trans h e) ⟨p, hp, e, ltR_irr p⟩))
  | false =>
    refine decide_eq_false (Int.not_lt.mpr (Int.ofNat_le.mpr (count_le fun x _ h => ?_)))
    rcases ltR_tri (a := p) (b := q) (by rw [hL p hp, hL q hq]) with z | z | z
    · rw [e] at z; cases z
    · rw [z]; exact h
    · exact ltR_trans h z
/-! ### rows of the real heap -/
def TupKs (h : Heap) (v : Value) (ks : List Key) : Prop := ∃ a us, v = .ref a ∧ IsTup h a (List.toArray us) ∧ Vals (ks.map kV) us
theorem TupKs.keeps {h h' : Heap} {v : Value} {ks : List Key} (x : TupKs h v ks) (k : ∀ b o, h.get? b = some o → o.cls = .type "tuple" → h'.get? b = some o) : TupKs h' v ks := by
  obtain ⟨a, us, e, ⟨o, ho, hc, hd⟩, r⟩ := x
  exact ⟨a, us, e, ⟨o, k a o ho hc, hc, hd⟩, r⟩
theorem key_inj {k j : Key} {u : Value} (h : RelV (kV k) u) (h' : RelV (kV j) u) : k = j := by
  cases k <;> cases j
  · obtain ⟨t, rfl⟩ := h
    obtain ⟨t', e⟩ := h'
    cases e
    rfl
  · obtain ⟨t, rfl⟩ := h
    obtain ⟨t', e⟩ := h'
    cases e
  · obtain ⟨t, rfl⟩ := h
    obtain ⟨t', e⟩ := h'
    cases e
  · obtain ⟨t, rfl⟩ := h
    obtain ⟨t', e⟩ := h'
    cases e
    rfl
theorem keys_inj : ∀ {ks js : List Key} {us : List Value}, Vals (ks.map kV) us → Vals (js.map kV) us → ks = js
  | [], [], _, _, _ => rfl
  | [], _ :: _, us, h, h' => by
    cases us with
    | nil => cases h'
    | cons u us => cases h
  | _ :: _, [], us, h, h' => by
    cases us with
    | nil => cases h
    | cons u us => cases h'
  | k :: ks, j :: js, us, h, h' => by
    cases us with
    | nil => cases h
    | cons u us =>
      cases h with
      | cons r1 t1 =>
        cases h' with
        | cons r2 t2 => rw [key_inj r1 r2, keys_inj t1 t2]
theorem TupKs.inj {h : Heap} {v : Value} {ks js : List Key} (x : TupKs h v ks) (y : TupKs h v js) : ks = js := by
  obtain ⟨a, us, rfl, ⟨o, ho, hc, n, hd⟩, r⟩ := x
  obtain ⟨b, ws, e, ⟨o', ho', hc', n', hd'⟩, r'⟩ := y
  cases e
  rw [ho] at ho'
  cases ho'
  rw [hd] at hd'
  injection hd' with d1 d2
  have : us = ws := by simpa using congrArg Array.toList d1
  subst this
  exact keys_inj r r'
open Classical in
noncomputable def ksOf (h : Heap) (v : Value) : List Key := if x : ∃ ks, TupKs h v ks then Classical.choose x else []
theorem ksOf_eq {h : Heap} {v : Value} {ks : List Key} (x : TupKs h v ks) : ksOf h v = ks := by
  have e : ∃ ks, TupKs h v ks := ⟨ks, x⟩
  unfold ksOf
  rw [dif_pos e]
  exact (Classical.choose_spec e).inj x
section
variable {prog : Program} {w : World} {A : Around} {E : Value → Shared → Prop} {s : Shared} {Q : Bool → Shared → Prop}
theorem one_str (c : Bool) {p q : Str} {t u : Tok} (h : Q (decide (p.cps.toList < q.cps.toList)) s) : wpAny (model prog w) A (oneLt' c (.str p t) (.str q u)) Q E s := by
  cases c with
  | true => exact oneLt_str h
  | false => exact PySem.W.kat_one _ _ (PySem.P.lt_str (Q := PySem.W.BoolBack Q) h)
theorem lex_rows {b : Bool} : ∀ {ks js : List Key} {us ws : List Value} (i : Nat), Vals (ks.map kV) us → Vals (js.map kV) ws → ks.map kindK = js.map kindK → Q (ltR ks js) s → PySem.W.KatLex prog w A b false Q (us.zip ws) i s
  | [], [], us, ws, i, h1, h2, _, h => by
    cases h1
    exact PySem.W.kat_nil h
  | [], _ :: _, _, _, _, _, _, hk, _ => by cases hk
  | _ :: _, [], _, _, _, _, _, hk, _ => by cases hk
  | k :: ks, j :: js, us, ws, i, h1, h2, hk, h => by
    rw [List.map_cons, List.map_cons] at hk
    obtain ⟨k1, k2⟩ := List.cons.inj hk
    cases us with
    | nil => cases h1
    | cons u us =>
    cases ws with
    | nil => cases h2
    | cons x ws =>
    cases h1 with
    | cons r1 t1 =>
    cases h2 with
    | cons r2 t2 =>
    rw [ltR_cons] at h
    cases k with
    | inl p =>
      cases j with
      | inr q => cases k1
      | inl q =>
        obtain ⟨t, rfl⟩ := r1
        obtain ⟨t', rfl⟩ := r2
        show PySem.W.KatLex prog w A b false Q ((Value.int p t, Value.int q t') :: us.zip ws) i s
        refine PySem.W.kat_cons (wpAny_eqBool_int ?_)
        by_cases e : p = q
        · subst e
          rw [beq_self_eq_true]
          rw [if_pos rfl] at h
          exact PySem.W.kat_yes (lex_rows (i + 1) t1 t2 k2 h)
        · rw [show (p == q) = false from beq_eq_false_iff_ne.mpr e]
          rw [if_neg (fun z => e (Sum.inl.inj z))] at h
          exact PySem.W.kat_no (TS.oneLt_ints _ h)
    | inr p =>
      cases j with
      | inl q => cases k1
      | inr q =>
        obtain ⟨t, rfl⟩ := r1
        obtain ⟨t', rfl⟩ := r2
        show PySem.W.KatLex prog w A b false Q ((Value.str p t, Value.str q t') :: us.zip ws) i s
        refine PySem.W.kat_cons (wpAny_eqBool_str ?_)
        by_cases e : p = q
        · subst e
          rw [decide_eq_true rfl]
          rw [if_pos rfl] at h
          exact PySem.W.kat_yes (lex_rows (i + 1) t1 t2 k2 h)
        · rw [decide_eq_false e]
          rw [if_neg (fun z => e (Sum.inr.inj z))] at h
          exact PySem.W.kat_no (one_str _ h)
end
/-- rows of one kind, none empty -/
def RowsOk (h : Heap) (k : List Bool) (vs : List Value) : Prop := k ≠ [] ∧ ∀ v ∈ vs, ∃ ks, TupKs h v ks ∧ ks.map kindK = k
theorem RowsOk.keeps {h h' : Heap} {k : List Bool} {vs : List Value} (x : RowsOk h k vs) (q : ∀ b o, h.get? b = some o → o.cls = .type "tuple" → h'.get? b = some o) : RowsOk h' k vs := ⟨x.1, fun v hv => let ⟨ks, t, r⟩ := x.2 v hv; ⟨ks, t.keeps q, r⟩⟩
def tyK : Bool → Value
  | true => .type "int"
  | false => .type "str"
theorem firsts_rows {h : Heap} {b : Bool} {k : List Bool} : ∀ vs : List Value, RowsOk h (b :: k) vs → ∃ fs, PySem.W.KatTups h vs fs ∧ fs.length = vs.length ∧ ∀ f ∈ fs, ∃ y : Key, RelV (kV y) f ∧ kindK y = b
  | [], _ => ⟨[], PySem.W.KatTups.nil, rfl, fun f hf => by cases hf⟩
  | v :: vs, x => by
    obtain ⟨fs, q, hl, hi⟩ := firsts_rows vs ⟨x.1, fun u hu => x.2 u (List.mem_cons_of_mem _ hu)⟩
    obtain ⟨ks, ⟨a, us, rfl, ⟨o, ho, hc, n, hd⟩, r⟩, hk⟩ := x.2 v List.mem_cons_self
    cases ks with
    | nil => cases hk
    | cons y ys =>
      rw [List.map_cons] at hk
      obtain ⟨hk1, hk2⟩ := List.cons.inj hk
      cases us with
      | nil => cases r
      | cons u us =>
        cases r with
        | cons r1 r2 =>
          refine ⟨u :: fs, PySem.W.KatTups.cons ho hc hd rfl q, by rw [List.length_cons, List.length_cons, hl], fun f hf => ?_⟩
          rcases List.mem_cons.mp hf with rfl | hf
          · exact ⟨y, r1, hk1⟩
          · exact hi f hf
section
variable {prog : Program} {w : World} {A : Around} {E : Value → Shared → Prop} {s : Shared}
theorem kind_rows {b : Bool} {k : List Bool} {vs : List Value} {L : List (List Key)} (hL : ∀ y ∈ L, y.map kindK = b :: k) (h2 : 2 ≤ vs.length) (x : RowsOk s.heap (b :: k) vs) (r : Value → Int) (hr : ∀ v ∈ vs, ∀ ks, TupKs s.heap v ks → ks ∈ L ∧ r v = rankR L ks) (Q : SortKind → Shared → Prop)
    (h : ∀ κ, TS.Cmp prog w A s κ (pairsOf vs) r → Q κ s) : wpAny (model prog w) A (keyKind' vs.toArray) Q E s := by
  obtain ⟨fs, q, hl, hi⟩ := firsts_rows vs x
  refine PySem.W.kat_kind (T := tyK b) q (by omega) (fun f hf => ?_) (by cases b <;> rfl) (h _ ?_)
  · obtain ⟨y, hy, hb⟩ := hi f hf
    cases y with
    | inl i =>
      obtain ⟨t, rfl⟩ := hy
      subst hb
      exact PySem.W.Looks.of_pure rfl
    | inr i =>
      obtain ⟨t, rfl⟩ := hy
      subst hb
      exact PySem.W.Looks.of_pure rfl
  · intro p p' hp hq Q' E' hQ
    rw [pairsOf_toList] at hp hq
    obtain ⟨ks, tp, kp⟩ := x.2 _ (mem_zip_self hp).2
    obtain ⟨js, tq, kq⟩ := x.2 _ (mem_zip_self hq).2
    obtain ⟨m1, e1⟩ := hr _ (mem_zip_self hp).2 _ tp
    obtain ⟨m2, e2⟩ := hr _ (mem_zip_self hq).2 _ tq
    rw [e1, e2, rank_lt hL m1 m2] at hQ
    obtain ⟨a, us, f1, ⟨o, ho, hc, n, hd⟩, i1⟩ := tp
    obtain ⟨a', ws, f2, ⟨o', ho', hc', n', hd'⟩, i2⟩ := tq
    rw [f1, f2]
    refine PySem.W.kat_lt ho hd ho' hd' ?_
    have sz : decide ((List.toArray us).size < (List.toArray ws).size) = false := by
      have l1 := i1.length
      have l2 := i2.length
      have l3 := congrArg List.length (kp.trans kq.symm)
      rw [List.length_map, List.length_map] at l3
      rw [List.length_map] at l1 l2
      rw [List.size_toArray, List.size_toArray]
      exact decide_eq_false (by omega)
    rw [sz]
    exact lex_rows 0 i1 i2 (kp.trans kq.symm) hQ
theorem list_sort_rows {a : Addr} {vs : List Value} {n : Nat} {b : Bool} {k : List Bool} {L : List (List Key)} {P : PySem.Fin → Shared → Prop} (hL : ∀ y ∈ L, y.map kindK = b :: k) (ho : s.heap.get? a = some (seqObj "list" vs.toArray n)) (h64 : vs.length < 64) (x : RowsOk s.heap (b :: k) vs)
    (r : Value → Int) (hr : ∀ v ∈ vs, ∀ ks, TupKs s.heap v ks → ks ∈ L ∧ r v = rankR L ks)
    (h : ∀ out : Array Value, out.toList.Perm vs → out.toList.Pairwise (fun u v => r u ≤ r v) → P (.done (.ret .none)) { s with heap := sortedHeap s.heap a vs out }) :
    wpAny (model prog w) A (Builtin.«list.sort» ⟨[.ref a], []⟩) P E s := by
  have keep : ∀ c o, s.heap.get? c = some o → o.cls = .type "tuple" → (TS.midHeap s.heap a vs).get? c = some o := fun c o e hc => by
    refine TS.midHeap_old ?_ e
    rintro rfl
    rw [ho] at e
    have e' : seqObj "list" vs.toArray n = o := Option.some.inj e
    rw [← e'] at hc
    have c' : Value.type "list" = Value.type "tuple" := hc
    injection c' with c''
    exact absurd c'' (by decide)
  refine SK.plain_sort (r := r) ho h64 (fun h2 Q hQ => ?_) fun ps out h1 h2 h3 => ?_
  · refine kind_rows (s := { s with heap := TS.midHeap s.heap a vs }) hL h2 (x.keeps keep) r (fun v hv ks t => ?_) Q hQ
    obtain ⟨js, t0, _⟩ := x.2 v hv
    have e : ks = js := t.inj (t0.keeps keep)
    rw [e]
    exact hr v hv js t0
  · obtain ⟨p, o⟩ := TS.out_rank h1 h2 h3
    exact h out p o
theorem sorted_rows {l : Addr} {vs : List Value} {b : Bool} {k : List Bool} {Q : Value → Shared → Prop} (hl : s.heap.IsList l vs.toArray) (h64 : vs.length < 64) (x : RowsOk s.heap (b :: k) vs)
    (h : ∀ out : Array Value, out.toList.Perm vs → out.toList.Pairwise (fun u v => ∀ ks js, TupKs s.heap u ks → TupKs s.heap v js → ltR js ks = false) → Q (.ref (s.heap.objs.size + 1)) { s with heap := sortedAll s.heap vs out }) :
    wpAny (model prog w) A (call (.builtin "sorted") [.ref l]) Q E s := by
  have hL : ∀ y ∈ vs.map (ksOf s.heap), y.map kindK = b :: k := fun y hy => by
    obtain ⟨v, hv, rfl⟩ := List.mem_map.mp hy
    obtain ⟨ks, t, hk⟩ := x.2 v hv
    rw [ksOf_eq t]
    exact hk
  have inL : ∀ v ∈ vs, ∀ ks, TupKs s.heap v ks → ks ∈ vs.map (ksOf s.heap) := fun v hv ks t => List.mem_map.mpr ⟨v, hv, ksOf_eq t⟩
  refine Calls.call_function_entry kind_sorted plain_sorted entry_sorted (args_sorted1 _) ?_
  unfold Builtin.«sorted»
  refine wpAny_bind (m := checkCount "sorted" 1 1 _) (wpAny_pure ?_)
  refine wpAny_bind (collect_list hl ?_ (by rw [sizeLine_eq]; omega))
  refine wpAny_bind (wpAny_newList ?_ (by rw [sizeLine_eq]; omega))
  have hsz : ((s.heap.push (seqObj "list" #[] 0)).update s.heap.objs.size (Obj.mapSeq (· ++ vs.toArray))).objs.size = s.heap.objs.size + 1 := by rw [Heap.size_update, size_push']
  have hoL : (((s.heap.push (seqObj "list" #[] 0)).update s.heap.objs.size (Obj.mapSeq (· ++ vs.toArray))).push (seqObj "list" vs.toArray 0)).get? (s.heap.objs.size + 1) = some (seqObj "list" vs.toArray 0) := by rw [← hsz]; exact Heap.get?_push_size _ rfl
  have keep : ∀ c o, s.heap.get? c = some o → o.cls = .type "tuple" → (((s.heap.push (seqObj "list" #[] 0)).update s.heap.objs.size (Obj.mapSeq (· ++ vs.toArray))).push (seqObj "list" vs.toArray 0)).get? c = some o := fun c o q _ => by
    have hlt : c < s.heap.objs.size := Heap.lt_size q
    rw [Heap.get?_push_ne _ _ _ (by rw [hsz]; exact Nat.ne_of_lt (Nat.lt_succ_of_lt hlt)), Heap.get?_update_ne _ _ _ _ (Nat.ne_of_lt hlt), Heap.get?_push_ne _ _ _ (Nat.ne_of_lt hlt)]
    exact q
  show wpAny _ _ _ _ _ { s with heap := ((s.heap.push (seqObj "list" #[] 0)).update s.heap.objs.size (Obj.mapSeq (· ++ vs.toArray))).push (seqObj "list" vs.toArray 0) }
  rw [hsz]
  refine wpAny_bind (wpAny_holding (wpAny_call_entry slot_list_sort ⟨_, hoL, rfl⟩ entry_list_sort (list_sort_rows hL hoL h64 (x.keeps keep) (fun v => rankR (vs.map (ksOf s.heap)) (ksOf s.heap v)) (fun v hv ks t => ?_) fun out a1 a2 => ⟨_, rfl, ?_⟩) (args_list_sort _)))
  · obtain ⟨js, t0, _⟩ := x.2 v hv
    have e : ks = js := t.inj (t0.keeps keep)
    rw [e]
    exact ⟨inL v hv js t0, by rw [ksOf_eq t0]⟩
  · refine wpAny_pure ⟨_, rfl, h out a1 (List.Pairwise.imp_of_mem (fun {u v} hu hv huv ks js tu tv => ?_) a2)⟩
    rw [ksOf_eq tu, ksOf_eq tv] at huv
    have z := rank_lt hL (inL v (a1.mem_iff.mp hv) js tv) (inL u (a1.mem_iff.mp hu) ks tu)
    rw [decide_eq_false (Int.not_lt.mpr huv)] at z
    exact z.symm
end
end Z


/-! Z: how values and objects lie in the abstract heap. -/
namespace Z
open PySem L2

/-- where the store's objects lie; which addresses are another's own -/
structure Wd where
  at_ : Nat → Addr
  N : Nat
  P : Addr → Prop
def Im (w : Wd) (a : Addr) : Prop := ∃ n, n < w.N ∧ w.at_ n = a

variable {K : PySem.W.Frag}
def TupAt (w : Wd) (H : Hp) (a : Addr) (vs : List V) : Prop := H a = some (.tup vs) ∧ ¬ Im w a ∧ ¬ w.P a
def KTup (K : PySem.W.Frag) (a : Addr) (vs : List V) : Prop :=
  ∃ (o : Obj) (its : Array Value) (n : Nat), K.lookup a = some o ∧ o.cls = .type "tuple" ∧ o.data = .seq its n ∧ its.size ≤ sizeLine ∧ Vals vs its.toList
def LstAt (K : PySem.W.Frag) (w : Wd) (H : Hp) (a : Addr) (vs : List V) : Prop :=
  (Rd H a (.lst vs) ∧ ¬ Im w a ∧ ¬ w.P a) ∨
    ∃ (o : Obj) (its : Array Value) (n : Nat), K.lookup a = some o ∧ o.cls = .type "list" ∧ o.dict = none ∧ o.data = .seq its n ∧ its.size ≤ sizeLine ∧ Vals vs its.toList
theorem TupAt.sq {w : Wd} {H : Hp} {a : Addr} {vs : List V} (h : TupAt w H a vs) : SqT K H a vs := .inl (.inl h.1)
theorem KTup.sq {H : Hp} {a : Addr} {vs : List V} (h : KTup K a vs) : SqT K H a vs := .inr h
theorem LstAt.sq {w : Wd} {H : Hp} {a : Addr} {vs : List V} (h : LstAt K w H a vs) : SqL K H a vs := by
  rcases h with h | h
  · exact .inl h.1
  · exact .inr h
mutual
def Rep (K : PySem.W.Frag) (w : Wd) (H : Hp) : D → V → Prop
  | .non, v => v = .non
  | .bl b, v => v = .bl b
  | .int i, v => v = .int i
  | .str s, v => v = .str s
  | .tup xs, v => ∃ a vs, v = .ref a ∧ TupAt w H a vs ∧ Reps K w H xs vs
  | .lst xs, v => ∃ a vs, v = .ref a ∧ LstAt K w H a vs ∧ Reps K w H xs vs
  | .ref n, v => n < w.N ∧ v = .ref (w.at_ n)
  | .ctup xs, v => ∃ a vs, v = .ref a ∧ KTup K a vs ∧ Reps K w H xs vs
def Reps (K : PySem.W.Frag) (w : Wd) (H : Hp) : List D → List V → Prop
  | [], vs => vs = []
  | x :: xs, vs => ∃ v r, vs = v :: r ∧ Rep K w H x v ∧ Reps K w H xs r
end
/-- a table's entries -/
def Kvs {κ : Type} (K : PySem.W.Frag) (w : Wd) (H : Hp) : List (κ × D) → List (κ × V) → Prop
  | [], vs => vs = []
  | (k, x) :: xs, vs => ∃ v r, vs = (k, v) :: r ∧ Rep K w H x v ∧ Kvs K w H xs r
def Img (K : PySem.W.Frag) (w : Wd) (H : Hp) : Ob → HO → Prop
  | .lst xs, u => ∃ vs, u = .lst vs ∧ Reps K w H xs vs
  | .dk kvs, u => ∃ vs, u = .dK vs ∧ Kvs K w H kvs vs
  | .dt kvs, u => ∃ vs, u = .dT vs ∧ Kvs K w H kvs vs
  | .ins C fs, u => ∃ dx vs, u = .ins (He.ga K C) dx vs ∧ Kvs K w H fs vs
  | .frz o, u => ∃ ob u', u = .frz ob u' ∧ Img K w H o u'

/-- from one moment to a later one -/
structure Le (w w' : Wd) (H H' : Hp) : Prop where
  N : w.N ≤ w'.N
  at_ : ∀ n, n < w.N → w'.at_ n = w.at_ n
  P : ∀ a, w'.P a → w.P a ∨ H a = none
  new : ∀ n, w.N ≤ n → n < w'.N → H (w'.at_ n) = none
  keep : ∀ a o, ¬ Im w a → H a = some o → H' a = some o
  frz : ∀ a o u, H a = some (.frz o u) → H' a = some (.frz o u)
  dom : ∀ a, H' a = none → H a = none
theorem Le.refl (w : Wd) (H : Hp) : Le w w H H := ⟨Nat.le_refl _, fun _ _ => rfl, fun _ h => .inl h, fun n h1 h2 => absurd h2 (Nat.not_lt.mpr h1), fun _ _ _ h => h, fun _ _ _ h => h, fun _ h => h⟩
theorem Le.im {w w' : Wd} {H H' : Hp} (l : Le w w' H H') {a : Addr} {o : HO} (h : H a = some o) (n : ¬ Im w a) : ¬ Im w' a := fun ⟨m, h1, h2⟩ => by
  by_cases hm : m < w.N
  · exact n ⟨m, hm, by rw [← l.at_ m hm]; exact h2⟩
  · have := l.new m (Nat.not_lt.mp hm) h1
    rw [h2, h] at this
    cases this
theorem Le.trans {w w1 w2 : Wd} {H H1 H2 : Hp} (a : Le w w1 H H1) (b : Le w1 w2 H1 H2) : Le w w2 H H2 where
  N := Nat.le_trans a.N b.N
  at_ := fun n h => (b.at_ n (Nat.lt_of_lt_of_le h a.N)).trans (a.at_ n h)
  P := fun c h => by
    rcases b.P c h with h | h
    · exact a.P c h
    · exact .inr (a.dom c h)
  new := fun n h1 h2 => by
    by_cases h : n < w1.N
    · rw [b.at_ n h]; exact a.new n h1 h
    · exact a.dom _ (b.new n (Nat.not_lt.mp h) h2)
  keep := fun c o n h => b.keep c o (a.im h n) (a.keep c o n h)
  frz := fun c o u h => b.frz c o u (a.frz c o u h)
  dom := fun c h => a.dom c (b.dom c h)
theorem TupAt.le {w w' : Wd} {H H' : Hp} (l : Le w w' H H') {a : Addr} {vs : List V} (h : TupAt w H a vs) : TupAt w' H' a vs := by
  obtain ⟨h, n, p⟩ := h
  refine ⟨l.keep _ _ n h, l.im h n, fun q => ?_⟩
  rcases l.P a q with q | q
  · exact p q
  · rw [h] at q; cases q
theorem LstAt.le {w w' : Wd} {H H' : Hp} (l : Le w w' H H') {a : Addr} {vs : List V} (h : LstAt K w H a vs) : LstAt K w' H' a vs := by
  rcases h with ⟨h, n, p⟩ | h
  · refine .inl ⟨?_, ?_, ?_⟩
    · rcases h with h | ⟨o, h⟩
      · exact .inl (l.keep _ _ n h)
      · exact .inr ⟨o, l.keep _ _ n h⟩
    · rcases h with h | ⟨o, h⟩
      · exact l.im h n
      · exact l.im h n
    · intro q
      rcases l.P a q with q | q
      · exact p q
      · rcases h with h | ⟨o, h⟩
        · rw [h] at q; cases q
        · rw [h] at q; cases q
  · exact .inr h
mutual
theorem Rep.le {w w' : Wd} {H H' : Hp} (l : Le w w' H H') : ∀ (d : D) {v : V}, Rep K w H d v → Rep K w' H' d v
  | .non, _, h => h
  | .bl _, _, h => h
  | .int _, _, h => h
  | .str _, _, h => h
  | .tup xs, v, h => by
    unfold Rep at h ⊢
    obtain ⟨a, vs, e, t, r⟩ := h
    exact ⟨a, vs, e, t.le l, Reps.le l xs r⟩
  | .lst xs, v, h => by
    unfold Rep at h ⊢
    obtain ⟨a, vs, e, t, r⟩ := h
    exact ⟨a, vs, e, t.le l, Reps.le l xs r⟩
  | .ref n, v, h => by
    unfold Rep at h ⊢
    exact ⟨Nat.lt_of_lt_of_le h.1 l.N, by rw [l.at_ n h.1]; exact h.2⟩
  | .ctup xs, v, h => by
    unfold Rep at h ⊢
    obtain ⟨a, vs, e, t, r⟩ := h
    exact ⟨a, vs, e, t, Reps.le l xs r⟩
theorem Reps.le {w w' : Wd} {H H' : Hp} (l : Le w w' H H') : ∀ (xs : List D) {vs : List V}, Reps K w H xs vs → Reps K w' H' xs vs
  | [], _, h => h
  | x :: xs, vs, h => by
    unfold Reps at h ⊢
    obtain ⟨v, r, e, h1, h2⟩ := h
    exact ⟨v, r, e, Rep.le l x h1, Reps.le l xs h2⟩
end
theorem Kvs.le {κ : Type} {w w' : Wd} {H H' : Hp} (l : Le w w' H H') : ∀ {xs : List (κ × D)} {vs : List (κ × V)}, Kvs K w H xs vs → Kvs K w' H' xs vs
  | [], _, h => h
  | (k, x) :: xs, vs, h => by
    obtain ⟨v, r, e, h1, h2⟩ := h
    exact ⟨v, r, e, Rep.le l x h1, Kvs.le l h2⟩
theorem Img.le {w w' : Wd} {H H' : Hp} (l : Le w w' H H') : ∀ {o : Ob} {u : HO}, Img K w H o u → Img K w' H' o u
  | .lst xs, _, ⟨vs, e, h⟩ => ⟨vs, e, Reps.le l xs h⟩
  | .dk kvs, _, ⟨vs, e, h⟩ => ⟨vs, e, Kvs.le l h⟩
  | .dt kvs, _, ⟨vs, e, h⟩ => ⟨vs, e, Kvs.le l h⟩
  | .ins C fs, _, ⟨dx, vs, e, h⟩ => ⟨dx, vs, e, Kvs.le l h⟩
  | .frz o, _, ⟨ob, u', e, h⟩ => ⟨ob, u', e, Img.le l h⟩

/-! ### lists of values -/
theorem Reps.length {w : Wd} {H : Hp} : ∀ {xs : List D} {vs : List V}, Reps K w H xs vs → xs.length = vs.length
  | [], _, h => by rw [show _ = [] from h]; rfl
  | x :: xs, _, ⟨v, r, e, _, h⟩ => by rw [e, List.length_cons, List.length_cons, Reps.length h]
theorem Reps.append {w : Wd} {H : Hp} : ∀ {xs ys : List D} {vs us : List V}, Reps K w H xs vs → Reps K w H ys us → Reps K w H (xs ++ ys) (vs ++ us)
  | [], _, _, _, h, k => by rw [show _ = [] from h]; exact k
  | x :: xs, _, _, _, ⟨v, r, e, h1, h⟩, k => by rw [e]; exact ⟨v, _, rfl, h1, Reps.append h k⟩
theorem Reps.take {w : Wd} {H : Hp} : ∀ (n : Nat) {xs : List D} {vs : List V}, Reps K w H xs vs → Reps K w H (xs.take n) (vs.take n)
  | 0, _, _, _ => rfl
  | _ + 1, [], _, h => by rw [show _ = [] from h]; rfl
  | n + 1, x :: xs, _, ⟨v, r, e, h1, h⟩ => by rw [e]; exact ⟨v, _, rfl, h1, Reps.take n h⟩
theorem Reps.drop {w : Wd} {H : Hp} : ∀ (n : Nat) {xs : List D} {vs : List V}, Reps K w H xs vs → Reps K w H (xs.drop n) (vs.drop n)
  | 0, _, _, h => h
  | _ + 1, [], _, h => by rw [show _ = [] from h]; rfl
  | n + 1, x :: xs, _, ⟨v, r, e, h1, h⟩ => by rw [e]; exact Reps.drop n h
theorem Reps.get {w : Wd} {H : Hp} : ∀ {i : Nat} {xs : List D} {vs : List V} {x : D}, Reps K w H xs vs → xs[i]? = some x → ∃ v, vs[i]? = some v ∧ Rep K w H x v
  | _, [], _, _, _, q => by cases q
  | 0, x :: xs, _, y, ⟨v, r, e, h1, h⟩, q => by
    rw [e]
    have z : x = y := Option.some.inj q
    exact ⟨v, rfl, z ▸ h1⟩
  | i + 1, x :: xs, _, y, ⟨v, r, e, h1, h⟩, q => by
    rw [e]
    exact Reps.get (i := i) h (by simpa using q)
theorem Reps.set {w : Wd} {H : Hp} {x : D} {v : V} (hx : Rep K w H x v) : ∀ (i : Nat) {xs : List D} {vs : List V}, Reps K w H xs vs → Reps K w H (xs.set i x) (vs.set i v)
  | _, [], _, h => by rw [show _ = [] from h]; exact rfl
  | 0, y :: xs, _, ⟨u, r, e, h1, h⟩ => by rw [e]; exact ⟨v, r, rfl, hx, h⟩
  | i + 1, y :: xs, _, ⟨u, r, e, h1, h⟩ => by rw [e]; exact ⟨u, _, rfl, h1, Reps.set hx i h⟩
theorem Reps.map {α : Type} {w : Wd} {H : Hp} (f : α → D) (g : α → V) (h : ∀ a, Rep K w H (f a) (g a)) : ∀ l : List α, Reps K w H (l.map f) (l.map g)
  | [] => rfl
  | a :: l => ⟨g a, _, rfl, h a, Reps.map f g h l⟩
theorem Reps.one {w : Wd} {H : Hp} {xs : List D} {vs : List V} {x : D} {r : List D} (h : Reps K w H xs vs) (e : xs = x :: r) : ∃ v us, vs = v :: us ∧ Rep K w H x v ∧ Reps K w H r us := by
  subst e
  exact h

/-! ### tables -/
section
variable {κ : Type} [DecidableEq κ] {w : Wd} {H : Hp}
theorem Kvs.length {κ : Type} : ∀ {xs : List (κ × D)} {vs : List (κ × V)}, Kvs K w H xs vs → xs.length = vs.length
  | [], _, h => by rw [show _ = [] from h]; rfl
  | (k, x) :: xs, _, ⟨v, r, e, _, h⟩ => by rw [e, List.length_cons, List.length_cons, Kvs.length h]
theorem Kvs.keys {κ : Type} : ∀ {xs : List (κ × D)} {vs : List (κ × V)}, Kvs K w H xs vs → xs.map (·.1) = vs.map (·.1)
  | [], _, h => by rw [show _ = [] from h]; rfl
  | (k, x) :: xs, _, ⟨v, r, e, _, h⟩ => by rw [e, List.map_cons, List.map_cons, Kvs.keys h]
theorem Kvs.vals {κ : Type} : ∀ {xs : List (κ × D)} {vs : List (κ × V)}, Kvs K w H xs vs → Reps K w H (xs.map (·.2)) (vs.map (·.2))
  | [], _, h => by rw [show _ = [] from h]; rfl
  | (k, x) :: xs, _, ⟨v, r, e, h1, h⟩ => by rw [e]; exact ⟨v, _, rfl, h1, Kvs.vals h⟩
theorem look_nil {k : κ} : look ([] : List (κ × D)) k = none := rfl
theorem look_cons (p : κ × D) (r : List (κ × D)) (k : κ) : look (p :: r) k = if p.1 = k then some p.2 else look r k := by
  unfold look
  by_cases e : p.1 = k
  · rw [List.find?_cons, decide_eq_true e, if_pos e]; rfl
  · rw [List.find?_cons, decide_eq_false e, if_neg e]
theorem Kvs.look (k : κ) : ∀ {xs : List (κ × D)} {vs : List (κ × V)}, Kvs K w H xs vs → (look xs k = none ∧ valV vs k = none) ∨ ∃ x v, look xs k = some x ∧ valV vs k = some v ∧ Rep K w H x v
  | [], _, h => by rw [show _ = [] from h]; exact .inl ⟨rfl, rfl⟩
  | (j, x) :: xs, _, ⟨v, r, e, h1, h⟩ => by
    subst e
    rw [look_cons]
    by_cases z : j = k
    · rw [if_pos z, valV_pos (p := (j, v)) z]
      exact .inr ⟨x, v, rfl, rfl, h1⟩
    · rw [if_neg z, valV_neg (p := (j, v)) z]
      exact Kvs.look k h
theorem Kvs.has (k : κ) : ∀ {xs : List (κ × D)} {vs : List (κ × V)}, Kvs K w H xs vs → (xs.any fun kv => decide (kv.1 = k)) = vs.any fun kv => decide (kv.1 = k)
  | [], _, h => by rw [show _ = [] from h]; rfl
  | (j, x) :: xs, _, ⟨v, r, e, _, h⟩ => by rw [e, List.any_cons, List.any_cons, Kvs.has k h]
theorem Kvs.snoc {κ : Type} {k : κ} {d : D} {u : V} (hd : Rep K w H d u) : ∀ {xs : List (κ × D)} {vs : List (κ × V)}, Kvs K w H xs vs → Kvs K w H (xs ++ [(k, d)]) (vs ++ [(k, u)])
  | [], _, h => by rw [show _ = [] from h]; exact ⟨u, [], rfl, hd, rfl⟩
  | (j, x) :: xs, _, ⟨v, r, e, h1, h⟩ => by rw [e]; exact ⟨v, _, rfl, h1, Kvs.snoc hd h⟩
theorem Kvs.repl {k : κ} {d : D} {u : V} (hd : Rep K w H d u) : ∀ {xs : List (κ × D)} {vs : List (κ × V)}, Kvs K w H xs vs → Kvs K w H (xs.map fun kv => if kv.1 = k then (kv.1, d) else kv) (vs.map fun kv => if kv.1 = k then (kv.1, u) else kv)
  | [], _, h => by rw [show _ = [] from h]; exact rfl
  | (j, x) :: xs, _, ⟨v, r, e, h1, h⟩ => by
    subst e
    rw [List.map_cons, List.map_cons]
    by_cases z : j = k
    · rw [if_pos (show (j, x).1 = k from z), if_pos (show (j, v).1 = k from z)]
      exact ⟨u, _, rfl, hd, Kvs.repl hd h⟩
    · rw [if_neg (show ¬ (j, x).1 = k from z), if_neg (show ¬ (j, v).1 = k from z)]
      exact ⟨v, _, rfl, h1, Kvs.repl hd h⟩
theorem Kvs.drop {k : κ} : ∀ {xs : List (κ × D)} {vs : List (κ × V)}, Kvs K w H xs vs → Kvs K w H (drop xs k) (dropK vs k)
  | [], _, h => by rw [show _ = [] from h]; exact rfl
  | (j, x) :: xs, _, ⟨v, r, e, h1, h⟩ => by
    subst e
    have ih := Kvs.drop (k := k) h
    unfold Z.drop dropK at ih ⊢
    by_cases z : j = k
    · rw [List.filter_cons, List.filter_cons, if_neg (by simp [z]), if_neg (by simp [z])]
      exact ih
    · rw [List.filter_cons, List.filter_cons, if_pos (by simp [z]), if_pos (by simp [z])]
      exact ⟨v, _, rfl, h1, ih⟩
theorem Kvs.put {k : κ} {d : D} {u : V} (hd : Rep K w H d u) {xs : List (κ × D)} {vs : List (κ × V)} (h : Kvs K w H xs vs) : Kvs K w H (put xs k d) (putK vs k u) := by
  unfold Z.put putK
  rw [Kvs.has k h]
  split
  · exact Kvs.repl hd h
  · exact Kvs.snoc hd h
end
section
variable {w : Wd} {H : Hp}
theorem Kvs.lookup (f : Str) : ∀ {xs : List (Str × D)} {vs : List (Str × V)}, Kvs K w H xs vs → (xs.lookup f = none ∧ vs.lookup f = none) ∨ ∃ x v, xs.lookup f = some x ∧ vs.lookup f = some v ∧ Rep K w H x v
  | [], _, h => by rw [show _ = [] from h]; exact .inl ⟨rfl, rfl⟩
  | (j, x) :: xs, _, ⟨v, r, e, h1, h⟩ => by
    subst e
    rw [List.lookup_cons, List.lookup_cons]
    cases z : f == j with
    | true => exact .inr ⟨x, v, rfl, rfl, h1⟩
    | false => exact Kvs.lookup f h
theorem Kvs.putF {f : Str} {d : D} {u : V} (hd : Rep K w H d u) : ∀ {xs : List (Str × D)} {vs : List (Str × V)}, Kvs K w H xs vs → Kvs K w H (putFD f d xs) (L2.putF f u vs)
  | [], _, h => by rw [show _ = [] from h]; exact ⟨u, [], rfl, hd, rfl⟩
  | (j, x) :: xs, _, ⟨v, r, e, h1, h⟩ => by
    subst e
    unfold putFD L2.putF
    by_cases z : j = f
    · rw [if_pos z, if_pos z]; exact ⟨u, r, rfl, hd, h⟩
    · rw [if_neg z, if_neg z]; exact ⟨v, _, rfl, h1, Kvs.putF hd h⟩
end

/-! ### the store -/
structure Sim (K : PySem.W.Frag) (w : Wd) (H : Hp) (S : Sto) : Prop where
  len : w.N = S.length
  inj : ∀ i j, i < w.N → j < w.N → w.at_ i = w.at_ j → i = j
  ob : ∀ n o, S[n]? = some o → ∃ u, H (w.at_ n) = some u ∧ Img K w H o u
  apart : ∀ n, n < w.N → ¬ w.P (w.at_ n)
  held : ∀ a, w.P a → ∃ u, H a = some u ∧ ∀ vs, u ≠ .tup vs
section
variable {w w' : Wd} {H H' : Hp} {S : Sto} {p : Addr} {u : HO} {o : Ob} {n : Nat}
theorem lt_get {α : Type} {l : List α} {n : Nat} {o : α} (h : l[n]? = some o) : n < l.length := (List.getElem?_eq_some_iff.mp h).1
theorem Sim.lt (s : Sim K w H S) (h : S[n]? = some o) : n < w.N := by rw [s.len]; exact lt_get h
theorem Sim.imSome (s : Sim K w H S) {a : Addr} (h : Im w a) : ∃ u, H a = some u := by
  obtain ⟨n, h1, h2⟩ := h
  rw [s.len] at h1
  obtain ⟨u, e, _⟩ := s.ob n _ (List.getElem?_eq_getElem h1)
  exact ⟨u, by rw [← h2]; exact e⟩
theorem Sim.nim (s : Sim K w H S) {a : Addr} (h : H a = none) : ¬ Im w a := fun q => by
  obtain ⟨u, e⟩ := s.imSome q
  rw [h] at e; cases e
theorem Sim.nP (s : Sim K w H S) {a : Addr} (h : H a = none) : ¬ w.P a := fun q => by
  obtain ⟨xs, e, _⟩ := s.held a q
  rw [h] at e; cases e
theorem Sim.pim {w : Wd} {H : Hp} {S : Sto} (s : Sim K w H S) : ∀ a, w.P a → ¬ Im w a := fun a h ⟨n, h1, h2⟩ => s.apart n h1 (by rw [h2]; exact h)
theorem Sim.heldL (s : Sim K w H S) (l : Le w w' H H') {a : Addr} (h : w.P a) : ∃ u, H' a = some u ∧ ∀ vs, u ≠ .tup vs := by
  obtain ⟨xs, e, z⟩ := s.held a h
  exact ⟨xs, l.keep a _ (s.pim a h) e, z⟩
/-- all that the store knows stands as it was -/
theorem Sim.le (s : Sim K w H S) (l : Le w w H H') (k : ∀ n, n < w.N → H' (w.at_ n) = H (w.at_ n)) : Sim K w H' S :=
  ⟨s.len, s.inj, fun n o h => by
    obtain ⟨u, e, i⟩ := s.ob n o h
    exact ⟨u, by rw [k n (s.lt h)]; exact e, i.le l⟩, s.apart, fun a h => s.heldL l h⟩
/-- a new thing that is no store's -/
theorem le_new (h : H p = none) (u : HO) : Le w w H (upd H p u) :=
  ⟨Nat.le_refl _, fun _ _ => rfl, fun _ h => .inl h, fun n h1 h2 => absurd h2 (Nat.not_lt.mpr h1), fun a o _ e => by rw [upd_ne (ne_of_none e h)]; exact e, fun a o v e => by rw [upd_ne (ne_of_none e h)]; exact e, fun a e => by
    by_cases z : a = p
    · rw [z]; exact h
    · rw [upd_ne z] at e; exact e⟩
theorem Sim.new (s : Sim K w H S) (h : H p = none) (u : HO) : Sim K w (upd H p u) S := s.le (le_new h u) fun n hn => by
  rw [s.len] at hn
  obtain ⟨v, e, _⟩ := s.ob n _ (List.getElem?_eq_getElem hn)
  rw [upd_ne (ne_of_none e h)]
/-- one object more -/
def Wd.more (w : Wd) (p : Addr) : Wd := ⟨fun i => if i = w.N then p else w.at_ i, w.N + 1, w.P⟩
theorem more_at {i : Nat} (h : i < w.N) : (w.more p).at_ i = w.at_ i := by
  show (if i = w.N then p else w.at_ i) = _
  rw [if_neg (Nat.ne_of_lt h)]
theorem more_N : (w.more p).at_ w.N = p := by
  show (if w.N = w.N then p else w.at_ w.N) = p
  rw [if_pos rfl]
theorem le_more (h : H p = none) (u : HO) : Le w (w.more p) H (upd H p u) :=
  ⟨Nat.le_succ _, fun n hn => more_at hn, fun _ h => .inl h, fun n h1 h2 => by
    have e : n = w.N := Nat.le_antisymm (Nat.le_of_lt_succ h2) h1
    rw [e, more_N]; exact h, (le_new (w := w) h u).keep, (le_new (w := w) h u).frz, (le_new (w := w) h u).dom⟩
theorem Sim.more (s : Sim K w H S) (h : H p = none) (i : Img K (w.more p) (upd H p u) o u) : Sim K (w.more p) (upd H p u) (S ++ [o]) := by
  have l : Le w (w.more p) H (upd H p u) := le_more h u
  have nz : ∀ n, n < w.N → w.at_ n ≠ p := fun n hn q => by
    have hn' := hn
    rw [s.len] at hn'
    obtain ⟨v, e, _⟩ := s.ob n _ (List.getElem?_eq_getElem hn')
    rw [q, h] at e; cases e
  refine ⟨?_, fun a b ha hb e => ?_, fun n o' h' => ?_, fun n hn => ?_, fun a ha => s.heldL l ha⟩
  · show w.N + 1 = _
    rw [List.length_append, s.len]; rfl
  · by_cases h1 : a < w.N <;> by_cases h2 : b < w.N
    · rw [more_at h1, more_at h2] at e; exact s.inj a b h1 h2 e
    · have e2 : b = w.N := Nat.le_antisymm (Nat.le_of_lt_succ hb) (Nat.not_lt.mp h2)
      rw [more_at h1, e2, more_N] at e; exact absurd e (nz a h1)
    · have e2 : a = w.N := Nat.le_antisymm (Nat.le_of_lt_succ ha) (Nat.not_lt.mp h1)
      rw [more_at h2, e2, more_N] at e; exact absurd e.symm (nz b h2)
    · have e1 : a = w.N := Nat.le_antisymm (Nat.le_of_lt_succ ha) (Nat.not_lt.mp h1)
      have e2 : b = w.N := Nat.le_antisymm (Nat.le_of_lt_succ hb) (Nat.not_lt.mp h2)
      rw [e1, e2]
  · by_cases h1 : n < w.N
    · rw [List.getElem?_append_left (by rw [← s.len]; exact h1)] at h'
      obtain ⟨v, e, j⟩ := s.ob n o' h'
      exact ⟨v, by rw [more_at h1, upd_ne (nz n h1)]; exact e, j.le l⟩
    · have h2 : n < S.length + 1 := by
        have := lt_get h'
        rwa [List.length_append] at this
      have e : n = S.length := by have := s.len; omega
      subst e
      rw [List.getElem?_append_right (Nat.le_refl _), Nat.sub_self] at h'
      have e : o = o' := Option.some.inj h'
      subst e
      refine ⟨u, ?_, i⟩
      rw [← s.len, more_N, upd_same]
  · by_cases h1 : n < w.N
    · rw [more_at h1]; exact s.apart n h1
    · have e1 : n = w.N := Nat.le_antisymm (Nat.le_of_lt_succ hn) (Nat.not_lt.mp h1)
      rw [e1, more_N]; exact s.nP h
/-- an object changed -/
theorem le_set (s : Sim K w H S) {v : HO} (hn : n < w.N) (hv : H (w.at_ n) = some v) (nf : ∀ ob x, v ≠ .frz ob x) (u : HO) : Le w w H (upd H (w.at_ n) u) :=
  ⟨Nat.le_refl _, fun _ _ => rfl, fun _ h => .inl h, fun n h1 h2 => absurd h2 (Nat.not_lt.mpr h1), fun a o h e => by rw [upd_ne (fun z => h ⟨n, hn, z.symm⟩)]; exact e, fun a o x e => by
    rw [upd_ne]; exact e
    intro z
    rw [z, hv] at e
    exact nf o x (Option.some.inj e), fun a e => by
    by_cases z : a = w.at_ n
    · rw [z, upd_same] at e; cases e
    · rw [upd_ne z] at e; exact e⟩
theorem Sim.set (s : Sim K w H S) {v : HO} (hn : n < w.N) (hv : H (w.at_ n) = some v) (nf : ∀ ob x, v ≠ .frz ob x) (i : Img K w (upd H (w.at_ n) u) o u) : Sim K w (upd H (w.at_ n) u) (S.set n o) := by
  have l := le_set s hn hv nf u
  refine ⟨by rw [List.length_set]; exact s.len, s.inj, fun m o' h' => ?_, s.apart, fun a ha => s.heldL l ha⟩
  by_cases e : m = n
  · subst e
    rw [List.getElem?_set_self (by rw [← s.len]; exact hn)] at h'
    have e : o = o' := Option.some.inj h'
    subst e
    exact ⟨u, upd_same, i⟩
  · rw [List.getElem?_set_ne (Ne.symm e)] at h'
    obtain ⟨x, e1, j⟩ := s.ob m o' h'
    exact ⟨x, by rw [upd_ne (fun z => e (s.inj m n (s.lt h') hn z))]; exact e1, j.le l⟩
end

/-! ### the frame -/
structure REnv (K : PySem.W.Frag) (w : Wd) (H : Hp) (σ : L2.St) (e : En) : Prop where
  len : e.length = σ.length
  val : ∀ (i : Nat) (d : D), e[i]? = some (Slot.val d) → ∃ v, σ[i]? = some (some v) ∧ Rep K w H d v
  own : ∀ (i : Nat) (xs : List D), e[i]? = some (Slot.own xs) → ∃ a vs, σ[i]? = some (some (V.ref a)) ∧ w.P a ∧ H a = some (HO.lst vs) ∧ Reps K w H xs vs
  one : ∀ (i j : Nat) (xs ys : List D) (a : Addr), e[i]? = some (Slot.own xs) → e[j]? = some (Slot.own ys) → σ[i]? = some (some (V.ref a)) → σ[j]? = some (some (V.ref a)) → i = j
theorem REnv.le {w w' : Wd} {H H' : Hp} {σ : L2.St} {e : En} (r : REnv K w H σ e) (l : Le w w' H H') (s : ∀ a, w.P a → w'.P a) (ni : ∀ a, w.P a → ¬ Im w a) : REnv K w' H' σ e :=
  ⟨r.len, fun i d h => by
    obtain ⟨v, h1, h2⟩ := r.val i d h
    exact ⟨v, h1, Rep.le l d h2⟩, fun i xs h => by
    obtain ⟨a, vs, h1, h2, h3, h4⟩ := r.own i xs h
    exact ⟨a, vs, h1, s a h2, l.keep a _ (ni a h2) h3, Reps.le l xs h4⟩, r.one⟩
/-- a slot gets a value -/
theorem REnv.set {w : Wd} {H : Hp} {σ : L2.St} {e : En} (r : REnv K w H σ e) {i : Nat} {d : D} {v : V} (h : Rep K w H d v) (hi : i < e.length) : REnv K w H (σ.set i (some v)) (e.set i (.val d)) := by
  have hs : i < σ.length := by rw [← r.len]; exact hi
  refine ⟨by rw [List.length_set, List.length_set]; exact r.len, fun j d' h' => ?_, fun j xs h' => ?_, fun j k xs ys a h1 h2 h3 h4 => ?_⟩
  · by_cases z : i = j
    · subst z
      rw [List.getElem?_set_self hi] at h'
      rw [List.getElem?_set_self hs]
      have e' : d = d' := by injection (Option.some.inj h')
      exact ⟨v, rfl, e' ▸ h⟩
    · rw [List.getElem?_set_ne z] at h' ⊢
      exact r.val j d' h'
  · by_cases z : i = j
    · subst z
      rw [List.getElem?_set_self hi] at h'
      cases h'
    · rw [List.getElem?_set_ne z] at h' ⊢
      exact r.own j xs h'
  · by_cases z1 : i = j
    · subst z1
      rw [List.getElem?_set_self hi] at h1
      cases h1
    · by_cases z2 : i = k
      · subst z2
        rw [List.getElem?_set_self hi] at h2
        cases h2
      · rw [List.getElem?_set_ne z1] at h1 h3
        rw [List.getElem?_set_ne z2] at h2 h4
        exact r.one j k xs ys a h1 h2 h3 h4
/-- a slot forgotten -/
theorem REnv.forget {w : Wd} {H : Hp} {σ : L2.St} {e : En} (r : REnv K w H σ e) (i : Nat) (x : Option V) : REnv K w H (σ.set i x) (e.set i .no) := by
  by_cases hi : i < e.length
  · have hs : i < σ.length := by rw [← r.len]; exact hi
    refine ⟨by rw [List.length_set, List.length_set]; exact r.len, fun j d' h' => ?_, fun j xs h' => ?_, fun j k xs ys a h1 h2 h3 h4 => ?_⟩
    · by_cases z : i = j
      · subst z
        rw [List.getElem?_set_self hi] at h'
        cases h'
      · rw [List.getElem?_set_ne z] at h' ⊢
        exact r.val j d' h'
    · by_cases z : i = j
      · subst z
        rw [List.getElem?_set_self hi] at h'
        cases h'
      · rw [List.getElem?_set_ne z] at h' ⊢
        exact r.own j xs h'
    · by_cases z1 : i = j
      · subst z1
        rw [List.getElem?_set_self hi] at h1
        cases h1
      · by_cases z2 : i = k
        · subst z2
          rw [List.getElem?_set_self hi] at h2
          cases h2
        · rw [List.getElem?_set_ne z1] at h1 h3
          rw [List.getElem?_set_ne z2] at h2 h4
          exact r.one j k xs ys a h1 h2 h3 h4
  · have hs : ¬ i < σ.length := by rw [← r.len]; exact hi
    rw [List.set_eq_of_length_le (Nat.not_lt.mp hi), List.set_eq_of_length_le (Nat.not_lt.mp hs)]
    exact r
theorem REnv.wipe {w : Wd} {H : Hp} {σ : L2.St} {e : En} (r : REnv K w H σ e) : ∀ vs : List Nat, REnv K w H (L2.wipe σ vs) (wipeE e vs)
  | [] => r
  | v :: vs => (REnv.wipe r vs).forget v none
end Z


/-! Z: whether a term writes an expression of the text. -/
namespace Z
open PySem L2

def binOp : Bn → Operator
  | .add => .Add | .sub => .Sub | .mul => .Mult | .fdiv => .FloorDiv | .mod => .Mod | .pow => .Pow | .shr => .RShift | .band => .BitAnd
def cmOp : Cm → CmpOp
  | .eq => .Eq | .ne => .NotEq | .lt => .Lt | .le => .LtE | .gt => .Gt | .ge => .GtE | .isN => .Is | .notN => .IsNot | .isin => .In | .notin => .NotIn
def biName : Bi → Str
  | .len => "len" | .all => "all" | .any => "any" | .sum => "sum" | .max2 => "max" | .min2 => "min" | .maxL => "max" | .minL => "min" | .tupOf => "tuple" | .lstOf => "list"
  | .sorted => "sorted" | .strOf => "str" | .intOf => "int" | .ord => "ord"
def bmName : Bm → Str
  | .get1 => "get" | .get2 => "get" | .pop => "pop" | .append => "append" | .join => "join" | .split => "split" | .partition => "partition" | .count => "count"
def tyName : Ty → Str
  | .int => "int" | .bool => "bool" | .str => "str" | .tuple => "tuple" | .list => "list"
def bnames : List Str := ["len", "all", "any", "sum", "max", "min", "tuple", "list", "sorted", "str", "int", "ord", "range", "enumerate", "zip", "isinstance", "bool"]

def visB (sc : Scope) (x : Str) : Bool := match sc.names.lookup x with
  | some .local => true
  | some .cell => true
  | some .free => true
  | _ => false
def locB (sc : Scope) (x : Str) : Bool := match sc.names.lookup x with
  | some .local => true
  | some .cell => true
  | _ => false
def plainB (x : Str) : Bool := !(x == ("__debug__" : Str)) && (!(x == ("__classdict__" : Str)) && !(x == ("__name__" : Str)))
def slotB (N : List Str) (sc : Scope) (i : Nat) (x : Str) : Bool := decide (N[i]? = some x) && (visB sc x && plainB x)
def glB (sc : Scope) (x : Str) : Bool := decide (sc.names.lookup x = some .globalImplicit) && plainB x
/-- a receiver that is no call -/
def recvB : Expr → Bool
  | .Name .. => true
  | .Attribute .. => true
  | .Subscript .. => true
  | .Constant .. => true
  | _ => false
/-- .. nor a written thing -/
def recvM : Expr → Bool
  | .Name .. => true
  | .Attribute .. => true
  | .Subscript .. => true
  | _ => false
def noSlice : Expr → Bool
  | .Slice .. => false
  | _ => true
def tgB (N : List Str) (sc : Scope) : Tg → Expr → Bool
  | .one i, .Name x _ => decide (N[i]? = some x) && locB sc x
  | .many [i], .Tuple [.Name x _] _ _ => decide (N[i]? = some x) && locB sc x
  | .many (i :: j :: r), .Tuple (.Name x _ :: es) k p => decide (N[i]? = some x) && (locB sc x && tgB N sc (.many (j :: r)) (.Tuple es k p))
  | _, _ => false
termination_by t => match t with | .one _ => 0 | .many is => is.length

def isTrueB : Ex → Bool
  | .bl true => true
  | _ => false
def Tg.slots : Tg → List Nat
  | .one i => [i]
  | .many is => is
def keysB : List Key → List (Option Expr) → Bool
  | [], [] => true
  | .inl i :: ks, some (.Constant (.int j) _ _) :: es => decide (i = j) && keysB ks es
  | .inr i :: ks, some (.Constant (.str j) _ _) :: es => decide (i = j) && keysB ks es
  | _, _ => false
def isTupB : Expr → Bool
  | .Tuple .. => true
  | _ => false
def isNonB : D → Bool
  | .non => true
  | _ => false
def intB : D → Expr → Bool
  | .int i, .Constant (.int j) _ _ => decide (i = j)
  | _, _ => false
/-- no starred thing, no set -/
def fairB : Expr → Bool
  | .Starred .. => false
  | .Set .. => false
  | _ => true
def isCompB : Expr → Bool
  | .ListComp .. => true
  | _ => false
mutual
def chkE (P : Prog) (N : List Str) : Ex → Scope → Expr → Bool
  | .var i, sc, .Name x _ => slotB N sc i x
  | .int i, _, .Constant (.int j) _ _ => decide (i = j)
  | .str s, _, .Constant (.str t) _ _ => decide (s = t)
  | .bl b, _, .Constant (.bool c) _ _ => b == c
  | .non, _, .Constant .none _ _ => true
  | .gl x, sc, .Name y _ => decide (x = y) && glB sc y
  | .bin o a b, sc, .BinOp l op r _ => decide (op = binOp o) && (chkE P N a sc l && chkE P N b sc r)
  | .neg a, sc, .UnaryOp .USub l _ => chkE P N a sc l
  | .cmp o a b, sc, .Compare l [op] [r] _ => decide (op = cmOp o) && (chkE P N a sc l && chkE P N b sc r)
  | .chain o p a b c, sc, .Compare l [op, oq] [r, q] _ => (decide (op = cmOp o) && decide (oq = cmOp p)) && (chkE P N a sc l && (chkE P N b sc r && chkE P N c sc q))
  | .and a b, sc, .BoolOp .And [x, y] _ => chkE P N a sc x && chkE P N b sc y
  | .and a b, sc, .BoolOp .And (x :: y :: z :: r) p => chkE P N a sc x && chkE P N b sc (.BoolOp .And (y :: z :: r) p)
  | .or a b, sc, .BoolOp .Or [x, y] _ => chkE P N a sc x && chkE P N b sc y
  | .or a b, sc, .BoolOp .Or (x :: y :: z :: r) p => chkE P N a sc x && chkE P N b sc (.BoolOp .Or (y :: z :: r) p)
  | .not a, sc, .UnaryOp .Not x _ => chkE P N a sc x
  | .ite t a b, sc, .IfExp x y z _ => chkE P N t sc x && (chkE P N a sc y && chkE P N b sc z)
  | .tup es, sc, .Tuple xs _ _ => chkEs P N es sc xs
  | .lst es, sc, .List xs _ => chkEs P N es sc xs
  | .lstR es, sc, .List xs _ => chkEs P N es sc xs
  | .dk0, _, .Dict [] [] _ => true
  | .dt0, _, .Dict [] [] _ => true
  | .dkR ks vs, sc, .Dict (k :: ks') vs' _ => (keysB ks (k :: ks') && decide (ks.length ≤ 15)) && chkEs P N vs sc vs' && decide (ks.length = vs'.length)
  | .isE neg a, sc, .Compare l [op] [.Dict [] [] _] _ => decide (op = (if neg = true then CmpOp.NotEq else .Eq)) && chkE P N a sc l
  | .tget x e d, sc, .Call (.Attribute (.Name y _) g ap) [z] [] p => (decide (x = y) && (glB sc y && (decide (g = ("get" : Str)) && ((ap.endLine == p.line) && (P.tabs.lookup x).isSome)))) && (isNonB d && chkE P N e sc z)
  | .tget x e d, sc, .Call (.Attribute (.Name y _) g ap) [z, c] [] p => (decide (x = y) && (glB sc y && (decide (g = ("get" : Str)) && ((ap.endLine == p.line) && (P.tabs.lookup x).isSome)))) && (intB d c && chkE P N e sc z)
  | .lrng a b, sc, .Call (.Name x _) [.Call (.Name y _) [u, v] [] _] [] _ => (decide (x = ("list" : Str)) && (glB sc x && (decide (y = ("range" : Str)) && glB sc y))) && (chkE P N a sc u && chkE P N b sc v)
  | .rep es k, sc, .BinOp (.List xs _) .Mult y _ => chkEs P N es sc xs && chkE P N k sc y
  | .ix a i, sc, .Subscript x y _ => chkE P N a sc x && (chkE P N i sc y && noSlice y)
  | .slTo a h, sc, .Subscript x (.Slice none (some y) none _) _ => chkE P N a sc x && chkE P N h sc y
  | .slFr a l, sc, .Subscript x (.Slice (some y) none none _) _ => chkE P N a sc x && chkE P N l sc y
  | .slBt a l h, sc, .Subscript x (.Slice (some y) (some z) none _) _ => chkE P N a sc x && (chkE P N l sc y && chkE P N h sc z)
  | .at a f, sc, .Attribute x g _ => decide (f = g) && (recvB x && chkE P N a sc x)
  | .call f es, sc, .Call (.Name x _) xs [] _ => (decide (P.fns.lookup x = some f) && glB sc x) && chkEs P N es sc xs
  | .new C es, sc, .Call (.Name x _) xs [] _ => (decide (C = x) && (glB sc x && (P.mt.lookup (C, ("__init__" : Str))).isSome)) && chkEs P N es sc xs
  | .me o m es, sc, .Call (.Attribute x g ap) xs [] p => (decide (m = g) && ((ap.endLine == p.line) && decide (xs.length < 29))) && (recvM x && (chkE P N o sc x && chkEs P N es sc xs))
  | .bi b es, sc, .Call (.Name x _) (y :: xs) [] _ => (decide (x = biName b) && glB sc x) && chkEs P N es sc (y :: xs)
  | .isi a t, sc, .Call (.Name x _) [y, .Name z _] [] _ => (decide (x = ("isinstance" : Str)) && (glB sc x && (decide (z = tyName t) && glB sc z))) && chkE P N a sc y
  | .bm o m es, sc, .Call (.Attribute x g ap) (y :: xs) [] p => (decide (g = bmName m) && ((ap.endLine == p.line) && decide (xs.length < 28))) && (recvB x && (chkE P N o sc x && chkEs P N es sc (y :: xs)))
  | .comp _ own tg it cd el, sc, .ListComp x [⟨t, i, ifs, 0⟩] scope _ => blkC N sc scope own && ((tg.slots.all fun i => decide (i ∈ own.map (·.2))) && (tgB N scope tg t && (chkIt P N it sc i t && (chkE P N el scope x && (match ifs with
    | [] => isTrueB cd
    | [c] => chkE P N cd scope c
    | _ => false)))))
  | .lock _ e, sc, x => isCompB x && chkE P N e sc x
  | .cat a b, sc, x => (match x with
    | .BinOp l op r _ => decide (op = .Add) && (chkE P N a sc l && chkE P N b sc r)
    | _ => false)
  | .lvals a, sc, x => (match x with
    | .Call (.Name y _) [.Call (.Attribute z g ap) [] [] p] [] _ => (decide (y = ("list" : Str)) && glB sc y) && ((decide (g = ("values" : Str)) && (ap.endLine == p.line)) && (recvB z && chkE P N a sc z))
    | _ => false)
  | _, _, _ => false
def chkEs (P : Prog) (N : List Str) : Exs → Scope → List Expr → Bool
  | .nil, _, [] => true
  | .cons e es, sc, x :: xs => chkE P N e sc x && chkEs P N es sc xs
  | _, _, _ => false
/-- a walk over the expression, its target -/
def chkIt (P : Prog) (N : List Str) : It → Scope → Expr → Expr → Bool
  | .seq a, sc, x, _ => chkE P N a sc x
  | .r1 a, sc, x, _ => (match x with
    | .Call (.Name x _) [y] [] _ => (decide (x = ("range" : Str)) && glB sc x) && chkE P N a sc y
    | _ => false)
  | .r2 a b, sc, x, _ => (match x with
    | .Call (.Name x _) [y, z] [] _ => (decide (x = ("range" : Str)) && glB sc x) && (chkE P N a sc y && chkE P N b sc z)
    | _ => false)
  | .enum a, sc, x, tg => isTupB tg && (match x with
    | .Call (.Name x _) [y] [] _ => (decide (x = ("enumerate" : Str)) && glB sc x) && chkE P N a sc y
    | _ => false)
  | .zip a b, sc, x, tg => isTupB tg && (match x with
    | .Call (.Name x _) [y, z] [] _ => (decide (x = ("zip" : Str)) && glB sc x) && (chkE P N a sc y && chkE P N b sc z)
    | _ => false)
  | .keys a, sc, x, _ => chkE P N a sc x
  | .vals a, sc, x, _ => (match x with
    | .Call (.Attribute y g ap) [] [] p => (decide (g = ("values" : Str)) && (ap.endLine == p.line)) && (recvB y && chkE P N a sc y)
    | _ => false)
end
end Z


/-! Z: a term that writes an expression tells what it is worth. -/
namespace Z
open PySem L2

theorem fair_of {P : Prog} {N : List Str} {c : Ex} {sc : Scope} {x : Expr} (h : chkE P N c sc x = true) : fairB x = true := by
  cases x with
  | Starred => cases c <;> first | cases h | simp [chkE, isCompB] at h
  | Set => cases c <;> first | cases h | simp [chkE, isCompB] at h
  | _ => rfl
theorem star_of {P : Prog} {N : List Str} {c : Ex} {sc : Scope} {x : Expr} (h : chkE P N c sc x = true) (xs : List Expr) (env : Env) : starEach (x :: xs) env = (false, PySem.eval x env) :: starEach xs env := by
  have f := fair_of h
  cases x <;> first | rfl | cases f
theorem notSet_of {P : Prog} {N : List Str} {c : Ex} {sc : Scope} {x : Expr} (h : chkE P N c sc x = true) (op : CmpOp) : behindInMarks op x = false := by
  have f := fair_of h
  cases x <;> first | rfl | cases f
theorem notSetI_of {P : Prog} {N : List Str} {c : Ex} {sc : Scope} {x : Expr} (h : chkE P N c sc x = true) (env : Env) (v : Value) : foldedSetIterable x env v = pure v := by
  have f := fair_of h
  cases x <;> first | rfl | cases f
theorem base_of {x : Expr} (h : recvB x = true) (f : Str) (env : Env) (whole : Sem Value) : attributeBase x f env whole = whole := by
  cases x <;> first | rfl | cases h
theorem plainIx_of {x : Expr} (h : noSlice x = true) : PlainIx x := by
  cases x <;> first | exact fun _ _ => rfl | cases h
theorem stars_any {P : Prog} {N : List Str} : ∀ {es : Exs} {sc : Scope} {xs : List Expr} (env : Env) (pos : Pos), chkEs P N es sc xs = true → (backTo pos (starEach xs env)).any (·.1) = false
  | .nil, _, [], _, _, _ => rfl
  | .nil, _, _ :: _, _, _, h => by simp [chkEs] at h
  | .cons _ _, _, [], _, _, h => by simp [chkEs] at h
  | .cons e es, sc, x :: xs, env, pos, h => by
    unfold chkEs at h
    obtain ⟨h1, h2⟩ := Bool.and_eq_true_iff.mp h
    rw [star_of h1]
    have ih := stars_any (es := es) env pos h2
    show (false || (backTo pos (starEach xs env)).any (·.1)) = false
    rw [ih]; rfl
theorem stars_all {P : Prog} {N : List Str} : ∀ {es : Exs} {sc : Scope} {xs : List Expr} (env : Env) (pos : Pos), chkEs P N es sc xs = true → (backTo pos (starEach xs env)).all (fun x => !x.1) = true
  | .nil, _, [], _, _, _ => rfl
  | .nil, _, _ :: _, _, _, h => by simp [chkEs] at h
  | .cons _ _, _, [], _, _, h => by simp [chkEs] at h
  | .cons e es, sc, x :: xs, env, pos, h => by
    unfold chkEs at h
    obtain ⟨h1, h2⟩ := Bool.and_eq_true_iff.mp h
    rw [star_of h1]
    have ih := stars_all (es := es) env pos h2
    show (!false && (backTo pos (starEach xs env)).all (fun x => !x.1)) = true
    rw [ih]; rfl
theorem slot_of {N : List Str} {sc : Scope} {i : Nat} {x : Str} (h : slotB N sc i x = true) : N[i]? = some x ∧ Vis sc x ∧ (x == ("__debug__" : Str)) = false ∧ (x == ("__classdict__" : Str)) = false := by
  unfold slotB plainB at h
  simp only [Bool.and_eq_true, decide_eq_true_eq, Bool.not_eq_true'] at h
  obtain ⟨h1, h2, h3, h4, h5⟩ := h
  refine ⟨h1, ?_, h3, h4⟩
  unfold visB at h2
  unfold Vis
  split at h2 <;> first | exact .inl (by assumption) | exact .inr (.inl (by assumption)) | exact .inr (.inr (by assumption)) | cases h2
theorem gl_of {sc : Scope} {x : Str} (h : glB sc x = true) : sc.names.lookup x = some .globalImplicit ∧ (x == ("__debug__" : Str)) = false ∧ x ≠ ("__name__" : Str) := by
  unfold glB plainB at h
  simp only [Bool.and_eq_true, decide_eq_true_eq, Bool.not_eq_true'] at h
  obtain ⟨h1, h2, h3, h4⟩ := h
  refine ⟨h1, h2, fun e => ?_⟩
  rw [e] at h4
  revert h4
  decide +kernel
theorem loc_of {sc : Scope} {x : Str} (h : locB sc x = true) : L2.Loc sc x := by
  unfold locB at h
  unfold L2.Loc
  split at h <;> first | exact .inl (by assumption) | exact .inr (by assumption) | cases h

/-! ### what is asked and told -/
section
variable {α β : Type}
/-- what is wanted behind a run -/
def Post (K : PySem.W.Frag) (Rel : Wd → Hp → α → β → Prop) (W : WX) (σ : L2.St) (w : Wd) (H : Hp) (o : Out α) (Q : β → Hp → Prop) : Prop := match o with
  | .ok a S => ∀ b H' w', Le w w' H H' → w'.P = w.P → Sim K w' H' S → Rel w' H' a b → Q b H'
  | .exc c S => ∀ H' w', Le w w' H H' → w'.P = w.P → Sim K w' H' S → W (.ref (He.ga K c)) none σ H'
  | .bad => False
def RelB : Wd → Hp → Bool → Bool → Prop := fun _ _ a b => b = a
/-- a place to stand: the frame, the store -/
structure At (K : PySem.W.Frag) (w : Wd) (H : Hp) (σ : L2.St) (e : En) (S : Sto) : Prop where
  env : REnv K w H σ e
  sim : Sim K w H S
variable {K : PySem.W.Frag} {Rel : Wd → Hp → α → β → Prop} {W : WX} {σ : L2.St} {w w' : Wd} {H H' : Hp} {o : Out α} {Q : β → Hp → Prop} {e : En} {S S' : Sto}
theorem At.go (a : At K w H σ e S) (l : Le w w' H H') (p : w'.P = w.P) (s : Sim K w' H' S') : At K w' H' σ e S' :=
  ⟨a.env.le l (fun c h => by rw [p]; exact h) a.sim.pim, s⟩
theorem Post.go (h : Post K Rel W σ w H o Q) (l : Le w w' H H') (p : w'.P = w.P) : Post K Rel W σ w' H' o Q := by
  cases o with
  | ok a S => exact fun b H2 w2 l2 p2 s2 r => h b H2 w2 (l.trans l2) (p2.trans p) s2 r
  | exc c S => exact fun H2 w2 l2 p2 s2 => h H2 w2 (l.trans l2) (p2.trans p) s2
  | bad => exact h
theorem Post.here {a : α} {b : β} (h : Post K Rel W σ w H (.ok a S) Q) (s : Sim K w H S) (r : Rel w H a b) : Q b H := h b H w (Le.refl _ _) rfl s r
end
def rdE (P : Prog) (R : Str → List D → Sto → Out D) (K : PySem.W.Frag) (W : WX) (c : Ex) : TE := fun σ H Q => ∃ e S w, At K w H σ e S ∧ Post K (Rep K) W σ w H (eval P R c e S) Q
def rdA (P : Prog) (R : Str → List D → Sto → Out D) (K : PySem.W.Frag) (W : WX) (c : Exs) : TA := fun σ H Q => ∃ e S w, At K w H σ e S ∧ Post K (Reps K) W σ w H (evals P R c e S) Q
def rdT (P : Prog) (R : Str → List D → Sto → Out D) (K : PySem.W.Frag) (W : WX) (c : Ex) : TT := fun σ H Q => ∃ e S w, At K w H σ e S ∧ Post K RelB W σ w H ((eval P R c e S).bind fun x S => match truth S x with
  | some b => .ok b S
  | none => .bad) Q
section
variable {α β : Type} {P : Prog} {R : Str → List D → Sto → Out D} {K : PySem.W.Frag} {Rel : Wd → Hp → α → β → Prop} {W : WX} {σ : L2.St} {w : Wd} {H : Hp} {Q : β → Hp → Prop} {e : En} {S : Sto}
/-- a part's run, then the rest's -/
theorem rdE_of {c : Ex} {f : D → Sto → Out α} {Q' : VK} (a : At K w H σ e S) (h : Post K Rel W σ w H ((eval P R c e S).bind f) Q)
    (k : ∀ d S1 v H1 w1, Le w w1 H H1 → w1.P = w.P → At K w1 H1 σ e S1 → Rep K w1 H1 d v → Post K Rel W σ w1 H1 (f d S1) Q → Q' v H1) : rdE P R K W c σ H Q' := by
  refine ⟨e, S, w, a, ?_⟩
  cases q : eval P R c e S with
  | ok d S1 =>
    rw [q] at h
    exact fun v H1 w1 l p s r => k d S1 v H1 w1 l p (a.go l p s) r (Post.go (o := f d S1) h l p)
  | exc x S1 =>
    rw [q] at h
    exact h
  | bad =>
    rw [q] at h
    exact h
theorem rdA_of {c : Exs} {f : List D → Sto → Out α} {Q' : List V → Hp → Prop} (a : At K w H σ e S) (h : Post K Rel W σ w H ((evals P R c e S).bind f) Q)
    (k : ∀ d S1 v H1 w1, Le w w1 H H1 → w1.P = w.P → At K w1 H1 σ e S1 → Reps K w1 H1 d v → Post K Rel W σ w1 H1 (f d S1) Q → Q' v H1) : rdA P R K W c σ H Q' := by
  refine ⟨e, S, w, a, ?_⟩
  cases q : evals P R c e S with
  | ok d S1 =>
    rw [q] at h
    exact fun v H1 w1 l p s r => k d S1 v H1 w1 l p (a.go l p s) r (Post.go (o := f d S1) h l p)
  | exc x S1 =>
    rw [q] at h
    exact h
  | bad =>
    rw [q] at h
    exact h
theorem rdT_of {c : Ex} {g : Bool → D → Sto → Out α} {Q' : Bool → Hp → Prop} (a : At K w H σ e S) (h : Post K Rel W σ w H ((eval P R c e S).bind fun x S => match truth S x with
      | some b => g b x S
      | none => .bad) Q)
    (k : ∀ b d S1 H1 w1, Le w w1 H H1 → w1.P = w.P → At K w1 H1 σ e S1 → truth S1 d = some b → Post K Rel W σ w1 H1 (g b d S1) Q → Q' b H1) : rdT P R K W c σ H Q' := by
  refine ⟨e, S, w, a, ?_⟩
  cases q : eval P R c e S with
  | ok d S1 =>
    rw [q] at h
    have h' : Post K Rel W σ w H (match truth S1 d with
      | some b => g b d S1
      | none => .bad) Q := h
    show Post K RelB W σ w H (match truth S1 d with
      | some b => Out.ok b S1
      | none => .bad) Q'
    cases z : truth S1 d with
    | none =>
      rw [z] at h'
      exact h'
    | some b =>
      rw [z] at h'
      intro b' H1 w1 l p s r
      have r' : b' = b := r
      subst r'
      exact k b' d S1 H1 w1 l p (a.go l p s) z (Post.go (o := g b' d S1) h' l p)
  | exc x S1 =>
    rw [q] at h
    exact h
  | bad =>
    rw [q] at h
    exact h
end
theorem PE.imp {X : Cx} {e : Expr} {t t' : TE} (h : PE X e t) (k : ∀ σ H Q, t' σ H Q → t σ H Q) : PE X e t' := ⟨fun pins s σ H Q I q => h.run pins s σ H Q I (k σ H Q q)⟩
theorem PT.imp {X : Cx} {e : Expr} {t t' : TT} (h : PT X e t) (k : ∀ σ H Q, t' σ H Q → t σ H Q) : PT X e t' := ⟨fun pins s σ H Q I q => h.run pins s σ H Q I (k σ H Q q)⟩
theorem PW.imp {X : Cx} {e : Expr} {t t' : TT} (h : PW X e t) (k : ∀ σ H Q, t' σ H Q → t σ H Q) : PW X e t' := ⟨fun wh pins s σ H Q I q => h.run wh pins s σ H Q I (k σ H Q q)⟩
theorem PA.imp {X : Cx} {es : List Expr} {t t' : TA} (h : PA X es t) (k : ∀ σ H Q, t' σ H Q → t σ H Q) : PA X es t' := ⟨fun pos pins s σ H Q I q => h.run pos pins s σ H Q I (k σ H Q q)⟩
end Z


/-! Z: operators by values. -/
namespace Z
open PySem L2

section
variable {K : PySem.W.Frag} {w : Wd} {H : Hp} {S : Sto}
theorem rep_tup {xs : List D} {v : V} (h : Rep K w H (.tup xs) v) : ∃ a vs, v = .ref a ∧ TupAt w H a vs ∧ Reps K w H xs vs := by unfold Rep at h; exact h
theorem rep_lst {xs : List D} {v : V} (h : Rep K w H (.lst xs) v) : ∃ a vs, v = .ref a ∧ LstAt K w H a vs ∧ Reps K w H xs vs := by unfold Rep at h; exact h
theorem rep_ref {n : Nat} {v : V} (h : Rep K w H (.ref n) v) : n < w.N ∧ v = .ref (w.at_ n) := by unfold Rep at h; exact h
theorem rep_int {i : Int} {v : V} (h : Rep K w H (.int i) v) : v = .int i := by unfold Rep at h; exact h
theorem rep_str {i : Str} {v : V} (h : Rep K w H (.str i) v) : v = .str i := by unfold Rep at h; exact h
theorem rep_bl {i : Bool} {v : V} (h : Rep K w H (.bl i) v) : v = .bl i := by unfold Rep at h; exact h
theorem rep_non {v : V} (h : Rep K w H .non v) : v = .non := by unfold Rep at h; exact h
theorem mk_int {i : Int} : Rep K w H (.int i) (.int i) := by unfold Rep; rfl
theorem mk_str {i : Str} : Rep K w H (.str i) (.str i) := by unfold Rep; rfl
theorem mk_bl {i : Bool} : Rep K w H (.bl i) (.bl i) := by unfold Rep; rfl
theorem mk_non : Rep K w H .non .non := by unfold Rep; rfl
theorem newTup {p : Addr} {xs : List D} {vs : List V} (s : Sim K w H S) (h : H p = none) (r : Reps K w H xs vs) : Rep K w (upd H p (.tup vs)) (.tup xs) (.ref p) := by
  unfold Rep
  exact ⟨p, vs, rfl, ⟨upd_same, s.nim h, s.nP h⟩, Reps.le (le_new h _) xs r⟩
theorem newLst {p : Addr} {xs : List D} {vs : List V} (s : Sim K w H S) (h : H p = none) (r : Reps K w H xs vs) : Rep K w (upd H p (.lst vs)) (.lst xs) (.ref p) := by
  unfold Rep
  exact ⟨p, vs, rfl, .inl ⟨.inl upd_same, s.nim h, s.nP h⟩, Reps.le (le_new h _) xs r⟩
end

/-- lists, written ones too -/
def rCatS (K : PySem.W.Frag) : R2 := fun x y H Q => ∃ l b xs zs, x = .ref l ∧ y = .ref b ∧ SqL K H l xs ∧ SqL K H b zs ∧ xs.length + zs.length ≤ sizeLine ∧ ∀ p, H p = none → Q (.ref p) (upd H p (.lst (xs ++ zs)))
theorem op_catS {X : Cx} : OpR X (binaryOp .Add) (rCatS X.K) := by
  intro pins s σ H x y v u Q I rx ry h
  obtain ⟨l, b, xs, zs, rfl, rfl, hH, hB, hz, q⟩ := h
  cases rx
  cases ry
  obtain ⟨vs, r, pl, _⟩ := I.list hH
  obtain ⟨ws, r2, pb, _⟩ := I.list hB
  obtain ⟨o, n, ho, hc, hd, hdt⟩ := pl
  obtain ⟨o2, n2, ho2, hc2, hd2, hdt2⟩ := pb
  obtain ⟨cls, dd, data, sl⟩ := o
  obtain ⟨cls2, dd2, data2, sl2⟩ := o2
  simp only at hc hd hdt hc2 hd2 hdt2
  subst hc hd hdt hc2 hd2 hdt2
  have e : vs.toArray ++ ws.toArray = (vs ++ ws).toArray := by simp
  have hs : vs.toArray.size + ws.toArray.size ≤ sizeLine := by rw [List.size_toArray, List.size_toArray, ← r.length, ← r2.length]; exact hz
  refine concat_meets ⟨_, ho, rfl⟩ ⟨_, ho2, rfl⟩ noFill_list_add seq_list_add PySem.F.slot_list_add PySem.F.entry_list_add (PySem.F.args_list_add_2 _ _) (PyProof.Rows.list_addW l b vs.toArray ws.toArray n n2 none none sl sl2 hs) ⟨ho, ho2, ?_⟩
  rw [e]
  exact ⟨.ref _, _, I.lnew (t' := s.toks) (r.append r2) (by rw [List.length_append]; exact hz), rfl, q _ I.fresh⟩

/-- what is wanted of an operator's value -/
def rB (K : PySem.W.Frag) (o : Bn) : R2 := fun x y H Q => ∃ (w : Wd) (S : Sto) (d e : D) (W : WX) (σ : L2.St), Sim K w H S ∧ Rep K w H d x ∧ Rep K w H e y ∧ Post K (Rep K) W σ w H (optD S (evalB o d e)) Q
theorem post_some {K : PySem.W.Frag} {W : WX} {σ : L2.St} {w : Wd} {H : Hp} {S : Sto} {Q : VK} {o : Option D} {d : D} (e : o = some d) (h : Post K (Rep K) W σ w H (optD S o) Q) : ∀ b H' w', Le w w' H H' → w'.P = w.P → Sim K w' H' S → Rep K w' H' d b → Q b H' := by
  subst e
  exact h
theorem post_if {K : PySem.W.Frag} {W : WX} {σ : L2.St} {w : Wd} {H : Hp} {S : Sto} {Q : VK} {c : Prop} [Decidable c] {d : D} (h : Post K (Rep K) W σ w H (optD S (if c then some d else none)) Q) : c ∧ ∀ b H' w', Le w w' H H' → w'.P = w.P → Sim K w' H' S → Rep K w' H' d b → Q b H' := by
  by_cases hc : c
  · rw [if_pos hc] at h
    exact ⟨hc, h⟩
  · rw [if_neg hc] at h
    exact h.elim
theorem small_ok {i : Int} (h : small i = true) : -(2 ^ 64) < i ∧ i < 2 ^ 64 := by
  unfold small at h
  simp only [Bool.and_eq_true, decide_eq_true_eq] at h
  exact h
theorem op_B {X : Cx} (o : Bn) : OpR X (binaryOp (binOp o)) (rB X.K o) := by
  intro pins s σ H x y v u Q I rx ry h
  obtain ⟨w, S, d, e, W, σ', sm, hd, he, hp⟩ := h
  have now : ∀ {z : D}, (∀ b H' w', Le w w' H H' → w'.P = w.P → Sim X.K w' H' S → Rep X.K w' H' z b → Q b H') → ∀ b, Rep X.K w H z b → Q b H := fun k b r => k b H w (Le.refl _ _) rfl sm r
  have newL : ∀ {xs : List D} {vs : List V}, (∀ b H' w', Le w w' H H' → w'.P = w.P → Sim X.K w' H' S → Rep X.K w' H' (.lst xs) b → Q b H') → Reps X.K w H xs vs → ∀ p, H p = none → Q (.ref p) (upd H p (.lst vs)) := fun k r p hn => k _ _ w (le_new hn _) rfl (sm.new hn _) (newLst sm hn r)
  have newT : ∀ {xs : List D} {vs : List V}, (∀ b H' w', Le w w' H H' → w'.P = w.P → Sim X.K w' H' S → Rep X.K w' H' (.tup xs) b → Q b H') → Reps X.K w H xs vs → ∀ p, H p = none → Q (.ref p) (upd H p (.tup vs)) := fun k r p hn => k _ _ w (le_new hn _) rfl (sm.new hn _) (newTup sm hn r)
  cases o with
  | add =>
    cases d <;> cases e <;> try exact hp.elim
    case int.int i j =>
      cases rep_int hd
      cases rep_int he
      exact op_add pins s σ H _ _ v u Q I rx ry ⟨i, j, rfl, rfl, now (post_some rfl hp) _ mk_int⟩
    case str.str i j =>
      cases rep_str hd
      cases rep_str he
      obtain ⟨hc, k⟩ := post_if hp
      exact op_add_str pins s σ H _ _ v u Q I rx ry ⟨i, j, rfl, rfl, hc, now k _ mk_str⟩
    case tup.tup xs ys =>
      obtain ⟨a, vs, rfl, ta, ra⟩ := rep_tup hd
      obtain ⟨b, us, rfl, tb, rb⟩ := rep_tup he
      obtain ⟨hc, k⟩ := post_if hp
      refine op_catA pins s σ H _ _ v u Q I rx ry ⟨a, b, vs, us, rfl, rfl, ta.sq, tb.sq, by rw [← ra.length, ← rb.length]; exact hc, fun e => ?_, fun _ e => ?_, fun _ _ p hn => newT k (ra.append rb) p hn⟩
      · subst e
        have e : xs = [] := List.eq_nil_of_length_eq_zero (by rw [ra.length]; rfl)
        subst e
        exact now k _ (by rw [List.nil_append]; exact he)
      · subst e
        have e : ys = [] := List.eq_nil_of_length_eq_zero (by rw [rb.length]; rfl)
        subst e
        exact now k _ (by rw [List.append_nil]; exact hd)
    case lst.lst xs ys =>
      obtain ⟨a, vs, rfl, ta, ra⟩ := rep_lst hd
      obtain ⟨b, us, rfl, tb, rb⟩ := rep_lst he
      obtain ⟨hc, k⟩ := post_if hp
      exact op_catS pins s σ H _ _ v u Q I rx ry ⟨a, b, vs, us, rfl, rfl, ta.sq, tb.sq, by rw [← ra.length, ← rb.length]; exact hc, fun p hn => newL k (ra.append rb) p hn⟩
  | sub =>
    cases d <;> cases e <;> try exact hp.elim
    case int.int i j =>
      cases rep_int hd
      cases rep_int he
      exact op_sub pins s σ H _ _ v u Q I rx ry ⟨i, j, rfl, rfl, now (post_some rfl hp) _ mk_int⟩
  | mul =>
    cases d <;> cases e <;> try exact hp.elim
    case int.int i j =>
      cases rep_int hd
      cases rep_int he
      obtain ⟨hc, k⟩ := post_if hp
      refine op_mul pins s σ H _ _ v u Q I rx ry ⟨i, j, rfl, rfl, ?_, now k _ mk_int⟩
      rcases Bool.or_eq_true_iff.mp hc with h | h
      · exact .inl (small_ok h)
      · exact .inr (small_ok h)
    case str.int x j =>
      cases rep_str hd
      cases rep_int he
      obtain ⟨⟨⟨h1, h2⟩, ⟨h3, h4⟩, h5⟩, k⟩ := post_if hp
      obtain ⟨t, rfl⟩ := rx
      obtain ⟨t', rfl⟩ := ry
      have n0 : (j == 1 || x.length == 0) = false := by
        rw [Bool.or_eq_false_iff]
        exact ⟨beq_eq_false_iff_ne.mpr (by omega), beq_eq_false_iff_ne.mpr (by omega)⟩
      have le : x.length * j.toNat ≤ 1000 * 1000 := Nat.mul_le_mul h4 (by omega)
      have dv : (1000 : Int) ≤ (2 ^ 63 - 1) / j := by
        rw [Int.le_ediv_iff_mul_le (by omega)]
        omega
      refine P.mul_str (by rw [decide_eq_false (by omega), decide_eq_false (by omega)]; rfl) (fun _ _ => by omega) (fun _ _ => decide_eq_false (by rw [sizeLine_eq]; omega)) ?_
      rw [if_neg (by omega), n0, if_neg Bool.false_ne_true]
      exact ⟨h5, ⟨.str (repS x j.toNat), H, I.tok _, ⟨_, rfl⟩, now k _ mk_str⟩⟩
  | fdiv =>
    cases d <;> cases e <;> try exact hp.elim
    case int.int i j =>
      cases rep_int hd
      cases rep_int he
      obtain ⟨hc, k⟩ := post_if hp
      exact op_fdiv pins s σ H _ _ v u Q I rx ry ⟨i, j, rfl, rfl, hc, now k _ mk_int⟩
  | mod =>
    cases d <;> cases e <;> try exact hp.elim
    case int.int i j =>
      cases rep_int hd
      cases rep_int he
      obtain ⟨hc, k⟩ := post_if hp
      exact op_mod pins s σ H _ _ v u Q I rx ry ⟨i, j, rfl, rfl, hc, now k _ mk_int⟩
  | pow =>
    cases d <;> cases e <;> try exact hp.elim
    case int.int i j =>
      cases rep_int hd
      cases rep_int he
      obtain ⟨hc, k⟩ := post_if hp
      exact op_pow pins s σ H _ _ v u Q I rx ry ⟨i, j, rfl, rfl, hc, now k _ mk_int⟩
  | shr =>
    cases d <;> cases e <;> try exact hp.elim
    case int.int i j =>
      cases rep_int hd
      cases rep_int he
      obtain ⟨hc, k⟩ := post_if hp
      exact op_shr pins s σ H _ _ v u Q I rx ry ⟨i, j, rfl, rfl, hc, now k _ mk_int⟩
  | band =>
    cases d <;> cases e <;> try exact hp.elim
    case int.int i j =>
      cases rep_int hd
      cases rep_int he
      exact op_and pins s σ H _ _ v u Q I rx ry ⟨i, j, rfl, rfl, now (post_some rfl hp) _ mk_int⟩

/-! ### data -/
mutual
def D.py : D → PyData
  | .non => .none
  | .bl b => .bool b
  | .int i => .int i
  | .str s => .str s
  | .tup xs => .tuple (D.pys xs)
  | .lst xs => .list (D.pys xs)
  | .ref _ => .none
  | .ctup _ => .none
def D.pys : List D → List PyData
  | [] => []
  | x :: xs => x.py :: D.pys xs
end
mutual
theorem py_plain : ∀ d : D, d.py.plain = true
  | .non => rfl
  | .bl _ => rfl
  | .int _ => rfl
  | .str _ => rfl
  | .tup xs => by unfold D.py PyData.plain; exact pys_plain xs
  | .lst xs => by unfold D.py PyData.plain; exact pys_plain xs
  | .ref _ => rfl
  | .ctup _ => rfl
theorem pys_plain : ∀ xs : List D, PyData.plainAll (D.pys xs) = true
  | [] => rfl
  | x :: xs => by
    unfold D.pys PyData.plainAll
    rw [py_plain x, pys_plain xs]; rfl
end
mutual
theorem py_depth : ∀ d : D, d.py.depth = d.depth
  | .non => rfl
  | .bl _ => rfl
  | .int _ => rfl
  | .str _ => rfl
  | .tup xs => by unfold D.py PyData.depth D.depth; rw [pys_depth xs]
  | .lst xs => by unfold D.py PyData.depth D.depth; rw [pys_depth xs]
  | .ref _ => rfl
  | .ctup _ => rfl
theorem pys_depth : ∀ xs : List D, PyData.depthAll (D.pys xs) = D.depths xs
  | [] => rfl
  | x :: xs => by
    unfold D.pys PyData.depthAll D.depths
    rw [py_depth x, pys_depth xs]
end
mutual
theorem py_eqv : ∀ d e : D, d.pure = true → e.pure = true → PyData.eqv d.py e.py = D.eqv d e
  | .non, e, _, h => by cases e <;> first | rfl | cases h
  | .bl a, e, _, h => by cases e <;> first | rfl | cases h
  | .int i, e, _, h => by cases e <;> first | rfl | cases h
  | .str s, e, _, h => by cases e <;> first | rfl | cases h
  | .tup xs, .tup ys, h, k => by unfold D.py PyData.eqv D.eqv; exact pys_eqv xs ys (by unfold D.pure at h; exact h) (by unfold D.pure at k; exact k)
  | .lst xs, .lst ys, h, k => by unfold D.py PyData.eqv D.eqv; exact pys_eqv xs ys (by unfold D.pure at h; exact h) (by unfold D.pure at k; exact k)
  | .tup xs, .non, _, _ => rfl
  | .tup xs, .bl _, _, _ => rfl
  | .tup xs, .int _, _, _ => rfl
  | .tup xs, .str _, _, _ => rfl
  | .tup xs, .lst _, _, _ => rfl
  | .lst xs, .non, _, _ => rfl
  | .lst xs, .bl _, _, _ => rfl
  | .lst xs, .int _, _, _ => rfl
  | .lst xs, .str _, _, _ => rfl
  | .lst xs, .tup _, _, _ => rfl
  | .tup xs, .ref _, _, h => by cases h
  | .tup xs, .ctup _, _, h => by cases h
  | .lst xs, .ctup _, _, h => by cases h
  | .ctup _, _, h, _ => by cases h
  | .lst xs, .ref _, _, h => by cases h
  | .ref _, _, h, _ => by cases h
theorem pys_eqv : ∀ xs ys : List D, D.pures xs = true → D.pures ys = true → PyData.eqvAll (D.pys xs) (D.pys ys) = D.eqvs xs ys
  | [], [], _, _ => rfl
  | [], _ :: _, _, _ => rfl
  | _ :: _, [], _, _ => rfl
  | x :: xs, y :: ys, h, k => by
    unfold D.pures at h k
    obtain ⟨h1, h2⟩ := Bool.and_eq_true_iff.mp h
    obtain ⟨k1, k2⟩ := Bool.and_eq_true_iff.mp k
    unfold D.pys PyData.eqvAll D.eqvs
    rw [py_eqv x y h1 k1, pys_eqv xs ys h2 k2]
end
section
variable {X : Cx} {pins : List (Addr × Obj)} {σ : L2.St} {H : Hp} {s : Shared} {w : Wd}
mutual
/-- a representation reads as data -/
theorem rep_reads (I : Inv X pins σ H s) : ∀ (d : D) (v : V) (u : Value), d.pure = true → Rep X.K w H d v → RelV v u → ∃ as, Reads s.heap u d.py as
  | .non, v, u, _, h, r => by
    cases rep_non h
    cases r
    exact ⟨_, Reads.none⟩
  | .bl b, v, u, _, h, r => by
    cases rep_bl h
    cases r
    exact ⟨_, Reads.bool b⟩
  | .int i, v, u, _, h, r => by
    cases rep_int h
    obtain ⟨t, rfl⟩ := r
    exact ⟨_, Reads.int i t⟩
  | .str x, v, u, _, h, r => by
    cases rep_str h
    obtain ⟨t, rfl⟩ := r
    exact ⟨_, Reads.str x t⟩
  | .tup xs, v, u, hp, h, r => by
    obtain ⟨a, vs, rfl, ta, ra⟩ := rep_tup h
    cases r
    obtain ⟨its, rv, ⟨o, ho, hc, n, hd⟩, _⟩ := I.tuple ta.sq
    obtain ⟨as, hr⟩ := reps_reads I xs vs its (by unfold D.pure at hp; exact hp) ra rv
    exact ⟨_, Reads.tuple ho hc hd hr⟩
  | .lst xs, v, u, hp, h, r => by
    obtain ⟨a, vs, rfl, ta, ra⟩ := rep_lst h
    cases r
    obtain ⟨its, rv, ⟨o, n, ho, hc, hdd, hd⟩, _⟩ := I.list ta.sq
    obtain ⟨as, hr⟩ := reps_reads I xs vs its (by unfold D.pure at hp; exact hp) ra rv
    exact ⟨_, Reads.list ho hc hd hr⟩
  | .ref _, _, _, hp, _, _ => by cases hp
  | .ctup _, _, _, hp, _, _ => by cases hp
theorem reps_reads (I : Inv X pins σ H s) : ∀ (xs : List D) (vs : List V) (us : List Value), D.pures xs = true → Reps X.K w H xs vs → Vals vs us → ∃ as, ReadsAll s.heap us (D.pys xs) as
  | [], vs, us, _, h, r => by
    rw [show vs = [] from h] at r
    cases r
    exact ⟨_, ReadsAll.nil⟩
  | x :: xs, vs, us, hp, h, r => by
    obtain ⟨v, vr, rfl, h1, h2⟩ := h
    unfold D.pures at hp
    obtain ⟨p1, p2⟩ := Bool.and_eq_true_iff.mp hp
    cases r with
    | cons r1 r2 =>
      obtain ⟨as, q1⟩ := rep_reads I x v _ p1 h1 r1
      obtain ⟨bs, q2⟩ := reps_reads I xs vr _ p2 h2 r2
      exact ⟨_, ReadsAll.cons q1 q2⟩
end
end
end Z


/-! Z: comparisons, places, truth, by values. -/
namespace Z
open PySem L2
section
variable {K : PySem.W.Frag} {w : Wd} {H : Hp} {S : Sto}
/-- a list as it is looked at -/
theorem view_lst {d : D} {v : V} {xs : List D} (sm : Sim K w H S) (r : Rep K w H d v) (e : view S d = .lst xs) : ∃ a vs, v = .ref a ∧ SqL K H a vs ∧ Reps K w H xs vs := by
  cases d with
  | lst ys =>
    have e : D.lst ys = D.lst xs := e
    cases e
    obtain ⟨a, vs, rfl, t, q⟩ := rep_lst r
    exact ⟨a, vs, rfl, t.sq, q⟩
  | ref n =>
    have e : (match S[n]? with
      | some (.lst xs) => D.lst xs
      | _ => .ref n) = .lst xs := e
    split at e
    · rename_i ys hn
      cases e
      obtain ⟨_, rfl⟩ := rep_ref r
      obtain ⟨u, hu, vs, rfl, q⟩ := sm.ob n _ hn
      exact ⟨_, vs, rfl, SqL.of hu, q⟩
    · cases e
  | non => cases e
  | bl _ => cases e
  | int _ => cases e
  | str _ => cases e
  | tup _ => cases e
  | ctup _ => cases e
theorem view_tup {d : D} {v : V} {xs : List D} (r : Rep K w H d v) (e : view S d = .tup xs) : d = .tup xs := by
  cases d with
  | tup ys => exact e
  | ref n =>
    have e : (match S[n]? with
      | some (.lst xs) => D.lst xs
      | _ => .ref n) = .tup xs := e
    split at e <;> cases e
  | non => cases e
  | bl _ => cases e
  | int _ => cases e
  | str _ => cases e
  | lst _ => cases e
  | ctup _ => cases e
theorem view_other {d : D} {e : D} (h : view S d = e) (n : ∀ xs, e ≠ .lst xs) : d = e := by
  cases d with
  | ref m =>
    have h : (match S[m]? with
      | some (.lst xs) => D.lst xs
      | _ => .ref m) = e := h
    split at h
    · exact absurd h.symm (n _)
    · exact h
  | _ => exact h
/-- a table as it is looked at -/
theorem tab_dk {n : Nat} {kvs : List (Key × D)} {v : V} (sm : Sim K w H S) (r : Rep K w H (.ref n) v) (e : S[n]? = some (.dk kvs)) : ∃ vs, v = .ref (w.at_ n) ∧ H (w.at_ n) = some (.dK vs) ∧ Kvs K w H kvs vs := by
  obtain ⟨_, rfl⟩ := rep_ref r
  obtain ⟨u, hu, vs, rfl, q⟩ := sm.ob n _ e
  exact ⟨vs, rfl, hu, q⟩
theorem tab_dkz {n : Nat} {kvs : List (Key × D)} {v : V} (sm : Sim K w H S) (r : Rep K w H (.ref n) v) (e : S[n]? = some (.frz (.dk kvs))) : ∃ ob vs, v = .ref (w.at_ n) ∧ H (w.at_ n) = some (.frz ob (.dK vs)) ∧ Kvs K w H kvs vs := by
  obtain ⟨_, rfl⟩ := rep_ref r
  obtain ⟨u, hu, ob, u', rfl, vs, rfl, q⟩ := sm.ob n _ e
  exact ⟨ob, vs, rfl, hu, q⟩
theorem tab_dt {n : Nat} {kvs : List (List Key × D)} {v : V} (sm : Sim K w H S) (r : Rep K w H (.ref n) v) (e : S[n]? = some (.dt kvs)) : ∃ vs, v = .ref (w.at_ n) ∧ H (w.at_ n) = some (.dT vs) ∧ Kvs K w H kvs vs := by
  obtain ⟨_, rfl⟩ := rep_ref r
  obtain ⟨u, hu, vs, rfl, q⟩ := sm.ob n _ e
  exact ⟨vs, rfl, hu, q⟩
theorem tab_dtz {n : Nat} {kvs : List (List Key × D)} {v : V} (sm : Sim K w H S) (r : Rep K w H (.ref n) v) (e : S[n]? = some (.frz (.dt kvs))) : ∃ ob vs, v = .ref (w.at_ n) ∧ H (w.at_ n) = some (.frz ob (.dT vs)) ∧ Kvs K w H kvs vs := by
  obtain ⟨_, rfl⟩ := rep_ref r
  obtain ⟨u, hu, ob, u', rfl, vs, rfl, q⟩ := sm.ob n _ e
  exact ⟨ob, vs, rfl, hu, q⟩
theorem key_v {d : D} {k : Key} {v : V} (r : Rep K w H d v) (e : d.key = some k) : v = kV k := by
  cases d with
  | int i =>
    have e : some (Sum.inl i : Key) = some k := e
    cases e
    exact rep_int r
  | str i =>
    have e : some (Sum.inr i : Key) = some k := e
    cases e
    exact rep_str r
  | _ => cases e
theorem keys_v : ∀ {xs : List D} {ks : List Key} {vs : List V}, Reps K w H xs vs → D.keys xs = some ks → vs = ks.map kV
  | [], ks, vs, r, e => by
    cases e
    exact r
  | x :: xs, ks, vs, ⟨v, q, e0, r1, r2⟩, e => by
    unfold D.keys at e
    split at e
    · rename_i k ks' h1 h2
      cases e
      rw [e0, key_v r1 h1, keys_v r2 h2]
      rfl
    · cases e
theorem tkey_v {d : D} {k : List Key} {v : V} (r : Rep K w H d v) (e : d.tkey = some k) : ∃ b, v = .ref b ∧ H b = some (.tup (k.map kV)) := by
  cases d with
  | tup xs =>
    obtain ⟨a, vs, rfl, t, q⟩ := rep_tup r
    exact ⟨a, rfl, by rw [t.1, keys_v q e]⟩
  | _ => cases e
theorem tab_get {n : Nat} {i : D} {v y : V} {o : Option D} (sm : Sim K w H S) (r : Rep K w H (.ref n) v) (ri : Rep K w H i y) (e : tabGet S n i = some o) :
    ∃ r, v = .ref (w.at_ n) ∧ DGet H (w.at_ n) y r ∧ ((o = none ∧ r = none) ∨ ∃ d z, o = some d ∧ r = some z ∧ Rep K w H d z) := by
  have fin : ∀ {κ : Type} [DecidableEq κ] {kvs : List (κ × D)} {vs : List (κ × V)} (k : κ), Kvs K w H kvs vs → (look kvs k = none ∧ valV vs k = none) ∨ ∃ d z, look kvs k = some d ∧ valV vs k = some z ∧ Rep K w H d z := fun k q => Kvs.look k q
  unfold tabGet at e
  split at e
  · rename_i kvs h
    obtain ⟨vs, e1, e2, q⟩ := tab_dk sm r h
    cases hk : i.key with
    | none => rw [hk] at e; cases e
    | some k =>
      rw [hk] at e
      have e : look kvs k = o := Option.some.inj e
      refine ⟨valV vs k, e1, .inl ⟨vs, k, .inl e2, key_v ri hk, rfl⟩, ?_⟩
      rw [← e]
      exact fin k q
  · rename_i kvs h
    obtain ⟨ob, vs, e1, e2, q⟩ := tab_dkz sm r h
    cases hk : i.key with
    | none => rw [hk] at e; cases e
    | some k =>
      rw [hk] at e
      have e : look kvs k = o := Option.some.inj e
      refine ⟨valV vs k, e1, .inl ⟨vs, k, .inr ⟨ob, e2⟩, key_v ri hk, rfl⟩, ?_⟩
      rw [← e]
      exact fin k q
  · rename_i kvs h
    obtain ⟨vs, e1, e2, q⟩ := tab_dt sm r h
    cases hk : i.tkey with
    | none => rw [hk] at e; cases e
    | some k =>
      rw [hk] at e
      have e : look kvs k = o := Option.some.inj e
      obtain ⟨b, e3, e4⟩ := tkey_v ri hk
      refine ⟨valV vs k, e1, .inr ⟨vs, k, b, .inl e2, e3, e4, rfl⟩, ?_⟩
      rw [← e]
      exact fin k q
  · rename_i kvs h
    obtain ⟨ob, vs, e1, e2, q⟩ := tab_dtz sm r h
    cases hk : i.tkey with
    | none => rw [hk] at e; cases e
    | some k =>
      rw [hk] at e
      have e : look kvs k = o := Option.some.inj e
      obtain ⟨b, e3, e4⟩ := tkey_v ri hk
      refine ⟨valV vs k, e1, .inr ⟨vs, k, b, .inr ⟨ob, e2⟩, e3, e4, rfl⟩, ?_⟩
      rw [← e]
      exact fin k q
  · cases e
end

section
variable {X : Cx} {pins : List (Addr × Obj)} {σ : L2.St} {H : Hp} {s : Shared} {w : Wd} {S : Sto}
theorem view_reads (I : L2.Inv X pins σ H s) (sm : Sim X.K w H S) {d : D} {v : V} {u : Value} (hp : (view S d).pure = true) (r : Rep X.K w H d v) (rv : RelV v u) : ∃ as, Reads s.heap u (view S d).py as := by
  by_cases h : ∃ xs, view S d = .lst xs
  · obtain ⟨xs, h⟩ := h
    obtain ⟨a, vs, rfl, sq, q⟩ := view_lst sm r h
    cases rv
    rw [h] at hp ⊢
    obtain ⟨its, ri, ⟨o, n, ho, hc, hdd, hd⟩, _⟩ := I.list sq
    obtain ⟨as, hr⟩ := reps_reads I xs vs its (by unfold D.pure at hp; exact hp) q ri
    exact ⟨_, Reads.list ho hc hd hr⟩
  · have e : d = view S d := view_other rfl fun xs z => h ⟨xs, z⟩
    rw [← e] at hp ⊢
    exact rep_reads I d v u hp r rv
end
/-- what is wanted of a comparison's value -/
def rC (K : PySem.W.Frag) (o : Cm) : R2 := fun x y H Q => ∃ (w : Wd) (S : Sto) (d e : D), Sim K w H S ∧ Rep K w H d x ∧ Rep K w H e y ∧ ∃ b, evalC S o d e = some b ∧ Q (.bl b) H
section
variable {X : Cx}
theorem isIn_ok {neg : Bool} (hu : X.A.units + 64 < cLine) {pins : List (Addr × Obj)} {s : Shared} {σ : L2.St} {H : Hp} {x y : V} {v u : Value} {Q : VK} {w : Wd} {S : Sto} {d e : D} {b : Bool} (I : L2.Inv X pins σ H s) (rx : RelV x v) (ry : RelV y u)
    (sm : Sim X.K w H S) (hd : Rep X.K w H d x) (he : Rep X.K w H e y) (hb : isIn S d e = some b) (q : Q (.bl (if neg then !b else b)) H) :
    wpAny (model X.prog X.w) X.A (compareOp (if neg then .NotIn else .In) v u) (EP X pins σ Q) X.xe s := by
  have dat : ∀ {xs : List D}, (if (d.pure && D.pures xs) = true ∧ min (D.depths xs) d.depth ≤ 60 then some (xs.any fun z => D.eqv z d) else none) = some b → d.pure = true ∧ D.pures xs = true ∧ X.A.units + 1 + min (PyData.depthAll (D.pys xs)) d.py.depth < cLine ∧ ((D.pys xs).any fun y => PyData.eqv y d.py) = b := fun {xs} h => by
    split at h
    · rename_i hc
      obtain ⟨h1, h2⟩ := Bool.and_eq_true_iff.mp hc.1
      refine ⟨h1, h2, ?_, ?_⟩
      · rw [pys_depth, py_depth]; have := hc.2; omega
      · have key : ∀ ys : List D, D.pures ys = true → ((D.pys ys).any fun y => PyData.eqv y d.py) = ys.any fun z => D.eqv z d := fun ys => by
          induction ys with
          | nil => intro _; rfl
          | cons z zs ih =>
            intro h2
            unfold D.pures at h2
            obtain ⟨h3, h4⟩ := Bool.and_eq_true_iff.mp h2
            unfold D.pys
            rw [List.any_cons, List.any_cons, py_eqv z d h3 h1, ih h4]
        rw [key xs h2]
        exact Option.some.inj h
    · cases h
  unfold isIn at hb
  split at hb
  · rename_i xs hv
    obtain ⟨p1, p2, p3, p4⟩ := dat hb
    obtain ⟨a, vs, rfl, sq, qs⟩ := view_lst sm he hv
    cases ry
    obtain ⟨its, ri, ⟨o, n, ho, hc, hdd, hdt⟩, _⟩ := I.list sq
    obtain ⟨as, hr⟩ := reps_reads I xs vs its p2 qs ri
    obtain ⟨bs, hr2⟩ := rep_reads I d x v p1 hd rx
    cases neg with
    | false => exact SeqAt.in_list_data (Reads.list ho hc hdt hr) hr2 (pys_plain xs) (py_plain d) p3 ⟨.bl _, H, I, rfl, by rw [p4]; exact q⟩
    | true => exact SeqAt.notIn_list_data (Reads.list ho hc hdt hr) hr2 (pys_plain xs) (py_plain d) p3 ⟨.bl _, H, I, rfl, by rw [p4]; exact q⟩
  · rename_i xs hv
    obtain ⟨p1, p2, p3, p4⟩ := dat hb
    have e := view_tup he hv
    subst e
    obtain ⟨a, vs, rfl, ta, qs⟩ := rep_tup he
    cases ry
    obtain ⟨its, ri, ⟨o, ho, hc, n, hdt⟩, _⟩ := I.tuple ta.sq
    obtain ⟨as, hr⟩ := reps_reads I xs vs its p2 qs ri
    obtain ⟨bs, hr2⟩ := rep_reads I d x v p1 hd rx
    cases neg with
    | false => exact SeqAt.in_tuple_data (Reads.tuple ho hc hdt hr) hr2 (pys_plain xs) (py_plain d) p3 ⟨.bl _, H, I, rfl, by rw [p4]; exact q⟩
    | true => exact SeqAt.notIn_tuple_data (Reads.tuple ho hc hdt hr) hr2 (pys_plain xs) (py_plain d) p3 ⟨.bl _, H, I, rfl, by rw [p4]; exact q⟩
  · rename_i xs hv
    obtain ⟨p1, p2, p3, p4⟩ := dat hb
    have e := view_other hv (fun _ z => by cases z)
    subst e
    unfold Rep at he
    obtain ⟨a, vs, rfl, ta, qs⟩ := he
    cases ry
    obtain ⟨its, ri, ⟨o, ho, hc, n, hdt⟩, _⟩ := I.tuple ta.sq
    obtain ⟨as, hr⟩ := reps_reads I xs vs its p2 qs ri
    obtain ⟨bs, hr2⟩ := rep_reads I d x v p1 hd rx
    cases neg with
    | false => exact SeqAt.in_tuple_data (Reads.tuple ho hc hdt hr) hr2 (pys_plain xs) (py_plain d) p3 ⟨.bl _, H, I, rfl, by rw [p4]; exact q⟩
    | true => exact SeqAt.notIn_tuple_data (Reads.tuple ho hc hdt hr) hr2 (pys_plain xs) (py_plain d) p3 ⟨.bl _, H, I, rfl, by rw [p4]; exact q⟩
  · rename_i t hv
    have e := view_other hv (fun _ z => by cases z)
    subst e
    split at hb
    · cases hb
      cases rep_str hd
      cases rep_str he
      cases neg with
      | false => exact op_in_str pins s σ H _ _ v u Q I rx ry ⟨_, _, rfl, rfl, q⟩
      | true => exact op_notin_str pins s σ H _ _ v u Q I rx ry ⟨_, _, rfl, rfl, q⟩
    · cases hb
  · rename_i n hv
    have e := view_other hv (fun _ z => by cases z)
    subst e
    cases hg : tabGet S n d with
    | none => rw [hg] at hb; cases hb
    | some o =>
      rw [hg] at hb
      obtain ⟨r, rfl, g, hr⟩ := tab_get sm he hd hg
      cases ry
      have hb : o.isSome = b := Option.some.inj hb
      have hs : r.isSome = b := by
        rw [← hb]
        rcases hr with ⟨e1, e2⟩ | ⟨_, _, e1, e2, _⟩ <;> rw [e1, e2] <;> rfl
      cases neg with
      | false => exact d_in (by omega) I g rx fun s' I' => ⟨.bl _, H, I', rfl, by rw [hs]; exact q⟩
      | true => exact d_notIn (by omega) I g rx fun s' I' => ⟨.bl _, H, I', rfl, by rw [hs]; exact q⟩
  · cases hb
theorem op_C (hu : X.A.units + 64 < cLine) (o : Cm) : OpR X (compareOp (cmOp o)) (rC X.K o) := by
  intro pins s σ H x y v u Q I rx ry h
  obtain ⟨w, S, d, e, sm, hd, he, b, hb, q⟩ := h
  cases o with
  | eq =>
    have hb : (if ((view S d).pure && (view S e).pure) = true ∧ min (view S d).depth (view S e).depth ≤ 60 then some (D.eqv (view S d) (view S e)) else none) = some b := by cases d <;> exact hb
    split at hb
    · rename_i hc
      obtain ⟨h1, h2⟩ := Bool.and_eq_true_iff.mp hc.1
      obtain ⟨as, ra⟩ := view_reads I sm h1 hd rx
      obtain ⟨bs, rb⟩ := view_reads I sm h2 he ry
      refine SeqAt.eq_plain ra rb (py_plain _) (py_plain _) ?_ ⟨.bl _, H, I, rfl, ?_⟩
      · rw [py_depth, py_depth]; have := hc.2; omega
      · rw [py_eqv _ _ h1 h2, Option.some.inj hb]; exact q
    · cases hb
  | ne =>
    have hb : (if ((view S d).pure && (view S e).pure) = true ∧ min (view S d).depth (view S e).depth ≤ 60 then some (!D.eqv (view S d) (view S e)) else none) = some b := by cases d <;> exact hb
    split at hb
    · rename_i hc
      obtain ⟨h1, h2⟩ := Bool.and_eq_true_iff.mp hc.1
      obtain ⟨as, ra⟩ := view_reads I sm h1 hd rx
      obtain ⟨bs, rb⟩ := view_reads I sm h2 he ry
      refine SeqAt.ne_plain ra rb (py_plain _) (py_plain _) ?_ ⟨.bl _, H, I, rfl, ?_⟩
      · rw [py_depth, py_depth]; have := hc.2; omega
      · rw [py_eqv _ _ h1 h2, Option.some.inj hb]; exact q
    · cases hb
  | lt =>
    cases d <;> cases e <;> try cases hb
    · cases rep_int hd; cases rep_int he
      exact op_lt pins s σ H _ _ v u Q I rx ry ⟨_, _, rfl, rfl, q⟩
    · cases rep_str hd; cases rep_str he
      exact op_lt_str pins s σ H _ _ v u Q I rx ry ⟨_, _, rfl, rfl, q⟩
  | le =>
    cases d <;> cases e <;> try cases hb
    · cases rep_int hd; cases rep_int he
      exact op_le pins s σ H _ _ v u Q I rx ry ⟨_, _, rfl, rfl, q⟩
    · cases rep_str hd; cases rep_str he
      exact op_le_str pins s σ H _ _ v u Q I rx ry ⟨_, _, rfl, rfl, q⟩
  | gt =>
    cases d <;> cases e <;> try cases hb
    · cases rep_int hd; cases rep_int he
      exact op_gt pins s σ H _ _ v u Q I rx ry ⟨_, _, rfl, rfl, q⟩
    · cases rep_str hd; cases rep_str he
      exact op_gt_str pins s σ H _ _ v u Q I rx ry ⟨_, _, rfl, rfl, q⟩
  | ge =>
    cases d <;> cases e <;> try cases hb
    · cases rep_int hd; cases rep_int he
      exact op_ge pins s σ H _ _ v u Q I rx ry ⟨_, _, rfl, rfl, q⟩
    · cases rep_str hd; cases rep_str he
      exact op_ge_str pins s σ H _ _ v u Q I rx ry ⟨_, _, rfl, rfl, q⟩
  | isN =>
    cases e <;> try (cases d <;> cases hb)
    all_goals
      cases rep_non he
      refine op_isN pins s σ H _ _ v u Q I rx ry ⟨rfl, ?_⟩
      first
        | (cases rep_non hd; exact q)
        | (cases rep_bl hd; exact q)
        | (cases rep_int hd; exact q)
        | (cases rep_str hd; exact q)
        | (obtain ⟨_, rfl⟩ := rep_ref hd; exact q)
        | (obtain ⟨_, _, rfl, _⟩ := rep_tup hd; exact q)
        | (obtain ⟨_, _, rfl, _⟩ := rep_lst hd; exact q)
        | (unfold Rep at hd; obtain ⟨_, _, rfl, _⟩ := hd; exact q)
  | notN =>
    cases e <;> try (cases d <;> cases hb)
    all_goals
      cases rep_non he
      refine op_notN pins s σ H _ _ v u Q I rx ry ⟨rfl, ?_⟩
      first
        | (cases rep_non hd; exact q)
        | (cases rep_bl hd; exact q)
        | (cases rep_int hd; exact q)
        | (cases rep_str hd; exact q)
        | (obtain ⟨_, rfl⟩ := rep_ref hd; exact q)
        | (obtain ⟨_, _, rfl, _⟩ := rep_tup hd; exact q)
        | (obtain ⟨_, _, rfl, _⟩ := rep_lst hd; exact q)
        | (unfold Rep at hd; obtain ⟨_, _, rfl, _⟩ := hd; exact q)
  | isin =>
    have hb : isIn S d e = some b := by cases d <;> exact hb
    exact isIn_ok (neg := false) hu I rx ry sm hd he hb q
  | notin =>
    have hb : (isIn S d e).map (!·) = some b := by cases d <;> exact hb
    cases z : isIn S d e with
    | none => rw [z] at hb; cases hb
    | some c =>
      rw [z] at hb
      exact isIn_ok (neg := true) hu I rx ry sm hd he z (by rw [← Option.some.inj hb] at q; exact q)
end
end Z


/-! Z: places, slices, truth, built-ins, by values. -/
namespace Z
open PySem L2
section
variable {K : PySem.W.Frag} {w : Wd} {H : Hp} {S : Sto}
theorem atI_rep {xs : List D} {vs : List V} {i : Int} {d : D} (q : Reps K w H xs vs) (e : atI xs i = some d) : ∃ v, atI vs i = some v ∧ Rep K w H d v := by
  unfold atI at e ⊢
  rw [← q.length]
  cases h : ixN xs.length i with
  | none => rw [h] at e; cases e
  | some j =>
    rw [h] at e
    exact q.get e
theorem cut_rep {xs : List D} {vs : List V} (lo hi : Option Int) (q : Reps K w H xs vs) : Reps K w H (cut xs lo hi) (cutV vs lo hi) := by
  unfold cut cutV
  rw [← q.length]
  exact Reps.take _ (Reps.drop _ q)
theorem cut_whole {α : Type} (xs : List α) (lo hi : Option Int) (h : HT.sIx xs.length 0 lo = 0 ∧ HT.sIx xs.length xs.length hi = xs.length) : cut xs lo hi = xs := by
  unfold cut
  rw [h.1, h.2, List.drop_zero, Nat.sub_zero, List.take_length]
end
/-- what is wanted of a place's thing -/
def rI (K : PySem.W.Frag) : R2 := fun x y H Q => ∃ (w : Wd) (S : Sto) (d e : D), Sim K w H S ∧ Rep K w H d x ∧ Rep K w H e y ∧ ∃ z, evalIx S d e = some z ∧ ∀ v, Rep K w H z v → Q v H
section
variable {X : Cx}
theorem ix_I (hu : X.A.units + 64 < cLine) : IxR X (rI X.K) := by
  intro value slice pins s σ H x y v u Q I rx ry h hs
  obtain ⟨w, S, d, e, sm, hd, he, z, hz, q⟩ := h
  unfold evalIx at hz
  split at hz
  · rename_i xs hv
    have e1 := view_tup hd hv
    subst e1
    obtain ⟨a, vs, rfl, ta, qs⟩ := rep_tup hd
    split at hz
    · cases rep_int he
      obtain ⟨z', hz', rz⟩ := atI_rep qs hz
      exact ix_tup value slice pins s σ H _ _ v u Q I rx ry ⟨a, vs, _, z', rfl, rfl, ta.sq, hz', q _ rz⟩ hs
    · cases hz
  · rename_i xs hv
    obtain ⟨a, vs, rfl, sq, qs⟩ := view_lst sm hd hv
    split at hz
    · cases rep_int he
      obtain ⟨z', hz', rz⟩ := atI_rep qs hz
      exact ix_list value slice pins s σ H _ _ v u Q I rx ry ⟨a, vs, _, z', rfl, rfl, sq, hz', q _ rz⟩ hs
    · cases hz
  · rename_i t hv
    have e1 := view_other hv (fun _ z => by cases z)
    subst e1
    cases rep_str hd
    split at hz
    · cases rep_int he
      split at hz
      · rename_i hl
        cases hc : atI t.cps.toList _ with
        | none => rw [hc] at hz; cases hz
        | some c =>
          rw [hc] at hz
          cases hz
          exact ix_str value slice pins s σ H _ _ v u Q I rx ry ⟨t, _, c, rfl, rfl, hl, hc, q _ mk_str⟩ hs
      · cases hz
    · cases hz
  · rename_i n hv
    have e1 := view_other hv (fun _ z => by cases z)
    subst e1
    cases hg : tabGet S n e with
    | none => rw [hg] at hz; cases hz
    | some o =>
      rw [hg] at hz
      have hz : o = some z := hz
      obtain ⟨r, rfl, g, hr⟩ := tab_get sm hd he hg
      cases rx
      rcases hr with ⟨e1, _⟩ | ⟨d', z', e1, e2, rz⟩
      · rw [e1] at hz; cases hz
      · rw [e1] at hz
        cases hz
        rw [e2] at g
        exact PyProof.Rows.tail_any (dict_typeIs I g) PySem.F.slot_dict_getitem.lookup (d_getItem (by omega) I g ry fun w' s' I' rw' => ⟨z', H, I', rw', q _ rz⟩) hs
  · cases hz
end
/-- what is wanted of a slice -/
def rSl (K : PySem.W.Frag) : V → Option Int → Option Int → Hp → VK → Prop := fun x lo hi H Q => ∃ (w : Wd) (S : Sto) (d : D) (W : WX) (σ : L2.St), Sim K w H S ∧ Rep K w H d x ∧ Post K (Rep K) W σ w H (optD S (evalSl S d lo hi)) Q
section
variable {X : Cx}
theorem sl_S : SlR X (rSl X.K) := by
  intro pins s σ H x v vl vu lo hi sl Q I rx hs pl pu h
  obtain ⟨w, S, d, W, σ', sm, hd, hp⟩ := h
  unfold evalSl at hp
  split at hp
  · rename_i xs hv
    have e1 := view_tup hd hv
    subst e1
    have hd' := hd
    obtain ⟨a, vs, rfl, ta, qs⟩ := rep_tup hd
    refine sl_tupA pins s σ H _ v vl vu lo hi sl Q I rx hs pl pu ⟨a, vs, rfl, ta.sq, fun hw => ?_, fun _ p hn => ?_⟩
    · rw [← qs.length] at hw
      rw [cut_whole xs lo hi hw] at hp
      exact Post.here hp sm hd'
    · exact hp _ _ w (le_new hn _) rfl (sm.new hn _) (newTup sm hn (cut_rep lo hi qs))
  · rename_i xs hv
    obtain ⟨a, vs, rfl, sq, qs⟩ := view_lst sm hd hv
    exact sl_list pins s σ H _ v vl vu lo hi sl Q I rx hs pl pu ⟨a, vs, rfl, sq, fun p hn => hp _ _ w (le_new hn _) rfl (sm.new hn _) (newLst sm hn (cut_rep lo hi qs))⟩
  · rename_i t hv
    have e1 := view_other hv (fun _ z => by cases z)
    subst e1
    cases rep_str hd
    split at hp
    · rename_i hl
      exact sl_str pins s σ H _ v vl vu lo hi sl Q I rx hs pl pu ⟨t, rfl, hl, Post.here hp sm mk_str⟩
    · exact hp.elim
  · exact hp.elim
/-- truth -/
theorem truth_v {w : Wd} {H : Hp} {S : Sto} {d : D} {v : V} {b : Bool} (sm : Sim X.K w H S) (r : Rep X.K w H d v) (h : truth S d = some b) : TruV X.K v H b := by
  unfold truth at h
  split at h
  · rename_i hv
    have e1 := view_other hv (fun _ z => by cases z)
    subst e1
    cases rep_non r
    cases h
    rfl
  · rename_i c hv
    have e1 := view_other hv (fun _ z => by cases z)
    subst e1
    cases rep_bl r
    cases h
    rfl
  · rename_i i hv
    have e1 := view_other hv (fun _ z => by cases z)
    subst e1
    cases rep_int r
    cases h
    rfl
  · rename_i t hv
    have e1 := view_other hv (fun _ z => by cases z)
    subst e1
    cases rep_str r
    split at h
    · rename_i hl
      cases h
      exact ⟨hl, rfl⟩
    · cases h
  · rename_i xs hv
    have e1 := view_tup r hv
    subst e1
    obtain ⟨a, vs, rfl, ta, qs⟩ := rep_tup r
    cases h
    refine .inr (.inl ⟨vs, ta.sq, ?_⟩)
    have := qs.length
    cases xs <;> cases vs <;> first | rfl | cases this
  · rename_i xs hv
    obtain ⟨a, vs, rfl, sq, qs⟩ := view_lst sm r hv
    cases h
    refine .inl ⟨vs, sq, ?_⟩
    have := qs.length
    cases xs <;> cases vs <;> first | rfl | cases this
  · rename_i n hv
    have e1 := view_other hv (fun _ z => by cases z)
    subst e1
    split at h
    · rename_i kvs hn
      obtain ⟨vs, rfl, hH, q⟩ := tab_dk sm r hn
      cases h
      refine .inr (.inr ⟨vs, hH, ?_⟩)
      have := q.length
      cases kvs <;> cases vs <;> first | rfl | cases this
    · cases h
  · cases h
end

/-! ### isinstance -/
section
variable {X : Cx} {w : Wd} {H : Hp} {S : Sto}
def tyStr : Ty → String
  | .int => "int" | .bool => "bool" | .str => "str" | .tuple => "tuple" | .list => "list"
theorem isTy_kit {d : D} {v : V} {t : Ty} {b : Bool} (sm : Sim X.K w H S) (r : Rep X.K w H d v) (h : isTy d S t = some b) : ∃ ty, TyX X.K H v ty ∧ PySem.W.kitOne X.K ty (.type (tyStr t)) = some b := by
  have lst : ∀ {a : Addr} {vs : List V}, SqL X.K H a vs → TyX X.K H (.ref a) (.type "list") := fun {a vs} q => by
    rcases q with (q | ⟨o, q⟩) | ⟨o, its, n, q, c, _⟩
    · exact .base (.lst q)
    · exact .base (.frz q)
    · exact .kList q c
  cases d with
  | non =>
    cases rep_non r
    refine ⟨_, .base .non, kit_ty ?_⟩
    cases t <;> (cases h; decide +kernel)
  | bl c =>
    cases rep_bl r
    refine ⟨_, .base (.bl c), kit_ty ?_⟩
    cases t <;> (cases h; decide +kernel)
  | int i =>
    cases rep_int r
    refine ⟨_, .base (.int i), kit_ty ?_⟩
    cases t <;> (cases h; decide +kernel)
  | str x =>
    cases rep_str r
    refine ⟨_, .base (.str x), kit_ty ?_⟩
    cases t <;> (cases h; decide +kernel)
  | tup xs =>
    obtain ⟨a, vs, rfl, ta, _⟩ := rep_tup r
    refine ⟨_, .base (.tup ta.1), kit_ty ?_⟩
    cases t <;> (cases h; decide +kernel)
  | lst xs =>
    obtain ⟨a, vs, rfl, ta, _⟩ := rep_lst r
    refine ⟨_, lst ta.sq, kit_ty ?_⟩
    cases t <;> (cases h; decide +kernel)
  | ref n =>
    have h : (match S[n]? with
      | some (.lst _) => some t.isL
      | _ => none) = some b := by cases t <;> exact h
    split at h
    · rename_i xs hn
      obtain ⟨_, rfl⟩ := rep_ref r
      obtain ⟨u, hu, vs, rfl, q⟩ := sm.ob n _ hn
      refine ⟨_, .base (.lst hu), kit_ty ?_⟩
      cases t <;> (have h := Option.some.inj h; subst h; decide +kernel)
    · cases h
  | ctup _ => cases t <;> cases h
end
end Z


/-! Z: built-in functions and methods, by values. -/
namespace Z
open PySem L2
section
variable {K : PySem.W.Frag} {w : Wd} {H : Hp} {S : Sto}
theorem ints_v : ∀ {xs : List D} {ns : List Int} {vs : List V}, Reps K w H xs vs → asInts xs = some ns → vs = ns.map V.int
  | [], ns, vs, r, e => by cases e; exact r
  | .int i :: xs, ns, vs, ⟨v, q, e0, r1, r2⟩, e => by
    unfold asInts at e
    split at e
    · rename_i s h
      cases e
      rw [e0, rep_int r1, ints_v r2 h]; rfl
    · cases e
  | .non :: _, _, _, _, e => by cases e
  | .bl _ :: _, _, _, _, e => by cases e
  | .str _ :: _, _, _, _, e => by cases e
  | .tup _ :: _, _, _, _, e => by cases e
  | .lst _ :: _, _, _, _, e => by cases e
  | .ref _ :: _, _, _, _, e => by cases e
  | .ctup _ :: _, _, _, _, e => by cases e
theorem strs_v : ∀ {xs : List D} {ns : List Str} {vs : List V}, Reps K w H xs vs → asStrs xs = some ns → vs = ns.map V.str
  | [], ns, vs, r, e => by cases e; exact r
  | .str i :: xs, ns, vs, ⟨v, q, e0, r1, r2⟩, e => by
    unfold asStrs at e
    split at e
    · rename_i s h
      cases e
      rw [e0, rep_str r1, strs_v r2 h]; rfl
    · cases e
  | .non :: _, _, _, _, e => by cases e
  | .bl _ :: _, _, _, _, e => by cases e
  | .int _ :: _, _, _, _, e => by cases e
  | .tup _ :: _, _, _, _, e => by cases e
  | .lst _ :: _, _, _, _, e => by cases e
  | .ref _ :: _, _, _, _, e => by cases e
  | .ctup _ :: _, _, _, _, e => by cases e
theorem bools_v : ∀ {xs : List D} {ns : List Bool} {vs : List V}, Reps K w H xs vs → bools xs = some ns → vs = ns.map V.bl
  | [], ns, vs, r, e => by cases e; exact r
  | .bl i :: xs, ns, vs, ⟨v, q, e0, r1, r2⟩, e => by
    unfold bools at e
    split at e
    · rename_i s h
      cases e
      rw [e0, rep_bl r1, bools_v r2 h]; rfl
    · cases e
  | .non :: _, _, _, _, e => by cases e
  | .int _ :: _, _, _, _, e => by cases e
  | .str _ :: _, _, _, _, e => by cases e
  | .tup _ :: _, _, _, _, e => by cases e
  | .lst _ :: _, _, _, _, e => by cases e
  | .ref _ :: _, _, _, _, e => by cases e
  | .ctup _ :: _, _, _, _, e => by cases e
theorem sums_v : ∀ {xs : List D} {n : Int}, sums xs = some n → ∃ ns, asInts xs = some ns ∧ n = ns.sum
  | [], n, e => by cases e; exact ⟨[], rfl, rfl⟩
  | .int i :: xs, n, e => by
    unfold sums at e
    split at e
    · rename_i s h
      cases e
      obtain ⟨ns, h1, h2⟩ := sums_v h
      refine ⟨i :: ns, ?_, ?_⟩
      · unfold asInts
        rw [h1]
      · rw [h2, List.sum_cons]
    · cases e
  | .non :: _, _, e => by cases e
  | .bl _ :: _, _, e => by cases e
  | .str _ :: _, _, e => by cases e
  | .tup _ :: _, _, e => by cases e
  | .lst _ :: _, _, e => by cases e
  | .ref _ :: _, _, e => by cases e
  | .ctup _ :: _, _, e => by cases e
end
theorem maxI_is : ∀ (r : List Int) (m : Int), maxI r m ∈ m :: r ∧ ∀ y ∈ m :: r, y ≤ maxI r m
  | [], m => ⟨by simp [maxI], by simp [maxI]⟩
  | x :: r, m => by
    unfold maxI
    obtain ⟨h1, h2⟩ := maxI_is r (if m < x then x else m)
    refine ⟨?_, fun y hy => ?_⟩
    · rcases List.mem_cons.mp h1 with h | h
      · rw [h]; split <;> simp
      · exact List.mem_cons_of_mem _ (List.mem_cons_of_mem _ h)
    · have h3 := h2 _ List.mem_cons_self
      rcases List.mem_cons.mp hy with h | h
      · subst h
        refine Int.le_trans ?_ h3
        split <;> omega
      · rcases List.mem_cons.mp h with h | h
        · subst h
          refine Int.le_trans ?_ h3
          split <;> omega
        · exact h2 _ (List.mem_cons_of_mem _ h)
theorem minI_is : ∀ (r : List Int) (m : Int), minI r m ∈ m :: r ∧ ∀ y ∈ m :: r, minI r m ≤ y
  | [], m => ⟨by simp [minI], by simp [minI]⟩
  | x :: r, m => by
    unfold minI
    obtain ⟨h1, h2⟩ := minI_is r (if x < m then x else m)
    refine ⟨?_, fun y hy => ?_⟩
    · rcases List.mem_cons.mp h1 with h | h
      · rw [h]; split <;> simp
      · exact List.mem_cons_of_mem _ (List.mem_cons_of_mem _ h)
    · have h3 := h2 _ List.mem_cons_self
      rcases List.mem_cons.mp hy with h | h
      · subst h
        refine Int.le_trans h3 ?_
        split <;> omega
      · rcases List.mem_cons.mp h with h | h
        · subst h
          refine Int.le_trans h3 ?_
          split <;> omega
        · exact h2 _ (List.mem_cons_of_mem _ h)
theorem insI_perm (x : Int) : ∀ l : List Int, (insI x l).Perm (x :: l)
  | [] => List.Perm.refl _
  | y :: r => by
    unfold insI
    split
    · exact List.Perm.refl _
    · exact ((insI_perm x r).cons y).trans (List.Perm.swap x y r)
theorem insI_sorted (x : Int) : ∀ l : List Int, l.Pairwise (· ≤ ·) → (insI x l).Pairwise (· ≤ ·)
  | [], _ => by simp [insI]
  | y :: r, h => by
    unfold insI
    obtain ⟨h1, h2⟩ := List.pairwise_cons.mp h
    split
    · rename_i hxy
      refine List.pairwise_cons.mpr ⟨fun z hz => ?_, h⟩
      rcases List.mem_cons.mp hz with e | e
      · subst e; exact hxy
      · exact Int.le_trans hxy (h1 z e)
    · rename_i hxy
      refine List.pairwise_cons.mpr ⟨fun z hz => ?_, insI_sorted x r h2⟩
      rcases List.mem_cons.mp ((insI_perm x r).mem_iff.mp hz) with e | e
      · subst e; omega
      · exact h1 z e
theorem sortI_perm : ∀ l : List Int, (sortI l).Perm l
  | [] => List.Perm.refl _
  | x :: r => (insI_perm x (sortI r)).trans ((sortI_perm r).cons x)
theorem sortI_sorted : ∀ l : List Int, (sortI l).Pairwise (· ≤ ·)
  | [] => List.Pairwise.nil
  | x :: r => insI_sorted x _ (sortI_sorted r)
theorem sorted_one : ∀ {a b : List Int}, a.Perm b → a.Pairwise (· ≤ ·) → b.Pairwise (· ≤ ·) → a = b
  | [], b, p, _, _ => (List.Perm.eq_nil p.symm).symm
  | x :: a, [], p, _, _ => List.Perm.eq_nil p
  | x :: a, y :: b, p, h, k => by
    obtain ⟨h1, h2⟩ := List.pairwise_cons.mp h
    obtain ⟨k1, k2⟩ := List.pairwise_cons.mp k
    have e : x = y := by
      have m1 : x ∈ y :: b := p.mem_iff.mp List.mem_cons_self
      have m2 : y ∈ x :: a := p.mem_iff.mpr List.mem_cons_self
      rcases List.mem_cons.mp m1 with e | m1
      · exact e
      · rcases List.mem_cons.mp m2 with e | m2
        · exact e.symm
        · exact Int.le_antisymm (h1 _ m2) (k1 _ m1)
    subst e
    rw [sorted_one (List.Perm.cons_inv p) h2 k2]
theorem sort_is {a b : List Int} (p : a.Perm b) (h : a.Pairwise (· ≤ ·)) : a = sortI b := sorted_one (p.trans (sortI_perm b).symm) h (sortI_sorted b)
theorem keyI : ∀ {kvs : List (Key × D)} {ns : List Int}, asInts (kvs.map fun kv => keyD kv.1) = some ns → kvs.map (·.1) = ns.map Sum.inl
  | [], ns, e => by cases e; rfl
  | (.inl i, d) :: r, ns, e => by
    have e : (match asInts (r.map fun kv => keyD kv.1) with
      | some s => some (i :: s)
      | none => none) = some ns := e
    split at e
    · rename_i s h
      cases e
      rw [List.map_cons, keyI h]; rfl
    · cases e
  | (.inr i, d) :: r, ns, e => by cases e

theorem reps1 {K : PySem.W.Frag} {w : Wd} {H : Hp} {x : D} {vs : List V} (h : Reps K w H [x] vs) : ∃ v, vs = [v] ∧ Rep K w H x v := by
  obtain ⟨v, r, e, h1, h2⟩ := h
  have h2 : r = [] := h2
  subst h2
  exact ⟨v, e, h1⟩
theorem reps2 {K : PySem.W.Frag} {w : Wd} {H : Hp} {x y : D} {vs : List V} (h : Reps K w H [x, y] vs) : ∃ v u, vs = [v, u] ∧ Rep K w H x v ∧ Rep K w H y u := by
  obtain ⟨v, r, e, h1, u, r2, e2, h2, h3⟩ := h
  have h3 : r2 = [] := h3
  subst h3
  subst e2
  exact ⟨v, u, e, h1, h2⟩

def biFn : Bi → Value
  | .len => .builtin "len" | .all => .builtin "all" | .any => .builtin "any" | .sum => .builtin "sum" | .max2 => .builtin "max" | .min2 => .builtin "min" | .maxL => .builtin "max" | .minL => .builtin "min"
  | .tupOf => .type "tuple" | .lstOf => .type "list" | .sorted => .builtin "sorted" | .strOf => .type "str" | .intOf => .type "int" | .ord => .builtin "ord"
/-- a row of the abstract heap -/
def RowAt (K : PySem.W.Frag) (H : Hp) (k : List Key) (v : V) : Prop := ∃ t, v = .ref t ∧ SqT K H t (k.map kV)
def rSortR (K : PySem.W.Frag) : List V → Hp → VK → Prop := fun vs H Q => ∃ (F : List Key → V → Prop) (a : Addr) (xs : List V) (ks : List (List Key)), (∀ k v, F k v → RowAt K H k v) ∧ vs = [V.ref a] ∧ SqL K H a xs ∧ Paired F ks xs ∧ rowsB ks = true ∧
  ∀ (zs : List V) (p : Addr), Paired F (sortR ks) zs → H p = none → Q (.ref p) (upd H p (.lst zs))
theorem paired_mem {α β : Type} {F : α → β → Prop} {xs : List α} {ys : List β} (h : Paired F xs ys) : ∀ y ∈ ys, ∃ x ∈ xs, F x y := by
  induction h with
  | nil => intro y hy; cases hy
  | cons r t ih =>
    intro y hy
    rcases List.mem_cons.mp hy with rfl | hy
    · exact ⟨_, List.mem_cons_self, r⟩
    · obtain ⟨x, hx, q⟩ := ih y hy
      exact ⟨x, List.mem_cons_of_mem _ hx, q⟩
theorem paired_fun {α β : Type} {F : α → β → Prop} (f : β → α) : ∀ {ys : List β}, (∀ y ∈ ys, F (f y) y) → Paired F (ys.map f) ys
  | [], _ => .nil
  | y :: ys, h => .cons (h y List.mem_cons_self) (paired_fun f fun z hz => h z (List.mem_cons_of_mem _ hz))
theorem paired_map2 {α β γ : Type} {F : α → β → Prop} (g : γ → β) : ∀ {xs : List α} {ys : List γ}, Paired (fun x y => F x (g y)) xs ys → Paired F xs (ys.map g)
  | _, _, .nil => .nil
  | _, _, .cons r t => .cons r (paired_map2 g t)
theorem paired_eq {α β γ : Type} {F : α → β → Prop} (g : γ → β) (f : γ → α) : ∀ {xs : List α} {ys : List γ}, Paired F xs (ys.map g) → (∀ x y, F x (g y) → y ∈ ys → f y = x) → ys.map f = xs
  | xs, [], h, _ => by cases h; rfl
  | xs, y :: ys, h, k => by
    cases h with
    | cons r t => rw [List.map_cons, k _ y r List.mem_cons_self, paired_eq g f t fun x z hx hz => k x z hx (List.mem_cons_of_mem _ hz)]
theorem cr_sortR {X : Cx} : CallR X (.builtin "sorted") (rSortR X.K) := by
  intro pins s σ H vs us Q I r h
  obtain ⟨F, a, xs, ks, hF, rfl, hs, pr, hb, q⟩ := h
  obtain ⟨its, rv, hl, hz⟩ := I.list hs
  rw [Vals.ref1 r]
  obtain ⟨e1, e2⟩ := bkV_refs rv fun x m => by
    obtain ⟨k, _, hk⟩ := paired_mem pr x m
    obtain ⟨t, e, _⟩ := hF k x hk
    exact ⟨t, e⟩
  have raw : ∀ {k : List Key} {v : V}, F k v → ∀ {u : Value}, (∃ t, u = .ref t) → bkV u = v → TupKs s.heap u k := fun {k v} hk {u} ⟨t', eu⟩ eb => by
    obtain ⟨t, e, sq⟩ := hF k v hk
    subst eu
    rw [e] at eb
    obtain ⟨us, r, hT, _⟩ := I.tuple sq
    have : t' = t := by
      have z : V.ref t' = V.ref t := eb
      exact V.ref.inj z
    rw [this]
    exact ⟨t, us, rfl, hT, r⟩
  have rowOf : ∀ u ∈ its, ∃ k ∈ ks, F k (bkV u) ∧ TupKs s.heap u k := fun u hu => by
    obtain ⟨k, hk, q⟩ := paired_mem pr (bkV u) (by rw [e1]; exact List.mem_map.mpr ⟨u, hu, rfl⟩)
    exact ⟨k, hk, q, raw q (e2 u hu) rfl⟩
  have ksE : its.map (ksOf s.heap) = ks := by
    rw [e1] at pr
    exact paired_eq bkV _ pr fun k u hk hu => ksOf_eq (raw hk (e2 u hu) rfl)
  have ll : ks.length = its.length := by rw [← ksE, List.length_map]
  cases hks : ks with
  | nil =>
    have hi : its = [] := List.eq_nil_of_length_eq_zero (by rw [← ll, hks]; rfl)
    subst hi
    rw [hks] at q
    refine sorted_rows (b := true) (k := []) (vs := []) hl.isList (by decide) ⟨List.cons_ne_nil _ _, fun v hv => by cases hv⟩ fun out h1 h2 => ?_
    obtain ⟨ep, he'⟩ := PyProof.Rows.sortedAll_at s.heap [] out
    have h0 : out.toList = [] := List.perm_nil.mp h1
    exact ⟨.ref _, upd H (s.heap.objs.size + 1) (.lst []), I.laid (t' := s.toks) (fun _ _ => PyProof.Rows.sortedAll_old) (Nat.le_succ _) ⟨by decide, out.toList, ep, by rw [h0]; exact .nil, he'⟩, rfl, q [] _ .nil (I.hok.fresh (Nat.le_succ _))⟩
  | cons k0 kr =>
    have hb' := hb
    rw [hks] at hb'
    unfold rowsB at hb'
    simp only [Bool.and_eq_true, Bool.not_eq_true', List.all_eq_true, decide_eq_true_eq] at hb'
    obtain ⟨n0, al, ln⟩ := hb'
    have kinds : ∀ k ∈ ks, k.map kindK = k0.map kindK := fun k hk => by
      rw [hks] at hk
      rcases List.mem_cons.mp hk with rfl | hk
      · rfl
      · exact al k hk
    obtain ⟨b, kk, hbk⟩ : ∃ b kk, k0.map kindK = b :: kk := by
      cases k0 with
      | nil => cases n0
      | cons y ys => exact ⟨_, _, rfl⟩
    rw [hbk] at kinds
    refine sorted_rows (b := b) (k := kk) hl.isList (by rw [← ll, hks, List.length_cons]; omega) ⟨List.cons_ne_nil _ _, fun v hv => ?_⟩ fun out h1 h2 => ?_
    · obtain ⟨k, hk, _, t⟩ := rowOf v hv
      exact ⟨k, t, kinds k hk⟩
    · obtain ⟨ep, he'⟩ := PyProof.Rows.sortedAll_at s.heap its out
      have h3 : ∀ u ∈ out.toList, ∃ a, u = Value.ref a := fun u hu => e2 u (h1.mem_iff.mp hu)
      have hp : (out.toList.map bkV).Perm xs := by
        rw [e1]
        exact h1.map bkV
      have hlen : (out.toList.map bkV).length ≤ sizeLine := by
        rw [hp.length_eq]
        exact hz
      have eS : out.toList.map (ksOf s.heap) = sortR ks := by
        have p1 : (out.toList.map (ksOf s.heap)).Perm ks := by
          rw [← ksE]
          exact h1.map _
        refine asc_one (p1.trans (sortR_perm ks).symm) (fun y hy => kinds y ((sortR_perm ks).mem_iff.mp hy)) ?_ (sortR_asc ks kinds)
        unfold Asc
        rw [List.pairwise_map]
        refine List.Pairwise.imp_of_mem (fun {u v} hu hv huv => ?_) h2
        obtain ⟨k, _, _, tu⟩ := rowOf u (h1.mem_iff.mp hu)
        obtain ⟨j, _, _, tv⟩ := rowOf v (h1.mem_iff.mp hv)
        rw [ksOf_eq tu, ksOf_eq tv]
        exact huv k j tu tv
      refine ⟨.ref _, upd H (s.heap.objs.size + 1) (.lst (out.toList.map bkV)), I.laid (t' := s.toks) (fun _ _ => PyProof.Rows.sortedAll_old) (Nat.le_succ _) ⟨hlen, out.toList, ep, bkV_vals h3, he'⟩, rfl, q _ _ ?_ (I.hok.fresh (Nat.le_succ _))⟩
      rw [← eS]
      refine paired_map2 bkV (paired_fun (F := fun k u => F k (bkV u)) (ksOf s.heap) fun u hu => ?_)
      obtain ⟨k, _, hk, tu⟩ := rowOf u (h1.mem_iff.mp hu)
      rw [ksOf_eq tu]
      exact hk
theorem rows_v {K : PySem.W.Frag} {w : Wd} {H : Hp} : ∀ {xs : List D} {ks : List (List Key)} {vs : List V}, Reps K w H xs vs → rowsOf xs = some ks → Paired (fun k v => ∃ t, v = V.ref t ∧ TupAt w H t (k.map kV)) ks vs
  | [], ks, vs, r, e => by
    cases e
    have r : vs = [] := r
    subst r
    exact .nil
  | x :: xs, ks, vs, ⟨v, q, e0, r1, r2⟩, e => by
    unfold rowsOf at e
    split at e
    · rename_i k kr h1 h2
      cases e
      subst e0
      refine .cons ?_ (rows_v r2 h2)
      cases x <;> try cases h1
      rename_i ys
      obtain ⟨a, us, rfl, ta, ra⟩ := rep_tup r1
      have h1 : D.keys ys = some k := h1
      rw [keys_v ra h1] at ta
      exact ⟨a, rfl, ta⟩
    · cases e
theorem keysD_rep {K : PySem.W.Frag} {w : Wd} {H : Hp} : ∀ k : List Key, Reps K w H (k.map keyD) (k.map kV)
  | [] => rfl
  | .inl i :: r => ⟨_, _, rfl, mk_int, keysD_rep r⟩
  | .inr i :: r => ⟨_, _, rfl, mk_str, keysD_rep r⟩
theorem rep_rows {K : PySem.W.Frag} {w : Wd} {H : Hp} : ∀ {ks : List (List Key)} {vs : List V}, Paired (fun k v => ∃ t, v = V.ref t ∧ TupAt w H t (k.map kV)) ks vs → Reps K w H (ks.map rowD) vs
  | _, _, .nil => rfl
  | k :: ks, v :: vs, .cons ⟨t, e, ta⟩ r => by
    subst e
    refine ⟨_, _, rfl, ?_, rep_rows r⟩
    unfold rowD Rep
    exact ⟨t, _, rfl, ta, keysD_rep k⟩
/-- what is wanted of a built-in's value -/
def rBi (K : PySem.W.Frag) (b : Bi) : List V → Hp → VK → Prop := fun vs H Q => ∃ (w : Wd) (S : Sto) (ds : List D) (W : WX) (σ : L2.St), Sim K w H S ∧ Reps K w H ds vs ∧ Post K (Rep K) W σ w H (optD S (evalBi S b ds)) Q
theorem post_map {K : PySem.W.Frag} {W : WX} {σ : L2.St} {w : Wd} {H : Hp} {S : Sto} {Q : VK} {α : Type} {o : Option α} {f : α → D} (h : Post K (Rep K) W σ w H (optD S (o.map f)) Q) :
    ∃ a, o = some a ∧ ∀ b H' w', Le w w' H H' → w'.P = w.P → Sim K w' H' S → Rep K w' H' (f a) b → Q b H' := by
  cases o with
  | none => exact h.elim
  | some a => exact ⟨a, rfl, h⟩
section
variable {X : Cx}
theorem cr_Bi (hc : X.calm = true) (b : Bi) : CallR X (biFn b) (rBi X.K b) := by
  intro pins s σ H vs us Q I r h
  obtain ⟨w, S, ds, W, σ', sm, hd, hp⟩ := h
  have now : ∀ {z : D}, (∀ b H' w', Le w w' H H' → w'.P = w.P → Sim X.K w' H' S → Rep X.K w' H' z b → Q b H') → ∀ b, Rep X.K w H z b → Q b H := fun k b r => k b H w (Le.refl _ _) rfl sm r
  have newL : ∀ {xs : List D} {vs : List V}, (∀ b H' w', Le w w' H H' → w'.P = w.P → Sim X.K w' H' S → Rep X.K w' H' (.lst xs) b → Q b H') → Reps X.K w H xs vs → ∀ p, H p = none → Q (.ref p) (upd H p (.lst vs)) := fun k r p hn => k _ _ w (le_new hn _) rfl (sm.new hn _) (newLst sm hn r)
  have newT : ∀ {xs : List D} {vs : List V}, (∀ b H' w', Le w w' H H' → w'.P = w.P → Sim X.K w' H' S → Rep X.K w' H' (.tup xs) b → Q b H') → Reps X.K w H xs vs → ∀ p, H p = none → Q (.ref p) (upd H p (.tup vs)) := fun k r p hn => k _ _ w (le_new hn _) rfl (sm.new hn _) (newTup sm hn r)
  have newI : ∀ {ns : List Int}, (∀ b H' w', Le w w' H H' → w'.P = w.P → Sim X.K w' H' S → Rep X.K w' H' (.lst (ns.map D.int)) b → Q b H') → ∀ p, H p = none → Q (.ref p) (upd H p (.lst (ns.map V.int))) := fun {ns} k p hn => newL k (Reps.map D.int V.int (fun _ => mk_int) ns) p hn
  cases b with
  | len =>
    match ds, hd, hp with
    | [], _, hp => exact hp.elim
    | _ :: _ :: _, _, hp => exact hp.elim
    | [x], hd, hp =>
      obtain ⟨v, rfl, rx⟩ := reps1 hd
      have hq : Post X.K (Rep X.K) W σ' w H (optD S (match view S x with
        | .lst xs => some (.int xs.length)
        | .tup xs => some (.int xs.length)
        | .str s => if s.length ≤ sizeLine then some (.int s.length) else none
        | .ref n => (match S[n]? with
          | some (.dk kvs) => some (.int kvs.length)
          | some (.dt kvs) => some (.int kvs.length)
          | _ => none)
        | _ => none)) Q := hp
      clear hp
      split at hq
      · rename_i xs hv
        obtain ⟨a, ys, rfl, sq, qs⟩ := view_lst sm rx hv
        exact call_len_seq pins s σ H _ us Q I r ⟨a, ys, rfl, .inl sq, now (post_some rfl hq) _ (by rw [qs.length]; exact mk_int)⟩
      · rename_i xs hv
        have e1 := view_tup rx hv
        subst e1
        obtain ⟨a, ys, rfl, ta, qs⟩ := rep_tup rx
        exact call_len_seq pins s σ H _ us Q I r ⟨a, ys, rfl, .inr ta.sq, now (post_some rfl hq) _ (by rw [qs.length]; exact mk_int)⟩
      · rename_i t hv
        have e1 := view_other hv (fun _ z => by cases z)
        subst e1
        cases rep_str rx
        obtain ⟨hl, k⟩ := post_if hq
        exact call_len_str pins s σ H _ us Q I r ⟨t, rfl, hl, now k _ mk_int⟩
      · rename_i n hv
        have e1 := view_other hv (fun _ z => by cases z)
        subst e1
        split at hq
        · rename_i kvs hn
          obtain ⟨vs, rfl, hH, q⟩ := tab_dk sm rx hn
          exact call_lenD pins s σ H _ us Q I r ⟨_, vs, rfl, hH, now (post_some rfl hq) _ (by rw [q.length]; exact mk_int)⟩
        · rename_i kvs hn
          obtain ⟨vs, rfl, hH, q⟩ := tab_dt sm rx hn
          exact call_len_dT pins s σ H _ us Q I r ⟨_, vs, rfl, hH, now (post_some rfl hq) _ (by rw [q.length]; exact mk_int)⟩
        · exact hq.elim
      · exact hq.elim
  | all =>
    match ds, hd, hp with
    | [], _, hp => exact hp.elim
    | _ :: _ :: _, _, hp => exact hp.elim
    | [x], hd, hp =>
      obtain ⟨v, rfl, rx⟩ := reps1 hd
      have hq : Post X.K (Rep X.K) W σ' w H (optD S (match view S x with
        | .lst xs => (bools xs).map fun bs => D.bl (bs.all id)
        | _ => none)) Q := hp
      clear hp
      split at hq
      · rename_i xs hv
        obtain ⟨a, ys, rfl, sq, qs⟩ := view_lst sm rx hv
        obtain ⟨bs, hb, k⟩ := post_map hq
        have e := bools_v qs hb
        subst e
        exact cr_all hc pins s σ H _ us Q I r ⟨a, bs, rfl, sq, now k _ mk_bl⟩
      · exact hq.elim
  | any =>
    match ds, hd, hp with
    | [], _, hp => exact hp.elim
    | _ :: _ :: _, _, hp => exact hp.elim
    | [x], hd, hp =>
      obtain ⟨v, rfl, rx⟩ := reps1 hd
      have hq : Post X.K (Rep X.K) W σ' w H (optD S (match view S x with
        | .lst xs => (bools xs).map fun bs => D.bl (bs.any id)
        | _ => none)) Q := hp
      clear hp
      split at hq
      · rename_i xs hv
        obtain ⟨a, ys, rfl, sq, qs⟩ := view_lst sm rx hv
        obtain ⟨bs, hb, k⟩ := post_map hq
        have e := bools_v qs hb
        subst e
        exact cr_any hc pins s σ H _ us Q I r ⟨a, bs, rfl, sq, now k _ mk_bl⟩
      · exact hq.elim
  | sum =>
    match ds, hd, hp with
    | [], _, hp => exact hp.elim
    | _ :: _ :: _, _, hp => exact hp.elim
    | [x], hd, hp =>
      obtain ⟨v, rfl, rx⟩ := reps1 hd
      have hq : Post X.K (Rep X.K) W σ' w H (optD S (match view S x with
        | .lst xs => (sums xs).map D.int
        | _ => none)) Q := hp
      clear hp
      split at hq
      · rename_i xs hv
        obtain ⟨a, ys, rfl, sq, qs⟩ := view_lst sm rx hv
        obtain ⟨n, hb, k⟩ := post_map hq
        obtain ⟨ns, h1, h2⟩ := sums_v hb
        have e := ints_v qs h1
        subst e
        exact cr_sum hc pins s σ H _ us Q I r ⟨a, ns, rfl, sq, now k _ (by rw [h2]; exact mk_int)⟩
      · exact hq.elim
  | max2 =>
    match ds, hd, hp with
    | [], _, hp => exact hp.elim
    | [x], _, hp => cases x <;> exact hp.elim
    | x :: y :: z :: t, _, hp => cases x <;> cases y <;> exact hp.elim
    | [x, y], hd, hp =>
      obtain ⟨v, u, rfl, rx, ry⟩ := reps2 hd
      cases x <;> cases y <;> try exact hp.elim
      cases rep_int rx
      cases rep_int ry
      exact call_max2 hc pins s σ H _ us Q I r ⟨_, _, rfl, now (post_some rfl hp) _ mk_int⟩
  | min2 =>
    match ds, hd, hp with
    | [], _, hp => exact hp.elim
    | [x], _, hp => cases x <;> exact hp.elim
    | x :: y :: z :: t, _, hp => cases x <;> cases y <;> exact hp.elim
    | [x, y], hd, hp =>
      obtain ⟨v, u, rfl, rx, ry⟩ := reps2 hd
      cases x <;> cases y <;> try exact hp.elim
      cases rep_int rx
      cases rep_int ry
      exact call_min2 hc pins s σ H _ us Q I r ⟨_, _, rfl, now (post_some rfl hp) _ mk_int⟩
  | maxL =>
    match ds, hd, hp with
    | [], _, hp => exact hp.elim
    | _ :: _ :: _, _, hp => exact hp.elim
    | [x], hd, hp =>
      obtain ⟨v, rfl, rx⟩ := reps1 hd
      have hq : Post X.K (Rep X.K) W σ' w H (optD S (match view S x with
        | .lst xs => (match asInts xs with
          | some (i :: r) => some (.int (maxI r i))
          | _ => none)
        | _ => none)) Q := hp
      clear hp
      split at hq
      · rename_i xs hv
        obtain ⟨a, ys, rfl, sq, qs⟩ := view_lst sm rx hv
        split at hq
        · rename_i i r' hb
          have e := ints_v qs hb
          subst e
          refine cr_max hc pins s σ H _ us Q I r ⟨a, i :: r', rfl, sq, Nat.succ_pos _, fun m h1 h2 => ?_⟩
          obtain ⟨g1, g2⟩ := maxI_is r' i
          have e : m = maxI r' i := Int.le_antisymm (g2 m h1) (h2 _ g1)
          rw [e]
          exact now (post_some rfl hq) _ mk_int
        · exact hq.elim
      · exact hq.elim
  | minL =>
    match ds, hd, hp with
    | [], _, hp => exact hp.elim
    | _ :: _ :: _, _, hp => exact hp.elim
    | [x], hd, hp =>
      obtain ⟨v, rfl, rx⟩ := reps1 hd
      have hq : Post X.K (Rep X.K) W σ' w H (optD S (match view S x with
        | .lst xs => (match asInts xs with
          | some (i :: r) => some (.int (minI r i))
          | _ => none)
        | _ => none)) Q := hp
      clear hp
      split at hq
      · rename_i xs hv
        obtain ⟨a, ys, rfl, sq, qs⟩ := view_lst sm rx hv
        split at hq
        · rename_i i r' hb
          have e := ints_v qs hb
          subst e
          refine cr_min hc pins s σ H _ us Q I r ⟨a, i :: r', rfl, sq, Nat.succ_pos _, fun m h1 h2 => ?_⟩
          obtain ⟨g1, g2⟩ := minI_is r' i
          have e : m = minI r' i := Int.le_antisymm (h2 _ g1) (g2 m h1)
          rw [e]
          exact now (post_some rfl hq) _ mk_int
        · exact hq.elim
      · exact hq.elim
  | tupOf =>
    match ds, hd, hp with
    | [], _, hp => exact hp.elim
    | _ :: _ :: _, _, hp => exact hp.elim
    | [x], hd, hp =>
      obtain ⟨v, rfl, rx⟩ := reps1 hd
      have hq : Post X.K (Rep X.K) W σ' w H (optD S (match view S x with
        | .lst xs => some (.tup xs)
        | .tup xs => some (.tup xs)
        | _ => none)) Q := hp
      clear hp
      split at hq
      · rename_i xs hv
        obtain ⟨a, ys, rfl, sq, qs⟩ := view_lst sm rx hv
        exact call_tuple_of pins s σ H _ us Q I r ⟨a, ys, rfl, .inl ⟨sq, newT (post_some rfl hq) qs⟩⟩
      · rename_i xs hv
        have e1 := view_tup rx hv
        subst e1
        have rx' := rx
        obtain ⟨a, ys, rfl, ta, qs⟩ := rep_tup rx
        exact call_tuple_of pins s σ H _ us Q I r ⟨a, ys, rfl, .inr ⟨ta.sq, now (post_some rfl hq) _ rx'⟩⟩
      · exact hq.elim
  | lstOf =>
    match ds, hd, hp with
    | [], _, hp => exact hp.elim
    | _ :: _ :: _, _, hp => exact hp.elim
    | [x], hd, hp =>
      obtain ⟨v, rfl, rx⟩ := reps1 hd
      have hq : Post X.K (Rep X.K) W σ' w H (optD S (match view S x with
        | .lst xs => some (.lst xs)
        | .tup xs => some (.lst xs)
        | _ => none)) Q := hp
      clear hp
      split at hq
      · rename_i xs hv
        obtain ⟨a, ys, rfl, sq, qs⟩ := view_lst sm rx hv
        exact call_list_of pins s σ H _ us Q I r ⟨a, ys, rfl, .inl sq, newL (post_some rfl hq) qs⟩
      · rename_i xs hv
        have e1 := view_tup rx hv
        subst e1
        obtain ⟨a, ys, rfl, ta, qs⟩ := rep_tup rx
        exact call_list_of pins s σ H _ us Q I r ⟨a, ys, rfl, .inr ta.sq, newL (post_some rfl hq) qs⟩
      · exact hq.elim
  | sorted =>
    match ds, hd, hp with
    | [], _, hp => exact hp.elim
    | _ :: _ :: _, _, hp => exact hp.elim
    | [x], hd, hp =>
      obtain ⟨v, rfl, rx⟩ := reps1 hd
      have hq : Post X.K (Rep X.K) W σ' w H (optD S (match view S x with
        | .lst xs => sortedD xs
        | .ref n => (match S[n]? with
          | some (.dk kvs) => (asInts (kvs.map fun kv => keyD kv.1)).bind fun is => if is.length < 64 then some (D.lst ((sortI is).map D.int)) else none
          | _ => none)
        | _ => none)) Q := hp
      clear hp
      split at hq
      · rename_i xs hv
        obtain ⟨a, ys, rfl, sq, qs⟩ := view_lst sm rx hv
        cases hb : asInts xs with
        | some ns =>
          have hq : Post X.K (Rep X.K) W σ' w H (optD S (sortedD xs)) Q := hq
          unfold sortedD at hq
          rw [hb] at hq
          have e := ints_v qs hb
          subst e
          exact cr_sortedI pins s σ H _ us Q I r ⟨a, ns, rfl, sq, fun ns' p h1 h2 hn => by rw [sort_is h1 h2]; exact newI hq p hn⟩
        | none =>
          have hq : Post X.K (Rep X.K) W σ' w H (optD S (sortedD xs)) Q := hq
          unfold sortedD at hq
          rw [hb] at hq
          cases hr : rowsOf xs with
          | none => rw [hr] at hq; exact hq.elim
          | some ks =>
            rw [hr] at hq
            obtain ⟨hB, k⟩ := post_if hq
            have pr := rows_v qs hr
            exact cr_sortR pins s σ H _ us Q I r ⟨_, a, ys, ks, fun k v ⟨t, e, ta⟩ => ⟨t, e, ta.sq⟩, rfl, sq, pr, hB, fun zs p hz hn => newL k (rep_rows hz) p hn⟩
      · rename_i n hv
        have e1 := view_other hv (fun _ z => by cases z)
        subst e1
        split at hq
        · rename_i kvs hn
          obtain ⟨vs, rfl, hH, q⟩ := tab_dk sm rx hn
          cases hb : asInts (kvs.map fun kv => keyD kv.1) with
          | none => rw [hb] at hq; exact hq.elim
          | some ns =>
            rw [hb] at hq
            obtain ⟨hl, k⟩ := post_if hq
            exact call_sortedDI hc pins s σ H _ us Q I r ⟨_, vs, ns, rfl, .inl hH, by rw [← q.keys]; exact keyI hb, hl, fun ns' p h1 h2 hn => by rw [sort_is h1 h2]; exact newI k p hn⟩
        · exact hq.elim
      · exact hq.elim
  | strOf =>
    match ds, hd, hp with
    | [], _, hp => exact hp.elim
    | x :: _ :: _, _, hp => cases x <;> exact hp.elim
    | [x], hd, hp =>
      obtain ⟨v, rfl, rx⟩ := reps1 hd
      cases x <;> try exact hp.elim
      · cases rep_int rx
        obtain ⟨hl, k⟩ := post_if hp
        exact call_str_int pins s σ H _ us Q I r ⟨_, rfl, hl, now k _ mk_str⟩
      · cases rep_str rx
        exact SkE.call_str_str pins s σ H _ us Q I r ⟨_, rfl, now hp _ mk_str⟩
  | intOf =>
    match ds, hd, hp with
    | [], _, hp => exact hp.elim
    | x :: _ :: _, _, hp => cases x <;> exact hp.elim
    | [x], hd, hp =>
      obtain ⟨v, rfl, rx⟩ := reps1 hd
      cases x <;> try exact hp.elim
      case bl c =>
        cases rep_bl rx
        exact call_int1 pins s σ H _ us Q I r (.inr ⟨_, rfl, now (post_some rfl hp) _ mk_int⟩)
      case int c =>
        cases rep_int rx
        exact call_int1 pins s σ H _ us Q I r (.inl ⟨_, rfl, now (post_some rfl hp) _ mk_int⟩)
      case str t =>
        cases rep_str rx
        have hq : Post X.K (Rep X.K) W σ' w H (optD S (if t.length ≤ 640 then (PySem.intText? t).map D.int else none)) Q := hp
        clear hp
        split at hq
        · rename_i hl
          obtain ⟨n, hb, k⟩ := post_map hq
          exact call_int_str pins s σ H _ us Q I r ⟨_, n, rfl, hb, hl, now k _ mk_int⟩
        · exact hq.elim
  | ord =>
    match ds, hd, hp with
    | [], _, hp => exact hp.elim
    | x :: _ :: _, _, hp => cases x <;> exact hp.elim
    | [x], hd, hp =>
      obtain ⟨v, rfl, rx⟩ := reps1 hd
      cases x <;> try exact hp.elim
      cases rep_str rx
      obtain ⟨hl, k⟩ := post_if hp
      exact call_ord pins s σ H _ us Q I r ⟨_, rfl, hl, now k _ mk_int⟩
end
end Z


/-! Z: methods of built-in things, by values; o[k] = v. -/
namespace Z
open PySem L2
def bmTy : Bm → String
  | .get1 => "dict" | .get2 => "dict" | .pop => "dict" | .append => "list" | .join => "str" | .split => "str" | .partition => "str" | .count => "str"
def bmId : Bm → String
  | .get1 => "dict.get" | .get2 => "dict.get" | .pop => "dict.pop" | .append => "list.append" | .join => "str.join" | .split => "str.split" | .partition => "str.partition" | .count => "str.count"
theorem bm_attrs : ∀ m : Bm, PlainAttrs (bmTy m)
  | .get1 => PySem.F.plainAttrs_dict | .get2 => PySem.F.plainAttrs_dict | .pop => PySem.F.plainAttrs_dict | .append => PySem.F.plainAttrs_list
  | .join => PySem.F.plainAttrs_str | .split => PySem.F.plainAttrs_str | .partition => PySem.F.plainAttrs_str | .count => PySem.F.plainAttrs_str
theorem bm_slot : ∀ m : Bm, PySem.Slot (bmTy m) (bmName m) (bmId m)
  | .get1 => PySem.F.slot_dict_get | .get2 => PySem.F.slot_dict_get | .pop => PySem.F.slot_dict_pop | .append => PySem.F.slot_list_append
  | .join => PySem.F.slot_str_join | .split => PySem.F.slot_str_split | .partition => PySem.F.slot_str_partition | .count => PySem.F.slot_str_count
theorem bm_type : ∀ m : Bm, typeOf (.builtin (bmId m)) = pure (.type "method_descriptor")
  | .get1 => PySem.F.type_dict_get | .get2 => PySem.F.type_dict_get | .pop => PySem.F.type_dict_pop | .append => PySem.F.type_list_append
  | .join => PySem.F.type_str_join | .split => PySem.F.type_str_split | .partition => PySem.F.type_str_partition | .count => PySem.F.type_str_count
section
variable {K : PySem.W.Frag} {w : Wd} {H : Hp} {S : Sto}
theorem recv_ty {m : Bm} {d : D} {x : V} (sm : Sim K w H S) (r : Rep K w H d x) (h : recvOk S m d = true) : tyV K (bmTy m) x H := by
  have tab : ∀ {n : Nat} {x : V}, Rep K w H (.ref n) x → isTab S n = true → tyV K "dict" x H := fun {n x} r h => by
    unfold isTab at h
    split at h
    · rename_i kvs hn
      obtain ⟨vs, rfl, hH, _⟩ := tab_dk sm r hn
      exact .inr (.inr (.inl ⟨rfl, .inl ⟨vs, hH⟩⟩))
    · rename_i kvs hn
      obtain ⟨vs, rfl, hH, _⟩ := tab_dt sm r hn
      exact .inr (.inr (.inl ⟨rfl, .inr ⟨vs, hH⟩⟩))
    · cases h
  cases m with
  | get1 => cases d <;> first | exact tab r h | cases h
  | get2 => cases d <;> first | exact tab r h | cases h
  | pop => cases d <;> first | exact tab r h | cases h
  | append =>
    cases d <;> try cases h
    rename_i n
    have h : (match S[n]? with
      | some (.lst _) => true
      | _ => false) = true := h
    split at h
    · rename_i xs hn
      obtain ⟨_, rfl⟩ := rep_ref r
      obtain ⟨u, hu, vs, rfl, q⟩ := sm.ob n _ hn
      exact .inl ⟨rfl, vs, SqL.of hu⟩
    · cases h
  | join => cases d <;> try cases h
            cases rep_str r
            rfl
  | split => cases d <;> try cases h
             cases rep_str r
             rfl
  | partition => cases d <;> try cases h
                 cases rep_str r
                 rfl
  | count => cases d <;> cases h
end
/-- what is wanted of a method -/
def rBm (K : PySem.W.Frag) (m : Bm) : V → List V → Hp → VK → Prop := fun x vs H Q => ∃ (w : Wd) (S : Sto) (d : D) (ds : List D) (W : WX) (σ : L2.St), Sim K w H S ∧ Rep K w H d x ∧ Reps K w H ds vs ∧ Post K (Rep K) W σ w H (optDS (evalBm S m d ds)) Q
theorem post_mapS {K : PySem.W.Frag} {W : WX} {σ : L2.St} {w : Wd} {H : Hp} {Q : VK} {α : Type} {o : Option α} {f : α → D × Sto} (h : Post K (Rep K) W σ w H (optDS (o.map f)) Q) :
    ∃ a, o = some a ∧ ∀ b H' w', Le w w' H H' → w'.P = w.P → Sim K w' H' (f a).2 → Rep K w' H' (f a).1 b → Q b H' := by
  cases o with
  | none => exact h.elim
  | some a => exact ⟨a, rfl, h⟩
theorem post_ifS {K : PySem.W.Frag} {W : WX} {σ : L2.St} {w : Wd} {H : Hp} {Q : VK} {c : Prop} [Decidable c] {o : Option (D × Sto)} (h : Post K (Rep K) W σ w H (optDS (if c then o else none)) Q) : c ∧ Post K (Rep K) W σ w H (optDS o) Q := by
  by_cases hc : c
  · rw [if_pos hc] at h
    exact ⟨hc, h⟩
  · rw [if_neg hc] at h
    exact h.elim
theorem post_bindS {K : PySem.W.Frag} {W : WX} {σ : L2.St} {w : Wd} {H : Hp} {Q : VK} {α : Type} {o : Option α} {f : α → Option (D × Sto)} (h : Post K (Rep K) W σ w H (optDS (o.bind f)) Q) :
    ∃ a, o = some a ∧ Post K (Rep K) W σ w H (optDS (f a)) Q := by
  cases o with
  | none => exact h.elim
  | some a => exact ⟨a, rfl, h⟩
theorem post_here {K : PySem.W.Frag} {W : WX} {σ : L2.St} {w : Wd} {H : Hp} {S : Sto} {Q : VK} {d : D} (sm : Sim K w H S) (h : Post K (Rep K) W σ w H (optDS (some (d, S))) Q) : ∀ b, Rep K w H d b → Q b H := fun b r => h b H w (Le.refl _ _) rfl sm r
section
variable {X : Cx}
theorem mt_Bm (hu : X.A.units + 64 < cLine) (m : Bm) : MtR X (bmId m) (rBm X.K m) := by
  intro pins s σ H x vs v us Q I rx rv h
  obtain ⟨w, S, d, ds, W, σ', sm, hd, hds, hp⟩ := h
  cases m with
  | get1 =>
    match d, ds, hd, hds, hp with
    | .ref n, [k], hd, hds, hp =>
      obtain ⟨y, rfl, ry⟩ := reps1 hds
      obtain ⟨ht, hp⟩ := post_ifS hp
      obtain ⟨o, ho, k⟩ := post_mapS hp
      obtain ⟨r, rfl, g, hr⟩ := tab_get sm hd ry ho
      cases rx
      obtain ⟨u, rfl, ru⟩ := vals1 rv
      refine d_get1 (by omega) I g ru fun w' s' I' rw' => ⟨r.getD .non, H, I', rw', ?_⟩
      have k := k
      rcases hr with ⟨rfl, rfl⟩ | ⟨d, z, rfl, rfl, rz⟩
      · exact k _ H w (Le.refl _ _) rfl sm mk_non
      · exact k _ H w (Le.refl _ _) rfl sm rz
    | .ref _, [], _, _, hp => exact hp.elim
    | .ref _, _ :: _ :: _, _, _, hp => exact hp.elim
    | .non, _, _, _, hp => exact hp.elim
    | .bl _, _, _, _, hp => exact hp.elim
    | .int _, _, _, _, hp => exact hp.elim
    | .str _, _, _, _, hp => exact hp.elim
    | .tup _, _, _, _, hp => exact hp.elim
    | .lst _, _, _, _, hp => exact hp.elim
    | .ctup _, _, _, _, hp => exact hp.elim
  | get2 =>
    match d, ds, hd, hds, hp with
    | .ref n, [k, e], hd, hds, hp =>
      obtain ⟨y, z0, rfl, ry, rz0⟩ := reps2 hds
      obtain ⟨ht, hp⟩ := post_ifS hp
      obtain ⟨o, ho, k⟩ := post_mapS hp
      obtain ⟨r, rfl, g, hr⟩ := tab_get sm hd ry ho
      cases rx
      obtain ⟨u, u2, rfl, ru, ru2⟩ := vals2 rv
      refine d_get2 (by omega) I g ru ru2 fun w' s' I' rw' => ⟨r.getD z0, H, I', rw', ?_⟩
      rcases hr with ⟨rfl, rfl⟩ | ⟨d, z, rfl, rfl, rz⟩
      · exact k _ H w (Le.refl _ _) rfl sm rz0
      · exact k _ H w (Le.refl _ _) rfl sm rz
    | .ref _, [], _, _, hp => exact hp.elim
    | .ref _, [_], _, _, hp => exact hp.elim
    | .ref _, _ :: _ :: _ :: _, _, _, hp => exact hp.elim
    | .non, _, _, _, hp => exact hp.elim
    | .bl _, _, _, _, hp => exact hp.elim
    | .int _, _, _, _, hp => exact hp.elim
    | .str _, _, _, _, hp => exact hp.elim
    | .tup _, _, _, _, hp => exact hp.elim
    | .lst _, _, _, _, hp => exact hp.elim
    | .ctup _, _, _, _, hp => exact hp.elim
  | pop =>
    match d, ds, hd, hds, hp with
    | .ref n, [k], hd, hds, hp =>
      obtain ⟨y, rfl, ry⟩ := reps1 hds
      have hq : Post X.K (Rep X.K) W σ' w H (optDS (match S[n]? with
        | some (.dk kvs) => k.key.bind fun k => (look kvs k).map fun v => (v, S.set n (.dk (drop kvs k)))
        | _ => none)) Q := hp
      clear hp
      split at hq
      · rename_i kvs hn
        obtain ⟨kk, hk, hq⟩ := post_bindS hq
        obtain ⟨z, hz, kont⟩ := post_mapS hq
        have hnw := (rep_ref hd).1
        obtain ⟨vs, rfl, hH, q⟩ := tab_dk sm hd hn
        cases rx
        obtain ⟨u, rfl, ru⟩ := vals1 rv
        rw [key_v ry hk] at ru
        rcases q.look kk with ⟨e, _⟩ | ⟨z', y', e1, e2, rz⟩
        · rw [hz] at e; cases e
        · rw [hz] at e1
          cases e1
          have l := le_set sm hnw hH (fun _ _ z => by cases z) (.dK (dropK vs kk))
          exact d_pop I hH ru e2 (.inl rfl) fun w' s' I' rw' => ⟨y', _, I', rw', kont _ _ w l rfl (sm.set hnw hH (fun _ _ z => by cases z) ⟨_, rfl, (Kvs.drop q).le l⟩) (rz.le l)⟩
      · exact hq.elim
    | .ref _, [], _, _, hp => exact hp.elim
    | .ref _, _ :: _ :: _, _, _, hp => exact hp.elim
    | .non, _, _, _, hp => exact hp.elim
    | .bl _, _, _, _, hp => exact hp.elim
    | .int _, _, _, _, hp => exact hp.elim
    | .str _, _, _, _, hp => exact hp.elim
    | .tup _, _, _, _, hp => exact hp.elim
    | .lst _, _, _, _, hp => exact hp.elim
    | .ctup _, _, _, _, hp => exact hp.elim
  | append =>
    match d, ds, hd, hds, hp with
    | .ref n, [k], hd, hds, hp =>
      obtain ⟨y, rfl, ry⟩ := reps1 hds
      have hq : Post X.K (Rep X.K) W σ' w H (optDS (match S[n]? with
        | some (.lst xs) => if xs.length < sizeLine then some (.non, S.set n (.lst (xs ++ [k]))) else none
        | _ => none)) Q := hp
      clear hp
      split at hq
      · rename_i xs hn
        obtain ⟨hl, kont⟩ := post_ifS hq
        obtain ⟨hnw, rfl⟩ := rep_ref hd
        obtain ⟨u, hH, vs, rfl, q⟩ := sm.ob n _ hn
        have l := le_set sm hnw hH (fun _ _ z => by cases z) (.lst (vs ++ [y]))
        exact mt_append pins s σ H _ _ v us Q I rx rv ⟨_, vs, y, rfl, rfl, hH, by rw [← q.length]; exact hl,
          kont _ _ w l rfl (sm.set hnw hH (fun _ _ z => by cases z) ⟨_, rfl, Reps.append (Reps.le l xs q) ⟨y, [], rfl, ry.le l, rfl⟩⟩) mk_non⟩
      · exact hq.elim
    | .ref _, [], _, _, hp => exact hp.elim
    | .ref _, _ :: _ :: _, _, _, hp => exact hp.elim
    | .non, _, _, _, hp => exact hp.elim
    | .bl _, _, _, _, hp => exact hp.elim
    | .int _, _, _, _, hp => exact hp.elim
    | .str _, _, _, _, hp => exact hp.elim
    | .tup _, _, _, _, hp => exact hp.elim
    | .lst _, _, _, _, hp => exact hp.elim
    | .ctup _, _, _, _, hp => exact hp.elim
  | join =>
    match d, ds, hd, hds, hp with
    | .str a, [k], hd, hds, hp =>
      obtain ⟨y, rfl, ry⟩ := reps1 hds
      have hq : Post X.K (Rep X.K) W σ' w H (optDS (match view S k with
        | .lst xs => (asStrs xs).bind fun ys => if (ys.map (·.length)).sum + ys.length * a.length ≤ 16777216 then some (.str (Txt.join a ys), S) else none
        | _ => none)) Q := hp
      clear hp
      split at hq
      · rename_i xs hv
        obtain ⟨ys, hy, hq⟩ := post_bindS hq
        obtain ⟨hl, kont⟩ := post_ifS hq
        obtain ⟨p, zs, rfl, sq, qs⟩ := view_lst sm ry hv
        have e := strs_v qs hy
        subst e
        cases rep_str hd
        exact mt_join pins s σ H _ _ v us Q I rx rv ⟨a, p, ys, rfl, rfl, .inl sq, hl, post_here sm kont _ mk_str⟩
      · exact hq.elim
    | .str _, [], _, _, hp => exact hp.elim
    | .str _, _ :: _ :: _, _, _, hp => exact hp.elim
    | .non, _, _, _, hp => exact hp.elim
    | .bl _, _, _, _, hp => exact hp.elim
    | .int _, _, _, _, hp => exact hp.elim
    | .ref _, _, _, _, hp => exact hp.elim
    | .tup _, _, _, _, hp => exact hp.elim
    | .lst _, _, _, _, hp => exact hp.elim
    | .ctup _, _, _, _, hp => exact hp.elim
  | split =>
    match d, ds, hd, hds, hp with
    | .str a, [k], hd, hds, hp =>
      obtain ⟨y, rfl, ry⟩ := reps1 hds
      cases k <;> try exact hp.elim
      rename_i b
      obtain ⟨hl, kont⟩ := post_ifS hp
      cases rep_str hd
      cases rep_str ry
      exact mt_split pins s σ H _ _ v us Q I rx rv ⟨a, b, rfl, rfl, hl.1, hl.2, fun p hn => kont _ _ w (le_new hn _) rfl (sm.new hn _) (newLst sm hn (Reps.map D.str V.str (fun _ => mk_str) _))⟩
    | .str _, [], _, _, hp => exact hp.elim
    | .str _, x :: _ :: _, _, _, hp => cases x <;> exact hp.elim
    | .non, _, _, _, hp => exact hp.elim
    | .bl _, _, _, _, hp => exact hp.elim
    | .int _, _, _, _, hp => exact hp.elim
    | .ref _, _, _, _, hp => exact hp.elim
    | .tup _, _, _, _, hp => exact hp.elim
    | .lst _, _, _, _, hp => exact hp.elim
    | .ctup _, _, _, _, hp => exact hp.elim
  | partition =>
    match d, ds, hd, hds, hp with
    | .str a, [k], hd, hds, hp =>
      obtain ⟨y, rfl, ry⟩ := reps1 hds
      cases k <;> try exact hp.elim
      rename_i b
      obtain ⟨hl, kont⟩ := post_ifS hp
      cases rep_str hd
      cases rep_str ry
      exact mt_partition pins s σ H _ _ v us Q I rx rv ⟨a, b, rfl, rfl, hl.1, hl.2, fun p hn => kont _ _ w (le_new hn _) rfl (sm.new hn _) (newTup sm hn ⟨_, _, rfl, mk_str, _, _, rfl, mk_str, _, _, rfl, mk_str, rfl⟩)⟩
    | .str _, [], _, _, hp => exact hp.elim
    | .str _, x :: _ :: _, _, _, hp => cases x <;> exact hp.elim
    | .non, _, _, _, hp => exact hp.elim
    | .bl _, _, _, _, hp => exact hp.elim
    | .int _, _, _, _, hp => exact hp.elim
    | .ref _, _, _, _, hp => exact hp.elim
    | .tup _, _, _, _, hp => exact hp.elim
    | .lst _, _, _, _, hp => exact hp.elim
    | .ctup _, _, _, _, hp => exact hp.elim
  | count =>
    exfalso
    revert hp
    show Post X.K (Rep X.K) W σ' w H (optDS (evalBm S .count d ds)) Q → False
    cases d <;> exact fun h => h
end
/-- what is wanted of o[k] = v -/
def rSet (K : PySem.W.Frag) : TSet := fun o i v H Q => ∃ (w : Wd) (S S1 : Sto) (d k e : D), Sim K w H S ∧ Rep K w H d o ∧ Rep K w H k i ∧ Rep K w H e v ∧ evalSet S d k e = some S1 ∧ ∀ H' w', Le w w' H H' → w'.P = w.P → Sim K w' H' S1 → Q H'
end Z


/-! Z: what is known of the module, of the defs, of a place in the text; the expressions, one by one. -/
namespace Z
open PySem L2
/-- what is known of the module's names -/
structure Kn (P : Prog) (K : PySem.W.Frag) (mg : Str → Option Value) (adr : Str → Addr) : Prop where
  bn : ∀ x ∈ bnames, mg x = none
  gl : ∀ x d, P.gl.lookup x = some d → ∃ v u, mg x = some u ∧ RelV v u ∧ ∀ w H, Rep K w H d v
  ats : ∀ C f, (P.ats.any fun p => decide (p.1 = C) && decide (p.2 = f)) = true → Cls K (He.ga K C) ∧ NoAttr K (He.ga K C) f
  fns : ∀ x f, P.fns.lookup x = some f → mg x = some (.ref (adr f)) ∧ PySem.W.keepIn K (.ref (adr f)) = true
  mt : ∀ C m f, P.mt.lookup (C, m) = some f → Cls K (He.ga K C) ∧ Meth K (He.ga K C) m (adr f)
  mkr : ∀ C f, P.mt.lookup (C, ("__init__" : Str)) = some f → Mk K (He.ga K C) (adr f) ∧ mg C = some (.ref (He.ga K C))
/-- a def's promise -/
def spF (P : Prog) (K : PySem.W.Frag) (n : Nat) (f : Str) : Sp := fun vs H Q E => ∃ (w : Wd) (S : Sto) (ds : List D), Sim K w H S ∧ Reps K w H ds vs ∧ Post K (Rep K) (fun c d _ H => E c d H) [] w H (run P n f ds S) Q
/-- a constant's value -/
def CstV (d : D) (u : Value) : Prop := ∃ v, RelV v u ∧ ∀ K w H, Rep K w H d v
/-- a written table of the module's stands -/
def TabOk (prog : Program) (w : World) (K : PySem.W.Frag) (mg : Str → Option Value) (x : Str) : Tab → Prop
  | .k kvs => ∃ a, mg x = some (.ref a) ∧ (a == sysModules) = false ∧ ∀ h : Heap, K.In h → ∃ vs : List (Key × Value), h.DictOf (mixKind prog w) a vs ∧ Paired (fun p q => p.1 = q.1 ∧ CstV p.2 q.2) kvs vs
  | .t kvs => ∃ a, mg x = some (.ref a) ∧ (a == sysModules) = false ∧ ∀ h : Heap, K.In h → ∃ xs : List (List Key × Addr × Value), h.DictOfH (tupleKind (mixKind prog w)) a xs ∧ Paired (fun p q => p.1 = q.1 ∧ CstV p.2 q.2.2) kvs xs
structure Good (P : Prog) (n : Nat) (N : List Str) (adr : Str → Addr) (X : Cx) (W : WX) : Prop where
  nm : X.N = N
  nd : N.Nodup
  calm : X.calm = true
  room : Room (2 * n + 1) X.A
  kn : Kn P X.K X.mg adr
  fns : ∀ f d, P.defs.lookup f = some d → ∃ fd ps, ps.length = d.np ∧ FnOk X.prog X.w X.K X.mg X.base (L2.CX X.prog X.w) (2 * n) (adr f) fd ps (spF P X.K n f) ∧ Binds X.K fd ps []
  tk : Takes X W
  tabs : ∀ x t, P.tabs.lookup x = some t → TabOk X.prog X.w X.K X.mg x t
section
variable {P : Prog} {n : Nat} {N : List Str} {adr : Str → Addr} {X : Cx} {W : WX}
theorem Good.un (G : Good P n N adr X W) : X.A.units + 64 < cLine := by have := G.room.un; omega
theorem Good.ndX (G : Good P n N adr X W) : X.N.Nodup := by rw [G.nm]; exact G.nd
end
/-- the names as the text has them stand so in the frame -/
structure ScOk (sc : Scope) (X : Cx) : Prop where
  nm : ∀ x k, sc.names.lookup x = some k → X.env.scope.names.lookup x = some k ∨ (k = .free ∧ X.env.scope.names.lookup x = some .cell)
  fn : ∀ x, L2.Loc sc x → X.fn x = true ∨ X.env.scope.names.lookup x = some .local
section
variable {sc : Scope} {X : Cx} {x : Str}
theorem ScOk.vis (h : ScOk sc X) (v : Vis sc x) : Vis X.env.scope x := by
  rcases v with v | v | v
  · rcases h.nm x _ v with e | ⟨e, _⟩
    · exact .inl e
    · cases e
  · rcases h.nm x _ v with e | ⟨e, _⟩
    · exact .inr (.inl e)
    · cases e
  · rcases h.nm x _ v with e | ⟨_, e⟩
    · exact .inr (.inr e)
    · exact .inr (.inl e)
theorem ScOk.gl (h : ScOk sc X) (v : sc.names.lookup x = some .globalImplicit) : Gl X x := by
  rcases h.nm x _ v with e | ⟨e, _⟩
  · exact e
  · cases e
theorem ScOk.loc (h : ScOk sc X) (v : L2.Loc sc x) : L2.Loc X.env.scope x := by
  rcases v with v | v
  · rcases h.nm x _ v with e | ⟨e, _⟩
    · exact .inl e
    · cases e
  · rcases h.nm x _ v with e | ⟨e, _⟩
    · exact .inr e
    · cases e
theorem ScOk.lcl (h : ScOk sc X) (v : sc.names.lookup x = some .local) : X.env.scope.names.lookup x = some .local := by
  rcases h.nm x _ v with e | ⟨e, _⟩
  · exact e
  · cases e
theorem ScOk.out (h : ScOk sc X) (v : sc.names.lookup x = some .cell ∨ sc.names.lookup x = some .free) : X.env.scope.names.lookup x = some .cell ∨ X.env.scope.names.lookup x = some .free := by
  rcases v with v | v
  · rcases h.nm x _ v with e | ⟨e, _⟩
    · exact .inl e
    · cases e
  · rcases h.nm x _ v with e | ⟨_, e⟩
    · exact .inr e
    · exact .inl e
end
abbrev rE (P : Prog) (n : Nat) (X : Cx) (W : WX) (c : Ex) : TE := rdE P (run P n) X.K W c
abbrev rA (P : Prog) (n : Nat) (X : Cx) (W : WX) (c : Exs) : TA := rdA P (run P n) X.K W c
abbrev rT (P : Prog) (n : Nat) (X : Cx) (W : WX) (c : Ex) : TT := rdT P (run P n) X.K W c
section
variable {P : Prog} {n : Nat} {N : List Str} {adr : Str → Addr} {X : Cx} {W : WX} {sc : Scope}
theorem t_var {i : Nat} {x : Str} {p : Pos} (G : Good P n N adr X W) (hs : ScOk sc X) (h : slotB N sc i x = true) : PE X (.Name x p) (rE P n X W (.var i)) := by
  obtain ⟨h1, h2, h3, h4⟩ := slot_of h
  refine PE.imp (pe_var (by rw [G.nm]; exact h1) (hs.vis h2) h3 h4) fun σ H Q q => ?_
  obtain ⟨e, S, w, A, q⟩ := q
  unfold eval at q
  split at q
  · rename_i d hd
    obtain ⟨v, e1, r⟩ := A.env.val i d hd
    exact ⟨v, e1, q.here A.sim r⟩
  · exact q.elim
theorem t_const {c : Ex} {x : Expr} {d : D} {v : V} (hp : PE X x (tC v)) (he : ∀ e S, eval P (run P n) c e S = .ok d S) (hr : ∀ w H, Rep X.K w H d v) : PE X x (rE P n X W c) := by
  refine PE.imp hp fun σ H Q q => ?_
  obtain ⟨e, S, w, A, q⟩ := q
  rw [he] at q
  exact q.here A.sim (hr w H)
theorem t_gl {x : Str} {p : Pos} (G : Good P n N adr X W) (hs : ScOk sc X) (h : glB sc x = true) : PE X (.Name x p) (rE P n X W (.gl x)) := by
  obtain ⟨h1, h2, h3⟩ := gl_of h
  refine ⟨fun pins s σ H Q I q => ?_⟩
  obtain ⟨e, S, w, A, q⟩ := q
  unfold eval at q
  cases hd : P.gl.lookup x with
  | none => rw [hd] at q; exact q.elim
  | some d =>
    rw [hd] at q
    obtain ⟨v, u, m, r, k⟩ := G.kn.gl x d hd
    refine (pe_glob (v := v) (hs.gl h1) m r h2).run pins s σ H Q I ?_
    exact q.here A.sim (k w H)
theorem t_bin {o : Bn} {a b : Ex} {l r : Expr} {p : Pos} (ha : PE X l (rE P n X W a)) (hb : PE X r (rE P n X W b)) : PE X (.BinOp l (binOp o) r p) (rE P n X W (.bin o a b)) := by
  refine PE.imp (pe_op (op_B o) ha hb) fun σ H Q q => ?_
  obtain ⟨e, S, w, A, q⟩ := q
  unfold eval at q
  exact rdE_of A q fun d S1 v H1 w1 l1 p1 A1 r1 q1 => rdE_of A1 q1 fun d2 S2 v2 H2 w2 l2 p2 A2 r2 q2 => ⟨w2, S2, d, d2, W, σ, A2.sim, Rep.le l2 d r1, r2, q2⟩
theorem t_cat {a b : Ex} {l r : Expr} {p : Pos} (ha : PE X l (rE P n X W a)) (hb : PE X r (rE P n X W b)) : PE X (.BinOp l .Add r p) (rE P n X W (.cat a b)) := by
  refine PE.imp (pe_op op_catS ha hb) fun σ H Q q => ?_
  obtain ⟨e, S, w, A, q⟩ := q
  unfold eval at q
  refine rdE_of A q fun d S1 v H1 w1 l1 p1 A1 r1 q1 => rdE_of A1 q1 fun d2 S2 v2 H2 w2 l2 p2 A2 r2 q2 => ?_
  have q2 : Post X.K (Rep X.K) W σ w2 H2 (match view S2 d, view S2 d2 with
    | .lst xs, .lst ys => if xs.length + ys.length ≤ sizeLine then .ok (.lst (xs ++ ys)) S2 else .bad
    | _, _ => .bad) Q := q2
  split at q2
  · rename_i xs ys hx hy
    obtain ⟨c, vs, rfl, sq1, qs1⟩ := view_lst A2.sim (Rep.le l2 d r1) hx
    obtain ⟨c2, us, rfl, sq2, qs2⟩ := view_lst A2.sim r2 hy
    split at q2
    · rename_i hl
      exact ⟨c, c2, vs, us, rfl, rfl, sq1, sq2, by rw [← qs1.length, ← qs2.length]; exact hl, fun b hb => q2 _ _ w2 (le_new hb _) rfl (A2.sim.new hb _) (newLst A2.sim hb (qs1.append qs2))⟩
    · exact q2.elim
  · exact q2.elim
theorem t_neg {a : Ex} {l : Expr} {p : Pos} (ha : PE X l (rE P n X W a)) : PE X (.UnaryOp .USub l p) (rE P n X W (.neg a)) := by
  refine PE.imp (pe_un un_neg ha) fun σ H Q q => ?_
  obtain ⟨e, S, w, A, q⟩ := q
  unfold eval at q
  refine rdE_of A q fun d S1 v H1 w1 l1 p1 A1 r1 q1 => ?_
  cases d <;> try exact q1.elim
  cases rep_int r1
  exact ⟨_, rfl, Post.here q1 A1.sim mk_int⟩
theorem optB_post {σ : L2.St} {w : Wd} {H : Hp} {S : Sto} {o : Option Bool} {Q : VK} (sm : Sim X.K w H S) (h : Post X.K (Rep X.K) W σ w H (optB S o) Q) : ∃ b, o = some b ∧ Q (.bl b) H := by
  cases o with
  | none => exact h.elim
  | some b => exact ⟨b, rfl, Post.here h sm mk_bl⟩
theorem t_cmp {o : Cm} {a b : Ex} {l r : Expr} {p : Pos} (G : Good P n N adr X W) (ha : PE X l (rE P n X W a)) (hb : PE X r (rE P n X W b)) (hm : behindInMarks (cmOp o) r = false) : PE X (.Compare l [cmOp o] [r] p) (rE P n X W (.cmp o a b)) := by
  refine PE.imp (pe_cmpR (op_C G.un o) ha hb hm) fun σ H Q q => ?_
  obtain ⟨e, S, w, A, q⟩ := q
  unfold eval at q
  refine rdE_of A q fun d S1 v H1 w1 l1 p1 A1 r1 q1 => rdE_of A1 q1 fun d2 S2 v2 H2 w2 l2 p2 A2 r2 q2 => ?_
  obtain ⟨k, e1, q3⟩ := optB_post A2.sim q2
  exact ⟨w2, S2, d, d2, A2.sim, Rep.le l2 d r1, r2, k, e1, q3⟩
theorem chain_post {σ : L2.St} {w : Wd} {H : Hp} {S : Sto} {x : D} {Q : Bool → Hp → Prop} (h : Post X.K RelB W σ w H (match truth S x with
    | some b => Out.ok b S
    | none => .bad) Q) (sm : Sim X.K w H S) : ∃ b, truth S x = some b ∧ Q b H := by
  cases z : truth S x with
  | none => rw [z] at h; exact h.elim
  | some b =>
    rw [z] at h
    exact ⟨b, rfl, Post.here h sm rfl⟩
/-- a value as a test -/
theorem t_plain {c : Ex} {x : Expr} (hp : PE X x (rE P n X W c)) (he : ∀ whole, isTrue x X.env whole = (do let v ← whole; standAt x.pos; holding [v] (truthy v))) : PT X x (rT P n X W c) := by
  refine PT.imp (pt_truth hp he) fun σ H Q q => ?_
  obtain ⟨e, S, w, A, q⟩ := q
  refine rdE_of A q fun d S1 v H1 w1 l p A1 r q1 => ?_
  obtain ⟨b, e1, q2⟩ := chain_post q1 A1.sim
  exact ⟨b, truth_v A1.sim r e1, q2⟩
/-- a truth value told as such -/
theorem t_bl {c : Ex} {σ : L2.St} {H : Hp} {Q : Bool → Hp → Prop} (hb : ∀ e S d S1, eval P (run P n) c e S = .ok d S1 → ∃ b, d = .bl b) (q : rT P n X W c σ H Q) : rE P n X W c σ H fun x H' => ∃ k, x = .bl k ∧ Q k H' := by
  obtain ⟨e, S, w, A, q⟩ := q
  refine ⟨e, S, w, A, ?_⟩
  cases z : eval P (run P n) c e S with
  | bad => rw [z] at q; exact q
  | exc x S1 => rw [z] at q; exact q
  | ok d S1 =>
    obtain ⟨b, rfl⟩ := hb e S d S1 z
    rw [z] at q
    have q : Post X.K RelB W σ w H (Out.ok b S1) Q := q
    intro v H1 w1 l p s r
    exact ⟨b, rep_bl r, q b H1 w1 l p s rfl⟩
theorem bind_ok {α β : Type} {o : Out α} {f : α → Sto → Out β} {b : β} {S : Sto} (h : o.bind f = .ok b S) : ∃ a S1, o = .ok a S1 ∧ f a S1 = .ok b S := by
  cases o with
  | ok a S1 => exact ⟨a, S1, rfl, h⟩
  | exc c S1 => cases h
  | bad => cases h
theorem optB_ok {S : Sto} {o : Option Bool} {d : D} {S1 : Sto} (h : optB S o = .ok d S1) : ∃ b, d = .bl b := by
  cases o with
  | none => cases h
  | some b => cases h; exact ⟨b, rfl⟩
theorem bl_cmp {o : Cm} {a b : Ex} (e : En) (S : Sto) (d : D) (S1 : Sto) (h : eval P (run P n) (.cmp o a b) e S = .ok d S1) : ∃ b, d = .bl b := by
  unfold eval at h
  obtain ⟨_, _, _, h⟩ := bind_ok h
  obtain ⟨_, _, _, h⟩ := bind_ok h
  exact optB_ok h
theorem bl_chain {o o' : Cm} {a b c : Ex} (e : En) (S : Sto) (d : D) (S1 : Sto) (h : eval P (run P n) (.chain o o' a b c) e S = .ok d S1) : ∃ b, d = .bl b := by
  unfold eval at h
  obtain ⟨_, _, _, h⟩ := bind_ok h
  obtain ⟨_, _, _, h⟩ := bind_ok h
  split at h
  · obtain ⟨_, _, _, h⟩ := bind_ok h
    exact optB_ok h
  · cases h; exact ⟨_, rfl⟩
  · cases h
theorem i_cmp {o : Cm} {a b : Ex} {σ : L2.St} {H : Hp} {Q : VK} (q : rE P n X W (.cmp o a b) σ H Q) : tOp (rC X.K o) (rE P n X W a) (rE P n X W b) σ H Q := by
  obtain ⟨e, S, w, A, q⟩ := q
  unfold eval at q
  refine rdE_of A q fun d S1 v H1 w1 l1 p1 A1 r1 q1 => rdE_of A1 q1 fun d2 S2 v2 H2 w2 l2 p2 A2 r2 q2 => ?_
  obtain ⟨k, e1, q3⟩ := optB_post A2.sim q2
  exact ⟨w2, S2, d, d2, A2.sim, Rep.le l2 d r1, r2, k, e1, q3⟩
theorem i_chain {o o' : Cm} {a b c : Ex} {σ : L2.St} {H : Hp} {Q : VK} (q : rE P n X W (.chain o o' a b c) σ H Q) : tChain (rC X.K o) (rC X.K o') (rE P n X W a) (rE P n X W b) (rE P n X W c) σ H Q := by
  obtain ⟨e, S, w, A, q⟩ := q
  unfold eval at q
  refine rdE_of A q fun d S1 v H1 w1 l1 p1 A1 r1 q1 => rdE_of A1 q1 fun d2 S2 v2 H2 w2 l2 p2 A2 r2 q2 => ?_
  have q2 : Post X.K (Rep X.K) W σ w2 H2 (match evalC S2 o d d2 with
    | some true => (eval P (run P n) c e S2).bind fun z S => optB S (evalC S o' d2 z)
    | some false => .ok (.bl false) S2
    | none => .bad) Q := q2
  split at q2
  · rename_i hc
    refine ⟨w2, S2, d, d2, A2.sim, Rep.le l2 d r1, r2, true, hc, true, rfl, ?_⟩
    rw [if_pos rfl]
    refine rdE_of A2 q2 fun d3 S3 v3 H3 w3 l3 p3 A3 r3 q3 => ?_
    obtain ⟨k, e1, q4⟩ := optB_post A3.sim q3
    exact ⟨w3, S3, d2, d3, A3.sim, Rep.le l3 d2 r2, r3, k, e1, q4⟩
  · rename_i hc
    refine ⟨w2, S2, d, d2, A2.sim, Rep.le l2 d r1, r2, false, hc, false, rfl, ?_⟩
    rw [if_neg (by decide)]
    exact Post.here q2 A2.sim mk_bl
  · exact q2.elim
theorem t_cmpT {o : Cm} {a b : Ex} {l r : Expr} {p : Pos} (G : Good P n N adr X W) (ha : PE X l (rE P n X W a)) (hb : PE X r (rE P n X W b)) (hm : behindInMarks (cmOp o) r = false) : PT X (.Compare l [cmOp o] [r] p) (rT P n X W (.cmp o a b)) :=
  PT.imp (pt_cmpR (op_C G.un o) ha hb hm) fun _ _ _ q => i_cmp (t_bl bl_cmp q)
theorem t_chain {o o' : Cm} {a b c : Ex} {l r s : Expr} {p : Pos} (G : Good P n N adr X W) (ha : PE X l (rE P n X W a)) (hb : PE X r (rE P n X W b)) (hc : PE X s (rE P n X W c)) (hm : behindInMarks (cmOp o') s = false) :
    PE X (.Compare l [cmOp o, cmOp o'] [r, s] p) (rE P n X W (.chain o o' a b c)) := PE.imp (pe_chain (op_C G.un o) (op_C G.un o') ha hb hc hm) fun _ _ _ q => i_chain q
theorem t_chainT {o o' : Cm} {a b c : Ex} {l r s : Expr} {p : Pos} (G : Good P n N adr X W) (ha : PE X l (rE P n X W a)) (hb : PE X r (rE P n X W b)) (hc : PE X s (rE P n X W c)) (hm : behindInMarks (cmOp o') s = false) :
    PT X (.Compare l [cmOp o, cmOp o'] [r, s] p) (rT P n X W (.chain o o' a b c)) := PT.imp (pt_chain (op_C G.un o) (op_C G.un o') ha hb hc hm) fun _ _ _ q => i_chain (t_bl bl_chain q)
/-! ### and, or, not -/
theorem i_and {a b : Ex} {σ : L2.St} {H : Hp} {Q : VK} (q : rE P n X W (.and a b) σ H Q) : tAndT X.K (rE P n X W a) (rE P n X W b) σ H Q := by
  obtain ⟨e, S, w, A, q⟩ := q
  unfold eval at q
  refine rdE_of A q fun d S1 v H1 w1 l1 p1 A1 r1 q1 => ?_
  cases z : truth S1 d with
  | none => rw [z] at q1; exact q1.elim
  | some k =>
    rw [z] at q1
    refine ⟨k, truth_v A1.sim r1 z, ?_⟩
    cases k with
    | true => exact ⟨e, S1, w1, A1, q1⟩
    | false => exact Post.here q1 A1.sim r1
theorem i_or {a b : Ex} {σ : L2.St} {H : Hp} {Q : VK} (q : rE P n X W (.or a b) σ H Q) : tOrT X.K (rE P n X W a) (rE P n X W b) σ H Q := by
  obtain ⟨e, S, w, A, q⟩ := q
  unfold eval at q
  refine rdE_of A q fun d S1 v H1 w1 l1 p1 A1 r1 q1 => ?_
  cases z : truth S1 d with
  | none => rw [z] at q1; exact q1.elim
  | some k =>
    rw [z] at q1
    refine ⟨k, truth_v A1.sim r1 z, ?_⟩
    cases k with
    | false => exact ⟨e, S1, w1, A1, q1⟩
    | true => exact Post.here q1 A1.sim r1
def tru (x : D) (S : Sto) : Out Bool := match truth S x with
  | some b => .ok b S
  | none => .bad
theorem i_andT {a b : Ex} {σ : L2.St} {H : Hp} {Q : Bool → Hp → Prop} (q : rT P n X W (.and a b) σ H Q) : tAnd (rT P n X W a) (rT P n X W b) σ H Q := by
  obtain ⟨e, S, w, A, q⟩ := q
  have eq : ((eval P (run P n) (.and a b) e S).bind tru) = (eval P (run P n) a e S).bind fun x S => match truth S x with
      | some k => (if k = true then (eval P (run P n) b e S).bind tru else .ok false S)
      | none => .bad := by
    rw [eval]
    cases eval P (run P n) a e S with
    | bad => rfl
    | exc c S1 => rfl
    | ok x S1 =>
      show Out.bind (match truth S1 x with
        | some true => eval P (run P n) b e S1
        | some false => .ok x S1
        | none => .bad) tru = match truth S1 x with
        | some k => (if k = true then (eval P (run P n) b e S1).bind tru else .ok false S1)
        | none => .bad
      cases z : truth S1 x with
      | none => rfl
      | some k =>
        cases k with
        | true => rfl
        | false =>
          show tru x S1 = .ok false S1
          unfold tru
          rw [z]
  have q : Post X.K RelB W σ w H ((eval P (run P n) (.and a b) e S).bind tru) Q := q
  rw [eq] at q
  refine rdT_of (g := fun k x S => if k = true then (eval P (run P n) b e S).bind tru else .ok false S) A q fun k d S1 H1 w1 l p A1 z q1 => ?_
  cases k with
  | true => exact ⟨e, S1, w1, A1, q1⟩
  | false => exact Post.here (a := false) q1 A1.sim rfl
theorem i_orT {a b : Ex} {σ : L2.St} {H : Hp} {Q : Bool → Hp → Prop} (q : rT P n X W (.or a b) σ H Q) : tOr (rT P n X W a) (rT P n X W b) σ H Q := by
  obtain ⟨e, S, w, A, q⟩ := q
  have eq : ((eval P (run P n) (.or a b) e S).bind tru) = (eval P (run P n) a e S).bind fun x S => match truth S x with
      | some k => (if k = true then .ok true S else (eval P (run P n) b e S).bind tru)
      | none => .bad := by
    rw [eval]
    cases eval P (run P n) a e S with
    | bad => rfl
    | exc c S1 => rfl
    | ok x S1 =>
      show Out.bind (match truth S1 x with
        | some true => .ok x S1
        | some false => eval P (run P n) b e S1
        | none => .bad) tru = match truth S1 x with
        | some k => (if k = true then .ok true S1 else (eval P (run P n) b e S1).bind tru)
        | none => .bad
      cases z : truth S1 x with
      | none => rfl
      | some k =>
        cases k with
        | false => rfl
        | true =>
          show tru x S1 = .ok true S1
          unfold tru
          rw [z]
  have q : Post X.K RelB W σ w H ((eval P (run P n) (.or a b) e S).bind tru) Q := q
  rw [eq] at q
  refine rdT_of (g := fun k x S => if k = true then .ok true S else (eval P (run P n) b e S).bind tru) A q fun k d S1 H1 w1 l p A1 z q1 => ?_
  cases k with
  | false => exact ⟨e, S1, w1, A1, q1⟩
  | true => exact Post.here (a := true) q1 A1.sim rfl
theorem t_not {a : Ex} {x : Expr} {p : Pos} (ha : PE X x (rE P n X W a)) : PE X (.UnaryOp .Not x p) (rE P n X W (.not a)) := by
  refine PE.imp (pe_notT ha) fun σ H Q q => ?_
  obtain ⟨e, S, w, A, q⟩ := q
  unfold eval at q
  refine rdE_of A q fun d S1 v H1 w1 l1 p1 A1 r1 q1 => ?_
  obtain ⟨k, e1, q2⟩ := optB_post A1.sim q1
  cases z : truth S1 d with
  | none => rw [z] at e1; cases e1
  | some c =>
    rw [z] at e1
    cases e1
    exact ⟨c, truth_v A1.sim r1 z, q2⟩
theorem t_notT {a : Ex} {x : Expr} {p : Pos} (ha : PT X x (rT P n X W a)) : PT X (.UnaryOp .Not x p) (rT P n X W (.not a)) := by
  refine PT.imp (pt_not ha) fun σ H Q q => ?_
  obtain ⟨e, S, w, A, q⟩ := q
  refine ⟨e, S, w, A, ?_⟩
  unfold eval at q
  cases z : eval P (run P n) a e S with
  | bad => rw [z] at q; exact q
  | exc x S1 => rw [z] at q; exact q
  | ok d S1 =>
    rw [z] at q
    have q : Post X.K RelB W σ w H ((optB S1 ((truth S1 d).map (!·))).bind tru) Q := q
    show Post X.K RelB W σ w H (tru d S1) _
    unfold tru
    cases y : truth S1 d with
    | none => rw [y] at q; exact q
    | some c =>
      rw [y] at q
      intro b H1 w1 l p s r
      have r : b = c := r
      subst r
      exact q (!b) H1 w1 l p s rfl
theorem t_ite {t a b : Ex} {x y z : Expr} {p : Pos} (ht : PT X x (rT P n X W t)) (ha : PE X y (rE P n X W a)) (hb : PE X z (rE P n X W b)) : PE X (.IfExp x y z p) (rE P n X W (.ite t a b)) := by
  refine PE.imp (pe_ifExp ht ha hb) fun σ H Q q => ?_
  obtain ⟨e, S, w, A, q⟩ := q
  unfold eval at q
  have q : Post X.K (Rep X.K) W σ w H ((eval P (run P n) t e S).bind fun x S => match truth S x with
    | some k => (if k = true then eval P (run P n) a e S else eval P (run P n) b e S)
    | none => .bad) Q := by
    cases z : eval P (run P n) t e S with
    | bad => rw [z] at q; exact q
    | exc x S1 => rw [z] at q; exact q
    | ok d S1 =>
      rw [z] at q
      have q : Post X.K (Rep X.K) W σ w H (match truth S1 d with
        | some true => eval P (run P n) a e S1
        | some false => eval P (run P n) b e S1
        | none => .bad) Q := q
      show Post X.K (Rep X.K) W σ w H (match truth S1 d with
        | some k => (if k = true then eval P (run P n) a e S1 else eval P (run P n) b e S1)
        | none => .bad) Q
      cases y : truth S1 d with
      | none => rw [y] at q; exact q
      | some c =>
        rw [y] at q
        cases c <;> exact q
  refine rdT_of (g := fun k x S => if k = true then eval P (run P n) a e S else eval P (run P n) b e S) A q fun k d S1 H1 w1 l p A1 z q1 => ?_
  cases k with
  | true => exact ⟨e, S1, w1, A1, q1⟩
  | false => exact ⟨e, S1, w1, A1, q1⟩
/-! ### displays -/
theorem post_len {σ : L2.St} {w : Wd} {H : Hp} {Q : VK} {k : Nat} {o : Out D} (h : Post X.K (Rep X.K) W σ w H (if k ≤ sizeLine then o else .bad) Q) : k ≤ sizeLine ∧ Post X.K (Rep X.K) W σ w H o Q := by
  split at h
  · exact ⟨by assumption, h⟩
  · exact h.elim
theorem t_tup {c : Exs} {es : List Expr} {k : Nat} {p : Pos} (h : PA X es (rA P n X W c)) : PE X (.Tuple es k p) (rE P n X W (.tup c)) := by
  refine PE.imp (pe_tup h) fun σ H Q q => ?_
  obtain ⟨e, S, w, A, q⟩ := q
  unfold eval at q
  refine rdA_of A q fun ds S1 vs H1 w1 l p A1 r q1 => ?_
  obtain ⟨hl, q1⟩ := post_len q1
  exact ⟨by rw [← r.length]; exact hl, fun a hn => q1 _ _ w1 (le_new hn _) rfl (A1.sim.new hn _) (newTup A1.sim hn r)⟩
theorem t_lst {c : Exs} {es : List Expr} {p : Pos} (h : PA X es (rA P n X W c)) : PE X (.List es p) (rE P n X W (.lst c)) := by
  refine PE.imp (pe_lst h) fun σ H Q q => ?_
  obtain ⟨e, S, w, A, q⟩ := q
  unfold eval at q
  refine rdA_of A q fun ds S1 vs H1 w1 l p A1 r q1 => ?_
  obtain ⟨hl, q1⟩ := post_len q1
  exact ⟨by rw [← r.length]; exact hl, fun a hn => q1 _ _ w1 (le_new hn _) rfl (A1.sim.new hn _) (newLst A1.sim hn r)⟩
theorem mk_ref {w : Wd} {H : Hp} {p : Addr} : Rep X.K (w.more p) H (.ref w.N) (.ref p) := by
  unfold Rep
  exact ⟨Nat.lt_succ_self _, by rw [more_N]⟩
theorem t_lstR {c : Exs} {es : List Expr} {p : Pos} (h : PA X es (rA P n X W c)) : PE X (.List es p) (rE P n X W (.lstR c)) := by
  refine PE.imp (pe_lst h) fun σ H Q q => ?_
  obtain ⟨e, S, w, A, q⟩ := q
  unfold eval at q
  refine rdA_of A q fun ds S1 vs H1 w1 l p A1 r q1 => ?_
  obtain ⟨hl, q1⟩ := post_len q1
  refine ⟨by rw [← r.length]; exact hl, fun a hn => q1 _ _ (w1.more a) (le_more hn _) rfl (A1.sim.more hn ⟨_, rfl, Reps.le (le_more hn _) ds r⟩) ?_⟩
  rw [← A1.sim.len]
  exact mk_ref
theorem t_dk0 {p : Pos} : PE X (.Dict [] [] p) (rE P n X W .dk0) := by
  refine PE.imp pe_dnewK fun σ H Q q => ?_
  obtain ⟨e, S, w, A, q⟩ := q
  unfold eval at q
  refine fun a hn => q _ _ (w.more a) (le_more hn _) rfl (A.sim.more hn ⟨_, rfl, rfl⟩) ?_
  rw [← A.sim.len]
  exact mk_ref
theorem t_dt0 {p : Pos} : PE X (.Dict [] [] p) (rE P n X W .dt0) := by
  refine PE.imp pe_dnewT fun σ H Q q => ?_
  obtain ⟨e, S, w, A, q⟩ := q
  unfold eval at q
  refine fun a hn => q _ _ (w.more a) (le_more hn _) rfl (A.sim.more hn ⟨_, rfl, rfl⟩) ?_
  rw [← A.sim.len]
  exact mk_ref
/-! ### places -/
theorem optD_post {σ : L2.St} {w : Wd} {H : Hp} {S : Sto} {o : Option D} {Q : VK} (sm : Sim X.K w H S) (h : Post X.K (Rep X.K) W σ w H (optD S o) Q) : ∃ d, o = some d ∧ ∀ v, Rep X.K w H d v → Q v H := by
  cases o with
  | none => exact h.elim
  | some b => exact ⟨b, rfl, fun v r => Post.here h sm r⟩
theorem t_ix {a i : Ex} {x y : Expr} {p : Pos} (G : Good P n N adr X W) (ha : PE X x (rE P n X W a)) (hi : PE X y (rE P n X W i)) (hs : PlainIx y) : PE X (.Subscript x y p) (rE P n X W (.ix a i)) := by
  refine PE.imp (pe_ix (ix_I G.un) ha hi hs) fun σ H Q q => ?_
  obtain ⟨e, S, w, A, q⟩ := q
  unfold eval at q
  refine rdE_of A q fun d S1 v H1 w1 l1 p1 A1 r1 q1 => rdE_of A1 q1 fun d2 S2 v2 H2 w2 l2 p2 A2 r2 q2 => ?_
  obtain ⟨z, e1, q3⟩ := optD_post A2.sim q2
  exact ⟨w2, S2, d, d2, A2.sim, Rep.le l2 d r1, r2, z, e1, q3⟩
theorem t_slTo {a h : Ex} {x y : Expr} {p p2 : Pos} (ha : PE X x (rE P n X W a)) (hh : PE X y (rE P n X W h)) : PE X (.Subscript x (.Slice none (some y) none p2) p) (rE P n X W (.slTo a h)) := by
  refine PE.imp (pe_slice sl_S ha po_none (po_some hh)) fun σ H Q q => ?_
  obtain ⟨e, S, w, A, q⟩ := q
  unfold eval at q
  refine rdE_of A q fun d S1 v H1 w1 l1 p1 A1 r1 q1 => rdE_of A1 q1 fun d2 S2 v2 H2 w2 l2 p2 A2 r2 q2 => ?_
  cases d2 <;> try exact q2.elim
  cases rep_int r2
  exact ⟨_, rfl, w2, S2, d, W, σ, A2.sim, Rep.le l2 d r1, q2⟩
theorem t_slFr {a h : Ex} {x y : Expr} {p p2 : Pos} (ha : PE X x (rE P n X W a)) (hh : PE X y (rE P n X W h)) : PE X (.Subscript x (.Slice (some y) none none p2) p) (rE P n X W (.slFr a h)) := by
  refine PE.imp (pe_slice sl_S ha (po_some hh) po_none) fun σ H Q q => ?_
  obtain ⟨e, S, w, A, q⟩ := q
  unfold eval at q
  refine rdE_of A q fun d S1 v H1 w1 l1 p1 A1 r1 q1 => rdE_of A1 q1 fun d2 S2 v2 H2 w2 l2 p2 A2 r2 q2 => ?_
  cases d2 <;> try exact q2.elim
  cases rep_int r2
  exact ⟨_, rfl, w2, S2, d, W, σ, A2.sim, Rep.le l2 d r1, q2⟩
theorem t_slBt {a h g : Ex} {x y z : Expr} {p p2 : Pos} (ha : PE X x (rE P n X W a)) (hh : PE X y (rE P n X W h)) (hg : PE X z (rE P n X W g)) : PE X (.Subscript x (.Slice (some y) (some z) none p2) p) (rE P n X W (.slBt a h g)) := by
  refine PE.imp (pe_slice sl_S ha (po_some hh) (po_some hg)) fun σ H Q q => ?_
  obtain ⟨e, S, w, A, q⟩ := q
  unfold eval at q
  refine rdE_of A q fun d S1 v H1 w1 l1 p1 A1 r1 q1 => rdE_of A1 q1 fun d2 S2 v2 H2 w2 l2 p2 A2 r2 q2 => ?_
  cases d2 with
  | int i =>
    cases rep_int r2
    refine ⟨_, rfl, rdE_of A2 q2 fun d3 S3 v3 H3 w3 l3 p3 A3 r3 q3 => ?_⟩
    cases d3 <;> try exact q3.elim
    cases rep_int r3
    exact ⟨_, rfl, w3, S3, d, W, σ, A3.sim, Rep.le (l2.trans l3) d r1, q3⟩
  | _ => exact q2.elim
theorem t_at {a : Ex} {x : Expr} {f : Str} {p : Pos} (G : Good P n N adr X W) (ha : PE X x (rE P n X W a)) (hb : recvB x = true) : PE X (.Attribute x f p) (rE P n X W (.at a f)) := by
  refine PE.imp (pe_fld ha (base_of hb f X.env _)) fun σ H Q q => ?_
  obtain ⟨e, S, w, A, q⟩ := q
  unfold eval at q
  refine rdE_of A q fun d S1 v H1 w1 l1 p1 A1 r1 q1 => ?_
  obtain ⟨z, e1, q2⟩ := optD_post A1.sim q1
  cases d <;> try cases e1
  rename_i m
  have e1 : (match S1[m]? with
    | some (.ins C fs) => if (P.ats.any fun p => decide (p.1 = C) && decide (p.2 = f)) = true then fs.lookup f else none
    | _ => none) = some z := e1
  split at e1
  · rename_i C fs hm
    split at e1
    · rename_i hc
      obtain ⟨_, rfl⟩ := rep_ref r1
      obtain ⟨u, hu, dx, vs, rfl, kv⟩ := A1.sim.ob m _ hm
      obtain ⟨c1, c2⟩ := G.kn.ats C f hc
      rcases kv.lookup f with ⟨e2, _⟩ | ⟨z', y, e2, e3, rz⟩
      · rw [e1] at e2; cases e2
      · rw [e1] at e2
        cases e2
        exact ⟨_, _, dx, vs, y, rfl, hu, c1, c2, e3, q2 y rz⟩
    · cases e1
  · cases e1
end
end Z


/-! Z: calls. -/
namespace Z
open PySem L2
section
variable {P : Prog} {n : Nat} {N : List Str} {adr : Str → Addr} {X : Cx} {W : WX} {sc : Scope}
theorem run_def {f : Str} {ds : List D} {S : Sto} (h : P.defs.lookup f = none) : run P n f ds S = .bad := by
  cases n with
  | zero => rfl
  | succ n => unfold run; rw [h]
/-- a callee by its promise -/
theorem Good.call (G : Good P n N adr X W) {f : Str} {pins : List (Addr × Obj)} {σ : L2.St} {H : Hp} {s : Shared} {Q : VK} {us : List Value} {vs : List V} (I : L2.Inv X pins σ H s) (r : Vals vs us) (h : spF P X.K n f vs H Q (WE W σ)) :
    wpAny (model X.prog X.w) X.A (call (.ref (adr f)) us) (EP X pins σ Q) X.xe s := by
  have h' := h
  obtain ⟨w, S, ds, sm, rd, q⟩ := h'
  cases e : P.defs.lookup f with
  | none => rw [run_def e] at q; exact q.elim
  | some d =>
    obtain ⟨fd, ps, _, F, hb⟩ := G.fns f d e
    exact run_fnS F (G.room.mono (Nat.le_succ _)) hb (passAt G.tk σ) I r h
theorem post_sp {f : Str} {ds : List D} {vs : List V} {σ : L2.St} {w : Wd} {H : Hp} {S : Sto} {Q : VK} (sm : Sim X.K w H S) (r : Reps X.K w H ds vs) (q : Post X.K (Rep X.K) W σ w H (run P n f ds S) Q) : spF P X.K n f vs H Q (WE W σ) := by
  refine ⟨w, S, ds, sm, r, ?_⟩
  cases z : run P n f ds S with
  | ok d S1 => rw [z] at q; exact q
  | exc c S1 => rw [z] at q; exact q
  | bad => rw [z] at q; exact q
/-- f(e, ..): the arguments, then the call -/
theorem wp_args {f : Value} {first : List Value} {cs : Exs} {es : List Expr} {pos : Pos} {Q' : List V → Hp → Prop} {R : Value → Shared → Prop} {pins : List (Addr × Obj)} {σ : L2.St} {H : Hp} {s : Shared} (I : L2.Inv X pins σ H s)
    (hk : PySem.W.keepIn X.K f = true) (hc : chkEs P N cs sc es = true) (ha : PA X es (rA P n X W cs)) (q : rA P n X W cs σ H Q')
    (k : ∀ us vs H1 s1, L2.Inv X pins σ H1 s1 → Vals vs us → Q' vs H1 → wpAny (model X.prog X.w) X.A (call f (first ++ us)) R X.xe s1) :
    wpAny (model X.prog X.w) X.A (callWith pos f first (backTo pos (starEach es X.env)) []) R X.xe s := by
  cases es with
  | nil =>
    refine PySem.W.callWith_K0 I.kIn hk (k [] [] H s I .nil ?_)
    obtain ⟨e, S, w, A, q⟩ := q
    cases cs with
    | nil =>
      unfold evals at q
      exact Post.here q A.sim rfl
    | cons a r => simp [chkEs] at hc
  | cons x xs =>
    cases cs with
    | nil => simp [chkEs] at hc
    | cons a r =>
      unfold chkEs at hc
      obtain ⟨h1, h2⟩ := Bool.and_eq_true_iff.mp hc
      exact PySem.W.callWith_K (h₀ := X.base) I.ok.mod.kin hk (thn (ha.run pos pins s σ H _ I q) fun us s1 ⟨vs, H1, I1, r1, q1⟩ => ⟨I1.kIn, k us vs H1 s1 I1 r1 q1⟩) (star_of h1 xs X.env) (stars_any X.env pos h2)
theorem t_call {f x : Str} {cs : Exs} {es : List Expr} {p pos : Pos} (G : Good P n N adr X W) (hs : ScOk sc X) (hf : P.fns.lookup x = some f) (hg : glB sc x = true) (hc : chkEs P N cs sc es = true) (ha : PA X es (rA P n X W cs)) :
    PE X (.Call (.Name x p) es [] pos) (rE P n X W (.call f cs)) := by
  obtain ⟨h1, h2, h3⟩ := gl_of hg
  obtain ⟨hm, hk⟩ := G.kn.fns x f hf
  refine ⟨fun pins s σ H Q I q => ?_⟩
  refine wpAny_Call_Name_kw (ld_glob I (hs.gl h1) hm ?_ h2)
  refine wp_args (first := []) (Q' := fun vs H1 => spF P X.K n f vs H1 Q (WE W σ)) I hk hc ha ?_ fun us vs H1 s1 I1 r q1 => G.call I1 r q1
  obtain ⟨e, S, w, A, q⟩ := q
  unfold eval at q
  exact rdA_of A q fun ds S1 vs H1 w1 l p A1 r q1 => post_sp A1.sim r q1
theorem recvM_B {o : Expr} (h : recvM o = true) : recvB o = true := by cases o <;> first | rfl | cases h
theorem form_of {cs : Exs} {es : List Expr} (pos : Pos) (env : Env) (hc : chkEs P N cs sc es = true) (hf : es.length < 29) : methodCallForm (es.length + ([] : List Keyword).length) (backTo pos (starEach es env)) (backToKw pos (keywordEach [] env)) = true := by
  unfold methodCallForm
  rw [stars_all env pos hc]
  show (true && (true && decide (es.length + 0 + 0 < 30))) = true
  rw [decide_eq_true (by omega)]; rfl
theorem meth_eq {o : Expr} (h : recvM o = true) (m : Str) (apos pos : Pos) (es : List Expr) (env : Env) (hl : (apos.endLine == pos.line) = true) (hf : methodCallForm (es.length + ([] : List Keyword).length) (backTo pos (starEach es env)) (backToKw pos (keywordEach [] env)) = true) :
    PySem.eval (.Call (.Attribute o m apos) es [] pos) env = (do
      let ov ← PySem.eval o env
      standAt apos.atName
      let (f, first) ← holding [ov] (getMethod ov m (do return (← importBound o env).getD true))
      callWith pos f first (backTo pos (starEach es env)) (backToKw pos (keywordEach [] env))) := by
  show (do
    let ov ← attributeBase o m env (PySem.eval o env)
    standAt apos.atName
    methodCall o m apos pos env ov (es.length + ([] : List Keyword).length) (backTo pos (starEach es env)) (backToKw pos (keywordEach [] env))) = _
  rw [base_of (recvM_B h)]
  have e : ∀ ov, methodCall o m apos pos env ov (es.length + ([] : List Keyword).length) (backTo pos (starEach es env)) (backToKw pos (keywordEach [] env)) = (do
      let (f, first) ← holding [ov] (getMethod ov m (do return (← importBound o env).getD true))
      callWith pos f first (backTo pos (starEach es env)) (backToKw pos (keywordEach [] env))) := fun ov => by
    unfold methodCall
    rw [hf]
    unfold methodCallPos
    rw [hl]
    rfl
  congr 1
  funext ov
  rw [e ov]
theorem t_me {m : Str} {o : Ex} {x : Expr} {cs : Exs} {es : List Expr} {apos pos : Pos} (G : Good P n N adr X W) (hr : recvM x = true) (hl : (apos.endLine == pos.line) = true) (hf : es.length < 29) (ho : PE X x (rE P n X W o)) (hc : chkEs P N cs sc es = true) (ha : PA X es (rA P n X W cs)) :
    PE X (.Call (.Attribute x m apos) es [] pos) (rE P n X W (.me o m cs)) := by
  have he := meth_eq hr m apos pos es X.env hl (form_of pos X.env hc hf)
  refine ⟨fun pins s σ H Q I q => ?_⟩
  have q' : rE P n X W o σ H fun y H1 => ∃ (f : Str) (a C dx : Addr) (fs : List (Str × V)), y = .ref a ∧ H1 a = some (.ins C dx fs) ∧ fs.lookup m = none ∧ Cls X.K C ∧ Meth X.K C m (adr f) ∧
      rA P n X W cs σ H1 fun vs H2 => spF P X.K n f (.ref a :: vs) H2 Q (WE W σ) := by
    obtain ⟨e, S, w, A, q⟩ := q
    unfold eval at q
    refine rdE_of A q fun d S1 v H1 w1 l1 p1 A1 r1 q1 => ?_
    cases hm : meth P S1 d m with
    | none =>
      have q1 : Post X.K (Rep X.K) W σ w1 H1 (match meth P S1 d m with
        | some f => (evals P (run P n) cs e S1).bind fun xs S => run P n f (d :: xs) S
        | none => .bad) Q := q1
      rw [hm] at q1
      exact q1.elim
    | some f =>
      have q1 : Post X.K (Rep X.K) W σ w1 H1 (match meth P S1 d m with
        | some f => (evals P (run P n) cs e S1).bind fun xs S => run P n f (d :: xs) S
        | none => .bad) Q := q1
      rw [hm] at q1
      cases d with
      | ref k =>
        have hm : (match S1[k]? with
          | some (.ins C fs) => if (fs.lookup m).isNone = true then P.mt.lookup (C, m) else none
          | _ => none) = some f := hm
        split at hm
        · rename_i C fs hk
          split at hm
          · rename_i hl
            obtain ⟨c, me⟩ := G.kn.mt C m f hm
            have r1' := r1
            obtain ⟨_, rfl⟩ := rep_ref r1
            obtain ⟨u, hu, dx, vs, rfl, kv⟩ := A1.sim.ob k _ hk
            refine ⟨f, _, _, dx, vs, rfl, hu, ?_, c, me, ?_⟩
            · rcases kv.lookup m with ⟨_, e2⟩ | ⟨z', y, e2, _⟩
              · exact e2
              · rw [e2] at hl; cases hl
            · exact rdA_of A1 q1 fun ds S2 us H2 w2 l2 p2 A2 r2 q2 => post_sp (ds := .ref k :: ds) A2.sim ⟨_, us, rfl, Rep.le l2 (.ref k) r1', r2⟩ q2
          · cases hm
        · cases hm
      | _ => cases hm
  refine PySem.W.methodCall_KW (thn (ho.run pins s σ H _ I q') fun u s1 hu => ?_) he
  obtain ⟨y, H1, I1, ry, f, a, C, dx, fs, rfl, ea, l, c, me, q2⟩ := hu
  obtain rfl : u = Value.ref a := ry
  refine getmeth_ok I1 ea c me l ?_
  exact wp_args (first := [.ref a]) (Q' := fun vs H2 => spF P X.K n f (.ref a :: vs) H2 Q (WE W σ)) I1 me.kp hc ha q2 fun us vs H2 s2 I2 r q3 => G.call (us := .ref a :: us) (vs := .ref a :: vs) I2 (.cons rfl r) q3
/-- a new instance, then its __init__ -/
theorem Good.make (G : Good P n N adr X W) {f : Str} {C : Addr} {pins : List (Addr × Obj)} {σ : L2.St} {H : Hp} {s : Shared} {Q : VK} {us : List Value} {vs : List V} (M : Mk X.K C (adr f)) (I : L2.Inv X pins σ H s) (r : Vals vs us)
    (h : ∀ x dx, H x = none → H dx = none → dx ≠ x → spF P X.K n f (.ref x :: vs) (upd (upd H dx (.own x)) x (.ins C dx [])) (fun v H2 => v = .non ∧ Q (.ref x) H2) (WE W σ)) :
    wpAny (model X.prog X.w) X.A (PySem.call (.ref C) us) (EP X pins σ Q) X.xe s := by
  obtain ⟨z, hz⟩ : ∃ z, z = s.heap.objs.size := ⟨_, rfl⟩
  have fr : ∀ k, H (z + k) = none := fun k => I.hok.fresh (by rw [hz]; exact Nat.le_add_right _ _)
  have h0 := h (z + 1) z (fr 1) (fr 0) (Nat.ne_of_lt (Nat.lt_succ_self _))
  have J := Inv.made (C := C) I
  rw [← hz] at J
  have h1 := h0
  obtain ⟨w, S, ds, sm, rd, q⟩ := h1
  cases e : P.defs.lookup f with
  | none => rw [run_def e] at q; exact q.elim
  | some d =>
    obtain ⟨fd, ps, _, F, hb⟩ := G.fns f d e
    have rr : Vals (V.ref (z + 1) :: vs) (Value.ref (z + 1) :: us) := .cons rfl r
    have hl : (Value.ref (z + 1) :: us).length = ps.length := rr.length.symm.trans (F.len _ _ _ _ h0)
    have bb := hb _ (Value.ref (z + 1) :: us) J.kIn (by rw [List.append_nil]; exact hl)
    rw [List.append_nil] at bb
    have go := F.run _ X.stack _ _ _ _ _ _ _ (G.room.make C us []) (J.env0.make C us []) bb rr h0
    refine wpAny_call (make_map (f := adr f) I.kIn M.makes M.init (beq_iff_eq.mp M.fn) ?_)
    rw [← hz]
    refine codeAny_mono go fun t s' ht => ?_
    cases t with
    | error x => exact passAt G.tk σ pins _ _ x s' J ht
    | ok fl =>
      cases fl with
      | ret u =>
        obtain ⟨v, H', J2, rv, ev, q3⟩ := J.after ht
        subst ev
        exact ⟨rv, ⟨V.ref (z + 1), H', J2, rfl, q3⟩⟩
      | next => exact ht.elim
      | brk => exact ht.elim
      | cont => exact ht.elim
theorem t_new {C : Str} {cs : Exs} {es : List Expr} {p pos : Pos} (G : Good P n N adr X W) (hs : ScOk sc X) (hg : glB sc C = true) (hc : chkEs P N cs sc es = true) (ha : PA X es (rA P n X W cs)) (hi : (P.mt.lookup (C, ("__init__" : Str))).isSome = true) :
    PE X (.Call (.Name C p) es [] pos) (rE P n X W (.new C cs)) := by
  obtain ⟨h1, h2, h3⟩ := gl_of hg
  obtain ⟨f, hf⟩ := Option.isSome_iff_exists.mp hi
  obtain ⟨M, hm⟩ := G.kn.mkr C f hf
  refine ⟨fun pins s σ H Q I q => ?_⟩
  refine wpAny_Call_Name_kw (ld_glob I (hs.gl h1) hm ?_ h2)
  refine wp_args (first := []) (Q' := fun vs H => ∀ x dx, H x = none → H dx = none → dx ≠ x → spF P X.K n f (.ref x :: vs) (upd (upd H dx (.own x)) x (.ins (He.ga X.K C) dx [])) (fun v H2 => v = .non ∧ Q (.ref x) H2) (WE W σ)) I M.kp hc ha ?_
    fun us vs H1 s1 I1 r q1 => G.make M I1 r q1
  obtain ⟨e, S, w, A, q⟩ := q
  unfold eval at q
  refine rdA_of A q fun ds S1 vs H1 w1 l p A1 r q1 => ?_
  rw [hf] at q1
  intro x dx hx hdx hne
  have hx' : upd H1 dx (.own x) x = none := by rw [upd_ne (Ne.symm hne)]; exact hx
  have lw : Le w1 (w1.more x) H1 (upd (upd H1 dx (.own x)) x (.ins (He.ga X.K C) dx [])) := (le_new hdx _).trans (le_more hx' _)
  have s2 : Sim X.K (w1.more x) (upd (upd H1 dx (.own x)) x (.ins (He.ga X.K C) dx [])) (S1 ++ [.ins C []]) := (A1.sim.new hdx _).more hx' ⟨dx, [], rfl, rfl⟩
  have rs : Rep X.K (w1.more x) (upd (upd H1 dx (.own x)) x (.ins (He.ga X.K C) dx [])) (.ref S1.length) (.ref x) := by
    rw [← A1.sim.len]
    exact mk_ref
  refine ⟨_, _, .ref S1.length :: ds, s2, ⟨_, vs, rfl, rs, Reps.le lw ds r⟩, ?_⟩
  have q1 : Post X.K (Rep X.K) W σ w1 H1 (match run P n f (.ref S1.length :: ds) (S1 ++ [.ins C []]) with
      | .ok .non S1' => .ok (.ref S1.length) S1'
      | .exc c S1 => .exc c S1
      | _ => .bad) Q := q1
  cases z : run P n f (.ref S1.length :: ds) (S1 ++ [.ins C []]) with
  | ok d S3 =>
    rw [z] at q1
    cases d <;> try exact q1.elim
    exact fun v H2 w2 l2 p2 s3 rv => ⟨rep_non rv, q1 _ _ w2 (lw.trans l2) p2 s3 (Rep.le l2 _ rs)⟩
  | exc c S3 =>
    rw [z] at q1
    exact fun H2 w2 l2 p2 s3 => q1 H2 w2 (lw.trans l2) p2 s3
  | bad =>
    rw [z] at q1
    exact q1
/-! ### built-in things -/
theorem bi_mem : ∀ b : Bi, biName b ∈ bnames := by intro b; cases b <;> decide +kernel
theorem ty_mem : ∀ t : Ty, tyName t ∈ bnames := by intro t; cases t <;> decide +kernel
theorem ty_boot : ∀ t : Ty, bootBuiltins (tyName t) = some (.type (tyStr t)) := by intro t; cases t <;> rfl
theorem bi_boot : ∀ b : Bi, bootBuiltins (biName b) = some (biFn b) := by intro b; cases b <;> rfl
theorem t_bi {b : Bi} {cs : Exs} {x : Expr} {xs : List Expr} {p pos : Pos} (G : Good P n N adr X W) (hs : ScOk sc X) (hg : glB sc (biName b) = true) (hc : chkEs P N cs sc (x :: xs) = true) (ha : PA X (x :: xs) (rA P n X W cs)) :
    PE X (.Call (.Name (biName b) p) (x :: xs) [] pos) (rE P n X W (.bi b cs)) := by
  obtain ⟨h1, h2, h3⟩ := gl_of hg
  have g : Gl X (biName b) := hs.gl h1
  have hm := G.kn.bn _ (bi_mem b)
  have imp : ∀ σ H Q, rE P n X W (.bi b cs) σ H Q → tCB (rBi X.K b) (rA P n X W cs) σ H Q := fun σ H Q q => by
    obtain ⟨e, S, w, A, q⟩ := q
    unfold eval at q
    exact rdA_of A q fun ds S1 vs H1 w1 l p A1 r q1 => ⟨w1, S1, ds, W, σ, A1.sim, r, q1⟩
  cases cs with
  | nil => simp [chkEs] at hc
  | cons c cs =>
    have hc' := hc
    unfold chkEs at hc'
    obtain ⟨c1, c2⟩ := Bool.and_eq_true_iff.mp hc'
    have st := star_of c1 xs X.env
    have sa := stars_any X.env pos c2
    have bt := bi_boot b
    have cr := cr_Bi (X := X) G.calm b
    cases b <;> first
      | exact PE.imp (pe_callB cr g hm bt ha h3 h2 st sa) imp
      | exact PE.imp (pe_callTy cr g hm bt ha h3 h2 st sa) imp
theorem t_isi {a : Ex} {t : Ty} {y : Expr} {p p2 pos : Pos} (G : Good P n N adr X W) (hs : ScOk sc X) (hg : glB sc ("isinstance" : Str) = true) (hz : glB sc (tyName t) = true) (hy : chkE P N a sc y = true) (ha : PE X y (rE P n X W a)) :
    PE X (.Call (.Name ("isinstance" : Str) p) [y, .Name (tyName t) p2] [] pos) (rE P n X W (.isi a t)) := by
  obtain ⟨h1, h2, h3⟩ := gl_of hg
  obtain ⟨k1, k2, k3⟩ := gl_of hz
  have g : Gl X ("isinstance" : Str) := hs.gl h1
  have g2 : Gl X (tyName t) := hs.gl k1
  have hp : PA X [y, .Name (tyName t) p2] (tCons (rE P n X W a) (tCons (tC (.ty (tyStr t))) tNil)) := pa_cons ha (pa_cons (pe_bltn g2 (G.kn.bn _ (ty_mem t)) (ty_boot t) rfl k3 k2) pa_nil) (star_of hy _ _)
  refine PE.imp (pe_callB (id := "isinstance") call_isi g (G.kn.bn _ (by decide +kernel)) rfl hp h3 h2 (star_of hy _ _) rfl) fun σ H Q q => ?_
  obtain ⟨e, S, w, A, q⟩ := q
  unfold eval at q
  refine rdE_of A q fun d S1 v H1 w1 l p A1 r q1 => ?_
  obtain ⟨b, e1, q2⟩ := optB_post A1.sim q1
  obtain ⟨ty, k1, k2⟩ := isTy_kit A1.sim r e1
  exact ⟨v, _, ty, _, b, rfl, .ty _, k1, k2, q2⟩
theorem t_bm {m : Bm} {o : Ex} {cs : Exs} {x y : Expr} {xs : List Expr} {apos pos : Pos} (G : Good P n N adr X W) (hr : recvB x = true) (hl : (apos.endLine == pos.line) = true) (hf : xs.length < 28) (ho : PE X x (rE P n X W o)) (hc : chkEs P N cs sc (y :: xs) = true) (ha : PA X (y :: xs) (rA P n X W cs)) :
    PE X (.Call (.Attribute x (bmName m) apos) (y :: xs) [] pos) (rE P n X W (.bm o m cs)) := by
  cases cs with
  | nil => simp [chkEs] at hc
  | cons c cs =>
    have hc' := hc
    unfold chkEs at hc'
    obtain ⟨c1, c2⟩ := Bool.and_eq_true_iff.mp hc'
    refine PE.imp (pe_bm (bm_attrs m) (bm_slot m) (bm_type m) (mt_Bm G.un m) ho ha (base_of hr _ _ _) ?_ hl (star_of c1 xs X.env) (stars_any X.env pos c2)) fun σ H Q q => ?_
    · rw [stars_all X.env pos hc]
      show (true && (true && decide ((y :: xs).length + 0 + 0 < 30))) = true
      rw [decide_eq_true (by rw [List.length_cons]; omega)]; rfl
    · obtain ⟨e, S, w, A, q⟩ := q
      unfold eval at q
      refine rdE_of A q fun d S1 v H1 w1 l1 p1 A1 r1 q1 => ?_
      have q1 : Post X.K (Rep X.K) W σ w1 H1 (if recvOk S1 m d = true then (evals P (run P n) (.cons c cs) e S1).bind fun xs S => optDS (evalBm S m d xs) else .bad) Q := q1
      split at q1
      · rename_i hk
        refine ⟨recv_ty A1.sim r1 hk, ?_⟩
        exact rdA_of A1 q1 fun ds S2 vs H2 w2 l2 p2 A2 r2 q2 => ⟨w2, S2, d, ds, W, σ, A2.sim, Rep.le l2 d r1, r2, q2⟩
      · exact q1.elim
end
/-! ### a written table of the module's -/
section
variable {κ : Type} [DecidableEq κ]
theorem look_pairs {β : Type} {f : β → κ} {g : β → Value} : ∀ {kvs : List (κ × D)} {vs : List β}, Paired (fun p q => p.1 = f q ∧ CstV p.2 (g q)) kvs vs → ∀ k, (look kvs k = none ∧ (vs.find? fun q => decide (f q = k)) = none) ∨ ∃ d q, look kvs k = some d ∧ (vs.find? fun q => decide (f q = k)) = some q ∧ CstV d (g q)
  | [], _, .nil, k => .inl ⟨rfl, rfl⟩
  | (k0, d) :: r, q :: vs, .cons h t, k => by
    obtain ⟨h1, h2⟩ := h
    have h1 : k0 = f q := h1
    by_cases e : k0 = k
    · refine .inr ⟨d, q, ?_, ?_, h2⟩
      · show ((((k0, d) :: r).find? fun kv => decide (kv.1 = k)).map (·.2)) = some d
        rw [List.find?_cons_of_pos (by simpa using e)]
        rfl
      · rw [List.find?_cons_of_pos (by rw [← h1]; simpa using e)]
    · have e1 : look ((k0, d) :: r) k = look r k := by
        show ((((k0, d) :: r).find? fun kv => decide (kv.1 = k)).map (·.2)) = (r.find? fun kv => decide (kv.1 = k)).map (·.2)
        rw [List.find?_cons_of_neg (by simpa using e)]
      have e2 : ((q :: vs).find? fun q => decide (f q = k)) = (vs.find? fun q => decide (f q = k)) := by rw [List.find?_cons_of_neg (by rw [← h1]; simpa using e)]
      rw [e1, e2]
      exact look_pairs t k
end
section
variable {P : Prog} {n : Nat} {N : List Str} {adr : Str → Addr} {X : Cx} {W : WX} {sc : Scope}
/-- what is wanted of a look into it -/
def rTab (P : Prog) (K : PySem.W.Frag) (x : Str) (d0 : D) (v0 : V) : V → Hp → VK → Prop := fun y H Q => ∃ (w : Wd) (S : Sto) (d : D) (W : WX) (σ : L2.St), Sim K w H S ∧ Rep K w H d y ∧ Rep K w H d0 v0 ∧ Post K (Rep K) W σ w H (optD S (tabAt (P.tabs.lookup x) d d0)) Q
theorem tab_at {x : Str} (G : Good P n N adr X W) {t : Tab} (ht : P.tabs.lookup x = some t) : ∃ a, X.mg x = some (.ref a) ∧ ∀ {pins : List (Addr × Obj)} {s : Shared} {σ : L2.St} {H : Hp}, Inv X pins σ H s →
    (s.TypeIs (.ref a) "dict" ∧ ∀ b, Value.ref a = .ref b → ∃ ob, s.heap.get? b = some ob ∧ ob.dict = none) ∧
    ∀ (Q : VK) (y : V) (u : Value) (d0 : D) (v0 : V), RelV y u → rTab P X.K x d0 v0 y H Q →
      (v0 = .non → wpAny (model X.prog X.w) X.A (call (.builtin "dict.get") [.ref a, u]) (EP X pins σ Q) X.xe s) ∧
      (∀ r, RelV v0 r → wpAny (model X.prog X.w) X.A (call (.builtin "dict.get") [.ref a, u, r]) (EP X pins σ Q) X.xe s) := by
  have T := G.tabs x t ht
  have hu : X.A.units + 1 < cLine := by have := G.un; omega
  cases t with
  | k kvs =>
    obtain ⟨a, hm, hd, hK⟩ := T
    refine ⟨a, hm, fun {pins s σ H} I => ?_⟩
    obtain ⟨vs, dd, pr⟩ := hK _ I.kIn
    refine ⟨⟨dd.typeIs, fun b q => ?_⟩, fun Q y u d0 v0 ry h => ?_⟩
    · cases q
      obtain ⟨ob, _, _, h1, h2, _⟩ := dd
      exact ⟨ob, h1, h2.2.1⟩
    · obtain ⟨w, S, d, W', σ', sm, rd, r0, hp⟩ := h
      rw [ht] at hp
      obtain ⟨k, hk, kont⟩ := post_map hp
      rw [key_v rd hk] at ry
      have res : ∃ z, (∀ r, RelV v0 r → RelV z ((valueAt vs k).getD r)) ∧ Q z H := by
        rcases look_pairs pr k with ⟨e1, e2⟩ | ⟨dz, q, e1, e2, z, c1, c2⟩
        · rw [e1] at kont
          have e3 : valueAt vs k = none := by
            unfold valueAt
            rw [e2]
            rfl
          rw [e3]
          exact ⟨v0, fun r hr => hr, kont _ H w (Le.refl _ _) rfl sm r0⟩
        · rw [e1] at kont
          have e3 : valueAt vs k = some q.2 := by
            unfold valueAt
            rw [e2]
            rfl
          rw [e3]
          exact ⟨z, fun r _ => c1, kont _ H w (Le.refl _ _) rfl sm (c2 _ _ _)⟩
      obtain ⟨z, hz, hq⟩ := res
      refine ⟨fun e0 => ?_, fun r hr => ?_⟩
      · subst e0
        exact call_meetsIn PySem.F.slot_dict_get dd.typeIs PySem.F.entry_dict_get (PySem.F.args_dict_get_2 _ _) (meets_dict_get (mixKind X.prog X.w) a (kV_is ry) hd) ⟨_, dd.mapOf, z, H, I.tok _, hz .none rfl, hq⟩
      · exact call_meetsIn PySem.F.slot_dict_get dd.typeIs PySem.F.entry_dict_get (PySem.F.args_dict_get_3 _ _ _) (meets_dict_get_default (mixKind X.prog X.w) a (kV_is ry) hd r) ⟨_, dd.mapOf, z, H, I.tok _, hz r hr, hq⟩
  | t kvs =>
    obtain ⟨a, hm, hd, hK⟩ := T
    refine ⟨a, hm, fun {pins s σ H} I => ?_⟩
    obtain ⟨xs, dd, pr⟩ := hK _ I.kIn
    refine ⟨⟨dd.typeIs, fun b q => ?_⟩, fun Q y u d0 v0 ry h => ?_⟩
    · cases q
      obtain ⟨ob, _, _, h1, h2, _⟩ := dd
      exact ⟨ob, h1, h2.2.1⟩
    · obtain ⟨w, S, d, W', σ', sm, rd, r0, hp⟩ := h
      rw [ht] at hp
      obtain ⟨k, hk, kont⟩ := post_map hp
      obtain ⟨b, rfl, hb⟩ := tkey_v rd hk
      cases (show u = Value.ref b from ry)
      have res : ∃ z, (∀ r, RelV v0 r → RelV z (((atKey xs k).map (·.2)).getD r)) ∧ Q z H := by
        rcases look_pairs pr k with ⟨e1, e2⟩ | ⟨dz, q, e1, e2, z, c1, c2⟩
        · rw [e1] at kont
          have e3 : (atKey xs k).map (·.2) = none := by
            unfold atKey
            rw [e2]
            rfl
          rw [e3]
          exact ⟨v0, fun r hr => hr, kont _ H w (Le.refl _ _) rfl sm r0⟩
        · rw [e1] at kont
          have e3 : (atKey xs k).map (·.2) = some q.2.2 := by
            unfold atKey
            rw [e2]
            rfl
          rw [e3]
          exact ⟨z, fun r _ => c1, kont _ H w (Le.refl _ _) rfl sm (c2 _ _ _)⟩
      obtain ⟨z, hz, hq⟩ := res
      refine ⟨fun e0 => ?_, fun r hr => ?_⟩
      · subst e0
        exact call_meetsIn PySem.F.slot_dict_get dd.typeIs PySem.F.entry_dict_get (PySem.F.args_dict_get_2 _ _) (meetsH_dict_get (tupleKind (mixKind X.prog X.w)) a b hd) ⟨tupleKind_room_in1 hu, k, xs, key_of I.hok hb, dd, z, H, I.tok _, hz .none rfl, hq⟩
      · exact call_meetsIn PySem.F.slot_dict_get dd.typeIs PySem.F.entry_dict_get (PySem.F.args_dict_get_3 _ _ _) (meetsH_dict_get_default (tupleKind (mixKind X.prog X.w)) a b hd r) ⟨tupleKind_room_in1 hu, k, xs, key_of I.hok hb, dd, z, H, I.tok _, hz r hr, hq⟩
theorem tab_pe {x : Str} {d0 : D} {v0 : V} {a : Ex} {y : Expr} {more : List Expr} {ms : List V} {p apos pos : Pos} (G : Good P n N adr X W) (hs : ScOk sc X) (hg : glB sc x = true) (hl : (apos.endLine == pos.line) = true) (hx : (P.tabs.lookup x).isSome = true) {cs : Exs} (hc : chkEs P N cs sc (y :: more) = true) (hf : more.length < 28)
    (ha : PA X (y :: more) (tCons (rE P n X W a) fun σ H Q => Q ms H)) (hd : ∀ w H, Rep X.K w H d0 v0) (hm : (ms = [] ∧ v0 = .non) ∨ ms = [v0]) :
    PE X (.Call (.Attribute (.Name x p) ("get" : Str) apos) (y :: more) [] pos) (rE P n X W (.tget x a d0)) := by
  cases ht : P.tabs.lookup x with
  | none =>
    rw [ht] at hx
    cases hx
  | some t =>
    obtain ⟨h1, h2, h3⟩ := gl_of hg
    cases cs with
    | nil => simp [chkEs] at hc
    | cons c cs =>
      have hc' := hc
      unfold chkEs at hc'
      obtain ⟨c1, c2⟩ := Bool.and_eq_true_iff.mp hc'
      obtain ⟨ad, hm2, hT⟩ := tab_at G ht
      refine ⟨fun pins s σ H Q I h => ?_⟩
      have few : ((backTo pos (starEach (y :: more) X.env)).all (fun x => !x.1) && (backToKw pos (keywordEach [] X.env)).all (fun x => x.1.isSome) && decide ((y :: more).length + ([] : List Keyword).length + (if ([] : List Keyword).isEmpty then 0 else 1) < 30)) = true := by
        rw [stars_all X.env pos hc]
        show (true && (true && decide ((y :: more).length + 0 + 0 < 30))) = true
        rw [decide_eq_true (by rw [List.length_cons]; omega)]; rfl
      refine wpAny_Call_method_late (base_of (x := .Name x p) rfl _ _ _) few hl rfl (ld_glob I (hs.gl h1) hm2 ?_ h2)
      obtain ⟨ty, nd⟩ := (hT I).1
      refine ⟨"dict", "dict.get", PySem.F.plainAttrs_dict, PySem.F.slot_dict_get, PySem.F.type_dict_get, ty, nd, ?_⟩
      obtain ⟨e, S, w, A, q⟩ := h
      unfold eval at q
      have hA := ha.run pos pins s σ H (fun vs H => ∃ z, vs = z :: ms ∧ rTab P X.K x d0 v0 z H Q) I (rdE_of A q fun d S1 v H1 w1 l1 p1 A1 r1 q1 => ⟨v, rfl, w1, S1, d, W, σ, A1.sim, r1, hd w1 H1, q1⟩)
      rw [star_of c1 more X.env] at hA ⊢
      refine Calls.callWith_builtin (by show (false || (backTo pos (starEach more X.env)).any (·.1)) = false; rw [stars_any X.env pos c2] <;> rfl) (Calls.evalArgs_plain ?_)
      refine thn hA fun us s2 ⟨vs, H2, I2, r2, z, e2, q2⟩ => ?_
      subst e2
      rcases hm with ⟨rfl, rfl⟩ | rfl
      · obtain ⟨u, rfl, ru⟩ := vals1 r2
        exact (((hT I2).2 Q z u d0 .non ru q2).1) rfl
      · obtain ⟨u, u2, rfl, ru, ru2⟩ := vals2 r2
        exact (((hT I2).2 Q z u d0 v0 ru q2).2) u2 ru2
theorem t_tget1 {x : Str} {a : Ex} {y : Expr} {p apos pos : Pos} {d : D} (G : Good P n N adr X W) (hs : ScOk sc X) (hg : glB sc x = true) (hl : (apos.endLine == pos.line) = true) (hx : (P.tabs.lookup x).isSome = true) (hd : isNonB d = true) (hc : chkE P N a sc y = true) (ha : PE X y (rE P n X W a)) :
    PE X (.Call (.Attribute (.Name x p) ("get" : Str) apos) [y] [] pos) (rE P n X W (.tget x a d)) := by
  cases d <;> cases hd
  refine tab_pe (v0 := .non) (ms := []) (cs := .cons a .nil) G hs hg hl hx ?_ (by decide) (pa_cons ha (PA.imp pa_nil fun _ _ _ h => h) (star_of hc _ _)) (fun _ _ => mk_non) (.inl ⟨rfl, rfl⟩)
  unfold chkEs
  rw [hc]
  rfl
theorem t_tget2 {x : Str} {a : Ex} {y z : Expr} {p apos pos : Pos} {d : D} (G : Good P n N adr X W) (hs : ScOk sc X) (hg : glB sc x = true) (hl : (apos.endLine == pos.line) = true) (hx : (P.tabs.lookup x).isSome = true) (hd : intB d z = true) (hc : chkE P N a sc y = true) (ha : PE X y (rE P n X W a)) :
    PE X (.Call (.Attribute (.Name x p) ("get" : Str) apos) [y, z] [] pos) (rE P n X W (.tget x a d)) := by
  cases d with
  | int i =>
    cases z with
    | Constant c k q =>
      cases c with
      | int j =>
        have e : i = j := of_decide_eq_true (show decide (i = j) = true from hd)
        subst e
        refine tab_pe (v0 := .int i) (ms := [.int i]) (cs := .cons a (.cons (.int i) .nil)) G hs hg hl hx ?_ (by simp) (pa_cons ha (PA.imp (pa_cons pe_int pa_nil) fun _ _ _ h => h) (star_of hc _ _)) (fun _ _ => mk_int) (.inr rfl)
        unfold chkEs
        rw [hc]
        simp [chkEs, chkE]
      | _ => cases hd
    | _ => cases hd
  | _ => cases z <;> cases hd
theorem t_lrng {a b : Ex} {y z : Expr} {p1 p2 pos1 pos2 : Pos} (G : Good P n N adr X W) (hs : ScOk sc X) (hg : glB sc ("list" : Str) = true) (hr : glB sc ("range" : Str) = true) (hc1 : chkE P N a sc y = true) (hc2 : chkE P N b sc z = true) (ha : PE X y (rE P n X W a)) (hb : PE X z (rE P n X W b)) :
    PE X (.Call (.Name ("list" : Str) p1) [.Call (.Name ("range" : Str) p2) [y, z] [] pos2] [] pos1) (rE P n X W (.lrng a b)) := by
  obtain ⟨h1, h2, h3⟩ := gl_of hg
  obtain ⟨k1, k2, k3⟩ := gl_of hr
  have m1 : X.mg ("list" : Str) = none := G.kn.bn _ (by decide +kernel)
  have m2 : X.mg ("range" : Str) = none := G.kn.bn _ (by decide +kernel)
  refine PE.imp (pe_listRg G.calm (hs.gl h1) m1 (prg_2 (hs.gl k1) m2 ha hb (star_of hc1 _ _) (star_of hc2 _ _) (by rw [star_of hc2 _ _]; rfl))) fun σ H Q q => ?_
  obtain ⟨e, S, w, A, q⟩ := q
  unfold eval at q
  refine rdE_of A q fun d S1 v H1 w1 l1 p1 A1 r1 q1 => rdE_of A1 q1 fun d2 S2 v2 H2 w2 l2 p2 A2 r2 q2 => ?_
  cases d <;> try exact q2.elim
  cases d2 <;> try exact q2.elim
  rename_i i j
  have q2 : Post X.K (Rep X.K) W σ w2 H2 (if (-(2 ^ 62) ≤ i ∧ i < 2 ^ 62 ∧ -(2 ^ 62) ≤ j ∧ j < 2 ^ 62 ∧ (j - i).toNat ≤ 2 ^ 24) then .ok (.lst (rngD i (j - i).toNat)) S2 else .bad) Q := q2
  split at q2
  · rename_i hz
    refine ⟨i, j, rep_int r1, rep_int r2, hz, fun q hn => ?_⟩
    refine q2 _ _ w2 (le_new hn _) rfl (A2.sim.new hn _) (newLst A2.sim hn ?_)
    have z := Reps.map (K := X.K) (w := w2) (H := H2) D.int V.int (fun _ => mk_int) ((List.range (j - i).toNat).map fun (k : Nat) => i + (k : Int))
    rw [List.map_map, List.map_map] at z
    exact z
  · exact q2.elim
/-- is it the empty one? -/
def rIsE (neg : Bool) : R2 := fun x y H Q => ∃ a b vs, x = .ref a ∧ y = .ref b ∧ H a = some (.dK vs) ∧ H b = some (.dK []) ∧ Q (.bl (neg != vs.isEmpty)) H
theorem op_isE (hu : X.A.units < cLine) (neg : Bool) : OpR X (compareOp (if neg = true then CmpOp.NotEq else .Eq)) (rIsE neg) := by
  intro pins s σ H x y v u Q I rx ry h
  obtain ⟨a, b, ks, rfl, rfl, ea, eb, q⟩ := h
  obtain rfl : v = Value.ref a := rx
  obtain rfl : u = Value.ref b := ry
  obtain ⟨_, ya, va, ra, da⟩ := dk_of I.hok ea
  obtain ⟨_, yb, vb, rb, db⟩ := dk_of I.hok eb
  have lb : vb = [] := by
    cases rb
    rfl
  subst lb
  have la := ra.length
  cases neg with
  | true =>
    refine PySem.W.keq_ne (knd := mixKind X.prog X.w) (r := true) ya yb da db hu (fun z => ?_) (fin_bl I q ?_)
    · cases va with
      | nil => exact .nil
      | cons _ _ => cases z
    · cases ks <;> cases va <;> first | rfl | cases la
  | false =>
    refine PySem.W.keq_eq (knd := mixKind X.prog X.w) (r := true) ya yb da db hu (fun z => ?_) (fin_bl I q ?_)
    · cases va with
      | nil => exact .nil
      | cons _ _ => cases z
    · cases ks <;> cases va <;> first | rfl | cases la
theorem i_isE {neg : Bool} {a : Ex} {σ : L2.St} {H : Hp} {Q : VK} (q : rE P n X W (.isE neg a) σ H Q) : tOp (rIsE neg) (rE P n X W a) tDNewK σ H Q := by
  obtain ⟨e, S, w, A, q⟩ := q
  unfold eval at q
  refine rdE_of A q fun d S1 v H1 w1 l1 p1 A1 r1 q1 => ?_
  cases d <;> try exact q1.elim
  rename_i k
  have q1 : Post X.K (Rep X.K) W σ w1 H1 (match S1[k]? with
      | some (.dk kvs) => .ok (.bl (neg != kvs.isEmpty)) S1
      | _ => .bad) Q := q1
  split at q1
  · rename_i kvs hk
    obtain ⟨vs, rfl, hH, kv⟩ := tab_dk A1.sim r1 hk
    intro b hb
    have hne : w1.at_ k ≠ b := fun z => by rw [z, hb] at hH; cases hH
    refine ⟨w1.at_ k, b, vs, rfl, rfl, by rw [upd_ne hne]; exact hH, upd_same, ?_⟩
    have em : kvs.isEmpty = vs.isEmpty := by
      cases kvs with
      | nil =>
        have : vs = [] := kv
        rw [this]
        rfl
      | cons p r =>
        obtain ⟨v, r', e1, _, _⟩ := kv
        rw [e1]
        rfl
    rw [← em]
    exact q1 _ _ w1 (le_new hb _) rfl (A1.sim.new hb _) mk_bl
  · exact q1.elim
theorem bl_isE {neg : Bool} {a : Ex} (e : En) (S : Sto) (d : D) (S1 : Sto) (h : eval P (run P n) (.isE neg a) e S = .ok d S1) : ∃ b, d = .bl b := by
  unfold eval at h
  obtain ⟨d0, S2, _, h⟩ := bind_ok h
  cases d0 <;> try cases h
  rename_i k _
  have h : (match S2[k]? with
      | some (.dk kvs) => Out.ok (D.bl (neg != kvs.isEmpty)) S2
      | _ => Out.bad) = Out.ok d S1 := h
  split at h <;> cases h
  exact ⟨_, rfl⟩
theorem t_isE {neg : Bool} {a : Ex} {l : Expr} {p1 p2 : Pos} (G : Good P n N adr X W) (ha : PE X l (rE P n X W a)) : PE X (.Compare l [if neg = true then CmpOp.NotEq else .Eq] [.Dict [] [] p1] p2) (rE P n X W (.isE neg a)) :=
  PE.imp (pe_cmpR (op_isE (by have := G.un; omega) neg) ha pe_dnewK (by cases neg <;> rfl)) fun _ _ _ q => i_isE q
theorem t_isET {neg : Bool} {a : Ex} {l : Expr} {p1 p2 : Pos} (G : Good P n N adr X W) (ha : PE X l (rE P n X W a)) : PT X (.Compare l [if neg = true then CmpOp.NotEq else .Eq] [.Dict [] [] p1] p2) (rT P n X W (.isE neg a)) :=
  PT.imp (pt_cmpR (op_isE (by have := G.un; omega) neg) ha pe_dnewK (by cases neg <;> rfl)) fun _ _ _ q => i_isE (t_bl bl_isE q)
end
end Z


/-! Z: what stands though things of one's own change. -/
namespace Z
open PySem L2
/-- what is no store's and nobody's own stands -/
structure Tr (w w' : Wd) (H H' : Hp) : Prop where
  N : w.N ≤ w'.N
  at_ : ∀ n, n < w.N → w'.at_ n = w.at_ n
  keep : ∀ a o, ¬ Im w a → ¬ w.P a → H a = some o → H' a = some o ∧ ¬ Im w' a ∧ ¬ w'.P a
section
variable {K : PySem.W.Frag} {w w' : Wd} {H H' : Hp}
theorem TupAt.tr (t : Tr w w' H H') {a : Addr} {vs : List V} (h : TupAt w H a vs) : TupAt w' H' a vs := t.keep a _ h.2.1 h.2.2 h.1
theorem LstAt.tr (t : Tr w w' H H') {a : Addr} {vs : List V} (h : LstAt K w H a vs) : LstAt K w' H' a vs := by
  rcases h with ⟨h, n, p⟩ | h
  · rcases h with h | ⟨o, h⟩
    · obtain ⟨h1, h2, h3⟩ := t.keep a _ n p h
      exact .inl ⟨.inl h1, h2, h3⟩
    · obtain ⟨h1, h2, h3⟩ := t.keep a _ n p h
      exact .inl ⟨.inr ⟨o, h1⟩, h2, h3⟩
  · exact .inr h
mutual
theorem Rep.tr (t : Tr w w' H H') : ∀ (d : D) {v : V}, Rep K w H d v → Rep K w' H' d v
  | .non, _, h => h
  | .bl _, _, h => h
  | .int _, _, h => h
  | .str _, _, h => h
  | .tup xs, v, h => by
    unfold Rep at h ⊢
    obtain ⟨a, vs, e, q, r⟩ := h
    exact ⟨a, vs, e, q.tr t, Reps.tr t xs r⟩
  | .lst xs, v, h => by
    unfold Rep at h ⊢
    obtain ⟨a, vs, e, q, r⟩ := h
    exact ⟨a, vs, e, q.tr t, Reps.tr t xs r⟩
  | .ref n, v, h => by
    unfold Rep at h ⊢
    exact ⟨Nat.lt_of_lt_of_le h.1 t.N, by rw [t.at_ n h.1]; exact h.2⟩
  | .ctup xs, v, h => by
    unfold Rep at h ⊢
    obtain ⟨a, vs, e, q, r⟩ := h
    exact ⟨a, vs, e, q, Reps.tr t xs r⟩
theorem Reps.tr (t : Tr w w' H H') : ∀ (xs : List D) {vs : List V}, Reps K w H xs vs → Reps K w' H' xs vs
  | [], _, h => h
  | x :: xs, vs, h => by
    unfold Reps at h ⊢
    obtain ⟨v, r, e, h1, h2⟩ := h
    exact ⟨v, r, e, Rep.tr t x h1, Reps.tr t xs h2⟩
end
theorem Kvs.tr {κ : Type} (t : Tr w w' H H') : ∀ {xs : List (κ × D)} {vs : List (κ × V)}, Kvs K w H xs vs → Kvs K w' H' xs vs
  | [], _, h => h
  | (k, x) :: xs, _, h => by
    obtain ⟨v, r, e, h1, h2⟩ := h
    exact ⟨v, r, e, Rep.tr t x h1, Kvs.tr t h2⟩
theorem Img.tr (t : Tr w w' H H') : ∀ {o : Ob} {u : HO}, Img K w H o u → Img K w' H' o u
  | .lst xs, _, ⟨vs, e, h⟩ => ⟨vs, e, Reps.tr t xs h⟩
  | .dk kvs, _, ⟨vs, e, h⟩ => ⟨vs, e, Kvs.tr t h⟩
  | .dt kvs, _, ⟨vs, e, h⟩ => ⟨vs, e, Kvs.tr t h⟩
  | .ins C fs, _, ⟨dx, vs, e, h⟩ => ⟨dx, vs, e, Kvs.tr t h⟩
  | .frz o, _, ⟨ob, u', e, h⟩ => ⟨ob, u', e, Img.tr t h⟩
end
/-- from one moment to a later one, things of one's own apart -/
structure LW (w w' : Wd) (H H' : Hp) : Prop where
  tr : Tr w w' H H'
  frz : ∀ a o u, H a = some (.frz o u) → H' a = some (.frz o u)
section
variable {w w1 w2 : Wd} {H H1 H2 : Hp}
theorem Le.tr (l : Le w w1 H H1) : Tr w w1 H H1 := ⟨l.N, l.at_, fun a o n p e => ⟨l.keep a o n e, l.im e n, fun q => (l.P a q).elim p fun z => by rw [e] at z; cases z⟩⟩
theorem Le.lw (l : Le w w1 H H1) : LW w w1 H H1 := ⟨l.tr, l.frz⟩
theorem LW.refl : LW w w H H := ⟨⟨Nat.le_refl _, fun _ _ => rfl, fun _ _ n p e => ⟨e, n, p⟩⟩, fun _ _ _ e => e⟩
theorem LW.trans (a : LW w w1 H H1) (b : LW w1 w2 H1 H2) : LW w w2 H H2 := ⟨⟨Nat.le_trans a.tr.N b.tr.N, fun n h => (b.tr.at_ n (Nat.lt_of_lt_of_le h a.tr.N)).trans (a.tr.at_ n h), fun c o n p e => by
  obtain ⟨h1, h2, h3⟩ := a.tr.keep c o n p e
  exact b.tr.keep c o h2 h3 h1⟩, fun c o u e => b.frz c o u (a.frz c o u e)⟩
end
end Z


/-! Z: zip of two things, each a list or a tuple. -/
namespace Z
open PySem PySem.Spec PyProof.Rows L2
/-- a list (false) or a tuple (true) of the real heap -/
def SqP (tp : Bool) (h : Heap) (l : Addr) (xs : Array Value) : Prop := match tp with
  | true => h.IsTuple l xs
  | false => h.IsList l xs
def ItP (tp : Bool) (h : Heap) (it l : Addr) (k : Nat) : Prop := match tp with
  | true => h.IsTupleIter it l k
  | false => h.IsListIter it l k
theorem SqP.ext {tp : Bool} {h h' : Heap} {l b : Addr} {xs : Array Value} (q : SqP tp h l xs) (k : Heap.ExtBut b h h') (n : l ≠ b) : SqP tp h' l xs := by
  cases tp
  · exact Heap.IsList.extBut q k n
  · exact Heap.IsTuple.extBut q k n
theorem ItP.ext {tp : Bool} {h h' : Heap} {i l b : Addr} {k : Nat} (q : ItP tp h i l k) (e : Heap.ExtBut b h h') (n : i ≠ b) : ItP tp h' i l k := by
  cases tp
  · exact Heap.IsListIter.extBut q e n
  · exact Heap.IsTupleIter.extBut q e n
theorem ItP.to {tp : Bool} {h h' : Heap} {i l : Addr} {k : Nat} (q : ItP tp h i l k) (e : ∀ o, h.get? i = some o → h'.get? i = some o) : ItP tp h' i l k := by
  cases tp
  · exact Heap.IsListIter.at q e
  · exact Heap.IsTupleIter.at q e
theorem ItP.obj {tp : Bool} {h : Heap} {i l : Addr} {k : Nat} (q : ItP tp h i l k) : ∃ o, h.get? i = some o ∧ ∀ v, o.data ≠ .cell v := by
  cases tp
  · obtain ⟨o, a, _, d⟩ := q
    exact ⟨o, a, fun v e => by rw [d] at e; cases e⟩
  · obtain ⟨o, a, _, d⟩ := q
    exact ⟨o, a, fun v e => by rw [d] at e; cases e⟩
section
variable {prog : Program} {w : World} {A : Around} {E : Value → Shared → Prop} {s : Shared} {t1 t2 : Bool}
theorem nx_item {tp : Bool} {i l : Addr} {k : Nat} {xs : Array Value} {x : Value} {Q : Value → Shared → Prop} (p : ItP tp s.heap i l k) (q : SqP tp s.heap l xs) (hx : xs[k]? = some x)
    (c : ∀ h', ItP tp h' i l (k + 1) → Heap.SameBut i s.heap h' → Q x { s with heap := h' }) : wpAny (model prog w) A (Builtin.SmallTypes.nextOf (.ref i)) Q E s := by
  cases tp
  · exact wpAny_nextOf_list_item p q hx c
  · exact RZ.nextOf_tuple_item p q hx c
theorem nx_end {tp : Bool} {i l : Addr} {k : Nat} {xs : Array Value} {Q : Value → Shared → Prop} (hh : A.handled = none) (p : ItP tp s.heap i l k) (q : SqP tp s.heap l xs) (hx : xs[k]? = none)
    (c : ∀ h' e, Heap.ExtBut i s.heap h' → (∃ o, h'.get? e = some o ∧ o.cls = .type "StopIteration") → E (.ref e) { s with heap := h' }) : wpAny (model prog w) A (Builtin.SmallTypes.nextOf (.ref i)) Q E s := by
  cases tp
  · exact wpAny_nextOf_list_end hh p q hx c
  · exact RZ.nextOf_tuple_end hh p q hx c
theorem zp_item {z I O i j l m : Addr} {k k' : Nat} {xs ys : Array Value} {x y a b : Value} {Q : Value → Shared → Prop} (D : ZipApart z I O i j l m)
    (z0 : IsZip s.heap z I O .none) (p0 : IsPair s.heap I (.ref i) (.ref j)) (o0 : IsPair s.heap O a b) (u : ItP t1 s.heap i l k) (v : ItP t2 s.heap j m k') (su : SqP t1 s.heap l xs) (sv : SqP t2 s.heap m ys) (ex : xs[k]? = some x) (ey : ys[k']? = some y)
    (c : ∀ h', IsZip h' z I O (rawInt s.heap.objs.size) → IsPair h' O x y → ItP t1 h' i l (k + 1) → ItP t2 h' j m (k' + 1) → IsPair h' s.heap.objs.size x y → h'.objs.size = s.heap.objs.size + 1 →
      (∀ c o, c ≠ z → c ≠ O → c ≠ i → c ≠ j → s.heap.get? c = some o → h'.get? c = some o) → Q (.ref s.heap.objs.size) { s with heap := h' }) :
    wpAny (model prog w) A (Builtin.«zip.__next__» ⟨[.ref z], []⟩) (fun fin s' => ∃ v, fin = .done (.ret v) ∧ Q v s') E s := by
  show wpAny _ _ (field (.ref z) 2 >>= _) _ _ _; refine wpAny_bind (wpAny_field z0 rfl (x := .bool false) rfl ?_)
  show wpAny _ _ (field (.ref z) 3 >>= _) _ _ _; refine wpAny_bind (wpAny_field z0 rfl (x := .ref I) rfl ?_)
  refine wpAny_bind (wpAny_seqItems p0 rfl ?_); show wpAny _ _ (Builtin.SmallTypes.ownedTupleIsFree (.ref z) >>= _) _ _ _
  refine wpAny_bind ?_; unfold Builtin.SmallTypes.ownedTupleIsFree
  refine wpAny_bind (wpAny_field z0 rfl (x := .none) rfl (wpAny_pure ?_)); simp only [if_true]
  refine wpAny_bind (wpAny_rule ?_); refine wpAny_bind (wpAny_field z0 rfl (x := .ref O) rfl ?_)
  refine wpAny_bind (wpAny_setField_rec z0 (by simp) fun g1 z1 s1 => ?_)
  have z1 : IsZip g1 z I O .ellipsis := z1
  refine wpAny_bind ?_; simp only [List.forIn_cons, List.forIn_nil, List.zipIdx_cons, List.zipIdx_nil]
  refine wpAny_bind (wpAny_bind (wpAny_onRaise ?_)); show wpAny _ _ (Builtin.SmallTypes.nextOf (.ref i) >>= _) _ _ _
  refine wpAny_bind (nx_item (u.ext s1.extBut D.i1z) (su.ext s1.extBut D.l1z) ex fun g2 u2 s2 => wpAny_pure ?_)
  have o2 : IsPair g2 O a b := s2.extBut _ _ D.TOi1 (s1.extBut _ _ D.TOz o0)
  refine wpAny_bind (wpAny_seqItems o2 rfl ?_); refine wpAny_bind (wpAny_updateSeq_pair o2 fun g3 o3 s3 => ?_)
  have o3 : IsPair g3 O x b := o3
  refine wpAny_bind (wpAny_letGo (wpAny_pure ?_)); refine wpAny_bind (wpAny_bind (wpAny_onRaise ?_))
  show wpAny _ _ (Builtin.SmallTypes.nextOf (.ref j) >>= _) _ _ _
  refine wpAny_bind (nx_item (((v.ext s1.extBut D.i2z).ext s2.extBut D.i12.symm).ext s3.extBut D.TOi2.symm) (((sv.ext s1.extBut D.l2z).ext s2.extBut D.l2i1).ext s3.extBut D.l2TO) ey fun g4 v4 s4 => wpAny_pure ?_)
  have o4 : IsPair g4 O x b := s4.extBut _ _ D.TOi2 o3
  refine wpAny_bind (wpAny_seqItems o4 rfl ?_); refine wpAny_bind (wpAny_updateSeq_pair o4 fun g5 o5 s5 => ?_)
  have o5 : IsPair g5 O x y := o5
  refine wpAny_bind (wpAny_letGo (wpAny_pure (wpAny_pure ?_))); refine wpAny_bind (wpAny_seqItems o5 rfl ?_); refine wpAny_bind (wpAny_newTuple ?_)
  have hs : g5.objs.size = s.heap.objs.size := by rw [s5.1, s4.1, s3.1, s2.1, s1.1]
  have z5 : IsZip g5 z I O .ellipsis := s5.extBut _ _ D.TOz.symm (s4.extBut _ _ D.i2z.symm (s3.extBut _ _ D.TOz.symm (s2.extBut _ _ D.i1z.symm z1)))
  have k5 : ∀ c o, c ≠ z → c ≠ O → c ≠ i → c ≠ j → s.heap.get? c = some o → g5.get? c = some o := fun c o n1 n2 n3 n4 e => s5.extBut _ _ n2 (s4.extBut _ _ n4 (s3.extBut _ _ n2 (s2.extBut _ _ n3 (s1.extBut _ _ n1 e))))
  have u5 : ItP t1 g5 i l (k + 1) := ((u2.ext s3.extBut D.TOi1.symm).ext s4.extBut D.i12).ext s5.extBut D.TOi1.symm
  have v5 : ItP t2 g5 j m (k' + 1) := v4.ext s5.extBut D.TOi2.symm
  have zl : z < g5.objs.size := Heap.lt_size z5
  show wpAny _ _ (Builtin.SmallTypes.ownedTupleHandOut (.ref z) (.ref g5.objs.size) >>= _) _ _ _
  refine wpAny_bind ?_; unfold Builtin.SmallTypes.ownedTupleHandOut
  have z6 : IsZip (g5.push { cls := .type "tuple", data := .seq #[x, y] }) z I O .ellipsis := Heap.get?_push_of_some _ z5
  refine wpAny_bind (wpAny_setField_rec z6 (by simp) fun g7 z7 s7 => ?_)
  have z7 : IsZip g7 z I O (rawInt g5.objs.size) := z7
  refine wpAny_setField_rec z7 (by simp) fun g8 z8 s8 => ?_
  have z8 : IsZip g8 z I O (rawInt g5.objs.size) := z8
  have up : ∀ c o, c ≠ z → g5.get? c = some o → g8.get? c = some o := fun c o n e => s8.extBut _ _ n (s7.extBut _ _ n (Heap.get?_push_of_some _ e))
  have T8 : IsPair g8 g5.objs.size x y := s8.extBut _ _ (Nat.ne_of_gt zl) (s7.extBut _ _ (Nat.ne_of_gt zl) (Heap.get?_push_size _ rfl))
  have e8 : g8.objs.size = g5.objs.size + 1 := by rw [s8.1, s7.1, Heap.size_push]
  rw [hs] at z8 T8 e8
  refine wpAny_pure ⟨_, rfl, ?_⟩
  show Q (.ref g5.objs.size) _
  rw [hs]
  exact c g8 z8 (up _ _ D.TOz o5) (u5.to fun o e => up _ o D.i1z e) (v5.to fun o e => up _ o D.i2z e) T8 e8 fun c o n1 n2 n3 n4 e => up c o n1 (k5 c o n1 n2 n3 n4 e)
theorem zp_end {z I O i j l m : Addr} {k k' : Nat} {xs ys : Array Value} {a b : Value} {Q : Fin → Shared → Prop} (hh : A.handled = none) (D : ZipApart z I O i j l m)
    (z0 : IsZip s.heap z I O .none) (p0 : IsPair s.heap I (.ref i) (.ref j)) (o0 : IsPair s.heap O a b) (u : ItP t1 s.heap i l k) (v : ItP t2 s.heap j m k') (su : SqP t1 s.heap l xs) (sv : SqP t2 s.heap m ys) (en : xs[k]? = none ∨ ys[k']? = none)
    (c : ∀ h' e, (∀ c o, c ≠ z → c ≠ O → c ≠ i → c ≠ j → s.heap.get? c = some o → h'.get? c = some o) → (∃ o, h'.get? e = some o ∧ o.cls = .type "StopIteration") → E (.ref e) { s with heap := h' }) :
    wpAny (model prog w) A (Builtin.«zip.__next__» ⟨[.ref z], []⟩) Q E s := by
  show wpAny _ _ (field (.ref z) 2 >>= _) _ _ _; refine wpAny_bind (wpAny_field z0 rfl (x := .bool false) rfl ?_)
  show wpAny _ _ (field (.ref z) 3 >>= _) _ _ _; refine wpAny_bind (wpAny_field z0 rfl (x := .ref I) rfl ?_)
  refine wpAny_bind (wpAny_seqItems p0 rfl ?_); show wpAny _ _ (Builtin.SmallTypes.ownedTupleIsFree (.ref z) >>= _) _ _ _
  refine wpAny_bind ?_; unfold Builtin.SmallTypes.ownedTupleIsFree
  refine wpAny_bind (wpAny_field z0 rfl (x := .none) rfl (wpAny_pure ?_)); simp only [if_true]
  refine wpAny_bind (wpAny_rule ?_); refine wpAny_bind (wpAny_field z0 rfl (x := .ref O) rfl ?_)
  refine wpAny_bind (wpAny_setField_rec z0 (by simp) fun g1 z1 s1 => ?_)
  have z1 : IsZip g1 z I O .ellipsis := z1
  refine wpAny_bind ?_; simp only [List.forIn_cons, List.forIn_nil, List.zipIdx_cons, List.zipIdx_nil]
  refine wpAny_bind (wpAny_bind (wpAny_onRaise ?_)); show wpAny _ _ (Builtin.SmallTypes.nextOf (.ref i) >>= _) _ _ _
  cases ex : xs[k]? with
  | none =>
    refine wpAny_bind (nx_end hh (u.ext s1.extBut D.i1z) (su.ext s1.extBut D.l1z) ex fun g2 e s2 he => ?_)
    obtain ⟨oe, e1, e2⟩ := he
    have z2 : IsZip g2 z I O .ellipsis := s2 _ _ D.i1z.symm z1
    have ne : e ≠ z := fun x => by subst x; rw [z2] at e1; cases e1; simp at e2
    exact wpAny_setField_rec z2 (by simp) fun g3 _ s3 => c g3 e (fun c o n1 _ n3 _ x => s3.extBut _ _ n1 (s2 _ _ n3 (s1.extBut _ _ n1 x))) ⟨oe, s3.extBut _ _ ne e1, e2⟩
  | some x =>
    have ey : ys[k']? = none := en.resolve_left fun h => by rw [ex] at h; cases h
    refine wpAny_bind (nx_item (u.ext s1.extBut D.i1z) (su.ext s1.extBut D.l1z) ex fun g2 u2 s2 => wpAny_pure ?_)
    have o2 : IsPair g2 O a b := s2.extBut _ _ D.TOi1 (s1.extBut _ _ D.TOz o0)
    refine wpAny_bind (wpAny_seqItems o2 rfl ?_); refine wpAny_bind (wpAny_updateSeq_pair o2 fun g3 o3 s3 => ?_)
    refine wpAny_bind (wpAny_letGo (wpAny_pure ?_)); refine wpAny_bind (wpAny_bind (wpAny_onRaise ?_))
    show wpAny _ _ (Builtin.SmallTypes.nextOf (.ref j) >>= _) _ _ _
    refine wpAny_bind (nx_end hh (((v.ext s1.extBut D.i2z).ext s2.extBut D.i12.symm).ext s3.extBut D.TOi2.symm) (((sv.ext s1.extBut D.l2z).ext s2.extBut D.l2i1).ext s3.extBut D.l2TO) ey fun g4 e s4 he => ?_)
    obtain ⟨oe, e1, e2⟩ := he
    have z4 : IsZip g4 z I O .ellipsis := s4 _ _ D.i2z.symm (s3.extBut _ _ D.TOz.symm (s2.extBut _ _ D.i1z.symm z1))
    have ne : e ≠ z := fun x => by subst x; rw [z4] at e1; cases e1; simp at e2
    exact wpAny_setField_rec z4 (by simp) fun g5 _ s5 => c g5 e (fun c o n1 n2 n3 n4 x => s5.extBut _ _ n1 (s4 _ _ n4 (s3.extBut _ _ n2 (s2.extBut _ _ n3 (s1.extBut _ _ n1 x))))) ⟨oe, s5.extBut _ _ ne e1, e2⟩
theorem py_item {z I O i j l m : Addr} {k k' : Nat} {xs ys : Array Value} {x y a b : Value} {Q : Option Value → Shared → Prop} (D : ZipApart z I O i j l m)
    (z0 : IsZip s.heap z I O .none) (p0 : IsPair s.heap I (.ref i) (.ref j)) (o0 : IsPair s.heap O a b) (u : ItP t1 s.heap i l k) (v : ItP t2 s.heap j m k') (su : SqP t1 s.heap l xs) (sv : SqP t2 s.heap m ys) (ex : xs[k]? = some x) (ey : ys[k']? = some y)
    (c : ∀ h', IsZip h' z I O (rawInt s.heap.objs.size) → IsPair h' O x y → ItP t1 h' i l (k + 1) → ItP t2 h' j m (k' + 1) → IsPair h' s.heap.objs.size x y → h'.objs.size = s.heap.objs.size + 1 →
      (∀ c o, c ≠ z → c ≠ O → c ≠ i → c ≠ j → s.heap.get? c = some o → h'.get? c = some o) → Q (some (.ref s.heap.objs.size)) { s with heap := h' }) :
    wpAny (model prog w) A (pyNext (.ref z)) Q E s := by
  have T : s.TypeIs (.ref z) "zip" := ⟨_, z0, rfl⟩
  delta pyNext
  exact wpAny_bind (wpAny_attempt (wpAny_callSpecial?_slot (name := Str.ofString "__next__") T F.slot_zip_next (wpAny_call_entry F.slot_zip_next T F.entry_zip_next (zp_item D z0 p0 o0 u v su sv ex ey fun h' a1 a2 a3 a4 a5 a6 a7 => wpAny_pure (c h' a1 a2 a3 a4 a5 a6 a7)) (F.args_zip_next_1 _))))
theorem py_end {z I O i j l m : Addr} {k k' : Nat} {xs ys : Array Value} {a b : Value} {Q : Option Value → Shared → Prop} (hh : A.handled = none) (D : ZipApart z I O i j l m)
    (z0 : IsZip s.heap z I O .none) (p0 : IsPair s.heap I (.ref i) (.ref j)) (o0 : IsPair s.heap O a b) (u : ItP t1 s.heap i l k) (v : ItP t2 s.heap j m k') (su : SqP t1 s.heap l xs) (sv : SqP t2 s.heap m ys) (en : xs[k]? = none ∨ ys[k']? = none)
    (c : ∀ h', (∀ c o, c ≠ z → c ≠ O → c ≠ i → c ≠ j → s.heap.get? c = some o → h'.get? c = some o) → Q none { s with heap := h' }) : wpAny (model prog w) A (pyNext (.ref z)) Q E s := by
  have T : s.TypeIs (.ref z) "zip" := ⟨_, z0, rfl⟩
  delta pyNext
  refine wpAny_bind (wpAny_attempt (wpAny_callSpecial?_slot (name := Str.ofString "__next__") T F.slot_zip_next (wpAny_call_entry F.slot_zip_next T F.entry_zip_next (zp_end hh D z0 p0 o0 u v su sv en fun h' e hk he => ?_) (F.args_zip_next_1 _))))
  obtain ⟨o, e1, e2⟩ := he
  exact wpAny_bind (wpAny_isInstance (T := "StopIteration") (b := true) ⟨o, e1, e2⟩ isSubtype_stop (wpAny_pure (c _ hk)))
end
abbrev zmA (h : Heap) (l : Addr) : Heap := h.push { cls := .type "tuple_iterator", data := .fields #[.ref l, .int 0 0] }
abbrev zmB (h : Heap) (l m : Addr) : Heap := (zmA h l).push { cls := .type "list_iterator", data := .fields #[.ref m, .int 0 0] }
abbrev zmC (h : Heap) (l m : Addr) : Heap := (zmB h l m).push { cls := .type "tuple", data := .seq #[.ref h.objs.size, .ref (zmA h l).objs.size] }
abbrev zmD (h : Heap) (l m : Addr) : Heap := (zmC h l m).push { cls := .type "tuple", data := .seq #[.none, .none] }
abbrev zmE (h : Heap) (l m : Addr) : Heap := (zmD h l m).push { cls := .type "zip", data := .fields #[.none, .bool false, .bool false, .ref (zmB h l m).objs.size, .ref (zmC h l m).objs.size] }
theorem meets_zm (l m : Addr) (xs ys : Array Value) : Meets (Builtin.«zip.__new__» ⟨[.type "zip", .ref l, .ref m], []⟩) (fun _ R s => s.heap.IsTuple l xs ∧ s.heap.IsList m ys ∧ R (.ok (.ret (.ref (zmD s.heap l m).objs.size))) { s with heap := zmE s.heap l m }) :=
  .of_wp fun prog w A R s h => by
    obtain ⟨hp, g, d, tk, os⟩ := s; obtain ⟨q1, q2, h⟩ := h
    have hsub := sub_zip
    have L1 : Heap.IsTuple (Shared.heap ⟨hp, g, d, tk, os⟩) l xs := q1
    have L2 : Heap.IsList (Shared.heap ⟨hp.push { cls := .type "tuple_iterator", data := .fields #[.ref l, .int 0 0] }, g, d, tk, os⟩) m ys := Heap.IsList.push q2 _
    wp_walk using wpAny_pyIter_tuple L1, wpAny_pyIter_list L2
    exact ⟨_, rfl, h⟩
theorem call_zm {prog : Program} {w : World} {A : Around} {E : Value → Shared → Prop} {s : Shared} {l m : Addr} {xs ys : Array Value} {Q : Value → Shared → Prop} (q1 : s.heap.IsTuple l xs) (q2 : s.heap.IsList m ys)
    (c : ∀ h', IsZip h' (s.heap.objs.size + 4) (s.heap.objs.size + 2) (s.heap.objs.size + 3) .none → IsPair h' (s.heap.objs.size + 2) (.ref s.heap.objs.size) (.ref (s.heap.objs.size + 1)) →
      IsPair h' (s.heap.objs.size + 3) .none .none → ItP true h' s.heap.objs.size l 0 → ItP false h' (s.heap.objs.size + 1) m 0 → (∀ c o, s.heap.get? c = some o → h'.get? c = some o) → Q (.ref (s.heap.objs.size + 4)) { s with heap := h' }) :
    wpAny (model prog w) A (call (.type "zip") [.ref l, .ref m]) Q E s := by
  refine callType_new F.called_zip (by decide) (F.typeCall_zip_2 _ _) (F.newCall_zip_2 _ _) (fun obj => F.args_object_init_3 obj _ _) F.entry_zip_new (meets_zm l m xs ys) ⟨q1, q2, ?_⟩
  have n1 : (zmA s.heap l).objs.size = s.heap.objs.size + 1 := Heap.size_push ..
  have n2 : (zmB s.heap l m).objs.size = s.heap.objs.size + 2 := by rw [Heap.size_push, n1]
  have n3 : (zmC s.heap l m).objs.size = s.heap.objs.size + 3 := by rw [Heap.size_push, n2]
  have n4 : (zmD s.heap l m).objs.size = s.heap.objs.size + 4 := by rw [Heap.size_push, n3]
  have up : ∀ {c : Addr} {o : Obj} (x : Obj) {h : Heap}, h.get? c = some o → (h.push x).get? c = some o := fun x _ e => Heap.get?_push_of_some _ e
  have g5 : (zmE s.heap l m).get? (zmD s.heap l m).objs.size = some _ := Heap.get?_push_size _ rfl
  have g4 : (zmE s.heap l m).get? (zmC s.heap l m).objs.size = some _ := up _ (Heap.get?_push_size _ rfl)
  have g3 : (zmE s.heap l m).get? (zmB s.heap l m).objs.size = some _ := up _ (up _ (Heap.get?_push_size _ rfl))
  have g2 : (zmE s.heap l m).get? (zmA s.heap l).objs.size = some _ := up _ (up _ (up _ (Heap.get?_push_size _ rfl)))
  have g1 : (zmE s.heap l m).get? s.heap.objs.size = some _ := up _ (up _ (up _ (up _ (Heap.get?_push_size _ rfl))))
  show _ ∧ _
  rw [n2, n3, n4] at g5
  rw [n1, n2] at g3
  rw [n3] at g4
  rw [n1] at g2
  rw [n4]
  exact ⟨⟨_, g5, rfl⟩, c _ g5 g3 g4 ⟨_, g1, rfl, rfl⟩ ⟨_, g2, rfl, rfl⟩ fun c o x => up _ (up _ (up _ (up _ (up _ x))))⟩
/-- a list or a tuple of the abstract heap -/
def SqB (tp : Bool) (K : PySem.W.Frag) (H : Hp) (a : Addr) (xs : List V) : Prop := match tp with
  | true => SqT K H a xs
  | false => SqL K H a xs
theorem SqB.get {tp : Bool} {X : Cx} {pins : List (Addr × Obj)} {σ : L2.St} {H : Hp} {s : Shared} {a : Addr} {xs : List V} (I : Inv X pins σ H s) (q : SqB tp X.K H a xs) : ∃ its : List Value, Vals xs its ∧ SqP tp s.heap a its.toArray := by
  cases tp
  · obtain ⟨its, r, p, _⟩ := I.list q
    exact ⟨its, r, p.isList⟩
  · obtain ⟨its, r, p, _⟩ := I.tuple q
    exact ⟨its, r, p⟩
theorem SqB.inj {tp : Bool} {X : Cx} {pins : List (Addr × Obj)} {σ : L2.St} {H : Hp} {s : Shared} {a : Addr} {xs ys : List V} (I : Inv X pins σ H s) (q : SqB tp X.K H a xs) (q' : SqB tp X.K H a ys) : xs = ys := by
  cases tp
  · exact I.list_inj q q'
  · exact I.tuple_inj q q'
/-- the pairs of what stands at a and at b -/
def ItzB (t1 t2 : Bool) (K : PySem.W.Frag) (a b : Addr) : L2.It :=
  ⟨fun i H => ∃ (xs ys : List V) (x y : V), SqB t1 K H a xs ∧ SqB t2 K H b ys ∧ xs[i]? = some x ∧ ys[i]? = some y,
    fun i H v H' => ∃ T x y, v = .ref T ∧ H T = none ∧ H' = upd H T (.tup [x, y]) ∧ (∀ xs, SqB t1 K H a xs → xs[i]? = some x) ∧ ∀ ys, SqB t2 K H b ys → ys[i]? = some y,
    fun i H => ∃ xs ys : List V, SqB t1 K H a xs ∧ SqB t2 K H b ys ∧ (xs.length ≤ i ∨ ys.length ≤ i)⟩
theorem in5 {z I O i j c : Addr} {p : Addr → Prop} (h1 : p z) (h2 : p I) (h3 : p O) (h4 : p i) (h5 : p j) (h : c ∈ [z, I, O, i, j]) : p c := by
  simp only [List.mem_cons, List.not_mem_nil, or_false] at h
  rcases h with rfl | rfl | rfl | rfl | rfl <;> assumption
theorem turn_zm {t1 t2 : Bool} {P : Program} {w : World} {K : PySem.W.Frag} {es : List Expr} {n : Nat} {tp : Pos} {a b z I O i1 i2 : Addr} (D : ZipApart z I O i1 i2 a b) :
    Turn P w K (.Tuple es n tp) (ItzB t1 t2 K a b) [z, I, O, i1, i2] z (fun i h => IsZip h z I O .none ∧ IsPair h I (.ref i1) (.ref i2) ∧ (∃ x y, IsPair h O x y) ∧ ItP t1 h i1 a i ∧ ItP t2 h i2 b i) where
  mem := by simp
  obj := fun i h ⟨q1, q2, ⟨x, y, q3⟩, q4, q5⟩ c hc => in5 (p := fun c => ∃ o, h.get? c = some o ∧ ∀ v, o.data ≠ .cell v) ⟨_, q1, fun v q => nomatch q⟩ ⟨_, q2, fun v q => nomatch q⟩ ⟨_, q3, fun v q => nomatch q⟩ q4.obj q5.obj hc
  keep := fun i h h' ⟨q1, q2, ⟨x, y, q3⟩, q4, q5⟩ k => ⟨k z (by simp) _ q1, k I (by simp) _ q2, ⟨x, y, k O (by simp) _ q3⟩, q4.to fun o q => k i1 (by simp) o q, q5.to fun o q => k i2 (by simp) o q⟩
  item := by
    intro X hP hw hK hc i pins s σ H E V hf st hg
    subst hP hw hK
    obtain ⟨q1, q2, ⟨x0, y0, q3⟩, q4, q5⟩ := st
    obtain ⟨xs, ys, x, y, hx, hy, ex, ey⟩ := hg
    obtain ⟨its, rv, p⟩ := hx.get V
    obtain ⟨jts, rw', p'⟩ := hy.get V
    obtain ⟨u, hu, ru⟩ := rv.get ex
    obtain ⟨v, hv, rv'⟩ := rw'.get ey
    have zl : z < s.heap.objs.size := Heap.lt_size q1
    refine py_item D q1 q2 q3 q4 q5 p p' (x := u) (y := v) (by simpa using hu) (by simpa using hv) fun h' z' o' a1 a2 hT _ hk => ?_
    refine ⟨_, rfl, wpAny_letOwnedTupleGo_zip (s := { s with heap := h' }) z' fun g z2 sb => ?_⟩
    have T2 : g.get? s.heap.objs.size = some { cls := .type "tuple", data := .seq #[u, v] } := (sb.2 _ (Nat.ne_of_gt zl)).trans hT
    have new : ObjOk X.prog X.w (upd H s.heap.objs.size (.tup [x, y])) g s.heap.objs.size (.tup [x, y]) := ⟨by show 2 ≤ sizeLine; decide, [u, v], .cons ru (.cons rv' .nil), ⟨_, T2, rfl, _, rfl⟩⟩
    have V1 : Inv X pins σ (upd H s.heap.objs.size (.tup [x, y])) { s with heap := g } :=
      V.turnedNew (t' := s.toks) (ch := [z, I, O, i1, i2]) (fun c o hb q => (sb.2 c (fun e => hb (by simp [e]))).trans (hk c o (fun e => hb (by simp [e])) (fun e => hb (by simp [e])) (fun e => hb (by simp [e])) (fun e => hb (by simp [e])) q)) hf (Nat.le_refl _) new
    refine ⟨.ref s.heap.objs.size, _, V1, rfl, ⟨_, x, y, rfl, V.hok.fresh (Nat.le_refl _), rfl, fun l hl => by rw [hl.inj V hx]; exact ex, fun l hl => by rw [hl.inj V hy]; exact ey⟩, ⟨z2, ?_, ⟨u, v, ?_⟩, ?_, ?_⟩, fun c hcm => ?_⟩
    · exact (sb.2 _ D.TIz).trans (hk _ _ D.TIz D.TITO D.TIi1 D.TIi2 q2)
    · exact (sb.2 _ D.TOz).trans o'
    · exact a1.to fun o q => (sb.2 _ D.i1z).trans q
    · exact a2.to fun o q => (sb.2 _ D.i2z).trans q
    · have hlt : c < s.heap.objs.size := in5 (p := fun c => c < s.heap.objs.size) zl (Heap.lt_size q2) (Heap.lt_size q3) (by obtain ⟨_, e, _⟩ := q4.obj; exact Heap.lt_size e) (by obtain ⟨_, e, _⟩ := q5.obj; exact Heap.lt_size e) hcm
      rw [upd_ne (Nat.ne_of_lt hlt)]
      exact (hf c hcm).1
  done := by
    intro X hP hw hK hc i pins s σ H E V hf st hg
    subst hP hw hK
    obtain ⟨q1, q2, ⟨x0, y0, q3⟩, q4, q5⟩ := st
    obtain ⟨xs, ys, hx, hy, en⟩ := hg
    obtain ⟨its, rv, p⟩ := hx.get V
    obtain ⟨jts, rw', p'⟩ := hy.get V
    have l1 := rv.length
    have l2 := rw'.length
    have he : its.toArray[i]? = none ∨ jts.toArray[i]? = none := en.imp (fun q => by simp; omega) (fun q => by simp; omega)
    exact py_end (V.ok.hd hc) D q1 q2 q3 q4 q5 p p' he fun h' hk => ⟨rfl, V.turnedL (t' := s.toks) (ch := [z, I, O, i1, i2]) (fun c o hb q => hk c o (fun e => hb (by simp [e])) (fun e => hb (by simp [e])) (fun e => hb (by simp [e])) (fun e => hb (by simp [e])) q) hf⟩
  self := fun A i s Q E st h => wpAny_pyIter_zip st.1 h
def iZipM (K : PySem.W.Frag) (ta : TA) : TI := fun σ H R => ta σ H fun vs H1 => ∃ a b xs ys, vs = [.ref a, .ref b] ∧ ((SqL K H1 a xs ∧ SqL K H1 b ys ∧ R (Itz K a b) H1) ∨ (SqT K H1 a xs ∧ SqT K H1 b ys ∧ R (RZ.ItzT K a b) H1) ∨ (SqT K H1 a xs ∧ SqL K H1 b ys ∧ R (ItzB true false K a b) H1))
theorem pi_zipM {X : Cx} {e e2 : Expr} {ta : TA} {p pos tpos : Pos} {elts : List Expr} {kk : Nat} (hg : Gl X "zip") (hm : X.mg "zip" = none) (ha : PA X [e, e2] ta)
    (hs : starEach [e, e2] X.env = (false, PySem.eval e X.env) :: starEach [e2] X.env) (hpl : (backTo pos (starEach [e2] X.env)).any (·.1) = false) :
    PI X (.Tuple elts kk tpos) (.Call (.Name "zip" p) [e, e2] [] pos) (iZipM X.K ta) := by
  refine ⟨fun pins s σ H R I h => ?_⟩
  refine Call_ (ld_blt I hg hm PyProof.Rows.boot_zip (PyProof.Rows.callWith_type1 (thn (ha.run pos pins s σ H _ I h) fun us s1 ⟨vs, H1, I1, r1, q1⟩ => ?_) hs hpl))
  obtain ⟨a, b, xs, ys, ex, q1⟩ := q1
  subst ex
  cases r1 with
  | cons r rr =>
    cases rr with
    | cons r' rr =>
      cases rr
      cases r
      cases r'
      have fresh5 : ∀ c, c ∈ [s1.heap.objs.size + 4, s1.heap.objs.size + 2, s1.heap.objs.size + 3, s1.heap.objs.size, s1.heap.objs.size + 1] → FpOk X pins H1 c := fun c hcm => by
        have hle : s1.heap.objs.size ≤ c := in5 (p := fun c => s1.heap.objs.size ≤ c) (Nat.le_add_right _ _) (Nat.le_add_right _ _) (Nat.le_add_right _ _) (Nat.le_refl _) (Nat.le_add_right _ _) hcm
        exact I1.fpOk hle (I1.hok.fresh hle)
      rcases q1 with ⟨q1, q2, q⟩ | ⟨q1, q2, q⟩ | ⟨q1, q2, q⟩
      · obtain ⟨its, rv, p1, _⟩ := I1.list q1
        obtain ⟨jts, rv2, p2, _⟩ := I1.list q2
        refine call_zip_2 p1.isList p2.isList fun h' g1 g2 g3 g4 g5 _ hk => wpAny_pyIter_zip g1 ?_
        have I2 : Inv X pins σ H1 { s1 with heap := h' } := I1.kept (t' := s1.toks) hk
        exact ⟨_, _, _, _, H1, rfl, I2, turn_zip (PySem.W.ktu_apart s1.heap.objs.size a b p1.lt p2.lt), ⟨g1, g2, ⟨_, _, g3⟩, g4, g5⟩, fresh5, q⟩
      · obtain ⟨its, rv, p1, _⟩ := I1.tuple q1
        obtain ⟨jts, rv2, p2, _⟩ := I1.tuple q2
        obtain ⟨o1, ho1, _⟩ := id p1
        obtain ⟨o2, ho2, _⟩ := id p2
        refine RZ.call_zipT (show s1.heap.IsTuple a its.toArray from p1) (show s1.heap.IsTuple b jts.toArray from p2) fun h' g1 g2 g3 g4 g5 _ hk => wpAny_pyIter_zip g1 ?_
        have I2 : Inv X pins σ H1 { s1 with heap := h' } := I1.kept (t' := s1.toks) hk
        exact ⟨_, _, _, _, H1, rfl, I2, RZ.turn_zipT (PySem.W.ktu_apart s1.heap.objs.size a b (Heap.lt_size ho1) (Heap.lt_size ho2)), ⟨g1, g2, ⟨_, _, g3⟩, g4, g5⟩, fresh5, q⟩
      · obtain ⟨its, rv, p1, _⟩ := I1.tuple q1
        obtain ⟨jts, rv2, p2, _⟩ := I1.list q2
        obtain ⟨o1, ho1, _⟩ := id p1
        refine call_zm (show s1.heap.IsTuple a its.toArray from p1) p2.isList fun h' g1 g2 g3 g4 g5 hk => wpAny_pyIter_zip g1 ?_
        have I2 : Inv X pins σ H1 { s1 with heap := h' } := I1.kept (t' := s1.toks) hk
        exact ⟨_, _, _, _, H1, rfl, I2, turn_zm (PySem.W.ktu_apart s1.heap.objs.size a b (Heap.lt_size ho1) p2.lt), ⟨g1, g2, ⟨_, _, g3⟩, g4, g5⟩, fresh5, q⟩
end Z


/-! Z: the values of a dict, whatever its keys: walked, listed. -/
namespace Z
open PySem PySem.Spec PyProof.Rows L2
section
variable {X : Cx} {pins : List (Addr × Obj)} {σ : L2.St} {H : Hp} {s : Shared} {d : Addr} {o : Obj}
/-- the entries of a dict with tuple keys, by their values -/
theorem ent_T {kvs : List (List Key × V)} (x : ObjOk X.prog X.w H s.heap d (.dT kvs)) : (d == sysModules) = false ∧ kvs.length ≤ sizeLine ∧ ∃ o es ep, s.heap.get? d = some o ∧ o.ExactDict ∧ o.data = .dict es ep ∧ es.size = kvs.length ∧ ∀ (i : Nat) (k : List Key) (v : V), kvs[i]? = some (k, v) → ∃ en : DictEntry, es[i]? = some en ∧ RelV v en.val := by
  obtain ⟨z, hs, xs, pr, o, es, ep, ho, hx, hdt, he, _⟩ := x
  refine ⟨hs, z, o, es, ep, ho, hx, hdt, ?_, fun i k v e => ?_⟩
  · have l1 : es.size = xs.length := size_of_entries he
    have l2 : kvs.length = xs.length := Paired.length pr
    omega
  · obtain ⟨b, hb, e1, e2, e3⟩ := paired_get pr e
    have q := entry_at he i
    rw [hb] at q
    exact ⟨_, q, e3⟩
end
/-- the values of the locked dict at d -/
def ItdT (d : Addr) (o : Obj) (kvs : List (List Key × V)) : L2.It :=
  ⟨fun i H => H d = some (.frz o (.dT kvs)) ∧ i < kvs.length, fun i H x H' => H' = H ∧ ∃ k, kvs[i]? = some (k, x), fun i H => H d = some (.frz o (.dT kvs)) ∧ kvs.length ≤ i⟩
theorem turn_valsT {P : Program} {w : World} {K : PySem.W.Frag} {tg : Expr} {d : Addr} {o : Obj} {es : Array DictEntry} {ep : Nat} {kvs : List (List Key × V)} (it : Addr) (hod : o.data = .dict es ep) :
    Turn P w K tg (ItdT d o kvs) [it] it (fun i h => h.get? it = some (DVw.valOb d i kvs.length ep)) where
  mem := by simp
  obj := fun i h st b hb => by
    have e : b = it := by simpa using hb
    subst e
    exact ⟨_, st, fun v z => nomatch z⟩
  keep := fun i h h' st k => k it (by simp) _ st
  item := by
    intro X hP hw hK hc i pins s σ H E I hf st hg
    subst hP hw hK
    obtain ⟨hd, hi⟩ := hg
    obtain ⟨f0, f1, f2, f3, f4, f5⟩ := hf it (by simp)
    obtain ⟨hgd, x⟩ := (show ObjOk X.prog X.w H s.heap d (.frz o (.dT kvs)) from I.hok d _ hd)
    obtain ⟨hs, z, o', es', ep', ho, hx, hdt, hsz, ent⟩ := ent_T (X := X) x
    rw [hgd] at ho
    cases ho
    obtain ⟨rfl, rfl⟩ := dict_ep hod hdt
    obtain ⟨⟨k, v⟩, hkv⟩ : ∃ p, kvs[i]? = some p := ⟨kvs[i], List.getElem?_eq_getElem hi⟩
    obtain ⟨en, hen, rv⟩ := ent i k v hkv
    refine DVw.val_item st hgd hdt hsz hen fun h' st' sb => ?_
    have I1 : Inv X pins σ H { s with heap := h' } := I.turned (t' := s.toks) (fun b ob hb e => (sb.2 b hb).trans e) f0 f1 f3 f4 f5
    exact ⟨en.val, rfl, go_of (s := { s with heap := h' }) st' rfl rfl (by decide) ⟨v, H, I1, rv, ⟨rfl, k, hkv⟩, st', fun b hb => (hf b hb).1⟩⟩
  done := by
    intro X hP hw hK hc i pins s σ H E I hf st hg
    subst hP hw hK
    obtain ⟨hd, hi⟩ := hg
    obtain ⟨f0, f1, f2, f3, f4, f5⟩ := hf it (by simp)
    obtain ⟨hgd, x⟩ := (show ObjOk X.prog X.w H s.heap d (.frz o (.dT kvs)) from I.hok d _ hd)
    obtain ⟨hs, z, o', es', ep', ho, hx, hdt, hsz, ent⟩ := ent_T (X := X) x
    rw [hgd] at ho
    cases ho
    obtain ⟨rfl, rfl⟩ := dict_ep hod hdt
    exact DVw.val_end (I.ok.hd hc) st hgd hdt hsz (Array.getElem?_eq_none (by omega)) fun h' eb => ⟨rfl, I.turned (t' := s.toks) (fun b ob hb e => eb b ob hb e) f0 f1 f3 f4 f5⟩
  self := fun A i s Q E st h => wpAny_pyIter_valiter (i := i) (n := kvs.length) (ep := ep) (d := d) ⟨_, st, rfl, rfl⟩ h
theorem meets_valsR {prog : Program} {w : World} (d : Addr) (hd : (d == sysModules) = false) :
    MeetsIn prog w (Builtin.«dict.values» ⟨[.ref d], []⟩) (fun _ R s => s.TypeIs (.ref d) "dict" ∧ R (.ok (.ret (.ref s.heap.objs.size))) { s with heap := s.heap.push (DSub.viewOb "dict_values" d) }) :=
  .of_wp fun A R s ⟨hT, h⟩ => by
    refine wpAny_bind ?_; unfold Builtin.Dict.noArgs
    refine wpAny_bind (wpAny_notOrdered_dict hT ?_); show wpAny _ _ (pure d) _ _ s
    refine wpAny_pure ?_; show wpAny _ _ (Builtin.Dict.showsAll d >>= _) _ _ s
    unfold Builtin.Dict.showsAll; rw [if_neg (by rw [hd]; exact Bool.false_ne_true)]
    exact wpAny_bind (wpAny_pure (wpAny_bind (wpAny_newObj_type (wpAny_pure ⟨_, rfl, h⟩))))
def iValsB (td : TE) : TI := fun σ H R => td σ H fun x H1 => ∃ d o, x = .ref d ∧ ((∃ kvs, H1 d = some (.frz o (.dK kvs)) ∧ R (Itd d o kvs) H1) ∨ ∃ kvs, H1 d = some (.frz o (.dT kvs)) ∧ R (ItdT d o kvs) H1)
section
variable {X : Cx} {tg e : Expr} {td : TE} {apos cpos p pos : Pos}
theorem pi_valuesB (he : PE X e td) (hbase : attributeBase e "values" X.env (PySem.eval e X.env) = PySem.eval e X.env) (hline : (apos.endLine == cpos.line) = true) : PI X tg (.Call (.Attribute e "values" apos) [] [] cpos) (iValsB td) := by
  refine ⟨fun pins s σ H R I h => ?_⟩
  refine wpAny_Call_method (T := "dict") (id := "dict.values") hbase rfl hline F.plainAttrs_dict F.slot_dict_values F.type_dict_values (thn (he.run pins s σ H _ I h) fun u s1 ⟨x, H1, I1, rx, d, o, ex, q⟩ => ?_)
  subst ex
  obtain rfl : u = Value.ref d := rx
  rcases q with ⟨kvs, hd, q⟩ | ⟨kvs, hd, q⟩
  · obtain ⟨hs, hgd, hx, es, ep, vs, hdt, hsz, kv, hm⟩ := I1.frzK hd
    have hl : kvs.length = vs.length := Paired.length kv
    have I2 : Inv X pins σ H1 { s1 with heap := s1.heap.push { cls := .type "dict_values", data := .fields #[.ref d] } } := I1.kept (t' := s1.toks) fun b ob q => Heap.get?_push_of_some _ q
    have fin : wpAny (model X.prog X.w) X.A (pyIter (.ref s1.heap.objs.size)) (PIE X pins σ tg R) X.xe { s1 with heap := s1.heap.push { cls := .type "dict_values", data := .fields #[.ref d] } } :=
      wpAny_pyIter_values (d := d) (knd := mixKind X.prog X.w) ⟨_, Heap.get?_push_size _ rfl, rfl, rfl⟩ (hm.push _) (pi_one (tk := s1.toks) I2 _ (turn_vals _ hdt) ⟨_, Heap.get?_push_size _ rfl, rfl, by rw [hl] <;> rfl⟩ q)
    refine ⟨hm.dictOf.typeIs, hm.dictOf.mapOf.noDict, ?_⟩
    show wpAny _ _ (callWith cpos (.builtin "dict.values") [.ref d] [] []) _ X.xe s1
    exact method_meetsIn F.slot_dict_values F.entry_dict_values rfl (PySem.evalArgs_none ⟨rfl, hm.dictOf.typeIs, F.args_dict_values_1 _, _, meets_dict_values (mixKind X.prog X.w) d hs, ⟨vs, hm.dictOf⟩, fin⟩)
  · obtain ⟨hgd, x⟩ := (show ObjOk X.prog X.w H1 s1.heap d (.frz o (.dT kvs)) from I1.hok d _ hd)
    obtain ⟨hs, z, o', es, ep, ho, hx, hdt, hsz, ent⟩ := ent_T (X := X) x
    rw [hgd] at ho
    cases ho
    have hT : s1.TypeIs (.ref d) "dict" := ⟨_, hgd, hx.1⟩
    have I2 : Inv X pins σ H1 { s1 with heap := s1.heap.push (DSub.viewOb "dict_values" d) } := I1.kept (t' := s1.toks) fun b ob q => Heap.get?_push_of_some _ q
    have fin : wpAny (model X.prog X.w) X.A (pyIter (.ref s1.heap.objs.size)) (PIE X pins σ tg R) X.xe { s1 with heap := s1.heap.push (DSub.viewOb "dict_values" d) } :=
      DSub.iter_vals (Heap.get?_push_size _ rfl) (Heap.get?_push_of_some _ hgd) hdt (pi_one (tk := s1.toks) I2 _ (turn_valsT _ hdt) (by rw [← hsz]; exact Heap.get?_push_size _ rfl) q)
    refine ⟨hT, ?_, ?_⟩
    · first
        | exact hx.2.1
        | (intro ob hob; rw [hgd] at hob; cases hob; exact hx.2.1)
        | exact ⟨_, hgd, hx.2.1⟩
        | exact fun a e => by cases e; exact ⟨_, hgd, hx.2.1⟩
    · show wpAny _ _ (callWith cpos (.builtin "dict.values") [.ref d] [] []) _ X.xe s1
      exact method_meetsIn F.slot_dict_values F.entry_dict_values rfl (PySem.evalArgs_none ⟨rfl, hT, F.args_dict_values_1 _, _, meets_valsR d hs, hT, fin⟩)
/-! ### list(e.values()) -/
theorem kdlV {prog : Program} {w : World} {r d : Addr} {od : Obj} {es : Array DictEntry} {ep : Nat} (hdd : od.data = .dict es ep) :
    PySem.W.KdlSrc prog w "dict_values" r d es.size (fun i v => ∃ en : DictEntry, es[i]? = some en ∧ v = en.val) (fun h => h.get? r = some (DSub.viewOb "dict_values" d) ∧ h.get? d = some od) where
  type := fun _ hm => ⟨_, hm.1, rfl⟩
  there := fun _ hm => ⟨Heap.lt_size hm.1, Heap.lt_size hm.2⟩
  keep := fun _ _ hm hk => ⟨hk r (.inl rfl) _ hm.1, hk d (.inr rfl) _ hm.2⟩
  notList := by decide
  notTuple := by decide
  hint := fun _ _ s _ hm hq => PySem.W.kdl_hint_values (s := s) (r := r) ⟨_, hm.1, rfl⟩ hq
  iter := fun _ s hh hm => ⟨DVw.valOb d 0 es.size ep, _, (fun _ _ hq => DSub.iter_vals hm.1 hm.2 hdd hq), DSub.walksVal hh (Nat.ne_of_lt (Heap.lt_size hm.2)) hdd (fun i en he => ⟨en, he, rfl⟩), ⟨Heap.get?_push_size _ rfl, Heap.get?_push_of_some _ hm.2⟩⟩
theorem vals_of {es : Array DictEntry} : ∀ {vs : List V} {us : List Value}, vs.length = us.length → (∀ (i : Nat) (v : V), vs[i]? = some v → ∃ u, us[i]? = some u ∧ RelV v u) → Vals vs us
  | [], [], _, _ => .nil
  | v :: vs, u :: us, hl, h => by
    obtain ⟨u', e, r⟩ := h 0 v rfl
    cases e
    exact .cons r (vals_of (es := es) (Nat.succ.inj hl) fun i v e => h (i + 1) v e)
  | [], _ :: _, hl, _ => by cases hl
  | _ :: _, [], hl, _ => by cases hl
/-- what is asked: a dict; what is told: a new list of its values -/
def tLVals (te : TE) : TE := fun σ H Q => te σ H fun x H1 => ∃ d, x = .ref d ∧ ((∃ kvs, H1 d = some (.dK kvs) ∧ ∀ p, H1 p = none → Q (.ref p) (upd H1 p (.lst (kvs.map (·.2))))) ∨ ∃ kvs, H1 d = some (.dT kvs) ∧ ∀ p, H1 p = none → Q (.ref p) (upd H1 p (.lst (kvs.map (·.2)))))
theorem ent_K {pins : List (Addr × Obj)} {σ : L2.St} {H : Hp} {s : Shared} {d : Addr} {kvs : List (Key × V)} (I : Inv X pins σ H s) (h : H d = some (.dK kvs)) :
    (d == sysModules) = false ∧ kvs.length ≤ sizeLine ∧ ∃ o es ep, s.heap.get? d = some o ∧ o.ExactDict ∧ o.data = .dict es ep ∧ es.size = kvs.length ∧ ∀ (i : Nat) (k : Key) (v : V), kvs[i]? = some (k, v) → ∃ en : DictEntry, es[i]? = some en ∧ RelV v en.val := by
  obtain ⟨z, hs, vs, kv, o, es, ep, ho, hx, hdt, r⟩ := (show ObjOk X.prog X.w H s.heap d (.dK kvs) from I.hok d _ h)
  have l2 : kvs.length = vs.length := Paired.length kv
  have l1 : es.toList.length = vs.length := r.2.1.length
  refine ⟨hs, z, o, es, ep, ho, hx, hdt, by rw [← Array.length_toList]; omega, fun i k v e => ?_⟩
  obtain ⟨u, hu, ru⟩ := kv_get kv e
  have hlt : i < es.toList.length := by rw [l1, ← l2]; exact (List.getElem?_eq_some_iff.mp e).1
  have hen : es.toList[i]? = some es.toList[i] := List.getElem?_eq_getElem hlt
  obtain ⟨_, hval⟩ := r.2.1.get? hen hu
  exact ⟨es.toList[i], by rw [← Array.getElem?_toList]; exact hen, by rw [hval]; exact ru⟩
theorem pe_lvals (hc : X.calm = true) (he : PE X e td) (hg : Gl X "list") (hm : X.mg "list" = none) (hbase : attributeBase e "values" X.env (PySem.eval e X.env) = PySem.eval e X.env) (hline : (apos.endLine == cpos.line) = true) :
    PE X (.Call (.Name "list" p) [.Call (.Attribute e "values" apos) [] [] cpos] [] pos) (tLVals td) := by
  have hst : starEach [.Call (.Attribute e "values" apos) [] [] cpos] X.env = (false, PySem.eval (.Call (.Attribute e "values" apos) [] [] cpos) X.env) :: starEach [] X.env := rfl
  refine ⟨fun pins s σ H Q I hq => ?_⟩
  refine wpAny_Call_Name_kw (ld_blt I hg hm PyProof.Rows.boot_list ?_)
  refine PyProof.Rows.callWith_type1 ?_ hst rfl
  rw [hst]
  show wpAny _ _ (spliced ((false, PySem.eval (.Call (.Attribute e "values" apos) [] [] cpos) X.env) :: backTo pos (starEach [] X.env))) _ _ s
  refine Calls.spliced_cons ?_
  refine wpAny_Call_method (T := "dict") (id := "dict.values") hbase rfl hline F.plainAttrs_dict F.slot_dict_values F.type_dict_values (thn (he.run pins s σ H _ I hq) fun u s1 ⟨x, H1, I1, rx, d, ex, q⟩ => ?_)
  subst ex
  obtain rfl : u = Value.ref d := rx
  obtain ⟨vs, hs, hz, o, es, ep, hgd, hx, hdt, hsz, ent, qq⟩ : ∃ vs : List V, (d == sysModules) = false ∧ vs.length ≤ sizeLine ∧ ∃ o es ep, s1.heap.get? d = some o ∧ o.ExactDict ∧ o.data = .dict es ep ∧ es.size = vs.length ∧ (∀ (i : Nat) (v : V), vs[i]? = some v → ∃ en : DictEntry, es[i]? = some en ∧ RelV v en.val) ∧ ∀ p, H1 p = none → Q (.ref p) (upd H1 p (.lst vs)) := by
    rcases q with ⟨kvs, hd, q⟩ | ⟨kvs, hd, q⟩
    · obtain ⟨hs, z, o, es, ep, ho, hx, hdt, hsz, ent⟩ := ent_K I1 hd
      refine ⟨_, hs, by rw [List.length_map]; exact z, o, es, ep, ho, hx, hdt, by rw [List.length_map]; exact hsz, fun i v e => ?_, q⟩
      rw [List.getElem?_map] at e
      obtain ⟨kv, h1, h2⟩ := Option.map_eq_some_iff.mp e
      subst h2
      exact ent i kv.1 kv.2 h1
    · obtain ⟨hs, z, o, es, ep, ho, hx, hdt, hsz, ent⟩ := ent_T (X := X) (show ObjOk X.prog X.w H1 s1.heap d (.dT kvs) from I1.hok d _ hd)
      refine ⟨_, hs, by rw [List.length_map]; exact z, o, es, ep, ho, hx, hdt, by rw [List.length_map]; exact hsz, fun i v e => ?_, q⟩
      rw [List.getElem?_map] at e
      obtain ⟨kv, h1, h2⟩ := Option.map_eq_some_iff.mp e
      subst h2
      exact ent i kv.1 kv.2 h1
  have hT : s1.TypeIs (.ref d) "dict" := ⟨_, hgd, hx.1⟩
  refine ⟨hT, ?_, ?_⟩
  · first
      | exact hx.2.1
      | (intro ob hob; rw [hgd] at hob; cases hob; exact hx.2.1)
      | exact ⟨_, hgd, hx.2.1⟩
      | exact fun a e => by cases e; exact ⟨_, hgd, hx.2.1⟩
  · have I2 : Inv X pins σ H1 { s1 with heap := s1.heap.push (DSub.viewOb "dict_values" d) } := I1.kept (t' := s1.toks) fun b ob q => Heap.get?_push_of_some _ q
    show wpAny _ _ (callWith cpos (.builtin "dict.values") [.ref d] [] []) _ X.xe s1
    refine method_meetsIn F.slot_dict_values F.entry_dict_values rfl (PySem.evalArgs_none ⟨rfl, hT, F.args_dict_values_1 _, _, meets_valsR d hs, hT, ?_⟩)
    refine Calls.spliced_nil ?_
    refine PySem.W.kdl_call (kdlV hdt) (I1.ok.hd hc) ⟨Heap.get?_push_size _ rfl, Heap.get?_push_of_some _ hgd⟩ (by omega) fun h' tk acc' c' kp e2 it => ?_
    have hv : Vals vs acc'.toList := by
      refine vals_of (es := es) ((hsz.symm.trans it.1.symm).trans (Array.length_toList (xs := acc')).symm) fun i v e => ?_
      obtain ⟨en, he, rv⟩ := ent i v e
      have hlt : i < acc'.size := by rw [it.1, hsz]; exact (List.getElem?_eq_some_iff.mp e).1
      obtain ⟨en', he', ev⟩ := it.2 i acc'[i] (Array.getElem?_eq_getElem hlt)
      rw [he] at he'
      cases he'
      exact ⟨acc'[i], by rw [Array.getElem?_toList]; exact Array.getElem?_eq_getElem hlt, by rw [ev]; exact rv⟩
    have hfr : H1 (s1.heap.push (DSub.viewOb "dict_values" d)).objs.size = none := I2.hok.fresh (Nat.le_refl _)
    have J := I2.laid (t' := tk) (o := .lst vs) (a := (s1.heap.push (DSub.viewOb "dict_values" d)).objs.size) kp (Nat.le_refl _) ⟨hz, acc'.toList, c', hv, by rw [Array.toArray_toList]; exact e2⟩
    exact ⟨.ref _, _, J, rfl, qq _ hfr⟩
end
end Z


/-! Z: what is walked over. -/
namespace Z
open PySem L2
mutual
theorem same_eq : ∀ {a b : D}, D.same a b = true → a = b
  | .non, b, h => by cases b <;> first | rfl | cases h
  | .bl x, b, h => by
    cases b with
    | bl y => rw [eq_of_beq (show (x == y) = true from h)]
    | _ => cases h
  | .int x, b, h => by
    cases b with
    | int y => rw [eq_of_beq (show (x == y) = true from h)]
    | _ => cases h
  | .str x, b, h => by
    cases b with
    | str y => rw [eq_of_beq (show (x == y) = true from h)]
    | _ => cases h
  | .tup xs, b, h => by
    cases b with
    | tup ys =>
      have e := sames_eq (show D.sames xs ys = true by unfold D.same at h; exact h)
      rw [e]
    | _ => cases h
  | .lst xs, b, h => by
    cases b with
    | lst ys =>
      have e := sames_eq (show D.sames xs ys = true by unfold D.same at h; exact h)
      rw [e]
    | _ => cases h
  | .ref x, b, h => by
    cases b with
    | ref y => rw [eq_of_beq (show (x == y) = true from h)]
    | _ => cases h
  | .ctup _, b, h => by cases b <;> cases h
theorem sames_eq : ∀ {a b : List D}, D.sames a b = true → a = b
  | [], b, h => by cases b <;> first | rfl | cases h
  | x :: xs, b, h => by
    cases b with
    | nil => cases h
    | cons y ys =>
      unfold D.sames at h
      obtain ⟨h1, h2⟩ := Bool.and_eq_true_iff.mp h
      rw [same_eq h1, sames_eq h2]
end
def Src.xs : Src → List D
  | .s z => z.xs
def Src.ok : Src → Sto → Bool
  | .s z, S => z.ok S
/-- the iterator J walks over s from here on -/
def WkOk (K : PySem.W.Frag) (w : Wd) (H : Hp) (s : Src) (J : L2.It) : Prop := ∀ w2 H2 S2, LW w w2 H H2 → Sim K w2 H2 S2 → s.ok S2 = true →
  (∀ i, i < s.xs.length → J.go i H2) ∧ J.stop s.xs.length H2 ∧ ∀ i d x H3, s.xs[i]? = some d → J.yld i H2 x H3 → Le w2 w2 H2 H3 ∧ Sim K w2 H3 S2 ∧ Rep K w2 H3 d x
section
variable {K : PySem.W.Frag} {w : Wd} {H : Hp}
theorem Reps.at {xs : List D} {vs : List V} {i : Nat} {x : V} {d : D} (q : Reps K w H xs vs) (h : xs[i]? = some d) (e : vs[i]? = some x) : Rep K w H d x := by
  obtain ⟨v, e2, r⟩ := q.get h
  rw [e] at e2
  cases e2
  exact r
theorem Reps.lt {xs : List D} {vs : List V} {i : Nat} (q : Reps K w H xs vs) (h : i < xs.length) : ∃ x, vs[i]? = some x := ⟨_, List.getElem?_eq_getElem (by rw [← q.length]; exact h)⟩
theorem wk_list {xs : List D} {a : Addr} {vs : List V} (t : LstAt K w H a vs) (q : Reps K w H xs vs) : WkOk K w H (.s (.free xs)) (Itl K a) := fun w2 H2 S2 l sm _ => by
  have t2 := t.tr l.tr
  have q2 := Reps.tr l.tr xs q
  refine ⟨fun i hi => ?_, ⟨vs, t2.sq, by show vs.length ≤ xs.length; rw [q.length]; exact Nat.le_refl _⟩, fun i d x H3 hd y => ?_⟩
  · obtain ⟨x, e⟩ := q2.lt hi
    exact ⟨vs, x, t2.sq, e⟩
  · obtain ⟨rfl, y⟩ := y
    exact ⟨Le.refl _ _, sm, q2.at hd (y vs t2.sq)⟩
theorem wk_tup {xs : List D} {a : Addr} {vs : List V} (t : ∀ w2 H2, LW w w2 H H2 → SqT K H2 a vs) (q : Reps K w H xs vs) : WkOk K w H (.s (.free xs)) (Itt K a) := fun w2 H2 S2 l sm _ => by
  have t2 := t w2 H2 l
  have q2 := Reps.tr l.tr xs q
  refine ⟨fun i hi => ?_, ⟨vs, t2, by show vs.length ≤ xs.length; rw [q.length]; exact Nat.le_refl _⟩, fun i d x H3 hd y => ?_⟩
  · obtain ⟨x, e⟩ := q2.lt hi
    exact ⟨vs, x, t2, e⟩
  · obtain ⟨rfl, y⟩ := y
    exact ⟨Le.refl _ _, sm, q2.at hd (y vs t2)⟩
theorem wk_at {n : Nat} {xs : List D} (hn : n < w.N) : WkOk K w H (.s (.at n xs)) (Itl K (w.at_ n)) := fun w2 H2 S2 l sm ok => by
  have ok : stands n xs S2 = true := ok
  unfold stands at ok
  split at ok
  · rename_i ys hs
    have e := sames_eq ok
    subst e
    obtain ⟨u, hu, vs, rfl, q2⟩ := sm.ob n _ hs
    rw [l.tr.at_ n hn] at hu
    have t2 : SqL K H2 (w.at_ n) vs := SqL.of hu
    refine ⟨fun i hi => ?_, ⟨vs, t2, by show vs.length ≤ ys.length; rw [q2.length]; exact Nat.le_refl _⟩, fun i d x H3 hd y => ?_⟩
    · obtain ⟨x, e⟩ := q2.lt hi
      exact ⟨vs, x, t2, e⟩
    · obtain ⟨rfl, y⟩ := y
      exact ⟨Le.refl _ _, sm, q2.at hd (y vs t2)⟩
  · cases ok
theorem rng_at {lo : Int} {n i : Nat} {d : D} (h : (rngD lo n)[i]? = some d) : d = .int (lo + (i : Int)) ∧ i < n := by
  unfold rngD at h
  rw [List.getElem?_map] at h
  by_cases hi : i < n
  · rw [List.getElem?_range hi] at h
    cases h
    exact ⟨rfl, hi⟩
  · rw [List.getElem?_eq_none (by rw [List.length_range]; omega)] at h
    cases h
theorem wk_rng {lo : Int} {n : Nat} : WkOk K w H (.s (.free (rngD lo n))) (Itr lo n) := fun w2 H2 S2 l sm _ => by
  have hl : (rngD lo n).length = n := by unfold rngD; rw [List.length_map, List.length_range]
  refine ⟨fun i hi => by show i < n; rw [← hl]; exact hi, by show n ≤ (rngD lo n).length; rw [hl]; exact Nat.le_refl _, fun i d x H3 hd y => ?_⟩
  obtain ⟨rfl, rfl⟩ := y
  obtain ⟨rfl, _⟩ := rng_at hd
  exact ⟨Le.refl _ _, sm, mk_int⟩
theorem wk_str {x : Str} : WkOk K w H (.s (.free (signs x))) (Its x) := fun w2 H2 S2 l sm _ => by
  have hl : (signs x).length = x.cps.size := by unfold signs; rw [List.length_map, Array.length_toList]
  refine ⟨fun i hi => by show i < x.cps.size; rw [← hl]; exact hi, by show x.cps.size ≤ (signs x).length; rw [hl]; exact Nat.le_refl _, fun i d v H3 hd y => ?_⟩
  obtain ⟨rfl, c, hc, rfl⟩ := y
  have hd : (signs x)[i]? = some d := hd
  unfold signs at hd
  rw [List.getElem?_map, Array.getElem?_toList, hc] at hd
  cases hd
  exact ⟨Le.refl _ _, sm, mk_str⟩
theorem wk_enum {xs : List D} {a : Addr} {vs : List V} (t : LstAt K w H a vs) (q : Reps K w H xs vs) : WkOk K w H (.s (.free (enumD xs))) (Ite K a) := fun w2 H2 S2 l sm _ => by
  have t2 := t.tr l.tr
  have q2 := Reps.tr l.tr xs q
  have hl : (enumD xs).length = xs.length := by unfold enumD; rw [List.length_zipWith, List.length_range, Nat.min_self]
  refine ⟨fun i hi => ?_, ⟨vs, t2.sq, by show vs.length ≤ (enumD xs).length; rw [hl, q.length]; exact Nat.le_refl _⟩, fun i d x H3 hd y => ?_⟩
  · obtain ⟨x, e⟩ := q2.lt (i := i) (by rw [← hl]; exact hi)
    exact ⟨vs, x, t2.sq, e⟩
  · obtain ⟨T, x, rfl, hT, rfl, y⟩ := y
    have hd : (enumD xs)[i]? = some d := hd
    unfold enumD at hd
    rw [List.getElem?_zipWith] at hd
    by_cases hi : i < xs.length
    · rw [List.getElem?_range hi, List.getElem?_eq_getElem hi] at hd
      cases hd
      exact ⟨le_new hT _, sm.new hT _, newTup sm hT ⟨_, _, rfl, mk_int, _, _, rfl, q2.at (List.getElem?_eq_getElem hi) (y vs t2.sq), rfl⟩⟩
    · rw [List.getElem?_eq_none (l := xs) (by omega)] at hd
      cases z : (List.range xs.length)[i]? with
      | none => rw [z] at hd; cases hd
      | some k => rw [z] at hd; cases hd
theorem zip_at {xs ys : List D} {i : Nat} {d : D} (h : (zipD xs ys)[i]? = some d) : ∃ x y, xs[i]? = some x ∧ ys[i]? = some y ∧ d = .tup [x, y] := by
  unfold zipD at h
  rw [List.getElem?_zipWith] at h
  cases h1 : xs[i]? with
  | none => rw [h1] at h; cases h
  | some x =>
    cases h2 : ys[i]? with
    | none => rw [h1, h2] at h; cases h
    | some y =>
      rw [h1, h2] at h
      cases h
      exact ⟨x, y, rfl, rfl, rfl⟩
theorem wk_zip {xs ys : List D} {a b : Addr} {vs us : List V} (t : LstAt K w H a vs) (q : Reps K w H xs vs) (t' : LstAt K w H b us) (q' : Reps K w H ys us) : WkOk K w H (.s (.free (zipD xs ys))) (Itz K a b) := fun w2 H2 S2 l sm _ => by
  have t2 := t.tr l.tr
  have q2 := Reps.tr l.tr xs q
  have t3 := t'.tr l.tr
  have q3 := Reps.tr l.tr ys q'
  have hl : (zipD xs ys).length = min vs.length us.length := by unfold zipD; rw [List.length_zipWith, q.length, q'.length]
  have e1 := q.length
  have e2 := q'.length
  refine ⟨fun i hi => ?_, ⟨vs, us, t2.sq, t3.sq, by show vs.length ≤ (zipD xs ys).length ∨ us.length ≤ (zipD xs ys).length; omega⟩, fun i d x H3 hd y => ?_⟩
  · have hi : i < (zipD xs ys).length := hi
    obtain ⟨x, e⟩ := q2.lt (i := i) (by omega)
    obtain ⟨y, e'⟩ := q3.lt (i := i) (by omega)
    exact ⟨vs, us, x, y, t2.sq, t3.sq, e, e'⟩
  · obtain ⟨T, x, y, rfl, hT, rfl, y1, y2⟩ := y
    obtain ⟨dx, dy, h1, h2, rfl⟩ := zip_at hd
    exact ⟨le_new hT _, sm.new hT _, newTup sm hT ⟨_, _, rfl, q2.at h1 (y1 vs t2.sq), _, _, rfl, q3.at h2 (y2 us t3.sq), rfl⟩⟩
theorem wk_zipT {xs ys : List D} {a b : Addr} {vs us : List V} (t : TupAt w H a vs) (q : Reps K w H xs vs) (t' : TupAt w H b us) (q' : Reps K w H ys us) : WkOk K w H (.s (.free (zipD xs ys))) (RZ.ItzT K a b) := fun w2 H2 S2 l sm _ => by
  have t2 := t.tr l.tr
  have q2 := Reps.tr l.tr xs q
  have t3 := t'.tr l.tr
  have q3 := Reps.tr l.tr ys q'
  have hl : (zipD xs ys).length = min vs.length us.length := by unfold zipD; rw [List.length_zipWith, q.length, q'.length]
  have e1 := q.length
  have e2 := q'.length
  refine ⟨fun i hi => ?_, ⟨vs, us, t2.sq, t3.sq, by show vs.length ≤ (zipD xs ys).length ∨ us.length ≤ (zipD xs ys).length; omega⟩, fun i d x H3 hd y => ?_⟩
  · have hi : i < (zipD xs ys).length := hi
    obtain ⟨x, e⟩ := q2.lt (i := i) (by omega)
    obtain ⟨y, e'⟩ := q3.lt (i := i) (by omega)
    exact ⟨vs, us, x, y, t2.sq, t3.sq, e, e'⟩
  · obtain ⟨T, x, y, rfl, hT, rfl, y1, y2⟩ := y
    obtain ⟨dx, dy, h1, h2, rfl⟩ := zip_at hd
    exact ⟨le_new hT _, sm.new hT _, newTup sm hT ⟨_, _, rfl, q2.at h1 (y1 vs t2.sq), _, _, rfl, q3.at h2 (y2 us t3.sq), rfl⟩⟩
theorem wk_zipM {xs ys : List D} {a b : Addr} {vs us : List V} (t : TupAt w H a vs) (q : Reps K w H xs vs) (t' : LstAt K w H b us) (q' : Reps K w H ys us) : WkOk K w H (.s (.free (zipD xs ys))) (ItzB true false K a b) := fun w2 H2 S2 l sm _ => by
  have t2 := t.tr l.tr
  have q2 := Reps.tr l.tr xs q
  have t3 := t'.tr l.tr
  have q3 := Reps.tr l.tr ys q'
  have hl : (zipD xs ys).length = min vs.length us.length := by unfold zipD; rw [List.length_zipWith, q.length, q'.length]
  have e1 := q.length
  have e2 := q'.length
  refine ⟨fun i hi => ?_, ⟨vs, us, t2.sq, t3.sq, by show vs.length ≤ (zipD xs ys).length ∨ us.length ≤ (zipD xs ys).length; omega⟩, fun i d x H3 hd y => ?_⟩
  · have hi : i < (zipD xs ys).length := hi
    obtain ⟨x, e⟩ := q2.lt (i := i) (by omega)
    obtain ⟨y, e'⟩ := q3.lt (i := i) (by omega)
    exact ⟨vs, us, x, y, t2.sq, t3.sq, e, e'⟩
  · obtain ⟨T, x, y, rfl, hT, rfl, y1, y2⟩ := y
    obtain ⟨dx, dy, h1, h2, rfl⟩ := zip_at hd
    exact ⟨le_new hT _, sm.new hT _, newTup sm hT ⟨_, _, rfl, q2.at h1 (y1 vs t2.sq), _, _, rfl, q3.at h2 (y2 us t3.sq), rfl⟩⟩
theorem wk_keys {d : Addr} {o : Obj} {kvs : List (Key × D)} {us : List (Key × V)} (h : H d = some (.frz o (.dK us))) (q : Kvs K w H kvs us) : WkOk K w H (.s (.free (tabKeys (.dk kvs)))) (Itk d o us) := fun w2 H2 S2 l sm _ => by
  have h2 := l.frz _ _ _ h
  have hl : (tabKeys (.dk kvs)).length = us.length := by show (kvs.map _).length = _; rw [List.length_map, q.length]
  refine ⟨fun i hi => ⟨h2, by rw [← hl]; exact hi⟩, ⟨h2, by show us.length ≤ (tabKeys (.dk kvs)).length; rw [hl]; exact Nat.le_refl _⟩, fun i e x H3 hd y => ?_⟩
  obtain ⟨rfl, k, v, e1, rfl⟩ := y
  have hd : (kvs.map fun kv => keyD kv.1)[i]? = some e := hd
  have e2 : (kvs.map (·.1))[i]? = some k := by rw [q.keys, List.getElem?_map, e1]; rfl
  have e3 : (kvs.map fun kv => keyD kv.1)[i]? = some (keyD k) := by
    rw [List.getElem?_map] at e2 ⊢
    cases z : kvs[i]? with
    | none => rw [z] at e2; cases e2
    | some kv => rw [z] at e2; cases e2; rfl
  rw [e3] at hd
  cases hd
  refine ⟨Le.refl _ _, sm, ?_⟩
  cases k with
  | inl i => exact mk_int
  | inr i => exact mk_str
theorem keys_rep {w : Wd} {H : Hp} : ∀ k : List Key, Reps K w H (k.map keyD) (k.map kV)
  | [] => rfl
  | .inl i :: r => ⟨_, _, rfl, mk_int, keys_rep r⟩
  | .inr i :: r => ⟨_, _, rfl, mk_str, keys_rep r⟩
theorem Sim.tupAt {S : Sto} (sm : Sim K w H S) {a : Addr} {vs : List V} (h : H a = some (.tup vs)) : TupAt w H a vs := by
  refine ⟨h, fun ⟨n, h1, h2⟩ => ?_, fun p => ?_⟩
  · rw [sm.len] at h1
    obtain ⟨u, e, i⟩ := sm.ob n _ (List.getElem?_eq_getElem h1)
    rw [h2, h] at e
    cases e
    revert i
    cases S[n] with
    | lst xs => intro i; obtain ⟨_, z, _⟩ := i; cases z
    | dk xs => intro i; obtain ⟨_, z, _⟩ := i; cases z
    | dt xs => intro i; obtain ⟨_, z, _⟩ := i; cases z
    | ins C xs => intro i; obtain ⟨_, _, z, _⟩ := i; cases z
    | frz o => intro i; obtain ⟨_, _, z, _⟩ := i; cases z
  · obtain ⟨xs, e, z⟩ := sm.held a p
    rw [h] at e; cases e; exact z _ rfl
theorem wk_keysT {d : Addr} {o : Obj} {kvs : List (List Key × D)} {us : List (List Key × V)} (h : H d = some (.frz o (.dT us))) (q : Kvs K w H kvs us) : WkOk K w H (.s (.free (tabKeys (.dt kvs)))) (Itkt d o us) := fun w2 H2 S2 l sm _ => by
  have h2 := l.frz _ _ _ h
  have hl : (tabKeys (.dt kvs)).length = us.length := by show (kvs.map _).length = _; rw [List.length_map, q.length]
  refine ⟨fun i hi => ⟨h2, by rw [← hl]; exact hi⟩, ⟨h2, by show us.length ≤ (tabKeys (.dt kvs)).length; rw [hl]; exact Nat.le_refl _⟩, fun i e x H3 hd y => ?_⟩
  obtain ⟨rfl, k, v, p, e1, rfl, hp⟩ := y
  have hd : (kvs.map fun kv => D.tup (kv.1.map keyD))[i]? = some e := hd
  have e2 : (kvs.map (·.1))[i]? = some k := by rw [q.keys, List.getElem?_map, e1]; rfl
  have e3 : (kvs.map fun kv => D.tup (kv.1.map keyD))[i]? = some (.tup (k.map keyD)) := by
    rw [List.getElem?_map] at e2 ⊢
    cases z : kvs[i]? with
    | none => rw [z] at e2; cases e2
    | some kv => rw [z] at e2; cases e2; rfl
  rw [e3] at hd
  cases hd
  refine ⟨Le.refl _ _, sm, ?_⟩
  unfold Rep
  exact ⟨p, _, rfl, sm.tupAt hp, keys_rep k⟩
theorem wk_vals {d : Addr} {o : Obj} {kvs : List (Key × D)} {us : List (Key × V)} (h : H d = some (.frz o (.dK us))) (q : Kvs K w H kvs us) : WkOk K w H (.s (.free (tabVals (.dk kvs)))) (Itd d o us) := fun w2 H2 S2 l sm _ => by
  have h2 := l.frz _ _ _ h
  have hl : (tabVals (.dk kvs)).length = us.length := by show (kvs.map _).length = _; rw [List.length_map, q.length]
  refine ⟨fun i hi => ⟨h2, by rw [← hl]; exact hi⟩, ⟨h2, by show us.length ≤ (tabVals (.dk kvs)).length; rw [hl]; exact Nat.le_refl _⟩, fun i e x H3 hd y => ?_⟩
  obtain ⟨rfl, k, e1⟩ := y
  have hd : (kvs.map (·.2))[i]? = some e := hd
  exact ⟨Le.refl _ _, sm, Reps.at (Reps.tr l.tr _ q.vals) hd (by rw [List.getElem?_map, e1]; rfl)⟩
theorem wk_valsT {d : Addr} {o : Obj} {kvs : List (List Key × D)} {us : List (List Key × V)} (h : H d = some (.frz o (.dT us))) (q : Kvs K w H kvs us) : WkOk K w H (.s (.free (tabVals (.dt kvs)))) (ItdT d o us) := fun w2 H2 S2 l sm _ => by
  have h2 := l.frz _ _ _ h
  have hl : (tabVals (.dt kvs)).length = us.length := by show (kvs.map _).length = _; rw [List.length_map, q.length]
  refine ⟨fun i hi => ⟨h2, by rw [← hl]; exact hi⟩, ⟨h2, by show us.length ≤ (tabVals (.dt kvs)).length; rw [hl]; exact Nat.le_refl _⟩, fun i e x H3 hd y => ?_⟩
  obtain ⟨rfl, k, e1⟩ := y
  have hd : (kvs.map (·.2))[i]? = some e := hd
  exact ⟨Le.refl _ _, sm, Reps.at (Reps.tr l.tr _ q.vals) hd (by rw [List.getElem?_map, e1]; rfl)⟩
theorem wk_en {n : Nat} {xs : List D} (hn : n < w.N) : WkOk K w H (.s (.en n xs)) (Ite K (w.at_ n)) := fun w2 H2 S2 l sm ok => by
  have ok : stands n xs S2 = true := ok
  unfold stands at ok
  split at ok
  · rename_i ys hs
    have e := sames_eq ok
    subst e
    obtain ⟨u, hu, vs, rfl, q2⟩ := sm.ob n _ hs
    rw [l.tr.at_ n hn] at hu
    have t2 : SqL K H2 (w.at_ n) vs := SqL.of hu
    have hl : (enumD ys).length = ys.length := by unfold enumD; rw [List.length_zipWith, List.length_range, Nat.min_self]
    refine ⟨fun i hi => ?_, ⟨vs, t2, by show vs.length ≤ (enumD ys).length; rw [hl, q2.length]; exact Nat.le_refl _⟩, fun i d x H3 hd y => ?_⟩
    · obtain ⟨x, e⟩ := q2.lt (i := i) (by rw [← hl]; exact hi)
      exact ⟨vs, x, t2, e⟩
    · obtain ⟨T, x, rfl, hT, rfl, y⟩ := y
      have hd : (enumD ys)[i]? = some d := hd
      unfold enumD at hd
      rw [List.getElem?_zipWith] at hd
      by_cases hi : i < ys.length
      · rw [List.getElem?_range hi, List.getElem?_eq_getElem hi] at hd
        cases hd
        exact ⟨le_new hT _, sm.new hT _, newTup sm hT ⟨_, _, rfl, mk_int, _, _, rfl, q2.at (List.getElem?_eq_getElem hi) (y vs t2), rfl⟩⟩
      · rw [List.getElem?_eq_none (l := ys) (by omega)] at hd
        cases z : (List.range ys.length)[i]? with
        | none => rw [z] at hd; cases hd
        | some k => rw [z] at hd; cases hd
  · cases ok
end
/-- what is wanted of an iterator -/
def PostI (K : PySem.W.Frag) (W : WX) (σ : L2.St) (w : Wd) (H : Hp) (o : Out Src) (R : L2.It → Hp → Prop) : Prop := match o with
  | .ok s S => ∀ J H' w', Le w w' H H' → w'.P = w.P → Sim K w' H' S → WkOk K w' H' s J → R J H'
  | .exc c S => ∀ H' w', Le w w' H H' → w'.P = w.P → Sim K w' H' S → W (.ref (He.ga K c)) none σ H'
  | .bad => False
def rdI (P : Prog) (R : Str → List D → Sto → Out D) (K : PySem.W.Frag) (W : WX) (c : It) : TI := fun σ H RR => ∃ e S w, At K w H σ e S ∧ PostI K W σ w H (src P R c e S) RR
theorem rdE_I {P : Prog} {R : Str → List D → Sto → Out D} {K : PySem.W.Frag} {W : WX} {σ : L2.St} {w : Wd} {H : Hp} {e : En} {S : Sto} {c : Ex} {f : D → Sto → Out Src} {RR : L2.It → Hp → Prop} {Q' : VK} (a : At K w H σ e S) (h : PostI K W σ w H ((eval P R c e S).bind f) RR)
    (k : ∀ d S1 v H1 w1, eval P R c e S = .ok d S1 → Le w w1 H H1 → w1.P = w.P → At K w1 H1 σ e S1 → Rep K w1 H1 d v → PostI K W σ w1 H1 (f d S1) RR → Q' v H1) : rdE P R K W c σ H Q' := by
  refine ⟨e, S, w, a, ?_⟩
  cases q : eval P R c e S with
  | ok d S1 =>
    rw [q] at h
    have h : PostI K W σ w H (f d S1) RR := h
    refine fun v H1 w1 l p s r => k d S1 v H1 w1 q l p (a.go l p s) r ?_
    cases z : f d S1 with
    | ok x S2 =>
      rw [z] at h
      exact fun J H2 w2 l2 p2 s2 wk => h J H2 w2 (l.trans l2) (p2.trans p) s2 wk
    | exc c S2 =>
      rw [z] at h
      exact fun H2 w2 l2 p2 s2 => h H2 w2 (l.trans l2) (p2.trans p) s2
    | bad => rw [z] at h; exact h
  | exc x S1 =>
    rw [q] at h
    exact h
  | bad =>
    rw [q] at h
    exact h
section
variable {P : Prog} {n : Nat} {N : List Str} {adr : Str → Addr} {X : Cx} {W : WX} {sc : Scope}
theorem now_I {σ : L2.St} {w : Wd} {H : Hp} {s : Src} {S : Sto} {RR : L2.It → Hp → Prop} {J : L2.It} (h : PostI X.K W σ w H (.ok s S) RR) (sm : Sim X.K w H S) (wk : WkOk X.K w H s J) : RR J H := h J H w (Le.refl _ _) rfl sm wk
theorem i_seq {a : Ex} {x tg : Expr} (hp : PE X x (rE P n X W a)) : PI X tg x (rdI P (run P n) X.K W (.seq a)) := by
  refine ⟨fun pins s σ H R I q => ?_⟩
  obtain ⟨e, S, w, A, q⟩ := q
  rw [src] at q
  cases z : eval P (run P n) a e S with
  | bad => rw [z] at q; exact q.elim
  | exc c S1 =>
    refine (pi_list hp).run pins s σ H R I ⟨e, S, w, A, ?_⟩
    rw [z] at q ⊢
    exact q
  | ok d S1 =>
    have q0 := q
    rw [z] at q
    cases d with
    | lst xs =>
      exact (pi_list hp).run pins s σ H R I (rdE_I A q0 fun d S2 v H1 w1 z2 l p A1 r q1 => by
        rw [z] at z2; cases z2
        obtain ⟨b, vs, rfl, t, qs⟩ := rep_lst r
        exact ⟨b, rfl, ⟨vs, t.sq⟩, now_I q1 A1.sim (wk_list t qs)⟩)
    | tup xs =>
      exact (pi_tup hp).run pins s σ H R I (rdE_I A q0 fun d S2 v H1 w1 z2 l p A1 r q1 => by
        rw [z] at z2; cases z2
        obtain ⟨b, vs, rfl, t, qs⟩ := rep_tup r
        exact ⟨b, rfl, ⟨vs, t.sq⟩, now_I q1 A1.sim (wk_tup (fun _ _ l => (t.tr l.tr).sq) qs)⟩)
    | ctup xs =>
      exact (pi_tup hp).run pins s σ H R I (rdE_I A q0 fun d S2 v H1 w1 z2 l p A1 r q1 => by
        rw [z] at z2; cases z2
        unfold Rep at r
        obtain ⟨b, vs, rfl, t, qs⟩ := r
        exact ⟨b, rfl, ⟨vs, t.sq⟩, now_I q1 A1.sim (wk_tup (fun _ _ _ => t.sq) qs)⟩)
    | str y =>
      exact (pi_str hp).run pins s σ H R I (rdE_I A q0 fun d S2 v H1 w1 z2 l p A1 r q1 => by
        rw [z] at z2; cases z2
        cases rep_str r
        exact ⟨y, rfl, now_I q1 A1.sim wk_str⟩)
    | ref k =>
      exact (pi_list hp).run pins s σ H R I (rdE_I A q0 fun d S2 v H1 w1 z2 l p A1 r q1 => by
        rw [z] at z2; cases z2
        have q1 : PostI X.K W σ w1 H1 (match S1[k]? with
          | some (.lst xs) => .ok (.s (.at k xs)) S1
          | _ => .bad) R := q1
        split at q1
        · rename_i xs hk
          obtain ⟨hn, rfl⟩ := rep_ref r
          obtain ⟨u, hu, vs, rfl, qs⟩ := A1.sim.ob k _ hk
          exact ⟨_, rfl, ⟨vs, SqL.of hu⟩, now_I q1 A1.sim (wk_at hn)⟩
        · exact q1.elim)
    | non => exact q.elim
    | bl _ => exact q.elim
    | int _ => exact q.elim
theorem rng_mem : ("range" : Str) ∈ bnames := by decide +kernel
theorem enum_mem : ("enumerate" : Str) ∈ bnames := by decide +kernel
theorem zip_mem : ("zip" : Str) ∈ bnames := by decide +kernel
theorem i_r1 {a : Ex} {x tg : Expr} {p pos : Pos} (G : Good P n N adr X W) (hs : ScOk sc X) (hg : glB sc ("range" : Str) = true) (hc : chkE P N a sc x = true) (hp : PE X x (rE P n X W a)) : PI X tg (.Call (.Name ("range" : Str) p) [x] [] pos) (rdI P (run P n) X.K W (.r1 a)) := by
  obtain ⟨h1, h2, h3⟩ := gl_of hg
  refine ⟨fun pins s σ H R I q => ?_⟩
  obtain ⟨e, S, w, A, q⟩ := q
  rw [src] at q
  refine (pi_range1 (hs.gl h1) (G.kn.bn _ rng_mem) (pa_cons hp pa_nil (star_of hc _ _)) (star_of hc _ _)).run pins s σ H R I (rdE_I A q fun d S1 v H1 w1 _ l p A1 r q1 => ?_)
  cases d <;> try exact q1.elim
  rename_i j _
  cases rep_int r
  have q1 : PostI X.K W σ w1 H1 (if -(2 ^ 62) ≤ j ∧ j < 2 ^ 62 then .ok (.s (.free (rngD 0 j.toNat))) S1 else .bad) R := q1
  split at q1
  · rename_i hj
    exact ⟨j, rfl, hj.1, hj.2, now_I q1 A1.sim wk_rng⟩
  · exact q1.elim
theorem i_r2 {a b : Ex} {x y tg : Expr} {p pos : Pos} (G : Good P n N adr X W) (hs : ScOk sc X) (hg : glB sc ("range" : Str) = true) (hc : chkE P N a sc x = true) (hc2 : chkE P N b sc y = true) (hp : PE X x (rE P n X W a)) (hp2 : PE X y (rE P n X W b)) : PI X tg (.Call (.Name ("range" : Str) p) [x, y] [] pos) (rdI P (run P n) X.K W (.r2 a b)) := by
  obtain ⟨h1, h2, h3⟩ := gl_of hg
  refine ⟨fun pins s σ H R I q => ?_⟩
  obtain ⟨e, S, w, A, q⟩ := q
  rw [src] at q
  have st : starEach [x, y] X.env = [(false, PySem.eval x X.env), (false, PySem.eval y X.env)] := by rw [star_of hc, star_of hc2]; rfl
  refine (pi_range2 (hs.gl h1) (G.kn.bn _ rng_mem) (pa_cons hp (pa_cons hp2 pa_nil (star_of hc2 _ _)) (star_of hc _ _)) st (star_of hc2 _ _)).run pins s σ H R I (rdE_I A q fun d S1 v H1 w1 _ l p A1 r q1 => rdE_I A1 q1 fun d2 S2 v2 H2 w2 _ l2 p2 A2 r2 q2 => ?_)
  have r1 := Rep.le l2 d r
  clear q1 r
  cases d <;> try exact q2.elim
  rename_i i _
  cases d2 <;> try exact q2.elim
  rename_i _ j _
  cases rep_int r1
  cases rep_int r2
  have q2 : PostI X.K W σ w2 H2 (if -(2 ^ 62) ≤ i ∧ i < 2 ^ 62 ∧ -(2 ^ 62) ≤ j ∧ j < 2 ^ 62 then .ok (.s (.free (rngD i (j - i).toNat))) S2 else .bad) R := q2
  split at q2
  · rename_i hj
    exact ⟨i, j, rfl, hj, now_I q2 A2.sim wk_rng⟩
  · exact q2.elim
theorem i_enum {a : Ex} {x : Expr} {tes : List Expr} {tk : Nat} {p pos tp : Pos} (G : Good P n N adr X W) (hs : ScOk sc X) (hg : glB sc ("enumerate" : Str) = true) (hc : chkE P N a sc x = true) (hp : PE X x (rE P n X W a)) : PI X (.Tuple tes tk tp) (.Call (.Name ("enumerate" : Str) p) [x] [] pos) (rdI P (run P n) X.K W (.enum a)) := by
  obtain ⟨h1, h2, h3⟩ := gl_of hg
  refine ⟨fun pins s σ H R I q => ?_⟩
  obtain ⟨e, S, w, A, q⟩ := q
  rw [src] at q
  refine (pi_enum (hs.gl h1) (G.kn.bn _ enum_mem) (pa_cons hp pa_nil (star_of hc _ _)) (star_of hc _ _)).run pins s σ H R I (rdE_I A q fun d S1 v H1 w1 _ l p A1 r q1 => ?_)
  cases d <;> try exact q1.elim
  · obtain ⟨b, vs, rfl, t, qs⟩ := rep_lst r
    exact ⟨b, vs, rfl, t.sq, now_I q1 A1.sim (wk_enum t qs)⟩
  · rename_i m _
    have q1 : PostI X.K W σ w1 H1 (match S1[m]? with
      | some (.lst xs) => .ok (.s (.en m xs)) S1
      | _ => .bad) R := q1
    split at q1
    · rename_i xs hx
      obtain ⟨hn, rfl⟩ := rep_ref r
      obtain ⟨u, hu, vs, rfl, qs⟩ := A1.sim.ob m _ hx
      exact ⟨_, vs, rfl, SqL.of hu, now_I q1 A1.sim (wk_en hn)⟩
    · exact q1.elim
theorem i_zip {a b : Ex} {x y : Expr} {tes : List Expr} {tk : Nat} {p pos tp : Pos} (G : Good P n N adr X W) (hs : ScOk sc X) (hg : glB sc ("zip" : Str) = true) (hc : chkE P N a sc x = true) (hc2 : chkE P N b sc y = true) (hp : PE X x (rE P n X W a)) (hp2 : PE X y (rE P n X W b)) : PI X (.Tuple tes tk tp) (.Call (.Name ("zip" : Str) p) [x, y] [] pos) (rdI P (run P n) X.K W (.zip a b)) := by
  obtain ⟨h1, h2, h3⟩ := gl_of hg
  refine ⟨fun pins s σ H R I q => ?_⟩
  obtain ⟨e, S, w, A, q⟩ := q
  rw [src] at q
  refine (pi_zipM (hs.gl h1) (G.kn.bn _ zip_mem) (pa_cons hp (pa_cons hp2 pa_nil (star_of hc2 _ _)) (star_of hc _ _)) (star_of hc _ _) (by rw [star_of hc2]; rfl)).run pins s σ H R I (rdE_I A q fun d S1 v H1 w1 _ l p A1 r q1 => rdE_I A1 q1 fun d2 S2 v2 H2 w2 _ l2 p2 A2 r2 q2 => ?_)
  have r1 := Rep.le l2 d r
  clear q1 r
  cases d <;> try exact q2.elim
  · cases d2 <;> try exact q2.elim
    · obtain ⟨b, vs, rfl, t, qs⟩ := rep_tup r1
      obtain ⟨b2, vs2, rfl, t2, qs2⟩ := rep_tup r2
      exact ⟨b, b2, vs, vs2, rfl, .inr (.inl ⟨t.sq, t2.sq, now_I q2 A2.sim (wk_zipT t qs t2 qs2)⟩)⟩
    · obtain ⟨b, vs, rfl, t, qs⟩ := rep_tup r1
      obtain ⟨b2, vs2, rfl, t2, qs2⟩ := rep_lst r2
      exact ⟨b, b2, vs, vs2, rfl, .inr (.inr ⟨t.sq, t2.sq, now_I q2 A2.sim (wk_zipM t qs t2 qs2)⟩)⟩
  · cases d2 <;> try exact q2.elim
    obtain ⟨b, vs, rfl, t, qs⟩ := rep_lst r1
    obtain ⟨b2, vs2, rfl, t2, qs2⟩ := rep_lst r2
    exact ⟨b, b2, vs, vs2, rfl, .inl ⟨t.sq, t2.sq, now_I q2 A2.sim (wk_zip t qs t2 qs2)⟩⟩
theorem i_keys {a : Ex} {x tg : Expr} (hp : PE X x (rE P n X W a)) : PI X tg x (rdI P (run P n) X.K W (.keys a)) := by
  refine ⟨fun pins s σ H R I q => ?_⟩
  obtain ⟨e, S, w, A, q⟩ := q
  rw [src] at q
  refine (pi_keys hp).run pins s σ H R I (rdE_I A q fun d S1 v H1 w1 _ l p A1 r q1 => ?_)
  cases d <;> try exact q1.elim
  rename_i m _
  have q1 : PostI X.K W σ w1 H1 (match S1[m]? with
    | some (.frz (.dk kvs)) => .ok (.s (.free (tabKeys (.dk kvs)))) S1
    | some (.frz (.dt kvs)) => .ok (.s (.free (tabKeys (.dt kvs)))) S1
    | _ => .bad) R := q1
  obtain ⟨hn, rfl⟩ := rep_ref r
  split at q1
  · rename_i kvs hx
    obtain ⟨u, hu, ob, u', rfl, vs, rfl, kv⟩ := A1.sim.ob m _ hx
    exact ⟨_, ob, rfl, .inl ⟨vs, hu, now_I q1 A1.sim (wk_keys hu kv)⟩⟩
  · rename_i kvs hx
    obtain ⟨u, hu, ob, u', rfl, vs, rfl, kv⟩ := A1.sim.ob m _ hx
    exact ⟨_, ob, rfl, .inr ⟨vs, hu, now_I q1 A1.sim (wk_keysT hu kv)⟩⟩
  · exact q1.elim
theorem i_vals {a : Ex} {x tg : Expr} {ap p : Pos} (hp : PE X x (rE P n X W a)) (hb : attributeBase x "values" X.env (PySem.eval x X.env) = PySem.eval x X.env) (hl : (ap.endLine == p.line) = true) : PI X tg (.Call (.Attribute x ("values" : Str) ap) [] [] p) (rdI P (run P n) X.K W (.vals a)) := by
  refine ⟨fun pins s σ H R I q => ?_⟩
  obtain ⟨e, S, w, A, q⟩ := q
  rw [src] at q
  refine (pi_valuesB hp hb hl).run pins s σ H R I (rdE_I A q fun d S1 v H1 w1 _ l p A1 r q1 => ?_)
  cases d <;> try exact q1.elim
  rename_i m _
  have q1 : PostI X.K W σ w1 H1 (match S1[m]? with
    | some (.frz (.dk kvs)) => .ok (.s (.free (tabVals (.dk kvs)))) S1
    | some (.frz (.dt kvs)) => .ok (.s (.free (tabVals (.dt kvs)))) S1
    | _ => .bad) R := q1
  obtain ⟨hn, rfl⟩ := rep_ref r
  split at q1
  · rename_i kvs hx
    obtain ⟨u, hu, ob, u', rfl, vs, rfl, kv⟩ := A1.sim.ob m _ hx
    exact ⟨_, ob, rfl, .inl ⟨vs, hu, now_I q1 A1.sim (wk_vals hu kv)⟩⟩
  · rename_i kvs hx
    obtain ⟨u, hu, ob, u', rfl, vs, rfl, kv⟩ := A1.sim.ob m _ hx
    exact ⟨_, ob, rfl, .inr ⟨vs, hu, now_I q1 A1.sim (wk_valsT hu kv)⟩⟩
  · exact q1.elim
end
end Z


/-! Z: things of one's own: a list that is written while it grows; targets. -/
namespace Z
open PySem L2
/-- D is one's own -/
def Wd.own (w : Wd) (D : Addr) : Wd := ⟨w.at_, w.N, fun a => w.P a ∨ a = D⟩
/-- only these are one's own -/
def Wd.only (w : Wd) (P : Addr → Prop) : Wd := ⟨w.at_, w.N, P⟩
/-- D, one's own, is the store's from now on -/
def Wd.adopt (w : Wd) (D : Addr) (P : Addr → Prop) : Wd := ⟨fun i => if i = w.N then D else w.at_ i, w.N + 1, P⟩
section
variable {K : PySem.W.Frag} {w w' : Wd} {H H' : Hp} {S : Sto} {D : Addr} {vs us : List V}
theorem le_own (hn : H D = none) (u : HO) : Le w (w.own D) H (upd H D u) :=
  ⟨Nat.le_refl _, fun _ _ => rfl, fun a h => h.elim .inl fun e => .inr (by rw [e]; exact hn), fun n h1 h2 => absurd h2 (Nat.not_lt.mpr h1), (le_new (w := w) hn u).keep, (le_new (w := w) hn u).frz, (le_new (w := w) hn u).dom⟩
theorem Sim.own (s : Sim K w H S) (hn : H D = none) {u0 : HO} (nt : ∀ vs, u0 ≠ .tup vs) : Sim K (w.own D) (upd H D u0) S := by
  have l := le_own (w := w) hn u0
  have nz : ∀ n, n < w.N → w.at_ n ≠ D := fun n h q => by
    rw [s.len] at h
    obtain ⟨u, e, _⟩ := s.ob n _ (List.getElem?_eq_getElem h)
    rw [q, hn] at e; cases e
  refine ⟨s.len, s.inj, fun n o h => ?_, fun n h q => ?_, fun a h => ?_⟩
  · obtain ⟨u, e, i⟩ := s.ob n o h
    exact ⟨u, (upd_ne (nz n (s.lt h))).trans e, i.le l⟩
  · exact q.elim (s.apart n h) (nz n h)
  · rcases h with h | h
    · exact s.heldL l h
    · exact ⟨u0, by rw [h, upd_same], nt⟩
theorem tr_own (h : w.P D) (u : HO) : Tr w w H (upd H D u) := ⟨Nat.le_refl _, fun _ _ => rfl, fun a o n p e => ⟨by rw [upd_ne (fun z => p (by rw [z]; exact h))]; exact e, n, p⟩⟩
theorem Sim.ownSet (s : Sim K w H S) (h : w.P D) {u0 : HO} (nt : ∀ vs, u0 ≠ .tup vs) : Sim K w (upd H D u0) S := by
  refine ⟨s.len, s.inj, fun n o ho => ?_, s.apart, fun a ha => ?_⟩
  · obtain ⟨u, e, i⟩ := s.ob n o ho
    exact ⟨u, by rw [upd_ne (fun z => s.apart n (s.lt ho) (by rw [z]; exact h))]; exact e, i.tr (tr_own h _)⟩
  · by_cases z : a = D
    · exact ⟨u0, by rw [z, upd_same], nt⟩
    · rw [upd_ne z]; exact s.held a ha
/-- what was nothing at first may change -/
theorem Le.upd (l : Le w w' H H') (hn : H D = none) (u : HO) : Le w w' H (L2.upd H' D u) :=
  ⟨l.N, l.at_, l.P, l.new, fun a o n e => by rw [upd_ne (ne_of_none e hn)]; exact l.keep a o n e, fun a o x e => by rw [upd_ne (ne_of_none e hn)]; exact l.frz a o x e, fun a e => by
    by_cases z : a = D
    · rw [z]; exact hn
    · rw [upd_ne z] at e; exact l.dom a e⟩
theorem tr_only {P : Addr → Prop} (h : ∀ a, P a → w.P a) : Tr w (w.only P) H H := ⟨Nat.le_refl _, fun _ _ => rfl, fun a o n p e => ⟨e, n, fun q => p (h a q)⟩⟩
theorem Le.only {P : Addr → Prop} (l : Le w w' H H') (h : ∀ a, P a → w.P a ∨ H a = none) : Le w (w'.only P) H H' := ⟨l.N, l.at_, h, l.new, l.keep, l.frz, l.dom⟩
theorem Sim.only {P : Addr → Prop} (s : Sim K w H S) (h : ∀ a, P a → w.P a) : Sim K (w.only P) H S :=
  ⟨s.len, s.inj, fun n o ho => by
    obtain ⟨u, e, i⟩ := s.ob n o ho
    exact ⟨u, e, i.tr (tr_only h)⟩, fun n hn q => s.apart n hn (h _ q), fun a ha => s.held a (h a ha)⟩
theorem adopt_at {P : Addr → Prop} {i : Nat} (h : i < w.N) : (w.adopt D P).at_ i = w.at_ i := by
  show (if i = w.N then D else w.at_ i) = _
  rw [if_neg (Nat.ne_of_lt h)]
theorem adopt_N {P : Addr → Prop} : (w.adopt D P).at_ w.N = D := by
  show (if w.N = w.N then D else w.at_ w.N) = D
  rw [if_pos rfl]
theorem tr_adopt {P : Addr → Prop} (hD : w.P D) (h : ∀ a, P a → w.P a) : Tr w (w.adopt D P) H H := ⟨Nat.le_succ _, fun n hn => adopt_at hn, fun a o n p e => ⟨e, fun ⟨m, h1, h2⟩ => by
  by_cases z : m < w.N
  · rw [adopt_at z] at h2
    exact n ⟨m, z, h2⟩
  · have z : m = w.N := Nat.le_antisymm (Nat.le_of_lt_succ h1) (Nat.not_lt.mp z)
    rw [z, adopt_N] at h2
    exact p (by rw [← h2]; exact hD), fun q => p (h a q)⟩⟩
theorem Le.adopt {P : Addr → Prop} (l : Le w w' H H') (hn : H D = none) (h : ∀ a, P a → w.P a ∨ H a = none) : Le w (w'.adopt D P) H H' :=
  ⟨Nat.le_succ_of_le l.N, fun n hn => (adopt_at (Nat.lt_of_lt_of_le hn l.N)).trans (l.at_ n hn), h, fun n h1 h2 => by
    by_cases z : n < w'.N
    · rw [adopt_at z]; exact l.new n h1 z
    · have z : n = w'.N := Nat.le_antisymm (Nat.le_of_lt_succ h2) (Nat.not_lt.mp z)
      rw [z, adopt_N]; exact hn, l.keep, l.frz, l.dom⟩
theorem Sim.adopt {P : Addr → Prop} {o : Ob} {u : HO} (s : Sim K w H S) (hD : w.P D) (e : H D = some u) (r : Img K w H o u) (h : ∀ a, P a → w.P a) (nD : ¬ P D) : Sim K (w.adopt D P) H (S ++ [o]) := by
  have nz : ∀ n, n < w.N → w.at_ n ≠ D := fun n hn q => s.apart n hn (by rw [q]; exact hD)
  have t := tr_adopt (H := H) hD h
  refine ⟨?_, fun a b ha hb e => ?_, fun n o' h' => ?_, fun n hn q => ?_, fun a ha => s.held a (h a ha)⟩
  · show w.N + 1 = _
    rw [List.length_append, s.len]; rfl
  · by_cases h1 : a < w.N <;> by_cases h2 : b < w.N
    · rw [adopt_at h1, adopt_at h2] at e; exact s.inj a b h1 h2 e
    · have e2 : b = w.N := Nat.le_antisymm (Nat.le_of_lt_succ hb) (Nat.not_lt.mp h2)
      rw [adopt_at h1, e2, adopt_N] at e; exact absurd e (nz a h1)
    · have e2 : a = w.N := Nat.le_antisymm (Nat.le_of_lt_succ ha) (Nat.not_lt.mp h1)
      rw [adopt_at h2, e2, adopt_N] at e; exact absurd e.symm (nz b h2)
    · have e1 : a = w.N := Nat.le_antisymm (Nat.le_of_lt_succ ha) (Nat.not_lt.mp h1)
      have e2 : b = w.N := Nat.le_antisymm (Nat.le_of_lt_succ hb) (Nat.not_lt.mp h2)
      rw [e1, e2]
  · by_cases h1 : n < w.N
    · rw [List.getElem?_append_left (by rw [← s.len]; exact h1)] at h'
      obtain ⟨v, e, j⟩ := s.ob n o' h'
      exact ⟨v, by rw [adopt_at h1]; exact e, j.tr t⟩
    · have h2 : n < S.length + 1 := by
        have := lt_get h'
        rwa [List.length_append] at this
      have z : n = S.length := by have := s.len; omega
      subst z
      rw [List.getElem?_append_right (Nat.le_refl _), Nat.sub_self] at h'
      have z : o = o' := Option.some.inj h'
      subst z
      refine ⟨u, ?_, r.tr t⟩
      rw [← s.len, adopt_N]
      exact e
  · by_cases h1 : n < w.N
    · rw [adopt_at h1] at q
      exact s.apart n h1 (h _ q)
    · have e1 : n = w.N := Nat.le_antisymm (Nat.le_of_lt_succ hn) (Nat.not_lt.mp h1)
      rw [e1, adopt_N] at q
      exact nD q
end
/-! ### slots forgotten -/
theorem wipe_ne {σ : L2.St} {i j : Nat} {x : Option V} (h : i ≠ j) : ∀ vs : List Nat, (L2.wipe (σ.set i x) vs)[j]? = (L2.wipe σ vs)[j]?
  | [] => List.getElem?_set_ne h
  | v :: vs => by
    unfold L2.wipe
    have ih := wipe_ne (σ := σ) (x := x) h vs
    by_cases z : v = j
    · subst z
      have l1 : (L2.wipe (σ.set i x) vs).length = (L2.wipe σ vs).length := by rw [wipe_length, wipe_length, List.length_set]
      rw [List.getElem?_set, List.getElem?_set, if_pos rfl, if_pos rfl, l1]
    · rw [List.getElem?_set_ne z, List.getElem?_set_ne z, ih]
theorem wipe_in {σ : L2.St} {i : Nat} : ∀ {vs : List Nat}, i ∈ vs → (L2.wipe σ vs)[i]? = if i < σ.length then some none else none
  | [], h => by cases h
  | v :: vs, h => by
    unfold L2.wipe
    by_cases z : v = i
    · subst z
      rw [List.getElem?_set, if_pos rfl, wipe_length]
    · rw [List.getElem?_set_ne z]
      rcases List.mem_cons.mp h with e | e
      · exact absurd e.symm z
      · exact wipe_in e
theorem wipe_set {σ : L2.St} {i : Nat} {x : Option V} {vs : List Nat} (h : i ∈ vs) : L2.wipe (σ.set i x) vs = L2.wipe σ vs := by
  refine List.ext_getElem? fun j => ?_
  by_cases z : i = j
  · subst z
    rw [wipe_in h, wipe_in h, List.length_set]
  · exact wipe_ne z vs
/-! ### targets -/
def rdG (K : PySem.W.Frag) (t : Tg) : TG := fun v σ H Q => ∃ w S d e e1, REnv K w H σ e ∧ Sim K w H S ∧ Rep K w H d v ∧ bindT t d e = some e1 ∧ ∀ σ', REnv K w H σ' e1 → (∀ vs, (∀ i ∈ t.slots, i ∈ vs) → L2.wipe σ' vs = L2.wipe σ vs) → Q σ' H
theorem pg_imp {X : Cx} {tg : Expr} {g g' : TG} (h : PG X tg g) (k : ∀ v σ H Q, g' v σ H Q → g v σ H Q) : PG X tg g' := ⟨fun pins s σ H v u Q I r q => h.run pins s σ H v u Q I r (k v σ H Q q)⟩
def gsN : List Nat → TGs
  | [] => gNil
  | i :: r => gCons (gName i) (gsN r)
theorem gs_run {K : PySem.W.Frag} {w : Wd} {H : Hp} {Q : L2.St → Hp → Prop} : ∀ {is : List Nat} {xs : List D} {vs : List V} {σ : L2.St} {e : En}, is.length = xs.length → (∀ i ∈ is, i < e.length) → REnv K w H σ e → Reps K w H xs vs →
    (∀ σ', REnv K w H σ' ((is.zip xs).foldl (fun e p => e.set p.1 (.val p.2)) e) → (∀ us, (∀ i ∈ is, i ∈ us) → L2.wipe σ' us = L2.wipe σ us) → Q σ' H) → gsN is vs σ H Q
  | [], [], vs, σ, e, _, _, E, r, k => ⟨r, k σ E fun _ _ => rfl⟩
  | [], _ :: _, _, _, _, h, _, _, _, _ => by cases h
  | _ :: _, [], _, _, _, h, _, _, _, _ => by cases h
  | i :: is, x :: xs, vs, σ, e, h, hi, E, r, k => by
    obtain ⟨v, us, rfl, r1, r2⟩ := r
    have i0 := hi i List.mem_cons_self
    refine ⟨v, us, rfl, gs_run (is := is) (xs := xs) (by simpa using h) (fun j hj => by rw [List.length_set]; exact hi j (List.mem_cons_of_mem _ hj)) (E.set r1 i0) r2 fun σ' E' hw => ?_⟩
    exact k σ' E' fun ys hy => (hw ys fun j hj => hy j (List.mem_cons_of_mem _ hj)).trans (wipe_set (hy i List.mem_cons_self))
section
variable {P : Prog} {n : Nat} {N : List Str} {adr : Str → Addr} {X : Cx} {W : WX} {sc : Scope}
theorem name_of {i : Nat} {x : Str} {p : Pos} (G : Good P n N adr X W) (hs : ScOk sc X) (h : N[i]? = some x) (hl : locB sc x = true) : PG X (.Name x p) (gName i) := by
  have l := loc_of hl
  exact pg_name G.ndX (by rw [G.nm]; exact h) (hs.loc l) (hs.fn x l)
theorem names_of (G : Good P n N adr X W) (hs : ScOk sc X) : ∀ {is : List Nat} {es : List Expr} {k : Nat} {p : Pos}, tgB N sc (.many is) (.Tuple es k p) = true →
    PGs X es (gsN is) ∧ (assignEach es X.env).length = is.length ∧ (assignEach es X.env).findIdx? (·.1) = none
  | [], _, _, _, h => by unfold tgB at h; cases h
  | [i], es, k, p, h => by
    cases es with
    | nil => simp [tgB] at h
    | cons x es =>
      cases x with
      | Name x q =>
        cases es with
        | nil =>
          unfold tgB at h
          simp only [Bool.and_eq_true, decide_eq_true_eq] at h
          exact ⟨pgs_cons (name_of G hs h.1 h.2) pgs_nil, rfl, rfl⟩
        | cons y ys => simp [tgB] at h
      | _ => simp [tgB] at h
  | i :: j :: r, es, k, p, h => by
    cases es with
    | nil => simp [tgB] at h
    | cons x es =>
      cases x with
      | Name x q =>
        unfold tgB at h
        simp only [Bool.and_eq_true, decide_eq_true_eq] at h
        obtain ⟨a1, a2, a3⟩ := names_of G hs h.2.2
        refine ⟨pgs_cons (name_of G hs h.1 h.2.1) a1, ?_, ?_⟩
        · show (assignEach es X.env).length + 1 = _
          rw [a2]; rfl
        · show ((false, assign (.Name x q) X.env) :: assignEach es X.env).findIdx? (·.1) = none
          rw [List.findIdx?_cons, a3]; rfl
      | _ => simp [tgB] at h
theorem g_tg {t : Tg} {tg : Expr} (G : Good P n N adr X W) (hs : ScOk sc X) (h : tgB N sc t tg = true) : PG X tg (rdG X.K t) := by
  cases t with
  | one i =>
    cases tg with
    | Name x p =>
      unfold tgB at h
      simp only [Bool.and_eq_true, decide_eq_true_eq] at h
      refine pg_imp (name_of G hs h.1 h.2) fun v σ H Q q => ?_
      obtain ⟨w, S, d, e, e1, E, sm, r, hb, k⟩ := q
      have hb : (if i < e.length then some (e.set i (.val d)) else none) = some e1 := hb
      split at hb
      · rename_i hi
        cases hb
        exact k _ (E.set r hi) fun vs hv => wipe_set (hv i (by unfold Tg.slots; exact List.mem_singleton.mpr rfl))
      · cases hb
    | _ => simp [tgB] at h
  | many is =>
    cases tg with
    | Tuple es k p =>
      obtain ⟨a1, a2, a3⟩ := names_of G hs h
      refine pg_imp (pg_tup (n := is.length) G.calm a1 a2 a3) fun v σ H Q q => ?_
      obtain ⟨w, S, d, e, e1, E, sm, r, hb, k⟩ := q
      cases d with
      | tup xs =>
       have hb : (if is.length = xs.length ∧ (is.all fun i => decide (i < e.length)) = true then some ((is.zip xs).foldl (fun e p => e.set p.1 (.val p.2)) e) else none) = some e1 := hb
       split at hb
       · rename_i hi
         cases hb
         obtain ⟨a, vs, rfl, t, qs⟩ := rep_tup r
         exact ⟨a, vs, rfl, t.sq, by rw [← qs.length]; exact hi.1.symm, gs_run hi.1 (fun i hm => of_decide_eq_true (List.all_eq_true.mp hi.2 i hm)) E qs k⟩
       · cases hb
      | _ => cases hb
    | _ => cases is <;> simp [tgB] at h
end
end Z


/-! Z: comprehensions. -/
namespace Z
open PySem L2
def noX : WX := fun _ _ _ _ => False
theorem loopC_ok {f : D → Sto → Out (Option D)} {c : Sto → Bool} {xs acc : List D} {S : Sto} {r : List D} {S1 : Sto} (h : loopC f c xs acc S = .ok r S1) : c S = true := by
  cases xs with
  | nil =>
    unfold loopC at h
    split at h
    · assumption
    · cases h
  | cons x xs =>
    unfold loopC at h
    split at h
    · assumption
    · cases h
theorem loopC_noexc {f : D → Sto → Out (Option D)} {c : Sto → Bool} : ∀ {xs acc : List D} {S : Sto} {k : Str} {S1 : Sto}, loopC f c xs acc S ≠ .exc k S1
  | [], acc, S, k, S1, h => by
    unfold loopC at h
    split at h <;> cases h
  | x :: xs, acc, S, k, S1, h => by
    unfold loopC at h
    split at h
    · split at h
      · split at h
        · exact loopC_noexc h
        · cases h
      · exact loopC_noexc h
      · cases h
    · cases h
theorem wipe_idem (σ : L2.St) (vs : List Nat) : L2.wipe (L2.wipe σ vs) vs = L2.wipe σ vs := by
  refine List.ext_getElem? fun j => ?_
  by_cases h : j ∈ vs
  · rw [wipe_in h, wipe_in h, wipe_length]
  · rw [wipe_out h]
/-- the body of a comprehension -/
def bodyC (P : Prog) (R : Str → List D → Sto → Out D) (tg : Tg) (vs : List Nat) (cd el : Ex) (e : En) : D → Sto → Out (Option D) := fun x S => match bindT tg x (wipeE e vs) with
  | some e1 => (eval P R cd e1 S).bind fun b S => (match truth S b with
    | some true => (eval P R el e1 S).bind fun d S => .ok (some d) S
    | some false => .ok none S
    | none => .bad)
  | none => .bad
section
variable {P : Prog} {n : Nat} {N : List Str} {adr : Str → Addr} {X : Cx} {W : WX} {sc : Scope}
/-- a turn that went well -/
theorem bodyC_ok {R : Str → List D → Sto → Out D} {tg : Tg} {vs : List Nat} {cd el : Ex} {e : En} {x : D} {S : Sto} {o : Option D} {S1 : Sto} (h : bodyC P R tg vs cd el e x S = .ok o S1) :
    ∃ e1 b S2, bindT tg x (wipeE e vs) = some e1 ∧ eval P R cd e1 S = .ok b S2 ∧ ((truth S2 b = some true ∧ ∃ d, eval P R el e1 S2 = .ok d S1 ∧ o = some d) ∨ (truth S2 b = some false ∧ o = none ∧ S1 = S2)) := by
  unfold bodyC at h
  split at h
  · rename_i e1 he
    obtain ⟨b, S2, h1, h2⟩ := bind_ok h
    refine ⟨e1, b, S2, he, h1, ?_⟩
    split at h2
    · rename_i ht
      obtain ⟨d, S3, h3, h4⟩ := bind_ok h2
      cases h4
      exact .inl ⟨ht, d, h3, rfl⟩
    · rename_i ht
      cases h2
      exact .inr ⟨ht, rfl, rfl⟩
    · cases h2
  · cases h
theorem comp_loop {K : PySem.W.Frag} {R : Str → List D → Sto → Out D} {J : L2.It} {s : Src} {tg : Tg} {vs : List Nat} {cd el : Ex} {e : En} {σ : L2.St} {w1 : Wd} {H1 : Hp} {S1 : Sto} {accF : List D} {SF : Sto} {a : Addr} {Qd : Hp → Prop}
    (A : At K w1 H1 σ e S1) (wk : WkOk K w1 H1 s J) (hD : H1 a = none) (hin : ∀ i ∈ tg.slots, i ∈ vs) (hL : loopC (bodyC P R tg vs cd el e) s.ok s.xs [] S1 = .ok accF SF)
    (fin : ∀ H w us, Le w1 w H1 H → w.P = (w1.own a).P → Sim K w H SF → H a = some (.lst us) → Reps K w H accF us → Qd H) :
    ∃ Wm : Nat → Nat → Hp → Prop, (∃ m, Wm 0 m (upd H1 a (.lst []))) ∧ ∀ i m H, Wm i m H →
      (J.stop i H ∧ Qd H) ∨ (J.go i H ∧ ∃ Nx : Hp → Prop, (∀ H', Nx H' → ∃ m', m' < m ∧ Wm (i + 1) m' H') ∧ ∀ x H', J.yld i H x H' → rdG K tg x (L2.wipe σ vs) H' fun σ2 H2 => L2.wipe σ2 vs = L2.wipe σ vs ∧ rdT P R K noX cd σ2 H2 fun b H3 =>
        if b = true then rdE P R K noX el σ2 H3 fun y H4 => ∃ acc, H4 a = some (.lst acc) ∧ acc.length < sizeLine ∧ Nx (upd H4 a (.lst (acc ++ [y]))) else Nx H3) := by
  have walk : Walk J s.xs.length (fun H => ∃ w2 S2, Le w1 w2 H1 H ∧ Sim K w2 H S2 ∧ s.ok S2 = true) (fun i H x H' => J.yld i H x H') :=
    ⟨fun i H hi ⟨w2, S2, l, sm, ok⟩ => (wk w2 H S2 l.lw sm ok).1 i hi, fun H ⟨w2, S2, l, sm, ok⟩ => (wk w2 H S2 l.lw sm ok).2.1, fun i H x H' _ _ y => y⟩
  refine lc_it walk (fun i H => ∃ w2 S2 acc us, Le w1 w2 H1 H ∧ w2.P = (w1.own a).P ∧ Sim K w2 H S2 ∧ H a = some (.lst us) ∧ Reps K w2 H acc us ∧ loopC (bodyC P R tg vs cd el e) s.ok (s.xs.drop i) acc S2 = .ok accF SF) ?_ ?_ ?_ ?_
  · exact ⟨w1.own a, S1, [], [], le_own hD _, rfl, A.sim.own hD (fun _ z => by cases z), upd_same, rfl, by rw [List.drop_zero]; exact hL⟩
  · rintro i H _ ⟨w2, S2, acc, us, l, p, sm, ha, r, hl⟩
    exact ⟨w2, S2, l, sm, loopC_ok hl⟩
  · rintro i x H H' hi ⟨w2, S2, acc, us, l, p, sm, ha, r, hl⟩ y
    have hd : s.xs[i]? = some s.xs[i] := List.getElem?_eq_getElem hi
    have ok := loopC_ok hl
    obtain ⟨l3, sm3, rx⟩ := (wk w2 H S2 l.lw sm ok).2.2 i _ x H' hd y
    have mine : w2.P a := by rw [p]; exact .inr rfl
    rw [List.drop_eq_getElem_cons hi] at hl
    unfold loopC at hl
    rw [if_pos ok] at hl
    have lH : Le w1 w2 H1 H' := l.trans l3
    have E : REnv K w2 H' (L2.wipe σ vs) (wipeE e vs) := (A.env.le lH (fun c hc => by rw [p]; exact .inl hc) A.sim.pim).wipe vs
    have ha' : H' a = some (.lst us) := l3.keep a _ (sm.pim a mine) ha
    have r' : Reps K w2 H' acc us := Reps.le l3 acc r
    -- the turn's outcome
    cases hb : bodyC P R tg vs cd el e s.xs[i] S2 with
    | bad => rw [hb] at hl; cases hl
    | exc c S3 => rw [hb] at hl; cases hl
    | ok o S3 =>
      rw [hb] at hl
      obtain ⟨e1, b, S4, he1, hcd, hcase⟩ := bodyC_ok hb
      refine ⟨w2, S2, _, _, e1, E, sm3, rx, he1, fun σ' E' hw => ⟨(hw vs hin).trans (wipe_idem σ vs), ?_⟩⟩
      have A2 : At K w2 H' σ' e1 S2 := ⟨E', sm3⟩
      obtain ⟨k, hk⟩ : ∃ k, truth S4 b = some k := by
        rcases hcase with ⟨h, _⟩ | ⟨h, _⟩
        · exact ⟨_, h⟩
        · exact ⟨_, h⟩
      refine ⟨e1, S2, w2, A2, ?_⟩
      rw [hcd]
      show Post K RelB noX σ' w2 H' (match truth S4 b with
        | some b => Out.ok b S4
        | none => .bad) _
      rw [hk]
      intro b' H4 w4 l4 p4 s4 hb'
      have hb' : b' = k := hb'
      subst hb'
      have A4 := A2.go l4 p4 s4
      have mine4 : w4.P a := by rw [p4]; exact mine
      rcases hcase with ⟨ht, d, hel, ho⟩ | ⟨ht, ho, hS⟩
      · rw [hk] at ht
        cases ht
        rw [if_pos rfl]
        subst ho
        have hl : (if acc.length < sizeLine then loopC (bodyC P R tg vs cd el e) s.ok (s.xs.drop (i + 1)) (acc ++ [d]) S3 else .bad) = .ok accF SF := hl
        split at hl
        · rename_i hz
          refine ⟨e1, S4, w4, A4, ?_⟩
          rw [hel]
          intro v H5 w5 l5 p5 s5 rv
          have mine5 : w5.P a := by rw [p5]; exact mine4
          have ha5 : H5 a = some (.lst us) := (l4.trans l5).keep a _ (sm3.pim a mine) ha'
          refine ⟨us, ha5, by rw [← r.length]; exact hz, w5, S3, acc ++ [d], us ++ [v], ((lH.trans l4).trans l5).upd hD _, by rw [p5, p4, p], s5.ownSet mine5 (fun _ z => by cases z), upd_same, ?_, hl⟩
          exact Reps.tr (tr_own mine5 _) _ (Reps.append (Reps.le (l4.trans l5) acc r') ⟨v, [], rfl, rv, rfl⟩)
        · cases hl
      · rw [hk] at ht
        cases ht
        rw [if_neg (by decide)]
        subst ho
        subst hS
        exact ⟨w4, S3, acc, us, lH.trans l4, by rw [p4, p], s4, l4.keep a _ (sm3.pim a mine) ha', Reps.le l4 acc r', hl⟩
  · rintro H ⟨w2, S2, acc, us, l, p, sm, ha, r, hl⟩
    rw [List.drop_length] at hl
    unfold loopC at hl
    split at hl
    · cases hl
      exact fin H w2 us l p sm ha r
    · cases hl
theorem noX_takes {Y : Cx} : Takes Y noX := fun u s' ⟨_, _, _, _, _, _, _, _, _, _, _, _, _, _, _, _, h⟩ => h.elim
theorem Good.blk (G : Good P n N adr X W) (s : Shared) (H : Hp) (scope : Scope) (env : Env) (fp : List Addr) : Good P n N adr (X.blk s H scope env fp) noX :=
  ⟨G.nm, G.nd, G.calm, G.room, G.kn, G.fns, noX_takes, G.tabs⟩
theorem lookup_rel {env : Env} : ∀ {names : List (Str × NameKind)} {x : Str} {k : NameKind}, names.lookup x = some k →
    (names.map fun (n, k) => if (k == NameKind.free && env.scope.kind == .function && env.kindOf n == some .cell) then (n, NameKind.cell) else (n, k)).lookup x = some k ∨
      (k = .free ∧ (names.map fun (n, k) => if (k == NameKind.free && env.scope.kind == .function && env.kindOf n == some .cell) then (n, NameKind.cell) else (n, k)).lookup x = some .cell)
  | [], x, k, h => by cases h
  | (m, j) :: r, x, k, h => by
    rw [List.lookup_cons] at h
    rw [List.map_cons, List.lookup_cons]
    by_cases c : (j == NameKind.free && env.scope.kind == .function && env.kindOf m == some .cell) = true
    · rw [if_pos c]
      show (match x == m with
        | true => some NameKind.cell
        | false => _) = some k ∨ (k = .free ∧ (match x == m with
        | true => some NameKind.cell
        | false => _) = some .cell)
      cases z : x == m with
      | true =>
        rw [z] at h
        cases h
        obtain ⟨c1, _⟩ := Bool.and_eq_true_iff.mp c
        obtain ⟨c2, _⟩ := Bool.and_eq_true_iff.mp c1
        exact .inr ⟨beq_iff_eq.mp c2, rfl⟩
      | false =>
        rw [z] at h
        exact lookup_rel h
    · rw [if_neg c]
      show (match x == m with
        | true => some j
        | false => _) = some k ∨ (k = .free ∧ (match x == m with
        | true => some j
        | false => _) = some .cell)
      cases z : x == m with
      | true =>
        rw [z] at h
        cases h
        exact .inl rfl
      | false =>
        rw [z] at h
        exact lookup_rel h
theorem sc_blk {scope : Scope} (s : Shared) (H : Hp) (C : Addr) (cl : List (Str × Addr)) (fp : List Addr) : ScOk scope (X.blk s H scope (compEnvC scope cl C X.env) fp) := by
  refine ⟨fun x k h => lookup_rel h, fun x l => ?_⟩
  rcases l with l | l
  · rcases lookup_rel (env := X.env) l with e | ⟨e, _⟩
    · exact .inr e
    · cases e
  · refine .inl ?_
    show (scope.names.lookup x == some .cell) = true
    rw [l]; rfl
theorem blk_by {scope : Scope} {own : List (Str × Nat)} (G : Good P n N adr X W) (hs : ScOk sc X) (h : blkC N sc scope own = true) : BlkOk X.N X.env.scope scope own := by
  have b := blkOk_by h
  refine ⟨b.kind, b.uniq, by rw [G.nm]; exact b.ix, fun y hy e => hs.out (b.free y hy e), by rw [G.nm]; exact b.own⟩
/-- what is told of the list at last -/
theorem comp_end {r : Bool} {σ : L2.St} {w1 : Wd} {H1 : Hp} {SF : Sto} {accF : List D} {a : Addr} {Q : VK} {S1 : Sto} (sm1 : Sim X.K w1 H1 S1) (hD : H1 a = none)
    (q : Post X.K (Rep X.K) W σ w1 H1 (if r = true then .ok (.ref SF.length) (SF ++ [.lst accF]) else .ok (.lst accF) SF) Q)
    (H : Hp) (w : Wd) (us : List V) (l : Le w1 w H1 H) (p : w.P = (w1.own a).P) (sm : Sim X.K w H SF) (ha : H a = some (.lst us)) (rr : Reps X.K w H accF us) : Q (.ref a) H := by
  have mine : w.P a := by rw [p]; exact .inr rfl
  have sub : ∀ c, w1.P c → w.P c := fun c hc => by rw [p]; exact .inl hc
  have nD : ¬ w1.P a := sm1.nP hD
  cases r with
  | false =>
    refine q _ H (w.only w1.P) (l.only fun c hc => .inl hc) rfl (sm.only sub) ?_
    unfold Rep
    refine ⟨a, us, rfl, .inl ⟨.inl ha, sm.pim a mine, nD⟩, Reps.tr (tr_only sub) accF rr⟩
  | true =>
    refine q _ H (w.adopt a w1.P) (l.adopt hD fun c hc => .inl hc) rfl (sm.adopt mine ha ⟨us, rfl, rr⟩ sub nD) ?_
    unfold Rep
    refine ⟨?_, ?_⟩
    · rw [← sm.len]; exact Nat.lt_succ_self _
    · rw [← sm.len, adopt_N]
/-- the test of a comprehension -/
def ifsB (P : Prog) (N : List Str) (scope : Scope) (cd : Ex) : List Expr → Bool
  | [] => isTrueB cd
  | [c] => chkE P N cd scope c
  | _ => false
theorem ifs_of {cd : Ex} {ifs : List Expr} {scope : Scope} {Y : Cx} {W' : WX} (h : ifsB P N scope cd ifs = true) (hc : ∀ c, chkE P N cd scope c = true → PT Y c (rT P n Y W' cd)) : PTs Y ifs (rT P n Y W' cd) := by
  cases ifs with
  | nil =>
    unfold ifsB at h
    cases cd <;> try cases h
    rename_i b
    cases b with
    | false => cases h
    | true =>
      refine ⟨fun pins s σ H Q I q => pts_nil.run pins s σ H Q I ?_⟩
      obtain ⟨e, S, w, A, q⟩ := q
      have q : Post Y.K RelB W' σ w H (.ok true S) Q := q
      exact Post.here q A.sim rfl
  | cons c r =>
    cases r with
    | nil => exact pts_one (hc c h)
    | cons d r => simp [ifsB] at h
theorem eval_comp {R : Str → List D → Sto → Out D} {r : Bool} {own : List (Str × Nat)} {tg : Tg} {it : It} {cd el : Ex} {e : En} {S : Sto} : eval P R (.comp r own tg it cd el) e S =
    ((src P R it e S).bind fun w S => runC (bodyC P R tg (own.map (·.2)) cd el e) w S).bind fun acc S => if r = true then .ok (.ref S.length) (S ++ [.lst acc]) else .ok (.lst acc) S := by
  rw [eval]; rfl
/-- a walk over no table -/
theorem i_comp {r : Bool} {own : List (Str × Nat)} {t : Tg} {it : It} {cd el : Ex} (hit : ∀ e S s S1, src P (run P n) it e S = .ok s S1 → ∃ z, s = .s z) (hin : (t.slots.all fun i => decide (i ∈ own.map (·.2))) = true) {σ : L2.St} {H : Hp} {Q : VK}
    (q : rE P n X W (.comp r own t it cd el) σ H Q) : tLc (rdI P (run P n) X.K W it) (rdG X.K t) (rdT P (run P n) X.K noX cd) (rdE P (run P n) X.K noX el) (own.map (·.2)) σ H Q := by
  have hin' : ∀ i ∈ t.slots, i ∈ own.map (·.2) := fun i hi => of_decide_eq_true (List.all_eq_true.mp hin i hi)
  obtain ⟨e, S, w, A, q⟩ := q
  rw [eval_comp] at q
  refine ⟨e, S, w, A, ?_⟩
  cases z : src P (run P n) it e S with
  | bad => rw [z] at q; exact q
  | exc c S1 => rw [z] at q; exact q
  | ok s S1 =>
    rw [z] at q
    obtain ⟨sr, rfl⟩ := hit e S s S1 z
    have q : Post X.K (Rep X.K) W σ w H ((loopC (bodyC P (run P n) t (own.map (·.2)) cd el e) sr.ok sr.xs [] S1).bind fun acc S => if r = true then .ok (.ref S.length) (S ++ [.lst acc]) else .ok (.lst acc) S) Q := q
    intro J H1 w1 l1 p1 s1 wk a ha
    cases y : loopC (bodyC P (run P n) t (own.map (·.2)) cd el e) sr.ok sr.xs [] S1 with
    | bad => rw [y] at q; exact q.elim
    | exc c S2 => exact absurd y loopC_noexc
    | ok accF SF =>
      rw [y] at q
      have q1 := Post.go (o := (if r = true then Out.ok (D.ref SF.length) (SF ++ [.lst accF]) else .ok (.lst accF) SF)) q l1 p1
      exact comp_loop (A.go l1 p1 s1) wk ha hin' y fun H2 w2 us l2 p2 s2 h2 r2 => comp_end s1 ha q1 H2 w2 us l2 p2 s2 h2 r2
theorem t_comp {r : Bool} {own : List (Str × Nat)} {t : Tg} {it : It} {cd el : Ex} {elt tg iter : Expr} {ifs : List Expr} {scope : Scope} {pos : Pos} (G : Good P n N adr X W) (hs : ScOk sc X)
    (hit : ∀ e S s S1, src P (run P n) it e S = .ok s S1 → ∃ z, s = .s z) (hi : PI X tg iter (rdI P (run P n) X.K W it)) (hb : blkC N sc scope own = true) (hin : (t.slots.all fun i => decide (i ∈ own.map (·.2))) = true) (hg : tgB N scope t tg = true)
    (hT : ∀ Y, Good P n N adr Y noX → ScOk scope Y → PTs Y ifs (rT P n Y noX cd)) (hE : ∀ Y, Good P n N adr Y noX → ScOk scope Y → PE Y elt (rE P n Y noX el)) (hf : ∀ v, foldedSetIterable iter X.env v = pure v) :
    PE X (.ListComp elt [⟨tg, iter, ifs, 0⟩] scope pos) (rE P n X W (.comp r own t it cd el)) :=
  PE.imp (pe_lc (wi := rdI P (run P n) X.K W it) (g := rdG X.K t) (tt := rdT P (run P n) X.K noX cd) (te := rdE P (run P n) X.K noX el) G.calm G.ndX hi (blk_by G hs hb) (fun s H C cl fp => g_tg (G.blk s H scope _ fp) (sc_blk s H C cl fp) hg)
    (fun s H C cl fp => hT _ (G.blk s H scope _ fp) (sc_blk s H C cl fp)) (fun s H C cl fp => hE _ (G.blk s H scope _ fp) (sc_blk s H C cl fp)) hf) fun _ _ _ q => i_comp hit hin q
/-- name = [..] -/
theorem s_comp {r : Bool} {own : List (Str × Nat)} {t : Tg} {it : It} {cd el : Ex} {elt tg iter : Expr} {ifs : List Expr} {scope : Scope} {pos spos py : Pos} {i : Nat} {y : Str} (G : Good P n N adr X W) (hs : ScOk sc X)
    (hit : ∀ e S s S1, src P (run P n) it e S = .ok s S1 → ∃ z, s = .s z) (hi : PI X tg iter (rdI P (run P n) X.K W it)) (hb : blkC N sc scope own = true) (hin : (t.slots.all fun i => decide (i ∈ own.map (·.2))) = true) (hg : tgB N scope t tg = true)
    (hT : ∀ Y, Good P n N adr Y noX → ScOk scope Y → PTs Y ifs (rT P n Y noX cd)) (hE : ∀ Y, Good P n N adr Y noX → ScOk scope Y → PE Y elt (rE P n Y noX el)) (hf : ∀ v, foldedSetIterable iter X.env v = pure v) (hy : N[i]? = some y) (hl : locB sc y = true) :
    PS X (.Assign [.Name y py] (.ListComp elt [⟨tg, iter, ifs, 0⟩] scope pos) spos) (tAsg (rE P n X W (.comp r own t it cd el)) (gName i)) := by
  have l := loc_of hl
  obtain ⟨b, hb2⟩ : ∃ b, b = (X.env.blockKind == .function && X.env.kindOf y == some .local && py.line == pos.line && !(scope.names.any fun (n, k) => n == y && (k == .local || k == .cell))) := ⟨_, rfl⟩
  have sw : swapsWith (.ListComp elt [⟨tg, iter, ifs, 0⟩] scope pos) (some (.Name y py)) spos.line X.env = pure b := by rw [hb2]; rfl
  cases b with
  | false => exact ps_set G.ndX (by rw [G.nm]; exact hy) (hs.loc l) (t_comp G hs hit hi hb hin hg hT hE hf) sw (hs.fn y l)
  | true =>
    have hk : X.env.scope.names.lookup y = some .local := by
      have h := hb2.symm
      simp only [Bool.and_eq_true] at h
      exact beq_iff_eq.mp h.1.1.2
    refine ⟨fun pins s σ H D I q => (ps_setLc (wi := rdI P (run P n) X.K W it) (g := rdG X.K t) (tt := rdT P (run P n) X.K noX cd) (te := rdE P (run P n) X.K noX el) G.calm G.ndX (by rw [G.nm]; exact hy) hk sw hi (blk_by G hs hb)
      (fun s H C cl fp => g_tg (G.blk s H scope _ fp) (sc_blk s H C cl fp) hg) (fun s H C cl fp => hT _ (G.blk s H scope _ fp) (sc_blk s H C cl fp)) (fun s H C cl fp => hE _ (G.blk s H scope _ fp) (sc_blk s H C cl fp)) hf).run pins s σ H D I ?_⟩
    exact i_comp hit hin q
end
end Z


/-! Z: a table locked while something runs. -/
namespace Z
open PySem L2
theorem locate_of {o : Ex} {e : En} {S : Sto} {n : Nat} {ob : Ob} (h : loc o e S = some (n, ob)) : S[n]? = some ob ∧ ((∃ kvs, ob = .dk kvs) ∨ ∃ kvs, ob = .dt kvs) := by
  unfold loc at h
  split at h
  · rename_i m _
    obtain ⟨ob', h1, h2⟩ := Option.map_eq_some_iff.mp h
    cases h2
    unfold openTab at h1
    split at h1
    · rename_i kvs hs
      cases h1
      exact ⟨hs, .inl ⟨_, rfl⟩⟩
    · rename_i kvs hs
      cases h1
      exact ⟨hs, .inr ⟨_, rfl⟩⟩
    · cases h1
  · cases h
structure Locked (K : PySem.W.Frag) (w : Wd) (H : Hp) (S : Sto) (n : Nat) (ob : Ob) (u : HO) : Prop where
  hs : S[n]? = some ob
  hu : H (w.at_ n) = some u
  im : Img K w H ob u
  mu : Mut (some u)
  nf : ∀ o x, u ≠ .frz o x
section
variable {K : PySem.W.Frag} {w0 w w' : Wd} {H0 H H' : Hp} {σ : L2.St} {e : En} {S S2 : Sto} {n : Nat} {ob ob2 : Ob} {u : HO} {od : Obj}
theorem lock_of (sm : Sim K w H S) {o : Ex} (h : loc o e S = some (n, ob)) : ∃ u, Locked K w H S n ob u := by
  obtain ⟨hs, hk⟩ := locate_of h
  obtain ⟨u, hu, im⟩ := sm.ob n _ hs
  rcases hk with ⟨kvs, rfl⟩ | ⟨kvs, rfl⟩
  · obtain ⟨vs, rfl, kv⟩ := im
    exact ⟨_, hs, hu, ⟨vs, rfl, kv⟩, trivial, fun _ _ z => nomatch z⟩
  · obtain ⟨vs, rfl, kv⟩ := im
    exact ⟨_, hs, hu, ⟨vs, rfl, kv⟩, trivial, fun _ _ z => nomatch z⟩
theorem lock_in (L : Locked K w H S n ob u) (sm : Sim K w H S) (od : Obj) : Le w w H (upd H (w.at_ n) (.frz od u)) ∧ Sim K w (upd H (w.at_ n) (.frz od u)) (S.set n (.frz ob)) := by
  have l := le_set sm (sm.lt L.hs) L.hu L.nf (.frz od u)
  exact ⟨l, sm.set (sm.lt L.hs) L.hu L.nf ⟨od, u, rfl, L.im.le l⟩⟩
theorem ne_im (L : Locked K w H S n ob u) (sm : Sim K w H S) {a : Addr} (h : ¬ Im w a) : a ≠ w.at_ n := fun z => h ⟨n, sm.lt L.hs, z.symm⟩
theorem tr_out (L : Locked K w H S n ob u) (sm : Sim K w H S) (lw : LW w w' (upd H (w.at_ n) (.frz od u)) H') : Tr w w' H (upd H' (w.at_ n) u) := by
  refine ⟨lw.tr.N, lw.tr.at_, fun a o hi hp e => ?_⟩
  have na := ne_im L sm hi
  obtain ⟨h1, h2, h3⟩ := lw.tr.keep a o hi hp (by rw [upd_ne na]; exact e)
  exact ⟨by rw [upd_ne na]; exact h1, h2, h3⟩
theorem lw_out (L : Locked K w H S n ob u) (sm : Sim K w H S) (lw : LW w w' (upd H (w.at_ n) (.frz od u)) H') : LW w w' H (upd H' (w.at_ n) u) := by
  refine ⟨tr_out L sm lw, fun a o x e => ?_⟩
  have na : a ≠ w.at_ n := fun z => by
    rw [z, L.hu] at e
    exact L.nf o x (Option.some.inj e)
  rw [upd_ne na]
  exact lw.frz a o x (by rw [upd_ne na]; exact e)
theorem frz_out (lw : LW w w' (upd H (w.at_ n) (.frz od u)) H') : H' (w.at_ n) = some (.frz od u) := lw.frz _ _ _ upd_same
theorem at_out (L : Locked K w H S n ob u) (sm : Sim K w H S) (lw : LW w w' (upd H (w.at_ n) (.frz od u)) H') : w'.at_ n = w.at_ n := lw.tr.at_ n (sm.lt L.hs)
theorem here_out (L : Locked K w H S n ob u) (sm : Sim K w H S) (lw : LW w w' (upd H (w.at_ n) (.frz od u)) H') {a : Addr} (h : ¬ Im w' a) : a ≠ w.at_ n := fun z => h ⟨n, Nat.lt_of_lt_of_le (sm.lt L.hs) lw.tr.N, by rw [z]; exact at_out L sm lw⟩
theorem tr2_out (L : Locked K w H S n ob u) (sm : Sim K w H S) (lw : LW w w' (upd H (w.at_ n) (.frz od u)) H') : Tr w' w' H' (upd H' (w.at_ n) u) :=
  ⟨Nat.le_refl _, fun _ _ => rfl, fun a o hi hp e => ⟨by rw [upd_ne (here_out L sm lw hi)]; exact e, hi, hp⟩⟩
theorem sim_out (L : Locked K w H S n ob u) (sm : Sim K w H S) (lw : LW w w' (upd H (w.at_ n) (.frz od u)) H') (sm2 : Sim K w' H' S2) : Sim K w' (upd H' (w.at_ n) u) (S2.set n ob) := by
  have hn' : n < w'.N := Nat.lt_of_lt_of_le (sm.lt L.hs) lw.tr.N
  have ha := at_out L sm lw
  have pn : ∀ a, w'.P a → a ≠ w.at_ n := fun a hp z => sm2.apart n hn' (by rw [ha, ← z]; exact hp)
  refine ⟨by rw [List.length_set]; exact sm2.len, sm2.inj, fun m o' h' => ?_, sm2.apart, fun a hp => ?_⟩
  · by_cases e : m = n
    · subst e
      rw [List.getElem?_set_self (by rw [← sm2.len]; exact hn')] at h'
      cases h'
      exact ⟨u, by rw [ha, upd_same], L.im.tr (tr_out L sm lw)⟩
    · rw [List.getElem?_set_ne (Ne.symm e)] at h'
      obtain ⟨x, e1, j⟩ := sm2.ob m o' h'
      refine ⟨x, by rw [upd_ne (fun z => e (sm2.inj m n (sm2.lt h') hn' (by rw [ha]; exact z)))]; exact e1, j.tr (tr2_out L sm lw)⟩
  · obtain ⟨x, e1, e2⟩ := sm2.held a hp
    exact ⟨x, by rw [upd_ne (pn a hp)]; exact e1, e2⟩
theorem env_out (L : Locked K w H S n ob u) (sm : Sim K w H S) (lw : LW w w' (upd H (w.at_ n) (.frz od u)) H') (sm2 : Sim K w' H' S2) (r : REnv K w' H' σ e) : REnv K w' (upd H' (w.at_ n) u) σ e := by
  have hn' : n < w'.N := Nat.lt_of_lt_of_le (sm.lt L.hs) lw.tr.N
  have ha := at_out L sm lw
  refine ⟨r.len, fun i d h => ?_, fun i xs h => ?_, r.one⟩
  · obtain ⟨v, h1, h2⟩ := r.val i d h
    exact ⟨v, h1, Rep.tr (tr2_out L sm lw) d h2⟩
  · obtain ⟨a, vs, h1, h2, h3, h4⟩ := r.own i xs h
    exact ⟨a, vs, h1, h2, by rw [upd_ne (fun z => sm2.apart n hn' (by rw [ha, ← z]; exact h2))]; exact h3, Reps.tr (tr2_out L sm lw) xs h4⟩
/-- from an earlier moment on -/
theorem le_out0 (L : Locked K w H S n ob u) (sm : Sim K w H S) (c : Le w0 w H0 H) (l : Le w0 w' H0 H') : Le w0 w' H0 (upd H' (w.at_ n) u) := by
  refine ⟨l.N, l.at_, l.P, l.new, fun a o hi e => ?_, fun a o x e => ?_, fun a e => ?_⟩
  · rw [upd_ne (ne_im L sm (c.im e hi))]
    exact l.keep a o hi e
  · have na : a ≠ w.at_ n := fun z => by
      have e2 := c.frz a o x e
      rw [z, L.hu] at e2
      exact L.nf o x (Option.some.inj e2)
    rw [upd_ne na]
    exact l.frz a o x e
  · by_cases z : a = w.at_ n
    · rw [z, upd_same] at e
      cases e
    · rw [upd_ne z] at e
      exact l.dom a e
theorem le_out (L : Locked K w H S n ob u) (sm : Sim K w H S) (l : Le w w' (upd H (w.at_ n) (.frz od u)) H') : Le w w' H (upd H' (w.at_ n) u) :=
  le_out0 L sm (Le.refl _ _) ((lock_in L sm od).1.trans l)
theorem unlock_some {S1 : Sto} (h : Z.unlock n ob S2 = some S1) : S1 = S2.set n ob := by
  unfold Z.unlock at h
  split at h
  · exact (Option.some.inj h).symm
  · cases h
end
section
variable {P : Prog} {n : Nat} {N : List Str} {adr : Str → Addr} {X : Cx} {W : WX} {sc : Scope}
theorem e_lock {o a : Ex} {x : Expr} (h : PE X x (rE P n X W a)) : PE X x (rE P n X W (.lock o a)) := by
  refine PE.imp (pe_lock h) fun σ H Q q => ?_
  obtain ⟨e, S, w, A, q⟩ := q
  rw [eval] at q
  cases hl : loc o e S with
  | none => rw [hl] at q; exact q.elim
  | some p =>
    obtain ⟨m, ob⟩ := p
    rw [hl] at q
    have q : Post X.K (Rep X.K) W σ w H ((eval P (run P n) a e (S.set m (.frz ob))).unlock m ob) Q := q
    obtain ⟨u, L⟩ := lock_of A.sim hl
    refine ⟨w.at_ m, u, L.hu, L.mu, fun od => ?_⟩
    obtain ⟨l1, s1⟩ := lock_in L A.sim od
    refine ⟨e, S.set m (.frz ob), w, A.go l1 rfl s1, ?_⟩
    cases hx : eval P (run P n) a e (S.set m (.frz ob)) with
    | bad => rw [hx] at q; exact q
    | exc c S2 => rw [hx] at q; exact q.elim
    | ok d S2 =>
      rw [hx] at q
      have q : Post X.K (Rep X.K) W σ w H (match Z.unlock m ob S2 with
        | some S1 => .ok d S1
        | none => .bad) Q := q
      cases hz : Z.unlock m ob S2 with
      | none => rw [hz] at q; exact q.elim
      | some S1 =>
        rw [hz] at q
        cases unlock_some hz
        intro v H' w' l p s2 r
        exact ⟨frz_out l.lw, q v _ w' (le_out L A.sim l) p (sim_out L A.sim l.lw s2) (Rep.tr (tr2_out L A.sim l.lw) d r)⟩
theorem e_lvals {a : Ex} {x : Expr} {p q ap pos : Pos} (G : Good P n N adr X W) (hs : ScOk sc X) (hg : glB sc ("list" : Str) = true) (hp : PE X x (rE P n X W a)) (hb : recvB x = true) (hl : (ap.endLine == q.line) = true) :
    PE X (.Call (.Name ("list" : Str) p) [.Call (.Attribute x ("values" : Str) ap) [] [] q] [] pos) (rE P n X W (.lvals a)) := by
  obtain ⟨h1, h2, h3⟩ := gl_of hg
  refine PE.imp (pe_lvals G.calm hp (hs.gl h1) (G.kn.bn _ (by decide +kernel)) (base_of hb _ _ _) hl) fun σ H Q q => ?_
  obtain ⟨e, S, w, A, q⟩ := q
  rw [eval] at q
  refine rdE_of A q fun d S1 v H1 w1 l pp A1 r q1 => ?_
  cases d <;> try exact q1.elim
  rename_i m
  obtain ⟨hn, rfl⟩ := rep_ref r
  have q1 : Post X.K (Rep X.K) W σ w1 H1 (match openTab S1 m with
    | some ob => .ok (.lst (tabVals ob)) S1
    | none => .bad) Q := q1
  refine ⟨_, rfl, ?_⟩
  unfold openTab at q1
  split at q1
  · rename_i ob hob
    split at hob
    · rename_i kvs hk
      cases hob
      obtain ⟨u, hu, vs, rfl, kv⟩ := A1.sim.ob m _ hk
      exact .inl ⟨vs, hu, fun b hb => q1 _ _ w1 (le_new hb _) rfl (A1.sim.new hb _) (newLst A1.sim hb kv.vals)⟩
    · rename_i kvs hk
      cases hob
      obtain ⟨u, hu, vs, rfl, kv⟩ := A1.sim.ob m _ hk
      exact .inr ⟨vs, hu, fun b hb => q1 _ _ w1 (le_new hb _) rfl (A1.sim.new hb _) (newLst A1.sim hb kv.vals)⟩
    · cases hob
  · exact q1.elim
end
end Z


/-! Z: displays; every expression. -/
namespace Z
open PySem L2
section
variable {P : Prog} {n : Nat} {N : List Str} {adr : Str → Addr} {X : Cx} {W : WX} {sc : Scope}
theorem t_rep {c : Exs} {k : Ex} {es : List Expr} {y : Expr} {p p2 : Pos} (h : PA X es (rA P n X W c)) (hk : PE X y (rE P n X W k)) : PE X (.BinOp (.List es p) .Mult y p2) (rE P n X W (.rep c k)) := by
  refine PE.imp (pe_op op_rep (pe_lst h) hk) fun σ H Q q => ?_
  obtain ⟨e, S, w, A, q⟩ := q
  rw [eval] at q
  refine rdA_of A q fun ds S1 vs H1 w1 l p A1 r q1 => ?_
  obtain ⟨hl, q1⟩ := post_len q1
  refine ⟨by rw [← r.length]; exact hl, fun a hn => ?_⟩
  have l2 := le_new (w := w1) hn (.lst vs)
  have A2 := A1.go l2 rfl (A1.sim.new hn _)
  have q2 := Post.go q1 l2 rfl
  refine rdE_of A2 q2 fun d S3 v H3 w3 l3 p3 A3 r3 q3 => ?_
  cases d <;> try exact q3.elim
  rename_i i
  cases rep_int r3
  have q3 : Post X.K (Rep X.K) W σ w3 H3 (if -(2 ^ 63) ≤ i ∧ i < 2 ^ 63 ∧ ds.length * i.toNat ≤ sizeLine then .ok (.lst (List.replicate i.toNat ds).flatten) S3 else .bad) Q := q3
  split at q3
  · rename_i hc
    refine ⟨a, i, vs, rfl, rfl, l3.keep a _ (A1.sim.nim hn) upd_same, hc.1, hc.2.1, by rw [← r.length]; exact hc.2.2, fun b hb => ?_⟩
    refine q3 _ _ w3 (le_new hb _) rfl (A3.sim.new hb _) (newLst A3.sim hb ?_)
    have r4 : Reps X.K w3 H3 ds vs := Reps.le (l2.trans l3) ds r
    generalize i.toNat = m
    induction m with
    | zero => exact rfl
    | succ m ih =>
      rw [List.replicate_succ, List.replicate_succ, List.flatten_cons, List.flatten_cons]
      exact r4.append ih
  · exact q3.elim
/-- the pairs of a display: written keys -/
def trsOf (P : Prog) (n : Nat) (X : Cx) (W : WX) : List Key → Exs → List (TE × TE)
  | k :: ks, .cons c cs => (tC (kV k), rE P n X W c) :: trsOf P n X W ks cs
  | _, _ => []
def RelP (K : PySem.W.Frag) (ks : List Key) : Wd → Hp → List D → List (V × V) → Prop := fun w H ds ps => ∃ us, Reps K w H ds us ∧ ps = (ks.map kV).zip us
def Exs.len : Exs → Nat
  | .nil => 0
  | .cons _ r => r.len + 1
theorem pairs_run : ∀ {ks : List Key} {cs : Exs} {σ : L2.St} {w : Wd} {H : Hp} {e : En} {S : Sto} {Q : List (V × V) → Hp → Prop}, At X.K w H σ e S → cs.len = ks.length →
    Post X.K (RelP X.K ks) W σ w H (evals P (run P n) cs e S) Q → tPairs (trsOf P n X W ks cs) σ H Q
  | [], .nil, σ, w, H, e, S, Q, A, hl, q => by
    rw [evals] at q
    exact Post.here q A.sim ⟨[], rfl, rfl⟩
  | k :: ks, .nil, σ, w, H, e, S, Q, A, hl, q => by cases hl
  | [], .cons c cs, σ, w, H, e, S, Q, A, hl, q => by cases hl
  | k :: ks, .cons c cs, σ, w, H, e, S, Q, A, hl, q => by
    rw [evals] at q
    show rE P n X W c σ H fun y H2 => tPairs (trsOf P n X W ks cs) σ H2 fun ps H3 => Q ((kV k, y) :: ps) H3
    refine rdE_of A q fun d S1 v H1 w1 l p A1 r q1 => ?_
    refine pairs_run A1 (by simpa [Exs.len] using hl) ?_
    cases z : evals P (run P n) cs e S1 with
    | ok ds S2 =>
      rw [z] at q1
      rintro ps H2 w2 l2 p2 s2 ⟨us, ru, rfl⟩
      exact q1 _ H2 w2 l2 p2 s2 ⟨v :: us, ⟨v, us, rfl, Rep.le l2 d r, ru⟩, rfl⟩
    | exc x S2 => rw [z] at q1; exact q1
    | bad => rw [z] at q1; exact q1
theorem chk_len : ∀ {cs : Exs} {sc : Scope} {xs : List Expr}, chkEs P N cs sc xs = true → cs.len = xs.length
  | .nil, _, [], _ => rfl
  | .nil, _, _ :: _, h => by simp [chkEs] at h
  | .cons _ _, _, [], h => by simp [chkEs] at h
  | .cons c cs, sc, x :: xs, h => by
    unfold chkEs at h
    obtain ⟨_, h2⟩ := Bool.and_eq_true_iff.mp h
    show cs.len + 1 = xs.length + 1
    rw [chk_len h2]
theorem img_merge {w : Wd} {H : Hp} : ∀ {ks : List Key} {ds : List D} {us : List V} {kvs : List (Key × D)} {vs : List (Key × V)}, Reps X.K w H ds us → Kvs X.K w H kvs vs → ks.length = ds.length →
    Kvs X.K w H (merge kvs (ks.zip ds)) (mergeK vs (ks.zip us))
  | [], [], us, kvs, vs, r, q, h => by
    have r : us = [] := r
    subst r
    exact q
  | [], _ :: _, _, _, _, _, _, h => by cases h
  | _ :: _, [], _, _, _, _, _, h => by cases h
  | k :: ks, d :: ds, us, kvs, vs, r, q, h => by
    obtain ⟨v, us, rfl, r1, r2⟩ := r
    exact img_merge (ks := ks) r2 (q.put r1) (by simpa using h)
theorem evals_len : ∀ {cs : Exs} {e : En} {S : Sto} {ds : List D} {S1 : Sto}, evals P (run P n) cs e S = .ok ds S1 → ds.length = cs.len
  | .nil, e, S, ds, S1, h => by
    rw [evals] at h
    cases h
    rfl
  | .cons c cs, e, S, ds, S1, h => by
    rw [evals] at h
    obtain ⟨_, _, _, h⟩ := bind_ok h
    obtain ⟨_, _, h2, h⟩ := bind_ok h
    cases h
    show _ + 1 = _ + 1
    rw [evals_len h2]
theorem zip_map : ∀ (ks : List Key) (us : List V), (ks.map kV).zip us = (ks.zip us).map fun kv => (kV kv.1, kv.2)
  | [], _ => rfl
  | _ :: _, [] => rfl
  | k :: ks, u :: us => by rw [List.map_cons, List.zip_cons_cons, List.zip_cons_cons, List.map_cons, zip_map ks us]
theorem keys_cons {k : Key} {ks : List Key} {o : Option Expr} {es : List (Option Expr)} (h : keysB (k :: ks) (o :: es) = true) : keysB ks es = true ∧ ∃ x, o = some x ∧ ∀ Y, PE Y x (tC (kV k)) := by
  cases k with
  | inl i =>
    cases o with
    | none => simp [keysB] at h
    | some x =>
      cases x with
      | Constant c j p =>
        cases c with
        | int m =>
          unfold keysB at h
          obtain ⟨h1, h2⟩ := Bool.and_eq_true_iff.mp h
          have e := of_decide_eq_true h1
          subst e
          exact ⟨h2, _, rfl, fun Y => pe_int⟩
        | _ => simp [keysB] at h
      | _ => simp [keysB] at h
  | inr i =>
    cases o with
    | none => simp [keysB] at h
    | some x =>
      cases x with
      | Constant c j p =>
        cases c with
        | str m =>
          unfold keysB at h
          obtain ⟨h1, h2⟩ := Bool.and_eq_true_iff.mp h
          have e := of_decide_eq_true h1
          subst e
          exact ⟨h2, _, rfl, fun Y => pe_str⟩
        | _ => simp [keysB] at h
      | _ => simp [keysB] at h
theorem keys_all : ∀ {ks : List Key} {es : List (Option Expr)}, keysB ks es = true → es.length = ks.length ∧ es.all (·.isSome) = true
  | [], [], _ => ⟨rfl, rfl⟩
  | [], _ :: _, h => by simp [keysB] at h
  | k :: _, [], h => by cases k <;> simp [keysB] at h
  | k :: ks, o :: es, h => by
    obtain ⟨h1, x, e, _⟩ := keys_cons h
    obtain ⟨i1, i2⟩ := keys_all h1
    subst e
    exact ⟨by rw [List.length_cons, List.length_cons, i1], by rw [List.all_cons, i2]; rfl⟩
theorem t_dkR {ks : List Key} {cs : Exs} {k : Option Expr} {es : List (Option Expr)} {xs : List Expr} {p : Pos} (hk : keysB ks (k :: es) = true) (h15 : ks.length ≤ 15) (hl : ks.length = xs.length) (hc : cs.len = ks.length) (hp : PPs X p (k :: es) xs (trsOf P n X W ks cs)) :
    PE X (.Dict (k :: es) xs p) (rE P n X W (.dkR ks cs)) := by
  obtain ⟨k1, k2⟩ := keys_all hk
  refine PE.imp (pe_disp hp k2 (by rw [k1, hl]) (by simp) (by rw [k1]; exact h15)) fun σ H Q q => ?_
  obtain ⟨e, S, w, A, q⟩ := q
  rw [eval] at q
  intro a hn
  have nt : ∀ vs, (HO.dK [] : HO) ≠ .tup vs := fun _ z => by cases z
  have l0 := le_own (w := w) hn (.dK [])
  have A0 : At X.K (w.own a) (upd H a (.dK [])) σ e S := ⟨A.env.le l0 (fun _ h => .inl h) A.sim.pim, A.sim.own hn nt⟩
  have nD : ¬ w.P a := A.sim.nP hn
  refine pairs_run A0 hc ?_
  cases z : evals P (run P n) cs e S with
  | bad => rw [z] at q; exact q
  | exc c S1 =>
    rw [z] at q
    intro H2 w2 l2 p2 s2
    have sub : ∀ c, w.P c → w2.P c := fun c hc => by rw [p2]; exact .inl hc
    exact q H2 (w2.only w.P) ((l0.trans l2).only fun c hc => .inl hc) rfl (s2.only sub)
  | ok ds S1 =>
    rw [z] at q
    rintro ps H2 w2 l2 p2 s2 ⟨us, ru, rfl⟩
    have mine : w2.P a := by rw [p2]; exact .inr rfl
    have sub : ∀ c, w.P c → w2.P c := fun c hc => by rw [p2]; exact .inl hc
    have ha : H2 a = some (.dK []) := l2.keep a _ (A0.sim.pim a (.inr rfl)) upd_same
    have hlen : ks.length = ds.length := by rw [evals_len z, hc]
    refine ⟨ha, ks.zip us, zip_map ks us, by rw [List.length_zip]; omega, ?_⟩
    have t3 := tr_own (H := H2) mine (.dK (mergeK [] (ks.zip us)))
    have nt3 : ∀ vs, (HO.dK (mergeK [] (ks.zip us)) : HO) ≠ .tup vs := fun _ z => by cases z
    have s3 := s2.ownSet mine nt3
    have im : Img X.K w2 (upd H2 a (.dK (mergeK [] (ks.zip us)))) (.dk (merge [] (ks.zip ds))) (.dK (mergeK [] (ks.zip us))) := ⟨_, rfl, img_merge (Reps.tr t3 ds ru) rfl hlen⟩
    refine q _ _ (w2.adopt a w.P) (((l0.trans l2).upd hn _).adopt hn fun c hc => .inl hc) rfl (s3.adopt mine upd_same im sub nD) ?_
    unfold Rep
    refine ⟨?_, ?_⟩
    · rw [← s3.len]; exact Nat.lt_succ_self _
    · rw [← s3.len, adopt_N]
/-! ### every expression -/
structure SE (P : Prog) (n : Nat) (X : Cx) (W : WX) (c : Ex) (x : Expr) : Prop where
  pe : PE X x (rE P n X W c)
  pt : PT X x (rT P n X W c)
  pw : ∀ op l p, x = .BoolOp op l p → PW X x (rT P n X W c)
theorem SE.plain {c : Ex} {x : Expr} (h : PE X x (rE P n X W c)) (he : ∀ whole, isTrue x X.env whole = (do let v ← whole; standAt x.pos; holding [v] (truthy v))) (hb : ∀ op l p, x ≠ .BoolOp op l p) : SE P n X W c x :=
  ⟨h, t_plain h he, fun op l p e => absurd e (hb op l p)⟩
theorem t_iteT {t a b : Ex} {x y z : Expr} {p : Pos} (ht : PT X x (rT P n X W t)) (ha : PT X y (rT P n X W a)) (hb : PT X z (rT P n X W b)) : PT X (.IfExp x y z p) (rT P n X W (.ite t a b)) := by
  refine ⟨fun pins s σ H Q I q => ?_⟩
  have q2 : rT P n X W t σ H fun k H1 => if k = true then rT P n X W a σ H1 Q else rT P n X W b σ H1 Q := by
    obtain ⟨e, S, w, A, q⟩ := q
    have eq : ((eval P (run P n) (.ite t a b) e S).bind tru) = (eval P (run P n) t e S).bind fun x S => match truth S x with
        | some k => (if k = true then (eval P (run P n) a e S).bind tru else (eval P (run P n) b e S).bind tru)
        | none => .bad := by
      rw [eval]
      cases eval P (run P n) t e S with
      | bad => rfl
      | exc c S1 => rfl
      | ok x S1 =>
        show Out.bind (match truth S1 x with
          | some true => eval P (run P n) a e S1
          | some false => eval P (run P n) b e S1
          | none => .bad) tru = match truth S1 x with
          | some k => (if k = true then (eval P (run P n) a e S1).bind tru else (eval P (run P n) b e S1).bind tru)
          | none => .bad
        cases truth S1 x with
        | none => rfl
        | some k => cases k <;> rfl
    have q : Post X.K RelB W σ w H ((eval P (run P n) (.ite t a b) e S).bind tru) Q := q
    rw [eq] at q
    refine rdT_of (g := fun k x S => if k = true then (eval P (run P n) a e S).bind tru else (eval P (run P n) b e S).bind tru) A q fun k d S1 H1 w1 l p A1 z q1 => ?_
    cases k with
    | true => exact ⟨e, S1, w1, A1, q1⟩
    | false => exact ⟨e, S1, w1, A1, q1⟩
  refine PyProof.Rows.isTrue_IfExp (thn (ht.run pins s σ H _ I q2) fun k s1 ⟨H1, I1, q1⟩ => ?_)
  cases k with
  | true => exact ha.run pins s1 σ H1 Q I1 q1
  | false => exact hb.run pins s1 σ H1 Q I1 q1
theorem chk_vals {a : Ex} {x tg : Expr} (h : chkIt P N (.vals a) sc x tg = true) : ∃ y ap p, x = .Call (.Attribute y ("values" : Str) ap) [] [] p ∧ (ap.endLine == p.line) = true ∧ recvB y = true ∧ chkE P N a sc y = true := by
  unfold chkIt at h
  split at h
  · simp only [Bool.and_eq_true, decide_eq_true_eq] at h
    obtain ⟨⟨rfl, h1⟩, h2, h3⟩ := h
    exact ⟨_, _, _, rfl, h1, h2, h3⟩
  · cases h
theorem chk_cat {a b : Ex} {x : Expr} (h : chkE P N (.cat a b) sc x = true) : ∃ l r p, x = .BinOp l .Add r p ∧ chkE P N a sc l = true ∧ chkE P N b sc r = true := by
  unfold chkE at h
  split at h
  · simp only [Bool.and_eq_true, decide_eq_true_eq] at h
    obtain ⟨rfl, h1, h2⟩ := h
    exact ⟨_, _, _, rfl, h1, h2⟩
  · cases h
theorem chk_lock {o a : Ex} {x : Expr} (h : chkE P N (.lock o a) sc x = true) : (∃ e g s p, x = .ListComp e g s p) ∧ chkE P N a sc x = true := by
  unfold chkE at h
  obtain ⟨h1, h2⟩ := Bool.and_eq_true_iff.mp h
  cases x with
  | ListComp e g s p => exact ⟨⟨_, _, _, _, rfl⟩, h2⟩
  | _ => cases h1
theorem chk_lvals {a : Ex} {x : Expr} (h : chkE P N (.lvals a) sc x = true) : ∃ q y ap p pos, x = .Call (.Name ("list" : Str) q) [.Call (.Attribute y ("values" : Str) ap) [] [] p] [] pos ∧ glB sc ("list" : Str) = true ∧ (ap.endLine == p.line) = true ∧ recvB y = true ∧ chkE P N a sc y = true := by
  unfold chkE at h
  split at h
  · simp only [Bool.and_eq_true, decide_eq_true_eq] at h
    obtain ⟨⟨rfl, h1⟩, ⟨rfl, h2⟩, h3, h4⟩ := h
    exact ⟨_, _, _, _, _, rfl, h1, h2, h3, h4⟩
  · cases h
theorem tup_of {tg : Expr} (h : isTupB tg = true) : ∃ tes tk tp, tg = .Tuple tes tk tp := by
  cases tg <;> first | exact ⟨_, _, _, rfl⟩ | cases h
theorem chk_r1 {a : Ex} {x tg : Expr} (h : chkIt P N (.r1 a) sc x tg = true) : ∃ q z p, x = .Call (.Name ("range" : Str) q) [z] [] p ∧ glB sc ("range" : Str) = true ∧ chkE P N a sc z = true := by
  unfold chkIt at h
  split at h
  · simp only [Bool.and_eq_true, decide_eq_true_eq] at h
    obtain ⟨⟨rfl, h2⟩, h3⟩ := h
    exact ⟨_, _, _, rfl, h2, h3⟩
  · cases h
theorem chk_r2 {a b : Ex} {x tg : Expr} (h : chkIt P N (.r2 a b) sc x tg = true) : ∃ q z u p, x = .Call (.Name ("range" : Str) q) [z, u] [] p ∧ glB sc ("range" : Str) = true ∧ chkE P N a sc z = true ∧ chkE P N b sc u = true := by
  unfold chkIt at h
  split at h
  · simp only [Bool.and_eq_true, decide_eq_true_eq] at h
    obtain ⟨⟨rfl, h2⟩, h3, h4⟩ := h
    exact ⟨_, _, _, _, rfl, h2, h3, h4⟩
  · cases h
theorem chk_enum {a : Ex} {x tg : Expr} (h : chkIt P N (.enum a) sc x tg = true) : ∃ q z p tes tk tp, x = .Call (.Name ("enumerate" : Str) q) [z] [] p ∧ tg = .Tuple tes tk tp ∧ glB sc ("enumerate" : Str) = true ∧ chkE P N a sc z = true := by
  unfold chkIt at h
  obtain ⟨h1, hm⟩ := Bool.and_eq_true_iff.mp h
  clear h
  obtain ⟨tes, tk, tp, rfl⟩ := tup_of h1
  split at hm
  · simp only [Bool.and_eq_true, decide_eq_true_eq] at hm
    obtain ⟨⟨rfl, h2⟩, h3⟩ := hm
    exact ⟨_, _, _, _, _, _, rfl, rfl, h2, h3⟩
  · cases hm
theorem chk_zip {a b : Ex} {x tg : Expr} (h : chkIt P N (.zip a b) sc x tg = true) : ∃ q z u p tes tk tp, x = .Call (.Name ("zip" : Str) q) [z, u] [] p ∧ tg = .Tuple tes tk tp ∧ glB sc ("zip" : Str) = true ∧ chkE P N a sc z = true ∧ chkE P N b sc u = true := by
  unfold chkIt at h
  obtain ⟨h1, hm⟩ := Bool.and_eq_true_iff.mp h
  clear h
  obtain ⟨tes, tk, tp, rfl⟩ := tup_of h1
  split at hm
  · simp only [Bool.and_eq_true, decide_eq_true_eq] at hm
    obtain ⟨⟨rfl, h2⟩, h3, h4⟩ := hm
    exact ⟨_, _, _, _, _, _, _, rfl, rfl, h2, h3, h4⟩
  · cases hm
theorem chk_isE {neg : Bool} {a : Ex} {x : Expr} (h : chkE P N (.isE neg a) sc x = true) : ∃ l p1 p2, x = .Compare l [if neg = true then CmpOp.NotEq else .Eq] [.Dict [] [] p1] p2 ∧ chkE P N a sc l = true := by
  cases x with
  | Compare l ops rs p =>
    match ops, rs, h with
    | [op], [r], h =>
      cases r with
      | Dict ks vs p1 =>
        match ks, vs, h with
        | [], [], h =>
          unfold chkE at h
          simp only [Bool.and_eq_true, decide_eq_true_eq] at h
          obtain ⟨rfl, h1⟩ := h
          exact ⟨_, _, _, rfl, h1⟩
        | _ :: _, _, h => simp [chkE] at h
        | [], _ :: _, h => simp [chkE] at h
      | _ => simp [chkE] at h
    | [], _, h => simp [chkE] at h
    | _ :: _ :: _, _, h => simp [chkE] at h
    | [_], [], h => simp [chkE] at h
    | [_], _ :: _ :: _, h => simp [chkE] at h
  | _ => simp [chkE] at h
theorem chk_lrng {a b : Ex} {x : Expr} (h : chkE P N (.lrng a b) sc x = true) : ∃ p1 p2 y z pos2 pos1, x = .Call (.Name ("list" : Str) p1) [.Call (.Name ("range" : Str) p2) [y, z] [] pos2] [] pos1 ∧ glB sc ("list" : Str) = true ∧ glB sc ("range" : Str) = true ∧ chkE P N a sc y = true ∧ chkE P N b sc z = true := by
  cases x with
  | Call fn xs ks p =>
    cases fn with
    | Name y q =>
      match xs, ks, h with
      | _, _ :: _, h => simp [chkE] at h
      | [], [], h => simp [chkE] at h
      | _ :: _ :: _, [], h => simp [chkE] at h
      | [w], [], h =>
        cases w with
        | Call fn2 xs2 ks2 p2 =>
          cases fn2 with
          | Name y2 q2 =>
            match xs2, ks2, h with
            | _, _ :: _, h => simp [chkE] at h
            | [], [], h => simp [chkE] at h
            | [_], [], h => simp [chkE] at h
            | _ :: _ :: _ :: _, [], h => simp [chkE] at h
            | [u, v], [], h =>
              unfold chkE at h
              simp only [Bool.and_eq_true, decide_eq_true_eq] at h
              obtain ⟨⟨rfl, h1, rfl, h2⟩, h3, h4⟩ := h
              exact ⟨_, _, _, _, _, _, rfl, h1, h2, h3, h4⟩
          | _ => simp [chkE] at h
        | _ => simp [chkE] at h
    | _ => simp [chkE] at h
  | _ => simp [chkE] at h
theorem chk_isi {a : Ex} {t : Ty} {x : Expr} (h : chkE P N (.isi a t) sc x = true) : ∃ q z v p, x = .Call (.Name ("isinstance" : Str) q) [z, .Name (tyName t) v] [] p ∧ glB sc ("isinstance" : Str) = true ∧ glB sc (tyName t) = true ∧ chkE P N a sc z = true := by
  cases x with
  | Call fn xs ks p =>
    cases fn with
    | Name y q =>
      match xs, ks, h with
      | _, _ :: _, h => simp [chkE] at h
      | [], [], h => simp [chkE] at h
      | [_], [], h => simp [chkE] at h
      | _ :: _ :: _ :: _, [], h => simp [chkE] at h
      | [z, w], [], h =>
        cases w with
        | Name u v =>
          unfold chkE at h
          simp only [Bool.and_eq_true, decide_eq_true_eq] at h
          obtain ⟨⟨rfl, h2, rfl, h4⟩, h5⟩ := h
          exact ⟨q, z, v, p, rfl, h2, h4, h5⟩
        | _ => simp [chkE] at h
    | _ => simp [chkE] at h
  | _ => simp [chkE] at h
theorem chk_comp {r : Bool} {own : List (Str × Nat)} {tg : Tg} {it : It} {cd el : Ex} {x : Expr} (h : chkE P N (.comp r own tg it cd el) sc x = true) : ∃ elt t i ifs scope p, x = .ListComp elt [⟨t, i, ifs, 0⟩] scope p ∧ blkC N sc scope own = true ∧
    (tg.slots.all fun i => decide (i ∈ own.map (·.2))) = true ∧ tgB N scope tg t = true ∧ chkIt P N it sc i t = true ∧ chkE P N el scope elt = true ∧ ifsB P N scope cd ifs = true := by
  cases x with
  | ListComp elt gens scope p =>
    cases gens with
    | nil => simp [chkE] at h
    | cons g gs =>
      obtain ⟨t, i, ifs, k⟩ := g
      cases gs with
      | cons _ _ => simp [chkE] at h
      | nil =>
        by_cases hk : k = 0
        · subst hk
          have h : (blkC N sc scope own && ((tg.slots.all fun i => decide (i ∈ own.map (·.2))) && (tgB N scope tg t && (chkIt P N it sc i t && (chkE P N el scope elt && ifsB P N scope cd ifs))))) = true := by unfold chkE at h; exact h
          simp only [Bool.and_eq_true] at h
          obtain ⟨h1, h2, h3, h4, h5, h6⟩ := h
          exact ⟨elt, t, i, ifs, scope, p, rfl, h1, h2, h3, h4, h5, h6⟩
        · simp [chkE, hk] at h
  | _ => simp [chkE] at h
mutual
theorem sndE : ∀ (c : Ex) {sc : Scope} {x : Expr}, chkE P N c sc x = true → ∀ {X : Cx} {W : WX}, Good P n N adr X W → ScOk sc X → SE P n X W c x
  | .var i, sc, x, h, X, W, G, hs => by
    cases x with
    | Name x p => exact .plain (t_var G hs (by unfold chkE at h; exact h)) (fun _ => rfl) (fun _ _ _ e => by cases e)
    | _ => simp [chkE] at h
  | .int i, sc, x, h, X, W, G, hs => by
    cases x with
    | Constant c j p =>
      cases c with
      | int k =>
        unfold chkE at h
        have e := of_decide_eq_true h
        subst e
        exact .plain (t_const (d := .int i) pe_int (fun _ _ => by rw [eval]) (fun _ _ => mk_int)) (fun _ => rfl) (fun _ _ _ e => by cases e)
      | _ => simp [chkE] at h
    | _ => simp [chkE] at h
  | .str i, sc, x, h, X, W, G, hs => by
    cases x with
    | Constant c j p =>
      cases c with
      | str k =>
        unfold chkE at h
        have e := of_decide_eq_true h
        subst e
        exact .plain (t_const (d := .str i) pe_str (fun _ _ => by rw [eval]) (fun _ _ => mk_str)) (fun _ => rfl) (fun _ _ _ e => by cases e)
      | _ => simp [chkE] at h
    | _ => simp [chkE] at h
  | .bl i, sc, x, h, X, W, G, hs => by
    cases x with
    | Constant c j p =>
      cases c with
      | bool k =>
        unfold chkE at h
        have e : i = k := eq_of_beq h
        subst e
        exact .plain (t_const (d := .bl i) pe_bl (fun _ _ => by rw [eval]) (fun _ _ => mk_bl)) (fun _ => rfl) (fun _ _ _ e => by cases e)
      | _ => simp [chkE] at h
    | _ => simp [chkE] at h
  | .non, sc, x, h, X, W, G, hs => by
    cases x with
    | Constant c j p =>
      cases c with
      | none => exact .plain (t_const (d := .non) pe_non (fun _ _ => by rw [eval]) (fun _ _ => mk_non)) (fun _ => rfl) (fun _ _ _ e => by cases e)
      | _ => simp [chkE] at h
    | _ => simp [chkE] at h
  | .gl y, sc, x, h, X, W, G, hs => by
    cases x with
    | Name x p =>
      unfold chkE at h
      obtain ⟨h1, h2⟩ := Bool.and_eq_true_iff.mp h
      have e := of_decide_eq_true h1
      subst e
      exact .plain (t_gl G hs h2) (fun _ => rfl) (fun _ _ _ e => by cases e)
    | _ => simp [chkE] at h
  | .bin o a b, sc, x, h, X, W, G, hs => by
    cases x with
    | BinOp l op r p =>
      unfold chkE at h
      simp only [Bool.and_eq_true, decide_eq_true_eq] at h
      obtain ⟨rfl, h1, h2⟩ := h
      exact .plain (t_bin (sndE a h1 G hs).pe (sndE b h2 G hs).pe) (fun _ => rfl) (fun _ _ _ e => by cases e)
    | _ => simp [chkE] at h
  | .neg a, sc, x, h, X, W, G, hs => by
    cases x with
    | UnaryOp op l p =>
      cases op with
      | USub => exact .plain (t_neg (sndE a (by unfold chkE at h; exact h) G hs).pe) (fun _ => rfl) (fun _ _ _ e => by cases e)
      | _ => simp [chkE] at h
    | _ => simp [chkE] at h
  | .cmp o a b, sc, x, h, X, W, G, hs => by
    cases x with
    | Compare l ops rs p =>
      match ops, rs, h with
      | [op], [r], h =>
        unfold chkE at h
        simp only [Bool.and_eq_true, decide_eq_true_eq] at h
        obtain ⟨rfl, h1, h2⟩ := h
        have ha := (sndE a h1 G hs).pe
        have hb := (sndE b h2 G hs).pe
        exact ⟨t_cmp G ha hb (notSet_of h2 _), t_cmpT G ha hb (notSet_of h2 _), fun _ _ _ e => by cases e⟩
      | [], _, h => simp [chkE] at h
      | _ :: _ :: _, _, h => simp [chkE] at h
      | [_], [], h => simp [chkE] at h
      | [_], _ :: _ :: _, h => simp [chkE] at h
    | _ => simp [chkE] at h
  | .chain o o' a b c, sc, x, h, X, W, G, hs => by
    cases x with
    | Compare l ops rs p =>
      match ops, rs, h with
      | [op, oq], [r, q], h =>
        unfold chkE at h
        simp only [Bool.and_eq_true, decide_eq_true_eq] at h
        obtain ⟨⟨rfl, rfl⟩, h1, h2, h3⟩ := h
        have ha := (sndE a h1 G hs).pe
        have hb := (sndE b h2 G hs).pe
        have hc := (sndE c h3 G hs).pe
        exact ⟨t_chain G ha hb hc (notSet_of h3 _), t_chainT G ha hb hc (notSet_of h3 _), fun _ _ _ e => by cases e⟩
      | [], _, h => simp [chkE] at h
      | [_], _, h => simp [chkE] at h
      | _ :: _ :: _ :: _, _, h => simp [chkE] at h
      | [_, _], [], h => simp [chkE] at h
      | [_, _], [_], h => simp [chkE] at h
      | [_, _], _ :: _ :: _ :: _, h => simp [chkE] at h
    | _ => simp [chkE] at h
  | .and a b, sc, x, h, X, W, G, hs => by
    cases x with
    | BoolOp op es p =>
      cases op with
      | Or => simp [chkE] at h
      | And =>
        match es, h with
        | [x, y], h =>
          unfold chkE at h
          obtain ⟨h1, h2⟩ := Bool.and_eq_true_iff.mp h
          have ha := sndE a h1 G hs
          have hb := sndE b h2 G hs
          have w := pw_and (pos := p) ha.pt (pw_and1 hb.pt)
          exact ⟨PE.imp (pe_andT ha.pe (pe_one hb.pe)) fun _ _ _ q => i_and q, PT.imp w.pt fun _ _ _ q => i_andT q, fun _ _ _ _ => PW.imp w fun _ _ _ q => i_andT q⟩
        | x :: y :: z :: r, h =>
          unfold chkE at h
          obtain ⟨h1, h2⟩ := Bool.and_eq_true_iff.mp h
          have ha := sndE a h1 G hs
          have hb := sndE b h2 G hs
          have w := pw_and (pos := p) ha.pt (hb.pw _ _ _ rfl)
          exact ⟨PE.imp (pe_andT ha.pe hb.pe) fun _ _ _ q => i_and q, PT.imp w.pt fun _ _ _ q => i_andT q, fun _ _ _ _ => PW.imp w fun _ _ _ q => i_andT q⟩
        | [], h => simp [chkE] at h
        | [_], h => simp [chkE] at h
    | _ => simp [chkE] at h
  | .or a b, sc, x, h, X, W, G, hs => by
    cases x with
    | BoolOp op es p =>
      cases op with
      | And => simp [chkE] at h
      | Or =>
        match es, h with
        | [x, y], h =>
          unfold chkE at h
          obtain ⟨h1, h2⟩ := Bool.and_eq_true_iff.mp h
          have ha := sndE a h1 G hs
          have hb := sndE b h2 G hs
          have w := pw_or (pos := p) ha.pt (pw_or1 hb.pt)
          exact ⟨PE.imp (pe_orT ha.pe (pe_one hb.pe)) fun _ _ _ q => i_or q, PT.imp w.pt fun _ _ _ q => i_orT q, fun _ _ _ _ => PW.imp w fun _ _ _ q => i_orT q⟩
        | x :: y :: z :: r, h =>
          unfold chkE at h
          obtain ⟨h1, h2⟩ := Bool.and_eq_true_iff.mp h
          have ha := sndE a h1 G hs
          have hb := sndE b h2 G hs
          have w := pw_or (pos := p) ha.pt (hb.pw _ _ _ rfl)
          exact ⟨PE.imp (pe_orT ha.pe hb.pe) fun _ _ _ q => i_or q, PT.imp w.pt fun _ _ _ q => i_orT q, fun _ _ _ _ => PW.imp w fun _ _ _ q => i_orT q⟩
        | [], h => simp [chkE] at h
        | [_], h => simp [chkE] at h
    | _ => simp [chkE] at h
  | .not a, sc, x, h, X, W, G, hs => by
    cases x with
    | UnaryOp op l p =>
      cases op with
      | Not =>
        have ha := sndE a (by unfold chkE at h; exact h) G hs
        exact ⟨t_not ha.pe, t_notT ha.pt, fun _ _ _ e => by cases e⟩
      | _ => simp [chkE] at h
    | _ => simp [chkE] at h
  | .ite t a b, sc, x, h, X, W, G, hs => by
    cases x with
    | IfExp x y z p =>
      unfold chkE at h
      simp only [Bool.and_eq_true] at h
      obtain ⟨h1, h2, h3⟩ := h
      have ht := sndE t h1 G hs
      have ha := sndE a h2 G hs
      have hb := sndE b h3 G hs
      exact ⟨t_ite ht.pt ha.pe hb.pe, t_iteT ht.pt ha.pt hb.pt, fun _ _ _ e => by cases e⟩
    | _ => simp [chkE] at h
  | .tup es, sc, x, h, X, W, G, hs => by
    cases x with
    | Tuple xs k p => exact .plain (t_tup (sndA es (by unfold chkE at h; exact h) G hs).1) (fun _ => rfl) (fun _ _ _ e => by cases e)
    | _ => simp [chkE] at h
  | .lst es, sc, x, h, X, W, G, hs => by
    cases x with
    | List xs p => exact .plain (t_lst (sndA es (by unfold chkE at h; exact h) G hs).1) (fun _ => rfl) (fun _ _ _ e => by cases e)
    | _ => simp [chkE] at h
  | .lstR es, sc, x, h, X, W, G, hs => by
    cases x with
    | List xs p => exact .plain (t_lstR (sndA es (by unfold chkE at h; exact h) G hs).1) (fun _ => rfl) (fun _ _ _ e => by cases e)
    | _ => simp [chkE] at h
  | .dk0, sc, x, h, X, W, G, hs => by
    cases x with
    | Dict ks vs p =>
      match ks, vs, h with
      | [], [], _ => exact .plain t_dk0 (fun _ => rfl) (fun _ _ _ e => by cases e)
      | [], _ :: _, h => simp [chkE] at h
      | _ :: _, _, h => simp [chkE] at h
    | _ => simp [chkE] at h
  | .dt0, sc, x, h, X, W, G, hs => by
    cases x with
    | Dict ks vs p =>
      match ks, vs, h with
      | [], [], _ => exact .plain t_dt0 (fun _ => rfl) (fun _ _ _ e => by cases e)
      | [], _ :: _, h => simp [chkE] at h
      | _ :: _, _, h => simp [chkE] at h
    | _ => simp [chkE] at h
  | .dkR ks vs, sc, x, h, X, W, G, hs => by
    cases x with
    | Dict es xs p =>
      match es, h with
      | k :: es, h =>
        unfold chkE at h
        simp only [Bool.and_eq_true, decide_eq_true_eq] at h
        obtain ⟨⟨⟨h1, h2⟩, h3⟩, h4⟩ := h
        have hl : vs.len = ks.length := by rw [chk_len h3, h4]
        exact .plain (t_dkR h1 h2 h4 hl ((sndA vs h3 G hs).2 _ _ _ h1 hl)) (fun _ => rfl) (fun _ _ _ e => by cases e)
      | [], h => cases xs <;> simp [chkE] at h
    | _ => simp [chkE] at h
  | .tget x0 a d, sc, x, h, X, W, G, hs => by
    cases x with
    | Call fn xs ks p =>
      cases fn with
      | Attribute y g q =>
        cases y with
        | Name y p2 =>
          match xs, ks, h with
          | [z], [], h =>
            unfold chkE at h
            simp only [Bool.and_eq_true, decide_eq_true_eq] at h
            obtain ⟨⟨rfl, h1, rfl, h2, h3⟩, h4, h5⟩ := h
            exact .plain (t_tget1 G hs h1 h2 h3 h4 h5 (sndE a h5 G hs).pe) (fun _ => rfl) (fun _ _ _ e => by cases e)
          | [z, c], [], h =>
            unfold chkE at h
            simp only [Bool.and_eq_true, decide_eq_true_eq] at h
            obtain ⟨⟨rfl, h1, rfl, h2, h3⟩, h4, h5⟩ := h
            exact .plain (t_tget2 G hs h1 h2 h3 h4 h5 (sndE a h5 G hs).pe) (fun _ => rfl) (fun _ _ _ e => by cases e)
          | [], _, h => simp [chkE] at h
          | _ :: _ :: _ :: _, _, h => simp [chkE] at h
          | [_], _ :: _, h => simp [chkE] at h
          | [_, _], _ :: _, h => simp [chkE] at h
        | _ => simp [chkE] at h
      | _ => simp [chkE] at h
    | _ => simp [chkE] at h
  | .lrng a b, sc, x, h, X, W, G, hs => by
    obtain ⟨p1, p2, y, z, pos2, pos1, rfl, h1, h2, h3, h4⟩ := chk_lrng h
    exact .plain (t_lrng G hs h1 h2 h3 h4 (sndE a h3 G hs).pe (sndE b h4 G hs).pe) (fun _ => rfl) (fun _ _ _ e => by cases e)
  | .isE neg a, sc, x, h, X, W, G, hs => by
    obtain ⟨l, p1, p2, rfl, h1⟩ := chk_isE h
    exact ⟨t_isE G (sndE a h1 G hs).pe, t_isET G (sndE a h1 G hs).pe, fun _ _ _ e => by cases e⟩
  | .rep es k, sc, x, h, X, W, G, hs => by
    cases x with
    | BinOp l op y p =>
      cases l with
      | List xs q =>
        cases op with
        | Mult =>
          unfold chkE at h
          obtain ⟨h1, h2⟩ := Bool.and_eq_true_iff.mp h
          exact .plain (t_rep (sndA es h1 G hs).1 (sndE k h2 G hs).pe) (fun _ => rfl) (fun _ _ _ e => by cases e)
        | _ => simp [chkE] at h
      | _ => simp [chkE] at h
    | _ => simp [chkE] at h
  | .ix a i, sc, x, h, X, W, G, hs => by
    cases x with
    | Subscript x y p =>
      have h : (chkE P N a sc x && (chkE P N i sc y && noSlice y)) = true := by unfold chkE at h; exact h
      simp only [Bool.and_eq_true] at h
      obtain ⟨h1, h2, h3⟩ := h
      exact .plain (t_ix G (sndE a h1 G hs).pe (sndE i h2 G hs).pe (plainIx_of h3)) (fun _ => rfl) (fun _ _ _ e => by cases e)
    | _ => simp [chkE] at h
  | .slTo a b, sc, x, h, X, W, G, hs => by
    cases x with
    | Subscript x y p =>
      cases y with
      | Slice l u s q =>
        match l, u, s, h with
        | none, some y, none, h =>
          unfold chkE at h
          obtain ⟨h1, h2⟩ := Bool.and_eq_true_iff.mp h
          exact .plain (t_slTo (sndE a h1 G hs).pe (sndE b h2 G hs).pe) (fun _ => rfl) (fun _ _ _ e => by cases e)
        | some _, _, _, h => simp [chkE] at h
        | none, none, _, h => simp [chkE] at h
        | none, some _, some _, h => simp [chkE] at h
      | _ => simp [chkE] at h
    | _ => simp [chkE] at h
  | .slFr a b, sc, x, h, X, W, G, hs => by
    cases x with
    | Subscript x y p =>
      cases y with
      | Slice l u s q =>
        match l, u, s, h with
        | some y, none, none, h =>
          unfold chkE at h
          obtain ⟨h1, h2⟩ := Bool.and_eq_true_iff.mp h
          exact .plain (t_slFr (sndE a h1 G hs).pe (sndE b h2 G hs).pe) (fun _ => rfl) (fun _ _ _ e => by cases e)
        | none, _, _, h => simp [chkE] at h
        | some _, some _, _, h => simp [chkE] at h
        | some _, none, some _, h => simp [chkE] at h
      | _ => simp [chkE] at h
    | _ => simp [chkE] at h
  | .slBt a b c, sc, x, h, X, W, G, hs => by
    cases x with
    | Subscript x y p =>
      cases y with
      | Slice l u s q =>
        match l, u, s, h with
        | some y, some z, none, h =>
          unfold chkE at h
          simp only [Bool.and_eq_true] at h
          obtain ⟨h1, h2, h3⟩ := h
          exact .plain (t_slBt (sndE a h1 G hs).pe (sndE b h2 G hs).pe (sndE c h3 G hs).pe) (fun _ => rfl) (fun _ _ _ e => by cases e)
        | none, _, _, h => simp [chkE] at h
        | some _, none, _, h => simp [chkE] at h
        | some _, some _, some _, h => simp [chkE] at h
      | _ => simp [chkE] at h
    | _ => simp [chkE] at h
  | .at a f, sc, x, h, X, W, G, hs => by
    cases x with
    | Attribute x g p =>
      unfold chkE at h
      simp only [Bool.and_eq_true, decide_eq_true_eq] at h
      obtain ⟨rfl, h1, h2⟩ := h
      exact .plain (t_at G (sndE a h2 G hs).pe h1) (fun _ => rfl) (fun _ _ _ e => by cases e)
    | _ => simp [chkE] at h
  | .call f es, sc, x, h, X, W, G, hs => by
    cases x with
    | Call fn xs ks p =>
      cases fn with
      | Name y q =>
        cases ks with
        | nil =>
          unfold chkE at h
          simp only [Bool.and_eq_true, decide_eq_true_eq] at h
          obtain ⟨⟨h1, h2⟩, h3⟩ := h
          exact .plain (t_call G hs h1 h2 h3 (sndA es h3 G hs).1) (fun _ => rfl) (fun _ _ _ e => by cases e)
        | cons _ _ => simp [chkE] at h
      | _ => simp [chkE] at h
    | _ => simp [chkE] at h
  | .new C es, sc, x, h, X, W, G, hs => by
    cases x with
    | Call fn xs ks p =>
      cases fn with
      | Name y q =>
        cases ks with
        | nil =>
          unfold chkE at h
          simp only [Bool.and_eq_true, decide_eq_true_eq] at h
          obtain ⟨⟨rfl, h2, h4⟩, h3⟩ := h
          exact .plain (t_new G hs h2 h3 (sndA es h3 G hs).1 h4) (fun _ => rfl) (fun _ _ _ e => by cases e)
        | cons _ _ => simp [chkE] at h
      | _ => simp [chkE] at h
    | _ => simp [chkE] at h
  | .me o m es, sc, x, h, X, W, G, hs => by
    cases x with
    | Call fn xs ks p =>
      cases fn with
      | Attribute y g q =>
        cases ks with
        | nil =>
          unfold chkE at h
          simp only [Bool.and_eq_true, decide_eq_true_eq] at h
          obtain ⟨⟨rfl, h1, h2⟩, h3, h4, h5⟩ := h
          exact .plain (t_me G h3 h1 h2 (sndE o h4 G hs).pe h5 (sndA es h5 G hs).1) (fun _ => rfl) (fun _ _ _ e => by cases e)
        | cons _ _ => simp [chkE] at h
      | _ => simp [chkE] at h
    | _ => simp [chkE] at h
  | .sup C m es, sc, x, h, X, W, G, hs => by cases x <;> simp [chkE] at h
  | .bi b es, sc, x, h, X, W, G, hs => by
    cases x with
    | Call fn xs ks p =>
      cases fn with
      | Name y q =>
        cases ks with
        | nil =>
          cases xs with
          | nil => simp [chkE] at h
          | cons z xs =>
            unfold chkE at h
            simp only [Bool.and_eq_true, decide_eq_true_eq] at h
            obtain ⟨⟨rfl, h2⟩, h3⟩ := h
            exact .plain (t_bi G hs h2 h3 (sndA es h3 G hs).1) (fun _ => rfl) (fun _ _ _ e => by cases e)
        | cons _ _ => cases xs <;> simp [chkE] at h
      | _ => simp [chkE] at h
    | _ => simp [chkE] at h
  | .isi a t, sc, x, h, X, W, G, hs => by
    obtain ⟨q, z, v, p, rfl, h2, h4, h5⟩ := chk_isi h
    exact .plain (t_isi G hs h2 h4 h5 (sndE a h5 G hs).pe) (fun _ => rfl) (fun _ _ _ e => by cases e)
  | .bm o m es, sc, x, h, X, W, G, hs => by
    cases x with
    | Call fn xs ks p =>
      cases fn with
      | Attribute y g q =>
        cases ks with
        | nil =>
          cases xs with
          | nil => simp [chkE] at h
          | cons z xs =>
            unfold chkE at h
            simp only [Bool.and_eq_true, decide_eq_true_eq] at h
            obtain ⟨⟨rfl, h1, h2⟩, h3, h4, h5⟩ := h
            exact .plain (t_bm G h3 h1 h2 (sndE o h4 G hs).pe h5 (sndA es h5 G hs).1) (fun _ => rfl) (fun _ _ _ e => by cases e)
        | cons _ _ => cases xs <;> simp [chkE] at h
      | _ => simp [chkE] at h
    | _ => simp [chkE] at h
  | .comp r own tg it cd el, sc, x, h, X, W, G, hs => by
    obtain ⟨elt, t, i, ifs, scope, p, rfl, h1, h2, h3, h4, h5, h6⟩ := chk_comp h
    obtain ⟨i1, i2, i3⟩ := sndI it h4 G hs
    exact .plain (t_comp G hs i2 i1 h1 h2 h3 (fun Y GY sY => ifs_of h6 fun c hc => (sndE cd hc GY sY).pt) (fun Y GY sY => (sndE el h5 GY sY).pe) i3) (fun _ => rfl) (fun _ _ _ e => by cases e)
  | .cat a b, sc, x, h, X, W, G, hs => by
    obtain ⟨l, r, p, rfl, h1, h2⟩ := chk_cat h
    exact .plain (t_cat (sndE a h1 G hs).pe (sndE b h2 G hs).pe) (fun _ => rfl) (fun _ _ _ e => by cases e)
  | .lock o a, sc, x, h, X, W, G, hs => by
    obtain ⟨⟨e, g, s, p, rfl⟩, h2⟩ := chk_lock h
    exact .plain (e_lock (sndE a h2 G hs).pe) (fun _ => rfl) (fun _ _ _ e => by cases e)
  | .lvals a, sc, x, h, X, W, G, hs => by
    obtain ⟨q, y, ap, p, pos, rfl, h1, h2, h3, h4⟩ := chk_lvals h
    exact .plain (e_lvals G hs h1 (sndE a h4 G hs).pe h3 h2) (fun _ => rfl) (fun _ _ _ e => by cases e)
theorem sndA : ∀ (c : Exs) {sc : Scope} {xs : List Expr}, chkEs P N c sc xs = true → ∀ {X : Cx} {W : WX}, Good P n N adr X W → ScOk sc X → PA X xs (rA P n X W c) ∧ ∀ ks es pos, keysB ks es = true → c.len = ks.length → PPs X pos es xs (trsOf P n X W ks c)
  | .nil, sc, xs, h, X, W, G, hs => by
    cases xs with
    | cons _ _ => simp [chkEs] at h
    | nil =>
      refine ⟨PA.imp pa_nil fun σ H Q q => ?_, fun ks es pos hk hl => ?_⟩
      · obtain ⟨e, S, w, A, q⟩ := q
        rw [evals] at q
        exact Post.here q A.sim rfl
      · cases ks with
        | nil =>
          cases es with
          | nil => exact pps_nil
          | cons _ _ => simp [keysB] at hk
        | cons _ _ => cases hl
  | .cons c cs, sc, xs, h, X, W, G, hs => by
    cases xs with
    | nil => simp [chkEs] at h
    | cons x xs =>
      unfold chkEs at h
      obtain ⟨h1, h2⟩ := Bool.and_eq_true_iff.mp h
      have ha := (sndE c h1 G hs).pe
      obtain ⟨hb, hp⟩ := sndA cs h2 G hs
      refine ⟨PA.imp (pa_cons ha hb (star_of h1 xs X.env)) fun σ H Q q => ?_, fun ks es pos hk hl => ?_⟩
      · obtain ⟨e, S, w, A, q⟩ := q
        rw [evals] at q
        exact rdE_of A q fun d S1 v H1 w1 l p A1 r q1 => rdA_of A1 q1 fun ds S2 vs H2 w2 l2 p2 A2 r2 q2 => Post.here q2 A2.sim ⟨v, vs, rfl, Rep.le l2 d r, r2⟩
      · cases ks with
        | nil => cases hl
        | cons k ks =>
          cases es with
          | nil => cases k <;> simp [keysB] at hk
          | cons o es =>
            obtain ⟨k1, y, rfl, k2⟩ := keys_cons hk
            exact pps_cons (k2 X) ha (hp ks es pos k1 (by simpa [Exs.len] using hl))
theorem sndI : ∀ (c : It) {sc : Scope} {x tg : Expr}, chkIt P N c sc x tg = true → ∀ {X : Cx} {W : WX}, Good P n N adr X W → ScOk sc X →
    PI X tg x (rdI P (run P n) X.K W c) ∧ (∀ e S s S1, src P (run P n) c e S = .ok s S1 → ∃ z, s = .s z) ∧ ∀ v, foldedSetIterable x X.env v = pure v
  | .seq a, sc, x, tg, h, X, W, G, hs => by
    have h : chkE P N a sc x = true := by unfold chkIt at h; exact h
    refine ⟨i_seq (sndE a h G hs).pe, fun e S s S1 z => ?_, fun v => notSetI_of h _ v⟩
    rw [src] at z
    obtain ⟨d, S2, _, z⟩ := bind_ok z
    cases d with
    | ref n =>
      have z : (match S2[n]? with
        | some (.lst xs) => .ok (.s (.at n xs)) S2
        | _ => .bad) = Out.ok s S1 := z
      split at z <;> cases z
      exact ⟨_, rfl⟩
    | _ => cases z <;> exact ⟨_, rfl⟩
  | .r1 a, sc, x, tg, h, X, W, G, hs => by
    obtain ⟨q, z, p, rfl, h2, h3⟩ := chk_r1 h
    refine ⟨i_r1 G hs h2 h3 (sndE a h3 G hs).pe, fun e S s S1 z => ?_, fun _ => rfl⟩
    rw [src] at z
    obtain ⟨d, S2, _, z⟩ := bind_ok z
    cases d with
    | int j =>
      have z : (if -(2 ^ 62) ≤ j ∧ j < 2 ^ 62 then .ok (.s (.free (rngD 0 j.toNat))) S2 else .bad) = Out.ok s S1 := z
      split at z <;> cases z
      exact ⟨_, rfl⟩
    | _ => cases z
  | .r2 a b, sc, x, tg, h, X, W, G, hs => by
    obtain ⟨q, z, u, p, rfl, h2, h3, h4⟩ := chk_r2 h
    refine ⟨i_r2 G hs h2 h3 h4 (sndE a h3 G hs).pe (sndE b h4 G hs).pe, fun e S s S1 z => ?_, fun _ => rfl⟩
    rw [src] at z
    obtain ⟨d, S2, _, z⟩ := bind_ok z
    obtain ⟨d2, S3, _, z⟩ := bind_ok z
    cases d with
    | int i =>
      cases d2 with
      | int j =>
        have z : (if -(2 ^ 62) ≤ i ∧ i < 2 ^ 62 ∧ -(2 ^ 62) ≤ j ∧ j < 2 ^ 62 then .ok (.s (.free (rngD i (j - i).toNat))) S3 else .bad) = Out.ok s S1 := z
        split at z <;> cases z
        exact ⟨_, rfl⟩
      | _ => cases z
    | _ => cases z
  | .enum a, sc, x, tg, h, X, W, G, hs => by
    obtain ⟨q, z, p, tes, tk, tp, rfl, rfl, h2, h3⟩ := chk_enum h
    exact ⟨i_enum G hs h2 h3 (sndE a h3 G hs).pe, fun _ _ s _ _ => by cases s; exact ⟨_, rfl⟩, fun _ => rfl⟩
  | .zip a b, sc, x, tg, h, X, W, G, hs => by
    obtain ⟨q, z, u, p, tes, tk, tp, rfl, rfl, h2, h3, h4⟩ := chk_zip h
    refine ⟨i_zip G hs h2 h3 h4 (sndE a h3 G hs).pe (sndE b h4 G hs).pe, fun e S s S1 z => ?_, fun _ => rfl⟩
    rw [src] at z
    obtain ⟨d, S2, _, z⟩ := bind_ok z
    obtain ⟨d2, S3, _, z⟩ := bind_ok z
    cases d <;> cases d2 <;> cases z <;> exact ⟨_, rfl⟩
  | .keys a, sc, x, tg, h, X, W, G, hs => by
    have h : chkE P N a sc x = true := h
    exact ⟨i_keys (sndE a h G hs).pe, fun _ _ s _ _ => by cases s; exact ⟨_, rfl⟩, notSetI_of h X.env⟩
  | .vals a, sc, x, tg, h, X, W, G, hs => by
    obtain ⟨y, ap, p, rfl, h1, h2, h3⟩ := chk_vals h
    exact ⟨i_vals (sndE a h3 G hs).pe (base_of h2 _ _ _) h1, fun _ _ s _ _ => by cases s; exact ⟨_, rfl⟩, fun _ => rfl⟩
end
end
end Z


/-! Z: statements. -/
namespace Z
open PySem L2
/-- where a run stands: since the entry (w0, H0) -/
structure Cf (K : PySem.W.Frag) (w0 : Wd) (H0 : Hp) (w : Wd) (H : Hp) (σ : L2.St) (e : En) (S : Sto) : Prop where
  le : Le w0 w H0 H
  sub : ∀ a, w0.P a → w.P a
  pl : At K w H σ e S
  own : ∀ (i : Nat) (xs : List D) (a : Addr), e[i]? = some (.own xs) → σ[i]? = some (some (.ref a)) → H0 a = none
def PostS (K : PySem.W.Frag) (W : WX) (w0 : Wd) (H0 : Hp) (w : Wd) (H : Hp) (o : Fl) (D : Ends) : Prop := match o with
  | .nx e S => ∀ σ' H' w', Cf K w0 H0 w' H' σ' e S → LW w w' H H' → D.nx σ' H'
  | .rt d S => ∀ v H' w', Le w0 w' H0 H' → (∀ a, w0.P a → w'.P a) → Sim K w' H' S → Rep K w' H' d v → LW w w' H H' → D.rt v H'
  | .ex c e S => ∀ σ' H' w', Cf K w0 H0 w' H' σ' e S → W (.ref (He.ga K c)) none σ' H'
  | .bad => False
def rdS (P : Prog) (R : Str → List D → Sto → Out D) (K : PySem.W.Frag) (W : WX) (c : St) : TS := fun D σ H => ∃ w0 H0 w e S, Cf K w0 H0 w H σ e S ∧ PostS K W w0 H0 w H (exec P R c e S) D
section
variable {K : PySem.W.Frag} {W : WX} {w0 w w1 : Wd} {H0 H H1 : Hp} {σ : L2.St} {e : En} {S S1 : Sto} {D : Ends} {P : Prog} {R : Str → List Z.D → Sto → Out Z.D}
theorem Cf.go (c : Cf K w0 H0 w H σ e S) (l : Le w w1 H H1) (p : w1.P = w.P) (s : Sim K w1 H1 S1) : Cf K w0 H0 w1 H1 σ e S1 := ⟨c.le.trans l, fun a h => by rw [p]; exact c.sub a h, c.pl.go l p s, c.own⟩
theorem PostS.go {o : Fl} (h : PostS K W w0 H0 w H o D) (l : LW w w1 H H1) : PostS K W w0 H0 w1 H1 o D := by
  cases o with
  | nx e S => exact fun σ' H' w' c l2 => h σ' H' w' c (l.trans l2)
  | rt d S => exact fun v H' w' c1 c2 c3 c4 l2 => h v H' w' c1 c2 c3 c4 (l.trans l2)
  | ex c e S => exact h
  | bad => exact h
/-- an expression within a statement -/
theorem st_E {c : Ex} {f : Z.D → Sto → Fl} {Q' : VK} (cf : Cf K w0 H0 w H σ e S) (h : PostS K W w0 H0 w H ((eval P R c e S).fl e f) D)
    (k : ∀ d S1 v H1 w1, Le w w1 H H1 → Cf K w0 H0 w1 H1 σ e S1 → Rep K w1 H1 d v → PostS K W w0 H0 w1 H1 (f d S1) D → Q' v H1) : rdE P R K W c σ H Q' := by
  refine ⟨e, S, w, cf.pl, ?_⟩
  cases q : eval P R c e S with
  | ok d S1 =>
    rw [q] at h
    exact fun v H1 w1 l p s r => k d S1 v H1 w1 l (cf.go l p s) r (PostS.go (o := f d S1) h l.lw)
  | exc x S1 =>
    rw [q] at h
    exact fun H1 w1 l p s => h σ H1 w1 (cf.go l p s)
  | bad =>
    rw [q] at h
    exact h
theorem st_T {c : Ex} {g : Bool → Sto → Fl} {Q' : Bool → Hp → Prop} (cf : Cf K w0 H0 w H σ e S) (h : PostS K W w0 H0 w H ((eval P R c e S).fl e fun x S => match truth S x with
      | some true => g true S
      | some false => g false S
      | none => .bad) D)
    (k : ∀ b S1 H1 w1, Le w w1 H H1 → Cf K w0 H0 w1 H1 σ e S1 → PostS K W w0 H0 w1 H1 (g b S1) D → Q' b H1) : rdT P R K W c σ H Q' := by
  refine ⟨e, S, w, cf.pl, ?_⟩
  cases q : eval P R c e S with
  | ok d S1 =>
    rw [q] at h
    have h : PostS K W w0 H0 w H (match truth S1 d with
      | some true => g true S1
      | some false => g false S1
      | none => .bad) D := h
    show Post K RelB W σ w H (match truth S1 d with
      | some b => Out.ok b S1
      | none => .bad) Q'
    cases z : truth S1 d with
    | none => rw [z] at h; exact h
    | some b =>
      rw [z] at h
      intro b' H1 w1 l p s r
      have r' : b' = b := r
      subst r'
      cases b' with
      | true => exact k true S1 H1 w1 l (cf.go l p s) (PostS.go h l.lw)
      | false => exact k false S1 H1 w1 l (cf.go l p s) (PostS.go h l.lw)
  | exc x S1 =>
    rw [q] at h
    exact fun H1 w1 l p s => h σ H1 w1 (cf.go l p s)
  | bad =>
    rw [q] at h
    exact h
/-- a slot gets a value -/
theorem Cf.set (c : Cf K w0 H0 w H σ e S) {i : Nat} {d : Z.D} {v : V} (r : Rep K w H d v) (hi : i < e.length) : Cf K w0 H0 w H (σ.set i (some v)) (e.set i (.val d)) S := by
  refine ⟨c.le, c.sub, ⟨c.pl.env.set r hi, c.pl.sim⟩, fun j xs a h1 h2 => ?_⟩
  by_cases z : i = j
  · subst z
    rw [List.getElem?_set_self hi] at h1
    cases h1
  · rw [List.getElem?_set_ne z] at h1 h2
    exact c.own j xs a h1 h2
/-- .. by a target: whatever slots it took -/
theorem bindT_own {t : Tg} {d : Z.D} {e e1 : En} (h : bindT t d e = some e1) : ∀ (i : Nat) (xs : List Z.D), e1[i]? = some (.own xs) → e[i]? = some (.own xs) ∧ i ∉ t.slots := by
  have fold : ∀ (l : List (Nat × Z.D)) (e : En) (i : Nat) (xs : List Z.D), (l.foldl (fun e p => e.set p.1 (.val p.2)) e)[i]? = some (.own xs) → e[i]? = some (.own xs) ∧ i ∉ l.map (·.1) := fun l => by
    induction l with
    | nil => exact fun e i xs h => ⟨h, by simp⟩
    | cons p l ih =>
      intro e i xs h
      obtain ⟨h1, h2⟩ := ih _ i xs h
      by_cases z : p.1 = i
      · rw [List.getElem?_set, if_pos z] at h1
        split at h1 <;> cases h1
      · rw [List.getElem?_set_ne z] at h1
        refine ⟨h1, fun hm => ?_⟩
        rcases List.mem_cons.mp hm with q | q
        · exact z q.symm
        · exact h2 q
  cases t with
  | one i =>
    have hb : (if i < e.length then some (e.set i (.val d)) else none) = some e1 := h
    intro j xs hj
    split at hb
    · rename_i hi
      cases hb
      by_cases z : i = j
      · subst z
        rw [List.getElem?_set_self hi] at hj
        cases hj
      · rw [List.getElem?_set_ne z] at hj
        exact ⟨hj, by unfold Tg.slots; simp; exact fun q => z q.symm⟩
    · cases hb
  | many is =>
    cases d with
    | tup ys =>
      have hb : (if is.length = ys.length ∧ (is.all fun i => decide (i < e.length)) = true then some ((is.zip ys).foldl (fun e p => e.set p.1 (.val p.2)) e) else none) = some e1 := h
      intro j xs hj
      split at hb
      · rename_i hi
        cases hb
        obtain ⟨a, b⟩ := fold _ _ _ _ hj
        refine ⟨a, ?_⟩
        rw [List.map_fst_zip (by rw [hi.1]; exact Nat.le_refl _)] at b
        exact b
      · cases hb
    | _ => cases h
theorem wipe_get {σ σ' : L2.St} {vs : List Nat} (h : L2.wipe σ' vs = L2.wipe σ vs) {i : Nat} (n : i ∉ vs) : σ'[i]? = σ[i]? := by rw [← wipe_out (σ := σ') n, h, wipe_out n]
/-- a target's reading within a statement -/
theorem st_G {t : Tg} {d : Z.D} {v : V} {e1 : En} {Q : L2.St → Hp → Prop} (cf : Cf K w0 H0 w H σ e S) (r : Rep K w H d v) (hb : bindT t d e = some e1) (k : ∀ σ', Cf K w0 H0 w H σ' e1 S → Q σ' H) : rdG K t v σ H Q := by
  refine ⟨w, S, d, e, e1, cf.pl.env, cf.pl.sim, r, hb, fun σ' E hw => k σ' ⟨cf.le, cf.sub, ⟨E, cf.pl.sim⟩, fun i xs a h1 h2 => ?_⟩⟩
  obtain ⟨o1, o2⟩ := bindT_own hb i xs h1
  rw [wipe_get (hw t.slots fun _ h => h) o2] at h2
  exact cf.own i xs a o1 h2
end
/-! ### what a check asks -/
def noComp : Expr → Bool
  | .ListComp .. => false
  | .SetComp .. => false
  | .DictComp .. => false
  | _ => true
def noTup : Expr → Bool
  | .Tuple .. => false
  | _ => true
def noLock : Ex → Bool
  | .lock _ _ => false
  | _ => true
mutual
def chkS (P : Prog) (N : List Str) : St → Scope → List Stmt → Bool
  | .skip, _, [] => true
  | .seq a b, sc, x :: xs => chk1 P N a sc x && chkS P N b sc xs
  | _, _, _ => false
def chk1 (P : Prog) (N : List Str) : St → Scope → Stmt → Bool
  | .ex c, sc, s => (match s with
    | .Expr x _ => noComp x && chkE P N c sc x
    | _ => false)
  | .set i c, sc, s => (match s with
    | .Assign [.Name y _] x _ => (decide (N[i]? = some y) && noLock c) && (locB sc y && chkE P N c sc x)
    | _ => false)
  | .unp is c, sc, s => (match s with
    | .Assign [.Tuple es k p] x _ => tgB N sc (.many is) (.Tuple es k p) && ((noTup x && noComp x) && chkE P N c sc x)
    | _ => false)
  | .setA o f c, sc, s => (match s with
    | .Assign [.Attribute y g _] x _ => decide (f = g) && (chkE P N o sc y && chkE P N c sc x)
    | _ => false)
  | .setI o k c, sc, s => (match s with
    | .Assign [.Subscript y z _] x _ => chkE P N o sc y && ((noSlice z && chkE P N k sc z) && chkE P N c sc x)
    | _ => false)
  | .ret c, sc, s => (match s with
    | .Return (some x) _ => chkE P N c sc x
    | _ => false)
  | .retN, _, s => (match s with
    | .Return none _ => true
    | _ => false)
  | .ite c a b, sc, s => (match s with
    | .If x ys zs _ => chkE P N c sc x && (chkS P N a sc ys && chkS P N b sc zs)
    | _ => false)
  | .for t it b, sc, s => (match s with
    | .For tg x ys [] _ => tgB N sc t tg && (chkIt P N it sc x tg && chkS P N b sc ys)
    | _ => false)
  | .skip, _, _ => false
  | .seq _ _, _, _ => false
  | .while c b, sc, s => (match s with
    | .While x ys [] _ => chkE P N c sc x && chkS P N b sc ys
    | _ => false)
  | .raise _, _, _ => false
  | .ownN _ _, _, _ => false
  | .ownA _ _, _, _ => false
  | .frz _, _, _ => false
  | .try1 _ _ _ _, _, _ => false
  | .never, _, _ => true
  | .lock _ s, sc, x => chk1 P N s sc x
end
/-- a place where statements stand -/
structure GoodS (P : Prog) (n : Nat) (N : List Str) (adr : Str → Addr) (X : Cx) (W : WX) : Prop where
  g : Good P n N adr X W
  pass : PassesOwn (model X.prog X.w) X.A X.env X.xe
abbrev rS (P : Prog) (n : Nat) (X : Cx) (W : WX) (c : St) : TS := rdS P (run P n) X.K W c
theorem ps_imp {X : Cx} {s : Stmt} {t t' : TS} (h : PS X s t) (k : ∀ D σ H, t' D σ H → t D σ H) : PS X s t' := ⟨fun pins s σ H D I q => h.run pins s σ H D I (k D σ H q)⟩
theorem pss_imp {X : Cx} {s : List Stmt} {t t' : TS} (h : PSs X s t) (k : ∀ D σ H, t' D σ H → t D σ H) : PSs X s t' := ⟨fun pins s σ H D I q => h.run pins s σ H D I (k D σ H q)⟩
section
variable {P : Prog} {n : Nat} {N : List Str} {adr : Str → Addr} {X : Cx} {W : WX} {sc : Scope}
theorem set_S (hu : X.A.units + 64 < cLine) : PSet X (rSet X.K) := by
  intro pins s σ H o i v ov iv u Q I ro ri rv h
  obtain ⟨w, S, S1, d, k, e, sm, rd, rk, re, hs, q⟩ := h
  cases d with
  | ref m =>
    dsimp only [evalSet] at hs
    have hm := (rep_ref rd).1
    split at hs
    · rename_i kvs hk
      split at hs
      · rename_i hl
        cases hkk : k.key with
        | none => rw [hkk] at hs; cases hs
        | some kk =>
          rw [hkk] at hs
          cases hs
          obtain ⟨vs, rfl, hH, qv⟩ := tab_dk sm rd hk
          have l := le_set sm hm hH (fun _ _ z => by cases z) (.dK (putK vs kk v))
          refine set_dict (by omega) pins s σ H _ i v ov iv u Q I ro ri rv ⟨_, _, rfl, .inl ⟨vs, kk, hH, key_v rk hkk, by rw [← qv.length]; exact hl, rfl⟩, ?_⟩
          exact q _ w l rfl (sm.set hm hH (fun _ _ z => by cases z) ⟨_, rfl, Kvs.put (re.le l) (qv.le l)⟩)
      · cases hs
    · rename_i kvs hk
      split at hs
      · rename_i hl
        cases hkk : k.tkey with
        | none => rw [hkk] at hs; cases hs
        | some kk =>
          rw [hkk] at hs
          cases hs
          obtain ⟨vs, rfl, hH, qv⟩ := tab_dt sm rd hk
          obtain ⟨b, rfl, hb⟩ := tkey_v rk hkk
          have l := le_set sm hm hH (fun _ _ z => by cases z) (.dT (putK vs kk v))
          refine set_dict (by omega) pins s σ H _ _ v ov iv u Q I ro ri rv ⟨_, _, rfl, .inr ⟨vs, kk, b, hH, rfl, hb, by rw [← qv.length]; exact hl, rfl⟩, ?_⟩
          exact q _ w l rfl (sm.set hm hH (fun _ _ z => by cases z) ⟨_, rfl, Kvs.put (re.le l) (qv.le l)⟩)
      · cases hs
    · rename_i xs hk
      cases k with
      | int j =>
        have hs : ((ixN xs.length j).map fun j => S.set m (.lst (xs.set j e))) = some S1 := hs
        cases hj : ixN xs.length j with
        | none => rw [hj] at hs; cases hs
        | some jj =>
          rw [hj] at hs
          cases hs
          obtain ⟨_, rfl⟩ := rep_ref rd
          obtain ⟨u', hH, vs, rfl, qv⟩ := sm.ob m _ hk
          cases rep_int rk
          have l := le_set sm hm hH (fun _ _ z => by cases z) (.lst (vs.set jj v))
          refine set_list pins s σ H _ _ v ov iv u Q I ro ri rv ⟨_, vs, j, jj, rfl, rfl, hH, by rw [← qv.length]; exact hj, ?_⟩
          exact q _ w l rfl (sm.set hm hH (fun _ _ z => by cases z) ⟨_, rfl, Reps.set (re.le l) jj (Reps.le l xs qv)⟩)
      | _ => cases hs
    · cases hs
  | _ => cases hs
/-- the loop -/
theorem loopF_step {f : D → En → Sto → Fl} {c : Sto → Bool} {x : D} {xs : List D} {e : En} {S : Sto} : loopF f c (x :: xs) e S = if c S = true then (match f x e S with
    | .nx e1 S1 => loopF f c xs e1 S1
    | r => r) else .bad := by rw [loopF] <;> rfl
theorem loopF_okS {K : PySem.W.Frag} {w0 w : Wd} {H0 H : Hp} {f : D → En → Sto → Fl} {c : Sto → Bool} {xs : List D} {e : En} {S : Sto} {D : Ends} (h : PostS K W w0 H0 w H (loopF f c xs e S) D) : c S = true := by
  cases xs with
  | nil =>
    unfold loopF at h
    split at h
    · assumption
    · exact h.elim
  | cons x xs =>
    rw [loopF_step] at h
    split at h
    · assumption
    · exact h.elim
theorem s_for {t : Tg} {it : It} {b : St} {tg x : Expr} {ys : List Stmt} {pos : Pos} (G : GoodS P n N adr X W) (hs : ScOk sc X) (hit : ∀ e S s S1, src P (run P n) it e S = .ok s S1 → ∃ z, s = .s z) (hi : PI X tg x (rdI P (run P n) X.K W it)) (hg : tgB N sc t tg = true)
    (hb : PSs X ys (rS P n X W b)) (hf : ∀ v, foldedSetIterable x X.env v = pure v) : PS X (.For tg x ys [] pos) (rS P n X W (.for t it b)) := by
  refine ps_imp (ps_for G.pass G.g.calm hi (g_tg G.g hs hg) hb hf) fun D σ H q => ?_
  obtain ⟨w0, H0, w, e, S, cf, q⟩ := q
  have q : PostS X.K W w0 H0 w H ((src P (run P n) it e S).fl e fun s S => runF (fun x e S => match bindT t x e with
      | some e1 => exec P (run P n) b e1 S
      | none => .bad) s e S) D := by rw [exec] at q; exact q
  obtain ⟨f, hf⟩ : ∃ f : Z.D → En → Sto → Fl, f = fun x e S => match bindT t x e with
      | some e1 => exec P (run P n) b e1 S
      | none => .bad := ⟨_, rfl⟩
  rw [← hf] at q
  refine ⟨e, S, w, cf.pl, ?_⟩
  cases z : src P (run P n) it e S with
  | bad => rw [z] at q; exact q
  | exc c S1 => rw [z] at q; exact fun H1 w1 l p s => q σ H1 w1 (cf.go l p s)
  | ok s S1 =>
    rw [z] at q
    obtain ⟨sr, rfl⟩ := hit e S s S1 z
    have q : PostS X.K W w0 H0 w H (loopF f sr.ok sr.xs e S1) D := q
    intro J H1 w1 l1 p1 s1 wk
    have cf1 := cf.go l1 p1 s1
    have q1 := PostS.go q l1.lw
    have walk : Walk J sr.xs.length (fun H => ∃ w2 S2, LW w1 w2 H1 H ∧ Sim X.K w2 H S2 ∧ sr.ok S2 = true) (fun i H x H' => J.yld i H x H') :=
      ⟨fun i H hi ⟨w2, S2, l, sm, ok⟩ => (wk w2 H S2 l sm ok).1 i hi, fun H ⟨w2, S2, l, sm, ok⟩ => (wk w2 H S2 l sm ok).2.1, fun i H x H' _ _ y => y⟩
    refine for_it walk (fun i σ H => ∃ w2 S2 e2, Cf X.K w0 H0 w2 H σ e2 S2 ∧ LW w1 w2 H1 H ∧ PostS X.K W w0 H0 w2 H (loopF f sr.ok (sr.xs.drop i) e2 S2) D) ?_ ?_ ?_ ?_
    · exact ⟨w1, S1, e, cf1, LW.refl, by rw [List.drop_zero]; exact q1⟩
    · rintro i σ H _ ⟨w2, S2, e2, c2, l2, q2⟩
      exact ⟨w2, S2, l2, c2.pl.sim, loopF_okS q2⟩
    · rintro i x σ2 H2 H3 hi ⟨w2, S2, e2, c2, l2, q2⟩ y
      have ok := loopF_okS q2
      have hd : sr.xs[i]? = some sr.xs[i] := List.getElem?_eq_getElem hi
      obtain ⟨l3, sm3, rx⟩ := (wk w2 H2 S2 l2 c2.pl.sim ok).2.2 i _ x H3 hd y
      rw [List.drop_eq_getElem_cons hi, loopF_step, if_pos ok] at q2
      have c3 := c2.go l3 rfl sm3
      have q3 := PostS.go q2 l3.lw
      have ef : f sr.xs[i] e2 S2 = match bindT t sr.xs[i] e2 with
        | some e1 => exec P (run P n) b e1 S2
        | none => .bad := by rw [hf]
      cases hbt : bindT t sr.xs[i] e2 with
      | none =>
        rw [ef, hbt] at q3
        exact q3.elim
      | some e3 =>
        rw [ef, hbt] at q3
        refine st_G c3 rx hbt fun σ4 c4 => ?_
        refine ⟨w0, H0, w2, e3, S2, c4, ?_⟩
        have q3 : PostS X.K W w0 H0 w2 H3 (match exec P (run P n) b e3 S2 with
          | .nx e1 S1 => loopF f sr.ok (sr.xs.drop (i + 1)) e1 S1
          | r => r) D := q3
        cases hx : exec P (run P n) b e3 S2 with
        | nx e5 S5 =>
          rw [hx] at q3
          exact fun σ' H' w' c' l' => ⟨w', S5, e5, c', (l2.trans l3.lw).trans l', PostS.go q3 l'⟩
        | rt d S5 => rw [hx] at q3; exact q3
        | ex c e5 S5 => rw [hx] at q3; exact q3
        | bad => rw [hx] at q3; exact q3
    · rintro σ2 H2 ⟨w2, S2, e2, c2, l2, q2⟩
      rw [List.drop_length] at q2
      unfold loopF at q2
      split at q2
      · exact q2 σ2 H2 w2 c2 LW.refl
      · exact q2.elim
/-! ### one by one -/
theorem chk_ex {c : Ex} {x : Stmt} (h : chk1 P N (.ex c) sc x = true) : ∃ y p, x = .Expr y p ∧ noComp y = true ∧ chkE P N c sc y = true := by
  unfold chk1 at h
  split at h
  · simp only [Bool.and_eq_true, decide_eq_true_eq] at h
    exact ⟨_, _, rfl, h.1, h.2⟩
  · cases h
theorem chk_set {i : Nat} {c : Ex} {x : Stmt} (h : chk1 P N (.set i c) sc x = true) : ∃ y q e p, x = .Assign [.Name y q] e p ∧ N[i]? = some y ∧ locB sc y = true ∧ chkE P N c sc e = true ∧ noLock c = true := by
  unfold chk1 at h
  split at h
  · simp only [Bool.and_eq_true, decide_eq_true_eq] at h
    exact ⟨_, _, _, _, rfl, h.1.1, h.2.1, h.2.2, h.1.2⟩
  · cases h
theorem chk_unp {is : List Nat} {c : Ex} {x : Stmt} (h : chk1 P N (.unp is c) sc x = true) : ∃ es k q e p, x = .Assign [.Tuple es k q] e p ∧ tgB N sc (.many is) (.Tuple es k q) = true ∧ noTup e = true ∧ noComp e = true ∧ chkE P N c sc e = true := by
  unfold chk1 at h
  split at h
  · simp only [Bool.and_eq_true, decide_eq_true_eq] at h
    exact ⟨_, _, _, _, _, rfl, h.1, h.2.1.1, h.2.1.2, h.2.2⟩
  · cases h
theorem chk_setA {o : Ex} {f : Str} {c : Ex} {x : Stmt} (h : chk1 P N (.setA o f c) sc x = true) : ∃ y q e p, x = .Assign [.Attribute y f q] e p ∧ chkE P N o sc y = true ∧ chkE P N c sc e = true := by
  unfold chk1 at h
  split at h
  · simp only [Bool.and_eq_true, decide_eq_true_eq] at h
    obtain ⟨rfl, h1, h2⟩ := h
    exact ⟨_, _, _, _, rfl, h1, h2⟩
  · cases h
theorem chk_setI {o k c : Ex} {x : Stmt} (h : chk1 P N (.setI o k c) sc x = true) : ∃ y z q e p, x = .Assign [.Subscript y z q] e p ∧ chkE P N o sc y = true ∧ noSlice z = true ∧ chkE P N k sc z = true ∧ chkE P N c sc e = true := by
  unfold chk1 at h
  split at h
  · simp only [Bool.and_eq_true, decide_eq_true_eq] at h
    exact ⟨_, _, _, _, _, rfl, h.1, h.2.1.1, h.2.1.2, h.2.2⟩
  · cases h
theorem chk_ret {c : Ex} {x : Stmt} (h : chk1 P N (.ret c) sc x = true) : ∃ y p, x = .Return (some y) p ∧ chkE P N c sc y = true := by
  unfold chk1 at h
  split at h
  · exact ⟨_, _, rfl, h⟩
  · cases h
theorem chk_retN {x : Stmt} (h : chk1 P N .retN sc x = true) : ∃ p, x = .Return none p := by
  unfold chk1 at h
  split at h
  · exact ⟨_, rfl⟩
  · cases h
theorem chk_ite {c : Ex} {a b : St} {x : Stmt} (h : chk1 P N (.ite c a b) sc x = true) : ∃ e ys zs p, x = .If e ys zs p ∧ chkE P N c sc e = true ∧ chkS P N a sc ys = true ∧ chkS P N b sc zs = true := by
  unfold chk1 at h
  split at h
  · simp only [Bool.and_eq_true, decide_eq_true_eq] at h
    exact ⟨_, _, _, _, rfl, h.1, h.2.1, h.2.2⟩
  · cases h
theorem chk_for {t : Tg} {it : It} {b : St} {x : Stmt} (h : chk1 P N (.for t it b) sc x = true) : ∃ tg e ys p, x = .For tg e ys [] p ∧ tgB N sc t tg = true ∧ chkIt P N it sc e tg = true ∧ chkS P N b sc ys = true := by
  unfold chk1 at h
  split at h
  · simp only [Bool.and_eq_true, decide_eq_true_eq] at h
    exact ⟨_, _, _, _, rfl, h.1, h.2.1, h.2.2⟩
  · cases h
theorem chk_while {c : Ex} {b : St} {x : Stmt} (h : chk1 P N (.while c b) sc x = true) : ∃ e ys p, x = .While e ys [] p ∧ chkE P N c sc e = true ∧ chkS P N b sc ys = true := by
  unfold chk1 at h
  split at h
  · simp only [Bool.and_eq_true, decide_eq_true_eq] at h
    exact ⟨_, _, _, rfl, h.1, h.2⟩
  · cases h
theorem sw_no {e : Expr} (h : noComp e = true) (t : Option Expr) (l : Nat) (env : Env) : swapsWith e t l env = pure false := by
  cases e <;> first | rfl | cases h
theorem sw_attr (e : Expr) {y : Expr} {f : Str} {q : Pos} (l : Nat) (env : Env) : swapsWith e (some (.Attribute y f q)) l env = pure false := by
  cases e <;> rfl
theorem sw_sub (e : Expr) {y z : Expr} {q : Pos} (l : Nat) (env : Env) : swapsWith e (some (.Subscript y z q)) l env = pure false := by
  cases e <;> rfl
theorem sw_solo {e : Expr} (h : noComp e = true) (t : Expr) (l : Nat) (env : Env) : swapsWithSole [t] e l env = pure false := by
  show swapsWith e (some t) l env = pure false
  exact sw_no h _ _ _
theorem sw_solosub (e : Expr) {y z : Expr} {q : Pos} (l : Nat) (env : Env) : swapsWithSole [.Subscript y z q] e l env = pure false := by
  show swapsWith e (some (.Subscript y z q)) l env = pure false
  cases e <;> rfl
theorem sto_no {es : List Expr} {k : Nat} {q : Pos} {e : Expr} (h : noTup e = true) (env : Env) : swappedStores [.Tuple es k q] e env = pure none := by
  cases e <;> first | rfl | cases h
theorem s_ex {c : Ex} {y : Expr} {p : Pos} (h : noComp y = true) (hp : PE X y (rE P n X W c)) : PS X (.Expr y p) (rS P n X W (.ex c)) := by
  refine ps_imp (ps_expr hp (sw_no h _ _ _)) fun D σ H q => ?_
  obtain ⟨w0, H0, w, e, S, cf, q⟩ := q
  rw [exec] at q
  exact st_E cf q fun d S1 v H1 w1 l1 c1 r q1 => q1 σ H1 w1 c1 LW.refl
theorem setE_run {w0 : Wd} {H0 : Hp} {w : Wd} {H : Hp} {σ : L2.St} {e : En} {S : Sto} {i : Nat} {d : D} {v : V} {D : Ends} (cf : Cf X.K w0 H0 w H σ e S) (r : Rep X.K w H d v) (q : PostS X.K W w0 H0 w H (setE e i (.val d) S) D) : D.nx (σ.set i (some v)) H := by
  unfold setE at q
  split at q
  · rename_i hi
    exact q _ H w (cf.set r hi) LW.refl
  · exact q.elim
theorem s_set {i : Nat} {c : Ex} {y : Str} {e : Expr} {q p : Pos} (nl : noLock c = true) (G : GoodS P n N adr X W) (hs : ScOk sc X) (h1 : N[i]? = some y) (h2 : locB sc y = true) (h3 : chkE P N c sc e = true) (hp : PE X e (rE P n X W c))
    (hc : ∀ r own tg it cd el, c = .comp r own tg it cd el → PS X (.Assign [.Name y q] e p) (tAsg (rE P n X W c) (gName i))) : PS X (.Assign [.Name y q] e p) (rS P n X W (.set i c)) := by
  have l := loc_of h2
  have ps : PS X (.Assign [.Name y q] e p) (tAsg (rE P n X W c) (gName i)) := by
    cases c with
    | comp r own tg it cd el => exact hc _ _ _ _ _ _ rfl
    | lock _ _ => cases nl
    | _ =>
      refine ps_set G.g.ndX (by rw [G.g.nm]; exact h1) (hs.loc l) hp (sw_no ?_ _ _ _) (hs.fn y l)
      cases e <;> first | rfl | simp [chkE] at h3
  refine ps_imp ps fun D σ H q => ?_
  obtain ⟨w0, H0, w, e, S, cf, q⟩ := q
  rw [exec] at q
  exact st_E cf q fun d S1 v H1 w1 l1 c1 r q1 => setE_run c1 r q1
theorem s_unp {is : List Nat} {c : Ex} {es : List Expr} {k : Nat} {q p : Pos} {e : Expr} (G : GoodS P n N adr X W) (hs : ScOk sc X) (h1 : tgB N sc (.many is) (.Tuple es k q) = true) (h2 : noTup e = true) (h3 : noComp e = true) (hp : PE X e (rE P n X W c)) :
    PS X (.Assign [.Tuple es k q] e p) (rS P n X W (.unp is c)) := by
  refine ps_imp (ps_asg hp (g_tg G.g hs h1) (sw_solo h3 _ _ _) (sto_no h2 _)) fun D σ H q => ?_
  obtain ⟨w0, H0, w, e, S, cf, q⟩ := q
  rw [exec] at q
  refine st_E cf q fun d S1 v H1 w1 l1 c1 r q1 => ?_
  cases hb : bindT (.many is) d e with
  | none => rw [hb] at q1; exact q1.elim
  | some e1 =>
    rw [hb] at q1
    exact st_G c1 r hb fun σ' c' => q1 σ' H1 w1 c' LW.refl
theorem s_setA {o : Ex} {f : Str} {c : Ex} {y e : Expr} {q p : Pos} (G : GoodS P n N adr X W) (ho : PE X y (rE P n X W o)) (hp : PE X e (rE P n X W c)) : PS X (.Assign [.Attribute y f q] e p) (rS P n X W (.setA o f c)) := by
  refine ps_imp (ps_fld ho hp (sw_attr _ _ _)) fun D σ H q => ?_
  obtain ⟨w0, H0, w, e, S, cf, q⟩ := q
  rw [exec] at q
  refine st_E cf q fun d S1 v H1 w1 l1 c1 r q1 => st_E c1 q1 fun d2 S2 v2 H2 w2 l2 c2 r2 q2 => ?_
  cases d2 with
  | ref m =>
    have q2 : PostS X.K W w0 H0 w2 H2 (match S2[m]? with
      | some (.ins C fs) => if fs.length < 1000 ∧ (P.ats.any fun p => decide (p.1 = C) && decide (p.2 = f)) = true then .nx e (S2.set m (.ins C (putFD f d fs))) else .bad
      | _ => .bad) D := q2
    split at q2
    · rename_i C fs hm
      split at q2
      · rename_i hc
        obtain ⟨hn, rfl⟩ := rep_ref r2
        obtain ⟨u, hu, dx, vs, rfl, kv⟩ := c2.pl.sim.ob m _ hm
        obtain ⟨k1, k2⟩ := G.g.kn.ats C f hc.2
        refine ⟨_, _, dx, vs, rfl, hu, k1, k2, by rw [← kv.length]; exact hc.1, ?_⟩
        have l := le_set c2.pl.sim hn hu (fun _ _ z => by cases z) (.ins (He.ga X.K C) dx (L2.putF f v vs))
        refine q2 σ _ w2 (c2.go l rfl (c2.pl.sim.set hn hu (fun _ _ z => by cases z) ⟨dx, _, rfl, Kvs.putF (Rep.le (l2.trans l) d r) (kv.le l)⟩)) l.lw
      · exact q2.elim
    · exact q2.elim
  | _ => exact q2.elim
theorem asg_sub {y z : Expr} {q : Pos} (h : noSlice z = true) (env : Env) : ∀ v, assign (.Subscript y z q) env v = (do
      let ov ← holding [v] (PySem.eval y env)
      let iv ← holding [v, ov] (PySem.eval z env)
      standAt q
      holding [v, ov, iv] (setItem ov iv v)
      release [v, ov, iv] []) := by
  cases z <;> first | (intro _; rfl) | cases h
theorem s_setI {o k c : Ex} {y z e : Expr} {q p : Pos} (hz : noSlice z = true) (G : GoodS P n N adr X W) (ho : PE X y (rE P n X W o)) (hk : PE X z (rE P n X W k)) (hp : PE X e (rE P n X W c)) : PS X (.Assign [.Subscript y z q] e p) (rS P n X W (.setI o k c)) := by
  refine ps_imp (ps_asg hp (pg_sub ho hk (set_S G.g.un) (asg_sub hz X.env)) (sw_solosub e _ _)) fun D σ H q => ?_
  obtain ⟨w0, H0, w, e, S, cf, q⟩ := q
  rw [exec] at q
  refine st_E cf q fun d S1 v H1 w1 l1 c1 r q1 => st_E c1 q1 fun d2 S2 v2 H2 w2 l2 c2 r2 q2 => st_E c2 q2 fun d3 S3 v3 H3 w3 l3 c3 r3 q3 => ?_
  cases hs : evalSet S3 d2 d3 d with
  | none => rw [hs] at q3; exact q3.elim
  | some S4 =>
    rw [hs] at q3
    exact ⟨w3, S3, S4, d2, d3, d, c3.pl.sim, Rep.le l3 d2 r2, r3, Rep.le (l2.trans l3) d r, hs, fun H4 w4 l4 p4 s4 => q3 σ H4 w4 (c3.go l4 p4 s4) l4.lw⟩
theorem s_ret {c : Ex} {e : Expr} {p : Pos} (hp : PE X e (rE P n X W c)) : PS X (.Return (some e) p) (rS P n X W (.ret c)) := by
  refine ps_imp (ps_ret hp) fun D σ H q => ?_
  obtain ⟨w0, H0, w, e, S, cf, q⟩ := q
  rw [exec] at q
  exact st_E cf q fun d S1 v H1 w1 l1 c1 r q1 => q1 v H1 w1 c1.le c1.sub c1.pl.sim r LW.refl
theorem s_retN {p : Pos} : PS X (.Return none p) (rS P n X W .retN) := by
  refine ps_imp ps_retN fun D σ H q => ?_
  obtain ⟨w0, H0, w, e, S, cf, q⟩ := q
  rw [exec] at q
  exact q _ H w cf.le cf.sub cf.pl.sim mk_non LW.refl
theorem s_ite {c : Ex} {a b : St} {e : Expr} {ys zs : List Stmt} {p : Pos} (hc : PT X e (rT P n X W c)) (ha : PSs X ys (rS P n X W a)) (hb : PSs X zs (rS P n X W b)) : PS X (.If e ys zs p) (rS P n X W (.ite c a b)) := by
  refine ps_imp (ps_if hc ha hb) fun D σ H q => ?_
  obtain ⟨w0, H0, w, e, S, cf, q⟩ := q
  rw [exec] at q
  refine st_T (g := fun k S => if k = true then exec P (run P n) a e S else exec P (run P n) b e S) cf q fun k S1 H1 w1 l1 c1 q1 => ?_
  cases k with
  | true => exact ⟨w0, H0, w1, e, S1, c1, q1⟩
  | false => exact ⟨w0, H0, w1, e, S1, c1, q1⟩
theorem s_while {c : Ex} {b : St} {e : Expr} {ys : List Stmt} {p : Pos} (G : GoodS P n N adr X W) (hc : PT X e (rT P n X W c)) (hb : PSs X ys (rS P n X W b)) : PS X (.While e ys [] p) (rS P n X W (.while c b)) := by
  refine ps_imp (ps_while G.pass hc hb) fun D σ H q => ?_
  obtain ⟨w0, H0, w, e, S, cf, q⟩ := q
  rw [exec] at q
  obtain ⟨cd, hcd⟩ : ∃ cd : En → Sto → Out Bool, cd = fun e S => (eval P (run P n) c e S).bind fun x S => match truth S x with
    | some t => .ok t S
    | none => .bad := ⟨_, rfl⟩
  have q : PostS X.K W w0 H0 w H (loopW cd (fun e S => exec P (run P n) b e S) P.fuel e S) D := by rw [hcd]; exact q
  refine ⟨fun m σ H => ∃ w e S, Cf X.K w0 H0 w H σ e S ∧ PostS X.K W w0 H0 w H (loopW cd (fun e S => exec P (run P n) b e S) m e S) D, ⟨P.fuel, w, e, S, cf, q⟩, ?_⟩
  rintro m σ H ⟨w, e, S, cf, q⟩
  cases m with
  | zero =>
    unfold loopW at q
    exact q.elim
  | succ m =>
    have eq : loopW cd (fun e S => exec P (run P n) b e S) (m + 1) e S = (eval P (run P n) c e S).fl e fun x S => match truth S x with
        | some true => (match exec P (run P n) b e S with
          | .nx e1 S1 => loopW cd (fun e S => exec P (run P n) b e S) m e1 S1
          | r => r)
        | some false => .nx e S
        | none => .bad := by
      conv => lhs; unfold loopW
      rw [hcd]
      show ((eval P (run P n) c e S).bind _).fl e _ = _
      cases eval P (run P n) c e S with
      | bad => rfl
      | exc k S1 => rfl
      | ok d S1 =>
        show Out.fl (match truth S1 d with
          | some t => .ok t S1
          | none => .bad) e _ = (match truth S1 d with
          | some true => _
          | some false => _
          | none => _)
        cases truth S1 d with
        | none => rfl
        | some t => cases t <;> rfl
    rw [eq] at q
    refine st_T (g := fun k S => if k = true then (match exec P (run P n) b e S with
          | .nx e1 S1 => loopW cd (fun e S => exec P (run P n) b e S) m e1 S1
          | r => r) else .nx e S) cf q fun k S1 H1 w1 l1 c1 q1 => ?_
    cases k with
    | true =>
      have q1 : PostS X.K W w0 H0 w1 H1 (match exec P (run P n) b e S1 with
          | .nx e1 S1 => loopW cd (fun e S => exec P (run P n) b e S) m e1 S1
          | r => r) D := q1
      rw [if_pos rfl]
      refine ⟨fun σ' H' => ∃ w e S, Cf X.K w0 H0 w H' σ' e S ∧ PostS X.K W w0 H0 w H' (loopW cd (fun e S => exec P (run P n) b e S) m e S) D, fun σ' H' h => ⟨m, Nat.lt_succ_self m, h⟩, w0, H0, w1, e, S1, c1, ?_⟩
      cases hx : exec P (run P n) b e S1 with
      | nx e1 S2 =>
        rw [hx] at q1
        exact fun σ' H' w' c' l' => ⟨w', e1, S2, c', PostS.go q1 l'⟩
      | rt d S2 => rw [hx] at q1; exact q1
      | ex k e1 S2 => rw [hx] at q1; exact q1
      | bad => rw [hx] at q1; exact q1
    | false =>
      have q1 : PostS X.K W w0 H0 w1 H1 (.nx e S1) D := q1
      rw [if_neg Bool.false_ne_true]
      exact q1 σ H1 w1 c1 LW.refl
theorem s_never {x : Stmt} : PS X x (rS P n X W .never) := by
  refine ⟨fun pins s σ H D I q => ?_⟩
  obtain ⟨w0, H0, w, e, S, cf, q⟩ := q
  rw [exec] at q
  exact q.elim
theorem s_lock {o : Ex} {s : St} {x : Stmt} (h : PS X x (rS P n X W s)) : PS X x (rS P n X W (.lock o s)) := by
  refine ps_imp (ps_lock h) fun D σ H q => ?_
  obtain ⟨w0, H0, w, e, S, cf, q⟩ := q
  rw [exec] at q
  cases hl : loc o e S with
  | none => rw [hl] at q; exact q.elim
  | some p =>
    obtain ⟨m, ob⟩ := p
    rw [hl] at q
    have q : PostS X.K W w0 H0 w H ((exec P (run P n) s e (S.set m (.frz ob))).unlock m ob) D := q
    obtain ⟨u, L⟩ := lock_of cf.pl.sim hl
    refine ⟨w.at_ m, u, L.hu, L.mu, fun od => ?_⟩
    obtain ⟨l1, s1⟩ := lock_in L cf.pl.sim od
    refine ⟨w0, H0, w, e, S.set m (.frz ob), cf.go l1 rfl s1, ?_⟩
    cases hx : exec P (run P n) s e (S.set m (.frz ob)) with
    | bad => rw [hx] at q; exact q.elim
    | ex c e2 S2 => rw [hx] at q; exact q.elim
    | nx e2 S2 =>
      rw [hx] at q
      have q : PostS X.K W w0 H0 w H (match Z.unlock m ob S2 with
        | some S1 => .nx e2 S1
        | none => .bad) D := q
      cases hz : Z.unlock m ob S2 with
      | none => rw [hz] at q; exact q.elim
      | some S1 =>
        rw [hz] at q
        cases unlock_some hz
        intro σ' H' w' c' lw
        exact ⟨frz_out lw, q σ' _ w' ⟨le_out0 L cf.pl.sim cf.le c'.le, c'.sub, ⟨env_out L cf.pl.sim lw c'.pl.sim c'.pl.env, sim_out L cf.pl.sim lw c'.pl.sim⟩, c'.own⟩ (lw_out L cf.pl.sim lw)⟩
    | rt d S2 =>
      rw [hx] at q
      have q : PostS X.K W w0 H0 w H (match Z.unlock m ob S2 with
        | some S1 => .rt d S1
        | none => .bad) D := q
      cases hz : Z.unlock m ob S2 with
      | none => rw [hz] at q; exact q.elim
      | some S1 =>
        rw [hz] at q
        cases unlock_some hz
        intro v H' w' c1 c2 c3 c4 lw
        exact ⟨frz_out lw, q v _ w' (le_out0 L cf.pl.sim cf.le c1) c2 (sim_out L cf.pl.sim lw c3) (Rep.tr (tr2_out L cf.pl.sim lw) d c4) (lw_out L cf.pl.sim lw)⟩
mutual
theorem sndS : ∀ (c : St) {sc : Scope} {xs : List Stmt}, chkS P N c sc xs = true → ∀ {X : Cx} {W : WX}, GoodS P n N adr X W → ScOk sc X → PSs X xs (rS P n X W c)
  | .skip, sc, xs, h, X, W, G, hs => by
    cases xs with
    | cons _ _ => simp [chkS] at h
    | nil =>
      refine pss_imp pss_nil fun D σ H q => ?_
      obtain ⟨w0, H0, w, e, S, cf, q⟩ := q
      rw [exec] at q
      exact q σ H w cf LW.refl
  | .seq a b, sc, xs, h, X, W, G, hs => by
    cases xs with
    | nil => simp [chkS] at h
    | cons x xs =>
      unfold chkS at h
      obtain ⟨h1, h2⟩ := Bool.and_eq_true_iff.mp h
      refine pss_imp (pss_cons (snd1 a h1 G hs) (sndS b h2 G hs)) fun D σ H q => ?_
      obtain ⟨w0, H0, w, e, S, cf, q⟩ := q
      refine ⟨w0, H0, w, e, S, cf, ?_⟩
      rw [exec] at q
      cases z : exec P (run P n) a e S with
      | nx e1 S1 =>
        rw [z] at q
        exact fun σ' H' w' c' l' => ⟨w0, H0, w', e1, S1, c', PostS.go (o := exec P (run P n) b e1 S1) q l'⟩
      | rt d S1 => rw [z] at q; exact q
      | ex k e1 S1 => rw [z] at q; exact q
      | bad => rw [z] at q; exact q
  | .ex _, sc, xs, h, X, W, G, hs => by cases xs <;> simp [chkS] at h
  | .set _ _, sc, xs, h, X, W, G, hs => by cases xs <;> simp [chkS] at h
  | .unp _ _, sc, xs, h, X, W, G, hs => by cases xs <;> simp [chkS] at h
  | .setA _ _ _, sc, xs, h, X, W, G, hs => by cases xs <;> simp [chkS] at h
  | .setI _ _ _, sc, xs, h, X, W, G, hs => by cases xs <;> simp [chkS] at h
  | .ret _, sc, xs, h, X, W, G, hs => by cases xs <;> simp [chkS] at h
  | .retN, sc, xs, h, X, W, G, hs => by cases xs <;> simp [chkS] at h
  | .ite _ _ _, sc, xs, h, X, W, G, hs => by cases xs <;> simp [chkS] at h
  | .for _ _ _, sc, xs, h, X, W, G, hs => by cases xs <;> simp [chkS] at h
  | .while _ _, sc, xs, h, X, W, G, hs => by cases xs <;> simp [chkS] at h
  | .raise _, sc, xs, h, X, W, G, hs => by cases xs <;> simp [chkS] at h
  | .ownN _ _, sc, xs, h, X, W, G, hs => by cases xs <;> simp [chkS] at h
  | .ownA _ _, sc, xs, h, X, W, G, hs => by cases xs <;> simp [chkS] at h
  | .frz _, sc, xs, h, X, W, G, hs => by cases xs <;> simp [chkS] at h
  | .try1 _ _ _ _, sc, xs, h, X, W, G, hs => by cases xs <;> simp [chkS] at h
  | .never, sc, xs, h, X, W, G, hs => by cases xs <;> simp [chkS] at h
  | .lock _ _, sc, xs, h, X, W, G, hs => by cases xs <;> simp [chkS] at h
theorem snd1 : ∀ (c : St) {sc : Scope} {x : Stmt}, chk1 P N c sc x = true → ∀ {X : Cx} {W : WX}, GoodS P n N adr X W → ScOk sc X → PS X x (rS P n X W c)
  | .skip, sc, x, h, X, W, G, hs => Bool.noConfusion (show false = true from h)
  | .seq _ _, sc, x, h, X, W, G, hs => Bool.noConfusion (show false = true from h)
  | .while c b, sc, x, h, X, W, G, hs => by
    obtain ⟨e, ys, p, rfl, h1, h2⟩ := chk_while h
    exact s_while G (sndE c h1 G.g hs).pt (sndS b h2 G hs)
  | .raise _, sc, x, h, X, W, G, hs => Bool.noConfusion (show false = true from h)
  | .ownN _ _, sc, x, h, X, W, G, hs => Bool.noConfusion (show false = true from h)
  | .ownA _ _, sc, x, h, X, W, G, hs => Bool.noConfusion (show false = true from h)
  | .frz _, sc, x, h, X, W, G, hs => Bool.noConfusion (show false = true from h)
  | .try1 _ _ _ _, sc, x, h, X, W, G, hs => Bool.noConfusion (show false = true from h)
  | .never, sc, x, h, X, W, G, hs => s_never
  | .lock o s, sc, x, h, X, W, G, hs => s_lock (snd1 s h G hs)
  | .ex c, sc, x, h, X, W, G, hs => by
    obtain ⟨y, p, rfl, h1, h2⟩ := chk_ex h
    exact s_ex h1 (sndE c h2 G.g hs).pe
  | .set i c, sc, x, h, X, W, G, hs => by
    obtain ⟨y, q, e, p, rfl, h1, h2, h3, nl⟩ := chk_set h
    refine s_set nl G hs h1 h2 h3 (sndE c h3 G.g hs).pe fun r own tg it cd el hc => ?_
    subst hc
    obtain ⟨elt, t, i2, ifs, scope, p2, rfl, k1, k2, k3, k4, k5, k6⟩ := chk_comp h3
    obtain ⟨i1, i2', i3⟩ := sndI it k4 G.g hs
    exact s_comp G.g hs i2' i1 k1 k2 k3 (fun Y GY sY => ifs_of k6 fun c hc => (sndE cd hc GY sY).pt) (fun Y GY sY => (sndE el k5 GY sY).pe) i3 h1 h2
  | .unp is c, sc, x, h, X, W, G, hs => by
    obtain ⟨es, k, q, e, p, rfl, h1, h2, h3, h4⟩ := chk_unp h
    exact s_unp G hs h1 h2 h3 (sndE c h4 G.g hs).pe
  | .setA o f c, sc, x, h, X, W, G, hs => by
    obtain ⟨y, q, e, p, rfl, h1, h2⟩ := chk_setA h
    exact s_setA G (sndE o h1 G.g hs).pe (sndE c h2 G.g hs).pe
  | .setI o k c, sc, x, h, X, W, G, hs => by
    obtain ⟨y, z, q, e, p, rfl, h1, hz, h2, h3⟩ := chk_setI h
    exact s_setI hz G (sndE o h1 G.g hs).pe (sndE k h2 G.g hs).pe (sndE c h3 G.g hs).pe
  | .ret c, sc, x, h, X, W, G, hs => by
    obtain ⟨e, p, rfl, h1⟩ := chk_ret h
    exact s_ret (sndE c h1 G.g hs).pe
  | .retN, sc, x, h, X, W, G, hs => by
    obtain ⟨p, rfl⟩ := chk_retN h
    exact s_retN
  | .ite c a b, sc, x, h, X, W, G, hs => by
    obtain ⟨e, ys, zs, p, rfl, h1, h2, h3⟩ := chk_ite h
    exact s_ite (sndE c h1 G.g hs).pt (sndS a h2 G hs) (sndS b h3 G hs)
  | .for t it b, sc, x, h, X, W, G, hs => by
    obtain ⟨tg, e, ys, p, rfl, h1, h2, h3⟩ := chk_for h
    obtain ⟨i1, i2, i3⟩ := sndI it h2 G.g hs
    exact s_for G hs i2 i1 h1 (sndS b h3 G hs) i3
end
end
end Z


/-! Z: defs; what a head must tell; a law's end. -/
namespace Z
open PySem L2
/-- the function object's data -/
def fdAt (K : PySem.W.Frag) (a : Addr) : FuncData := match K.lookup a with
  | some ⟨_, _, .func fd, _⟩ => fd
  | _ => default
theorem fdAt_of {name qual : Str} {pa : Arguments} {body : List Stmt} {sc : Scope} {dvs : List V} {kws : List (Str × V)} {a : Addr} {fd : FuncData} (F : FunD K name qual pa body sc dvs kws a fd) : fdAt K a = fd := by
  obtain ⟨oc, od, dV, kV, doc, pm, an, cdv, ct, osl, e, lk, _⟩ := F.ex
  unfold fdAt
  rw [lk]
/-- a def of the text -/
structure DefOk (P : Prog) (K : PySem.W.Frag) (adr : Str → Addr) (f : Str) (d : CDef) : Prop where
  ex : ∃ (name qual : Str) (pa : Arguments) (body : List Stmt) (sc : Scope) (fd : FuncData) (ps : List Str), FunD K name qual pa body sc [] [] (adr f) fd ∧ FnScope d.N ps sc ∧ ps.length = d.np ∧ chkS P d.N d.body sc body = true ∧ Binds K fd ps []
  all : ∀ (s : Shared) (us : List Value), us.length = (d.N.take d.np).length → BindsTo s (fdAt K (adr f)) ⟨us, []⟩ ((d.N.take d.np).zip us)
section
variable {P : Prog} {K : PySem.W.Frag} {mg : Str → Option Value} {adr : Str → Addr}
theorem env_start {w : Wd} {H : Hp} {ds : List D} {vs : List V} {N : List Str} {k : Nat} (r : Reps K w H ds vs) (hk : ds.length = k) : REnv K w H (L2.start N vs) (ds.map Slot.val ++ List.replicate (N.length - k) .no) := by
  have hl := r.length
  refine ⟨?_, fun i d h => ?_, fun i xs h => ?_, fun i j xs ys a h1 _ _ _ => ?_⟩
  · unfold L2.start
    rw [List.length_append, List.length_append, List.length_map, List.length_map, List.length_replicate, List.length_replicate]
    omega
  · by_cases hi : i < ds.length
    · rw [List.getElem?_append_left (by rw [List.length_map]; exact hi), List.getElem?_map] at h
      cases z : ds[i]? with
      | none => rw [z] at h; cases h
      | some d' =>
        rw [z] at h
        have e : d' = d := by injection (Option.some.inj h)
        subst e
        obtain ⟨v, e1, e2⟩ := r.get z
        refine ⟨v, ?_, e2⟩
        unfold L2.start
        rw [List.getElem?_append_left (by rw [List.length_map, ← hl]; exact hi), List.getElem?_map, e1]
        rfl
    · rw [List.getElem?_append_right (by rw [List.length_map]; omega), List.getElem?_replicate] at h
      split at h <;> cases h
  · exfalso
    by_cases hi : i < ds.length
    · rw [List.getElem?_append_left (by rw [List.length_map]; exact hi), List.getElem?_map] at h
      cases z : ds[i]? with
      | none => rw [z] at h; cases h
      | some d' => rw [z] at h; cases h
    · rw [List.getElem?_append_right (by rw [List.length_map]; omega), List.getElem?_replicate] at h
      split at h <;> cases h
  · exfalso
    by_cases hi : i < ds.length
    · rw [List.getElem?_append_left (by rw [List.length_map]; exact hi), List.getElem?_map] at h1
      cases z : ds[i]? with
      | none => rw [z] at h1; cases h1
      | some d' => rw [z] at h1; cases h1
    · rw [List.getElem?_append_right (by rw [List.length_map]; omega), List.getElem?_replicate] at h1
      split at h1 <;> cases h1
theorem no_own {w : Wd} {H : Hp} {ds : List D} {k m : Nat} {i : Nat} {xs : List D} (h : (ds.map Slot.val ++ List.replicate m Slot.no)[i]? = some (.own xs)) : False := by
  by_cases hi : i < ds.length
  · rw [List.getElem?_append_left (by rw [List.length_map]; exact hi), List.getElem?_map] at h
    cases z : ds[i]? with
    | none => rw [z] at h; cases h
    | some d' => rw [z] at h; cases h
  · rw [List.getElem?_append_right (by rw [List.length_map]; omega), List.getElem?_replicate] at h
    split at h <;> cases h
theorem fns_ok {prog : Program} {w : World} {base : Heap} (kn : Kn P K mg adr) (tb : ∀ x t, P.tabs.lookup x = some t → TabOk prog w K mg x t) (ok : ∀ f d, P.defs.lookup f = some d → DefOk P K adr f d) : ∀ n f d, P.defs.lookup f = some d →
    ∃ fd ps, ps.length = d.np ∧ FnOk prog w K mg base (L2.CX prog w) (2 * n) (adr f) fd ps (spF P K n f) ∧ Binds K fd ps [] ∧ fdAt K (adr f) = fd ∧ d.N.take d.np = ps
  | 0, f, d, h => by
    obtain ⟨name, qual, pa, body, sc, fd, ps, F, S, hl, hc, hb⟩ := (ok f d h).ex
    have no : ∀ vs H Q E, ¬ spF P K 0 f vs H Q E := fun vs H Q E ⟨w, S, ds, _, _, q⟩ => q
    exact ⟨fd, ps, hl, ⟨fun vs H Q E z => absurd z (no vs H Q E), fun A outer s H args us vs Q E _ _ _ _ z => absurd z (no vs H Q E)⟩, hb, fdAt_of F, by rw [← hl]; exact S.pre⟩
  | n + 1, f, d, h => by
    have ih := fns_ok (prog := prog) (w := w) (base := base) kn tb ok n
    obtain ⟨name, qual, pa, body, sc, fd, ps, F, S, hl, hc, hb⟩ := (ok f d h).ex
    have len : ∀ vs H Q E, spF P K (n + 1) f vs H Q E → vs.length = ps.length := fun vs H Q E ⟨w, S, ds, _, r, q⟩ => by
      unfold run at q
      rw [h] at q
      have q : Post K (Rep K) (fun c d _ H => E c d H) [] w H (if ds.length = d.np then (match exec P (run P n) d.body (ds.map Slot.val ++ List.replicate (d.N.length - d.np) .no) S with
        | .nx _ S1 => .ok .non S1
        | .rt v S1 => .ok v S1
        | .ex c _ S1 => .exc c S1
        | .bad => .bad) else .bad) Q := q
      split at q
      · rename_i e
        rw [← r.length, e, hl]
      · exact q.elim
    refine ⟨fd, ps, hl, F.ok (k := 2 * n + 1) S len fun cdv A outer s H vs Q E hr hsp => ?_, hb, fdAt_of F, by rw [← hl]; exact S.pre⟩
    obtain ⟨X, hX⟩ : ∃ X, X = cxOf (L2.CX prog w) prog w K mg base d.N qual sc (adr f) cdv A outer s H E := ⟨_, rfl⟩
    have G : GoodS P n d.N adr (cxOf (L2.CX prog w) prog w K mg base d.N qual sc (adr f) cdv A outer s H E) (fun cls dd _ H => E cls dd H) := ⟨⟨rfl, S.nd, rfl, hr, kn, fun f d h => let ⟨fd, ps, a, b, c, _⟩ := ih f d h; ⟨fd, ps, a, b, c⟩, takes_of rfl rfl rfl rfl, tb⟩, passes_of (K := fun e s'' => L2.CX prog w outer H s E e s'') rfl⟩
    have hs : ScOk sc (cxOf (L2.CX prog w) prog w K mg base d.N qual sc (adr f) cdv A outer s H E) := ⟨fun x k e => .inl e, fun x _ => .inl rfl⟩
    refine ⟨_, sndS d.body hc G hs, ?_⟩
    obtain ⟨w0, S0, ds, sm, r, q⟩ := hsp
    unfold run at q
    rw [h] at q
    have q : Post K (Rep K) (fun c d _ H => E c d H) [] w0 H (if ds.length = d.np then (match exec P (run P n) d.body (ds.map Slot.val ++ List.replicate (d.N.length - d.np) .no) S0 with
        | .nx _ S1 => .ok .non S1
        | .rt v S1 => .ok v S1
        | .ex c _ S1 => .exc c S1
        | .bad => .bad) else .bad) Q := q
    split at q
    · rename_i e
      refine ⟨w0, H, w0, _, S0, ⟨Le.refl _ _, fun _ h => h, ⟨env_start r e, sm⟩, fun i xs a h1 _ => (no_own (w := w0) (H := H) (k := 0) h1).elim⟩, ?_⟩
      show PostS K _ w0 H w0 H (exec P (run P n) d.body (ds.map Slot.val ++ List.replicate (d.N.length - d.np) .no) S0) _
      cases z : exec P (run P n) d.body (ds.map Slot.val ++ List.replicate (d.N.length - d.np) .no) S0 with
      | nx e1 S1 =>
        rw [z] at q
        exact fun σ' H' w' c _ => q .non H' (w'.only w0.P) (c.le.only fun a ha => .inl ha) rfl (c.pl.sim.only c.sub) mk_non
      | rt v S1 =>
        rw [z] at q
        exact fun u H' w' l sub s r _ => q u H' (w'.only w0.P) (l.only fun a ha => .inl ha) rfl (s.only sub) (Rep.tr (tr_only sub) v r)
      | ex c e1 S1 =>
        rw [z] at q
        exact fun σ' H' w' cf => q H' (w'.only w0.P) (cf.le.only fun a ha => .inl ha) rfl (cf.pl.sim.only cf.sub)
      | bad =>
        rw [z] at q
        exact q
    · exact q.elim
/-- what is asked of a law's def -/
def spLaw (K : PySem.W.Frag) (m : Nat) : Sp := fun vs H Q _ => ∃ (a : Addr) (ns : List Int), ns.length ≤ m ∧ vs = [.ref a] ∧ SqL K H a (ns.map V.int) ∧ ∀ H', Q (.bl true) H'
/-- an exception of any world's -/
def CXW (prog : Program) : CXT := fun outer H s E u s' => ∃ w, L2.CX prog w outer H s E u s'
theorem cxw_no {prog : Program} (H : Hp) (s : Shared) (e : Value) (s' : Shared) (h : CXW prog [] H s (fun _ _ _ => False) e s') : False := by
  obtain ⟨w, a, B, H', cls, d, _, _, _, _, _, _, _, z⟩ := h
  exact z
theorem fn_cxw {prog : Program} {w : World} {base : Heap} {k : Nat} {a : Addr} {fd : FuncData} {ps : List Str} {sp : Sp} (F : FnOk prog w K mg base (L2.CX prog w) k a fd ps sp) : FnOk prog w K mg base (CXW prog) k a fd ps sp :=
  ⟨F.len, fun A outer s H args us vs Q E hr e0 hb r hs => codeAny_mono (F.run A outer s H args us vs Q E hr e0 hb r hs) fun r s' hq => by
    cases r with
    | error e => exact ⟨w, hq⟩
    | ok fl => cases fl <;> exact hq⟩
theorem law_ok {prog : Program} {w : World} {base : Heap} {n m : Nat} {f : Str} {d : CDef} (kn : Kn P K mg adr) (tb : ∀ x t, P.tabs.lookup x = some t → TabOk prog w K mg x t) (ok : ∀ f d, P.defs.lookup f = some d → DefOk P K adr f d) (hf : P.defs.lookup f = some d)
    (hrun : ∀ ns : List Int, ns.length ≤ m → ∃ S, run P n f [.lst (ns.map D.int)] [] = .ok (.bl true) S) :
    FnOk prog w K mg base (CXW prog) (2 * n) (adr f) (fdAt K (adr f)) (d.N.take d.np) (spLaw K m) ∧ Binds K (fdAt K (adr f)) (d.N.take d.np) [] := by
  obtain ⟨fd, ps, hl, F, hb, rfl, rfl⟩ := fns_ok (prog := prog) (w := w) (base := base) kn tb ok n f d hf
  refine ⟨fn_cxw (F.imp fun vs H Q E h => ?_), hb⟩
  obtain ⟨a, ns, hm, rfl, hq, k⟩ := h
  obtain ⟨S, hS⟩ := hrun ns hm
  refine ⟨⟨fun _ => 0, 0, fun _ => False⟩, [], [.lst (ns.map D.int)], ⟨rfl, fun i j hi => absurd hi (Nat.not_lt_zero _), fun n o h => absurd h (by simp), fun n hn => absurd hn (Nat.not_lt_zero _), fun a ha => False.elim ha⟩, ⟨.ref a, [], rfl, ?_, rfl⟩, ?_⟩
  · unfold Rep
    refine ⟨a, _, rfl, ?_, Reps.map D.int V.int (fun _ => mk_int) ns⟩
    rcases hq with hq | hq
    · exact .inl ⟨hq, fun ⟨n, hn, _⟩ => Nat.not_lt_zero _ hn, fun h => h⟩
    · exact .inr hq
  · rw [hS]
    intro v H' w' _ _ _ r
    rw [rep_bl r]
    exact k H'
end
/-! ### the module's constants -/
mutual
def datV (K : PySem.W.Frag) : D → Value → Bool
  | .non, .none => true
  | .bl a, .bool b => a == b
  | .int i, .int j _ => decide (i = j)
  | .str x, .str y _ => decide (x = y)
  | .ctup xs, .ref a => (match K.lookup a with
    | some ⟨.type c, _, .seq its _, _⟩ => decide (c = "tuple") && (decide (its.size ≤ sizeLine) && datVs K xs its.toList)
    | _ => false)
  | _, _ => false
def datVs (K : PySem.W.Frag) : List D → List Value → Bool
  | [], [] => true
  | x :: xs, v :: vs => datV K x v && datVs K xs vs
  | _, _ => false
end
mutual
theorem datV_ok {K : PySem.W.Frag} : ∀ {d : D} {u : Value}, datV K d u = true → ∃ v, RelV v u ∧ ∀ w H, Rep K w H d v
  | .non, u, h => by
    cases u with
    | none => exact ⟨.non, rfl, fun _ _ => mk_non⟩
    | _ => cases h
  | .bl a, u, h => by
    cases u with
    | bool b =>
      have e : a = b := eq_of_beq (show (a == b) = true from h)
      subst e
      exact ⟨.bl a, rfl, fun _ _ => mk_bl⟩
    | _ => cases h
  | .int a, u, h => by
    cases u with
    | int b t =>
      have e : a = b := of_decide_eq_true h
      subst e
      exact ⟨.int a, ⟨t, rfl⟩, fun _ _ => mk_int⟩
    | _ => cases h
  | .str a, u, h => by
    cases u with
    | str b t =>
      have e : a = b := of_decide_eq_true h
      subst e
      exact ⟨.str a, ⟨t, rfl⟩, fun _ _ => mk_str⟩
    | _ => cases h
  | .ctup xs, u, h => by
    cases u with
    | ref a =>
      have h : (match K.lookup a with
        | some ⟨.type c, _, .seq its _, _⟩ => decide (c = "tuple") && (decide (its.size ≤ sizeLine) && datVs K xs its.toList)
        | _ => false) = true := h
      split at h
      · rename_i c dd its n sl e
        obtain ⟨h1, h2⟩ := Bool.and_eq_true_iff.mp h
        obtain ⟨h2, h3⟩ := Bool.and_eq_true_iff.mp h2
        have e1 := of_decide_eq_true h1
        subst e1
        obtain ⟨vs, r, q⟩ := datVs_ok h3
        refine ⟨.ref a, rfl, fun w H => ?_⟩
        unfold Rep
        exact ⟨a, vs, rfl, ⟨_, its, n, e, rfl, rfl, of_decide_eq_true h2, r⟩, q w H⟩
      · cases h
    | _ => cases h
  | .tup _, u, h => by cases u <;> cases h
  | .lst _, u, h => by cases u <;> cases h
  | .ref _, u, h => by cases u <;> cases h
theorem datVs_ok {K : PySem.W.Frag} : ∀ {xs : List D} {us : List Value}, datVs K xs us = true → ∃ vs, Vals vs us ∧ ∀ w H, Reps K w H xs vs
  | [], [], _ => ⟨[], .nil, fun _ _ => rfl⟩
  | [], _ :: _, h => by cases h
  | _ :: _, [], h => by cases h
  | x :: xs, u :: us, h => by
    have h : (datV K x u && datVs K xs us) = true := h
    obtain ⟨h1, h2⟩ := Bool.and_eq_true_iff.mp h
    obtain ⟨v, r, q⟩ := datV_ok h1
    obtain ⟨vs, rs, qs⟩ := datVs_ok h2
    exact ⟨v :: vs, .cons r rs, fun w H => ⟨v, vs, rfl, q w H, qs w H⟩⟩
end
def cstB (K : PySem.W.Frag) (c : Str × D) : Bool := match PySem.W.nsIn K mainGlobals c.1 with
  | some (some u) => datV K c.2 u
  | _ => false
/-! ### the module's written tables -/
def hashK (w : World) : Key ⊕ List Key → Int
  | .inl k => keyH w k
  | .inr ks => reduceHash (Builtin.Tuple.tupleHashOf (ks.map (keyH w)))
def plainKey : Value → Option Key
  | .int i _ => some (.inl i)
  | .str x _ => some (.inr x)
  | _ => none
def plainKeys : List Value → Option (List Key)
  | [] => some []
  | u :: us => match plainKey u, plainKeys us with
    | some k, some ks => some (k :: ks)
    | _, _ => none
def keyIn (K : PySem.W.Frag) : Value → Option (Key ⊕ List Key)
  | .ref b => (match K.lookup b with
    | some ⟨.type c, _, .seq its _, _⟩ => (match decide (c = "tuple") with
      | true => (plainKeys its.toList).map .inr
      | false => none)
    | _ => none)
  | u => (plainKey u).map .inl
def cstIn : Value → Option D
  | .int i _ => some (.int i)
  | .str x _ => some (.str x)
  | _ => none
abbrev Ent : Type := Int × (Key ⊕ List Key) × D
def entsIn (K : PySem.W.Frag) : List DictEntry → Option (List Ent)
  | [] => some []
  | e :: es => match keyIn K e.key, cstIn e.val, entsIn K es with
    | some k, some d, some r => some ((e.hash, k, d) :: r)
    | _, _, _ => none
/-- what is seen of a table -/
def tabIn (K : PySem.W.Frag) (x : Str) : Option (List Ent) := match PySem.W.nsIn K mainGlobals x with
  | some (some (.ref a)) => (match K.lookup a with
    | some ⟨.type c, none, .dict es _, sl⟩ => (match decide (c = "dict") && (sl.size == 0 && !(a == sysModules)) with
      | true => entsIn K es.toList
      | false => none)
    | _ => none)
  | _ => none
def tabEnts (w : World) : Tab → List Ent
  | .k kvs => kvs.map fun p => (hashK w (.inl p.1), .inl p.1, p.2)
  | .t kvs => kvs.map fun p => (hashK w (.inr p.1), .inr p.1, p.2)
def tabNd : Tab → Bool
  | .k kvs => decide (kvs.map (·.1)).Nodup
  | .t kvs => decide (kvs.map (·.1)).Nodup
theorem plainKey_is {prog : Program} {w : World} {u : Value} {k : Key} (h : plainKey u = some k) : (mixKind prog w).is k u = true := by
  cases u with
  | int i t => cases h; exact keyIs_int i t
  | str x t => cases h; exact keyIs_str x t
  | _ => cases h
theorem plainKeys_are {prog : Program} {w : World} : ∀ {us : List Value} {ks : List Key}, plainKeys us = some ks → ItemsAre (mixKind prog w) ks us
  | [], ks, h => by
    cases h
    exact .nil
  | u :: us, ks, h => by
    have h : (match plainKey u, plainKeys us with
      | some k, some ks => some (k :: ks)
      | _, _ => none) = some ks := h
    cases e1 : plainKey u with
    | none => rw [e1] at h; cases h
    | some k =>
      cases e2 : plainKeys us with
      | none => rw [e1, e2] at h; cases h
      | some r =>
        rw [e1, e2] at h
        cases h
        exact .cons (plainKey_is e1) (plainKeys_are e2)
theorem cstIn_ok {u : Value} {d : D} (h : cstIn u = some d) : CstV d u := by
  cases u with
  | int i t => cases h; exact ⟨.int i, ⟨t, rfl⟩, fun _ _ _ => mk_int⟩
  | str x t => cases h; exact ⟨.str x, ⟨t, rfl⟩, fun _ _ _ => mk_str⟩
  | _ => cases h
theorem entsIn_cons {K : PySem.W.Frag} {e : DictEntry} {es : List DictEntry} {r : List Ent} (h : entsIn K (e :: es) = some r) : ∃ k d r', keyIn K e.key = some k ∧ cstIn e.val = some d ∧ entsIn K es = some r' ∧ r = (e.hash, k, d) :: r' := by
  have h : (match keyIn K e.key, cstIn e.val, entsIn K es with
    | some k, some d, some r => some ((e.hash, k, d) :: r)
    | _, _, _ => none) = some r := h
  cases e1 : keyIn K e.key with
  | none => rw [e1] at h; cases h
  | some k =>
    cases e2 : cstIn e.val with
    | none => rw [e1, e2] at h; cases h
    | some d =>
      cases e3 : entsIn K es with
      | none => rw [e1, e2, e3] at h; cases h
      | some r' =>
        rw [e1, e2, e3] at h
        cases h
        exact ⟨k, d, r', rfl, rfl, rfl, rfl⟩
theorem keyIn_l {K : PySem.W.Frag} {u : Value} {k : Key} (h : keyIn K u = some (.inl k)) : plainKey u = some k := by
  cases u with
  | ref b =>
    have h : (match K.lookup b with
      | some ⟨.type c, _, .seq its _, _⟩ => (match decide (c = "tuple") with
        | true => (plainKeys its.toList).map .inr
        | false => none)
      | _ => none) = some (Sum.inl k) := h
    split at h
    · split at h
      · obtain ⟨_, _, e⟩ := Option.map_eq_some_iff.mp h
        cases e
      · cases h
    · cases h
  | _ => first | (cases h; rfl) | cases h
theorem keyIn_r {K : PySem.W.Frag} {u : Value} {ks : List Key} (h : keyIn K u = some (.inr ks)) : ∃ b oc od its n sl, u = .ref b ∧ K.lookup b = some ⟨oc, od, .seq its n, sl⟩ ∧ oc = .type "tuple" ∧ plainKeys its.toList = some ks := by
  cases u with
  | ref b =>
    have h : (match K.lookup b with
      | some ⟨.type c, _, .seq its _, _⟩ => (match decide (c = "tuple") with
        | true => (plainKeys its.toList).map .inr
        | false => none)
      | _ => none) = some (Sum.inr ks) := h
    split at h
    · rename_i c od its n sl e
      split at h
      · rename_i q
        obtain ⟨ks2, e1, z⟩ := Option.map_eq_some_iff.mp h
        cases z
        have q := of_decide_eq_true q
        subst q
        exact ⟨b, _, _, _, _, _, rfl, e, rfl, e1⟩
      · cases h
    · cases h
  | _ => cases h
theorem ents_k {prog : Program} {w : World} {K : PySem.W.Frag} : ∀ {es : List DictEntry} {kvs : List (Key × D)}, entsIn K es = some (tabEnts w (.k kvs)) → ∃ vs : List (Key × Value), Pairs (mixKind prog w) es vs ∧ (∀ e ∈ es, ∃ k, (mixKind prog w).is k e.key = true ∧ e.hash = (mixKind prog w).hash k) ∧ Paired (fun p q => p.1 = q.1 ∧ CstV p.2 q.2) kvs vs
  | [], kvs, h => by
    have h : some [] = some (kvs.map fun p => (hashK w (.inl p.1), (Sum.inl p.1 : Key ⊕ List Key), p.2)) := h
    cases kvs with
    | nil => exact ⟨[], .nil, (fun e he => by cases he), .nil⟩
    | cons _ _ => cases h
  | e :: es, kvs, h => by
    obtain ⟨k, d, r', e1, e2, e3, e4⟩ := entsIn_cons h
    cases kvs with
    | nil => cases e4
    | cons p kvs =>
      have e5 : (hashK w (.inl p.1), (Sum.inl p.1 : Key ⊕ List Key), p.2) = (e.hash, k, d) ∧ (tabEnts w (.k kvs)) = r' := by
        have z : (hashK w (.inl p.1), (Sum.inl p.1 : Key ⊕ List Key), p.2) :: tabEnts w (.k kvs) = (e.hash, k, d) :: r' := e4
        exact ⟨(List.cons.inj z).1, (List.cons.inj z).2⟩
      obtain ⟨z1, rfl⟩ := e5
      obtain ⟨h1, z2⟩ := Prod.mk.inj z1
      obtain ⟨rfl, rfl⟩ := Prod.mk.inj z2
      obtain ⟨vs, q1, q2, q3⟩ := ents_k (prog := prog) e3
      have hk := plainKey_is (prog := prog) (w := w) (keyIn_l e1)
      refine ⟨(p.1, e.val) :: vs, .cons hk rfl q1, fun e0 he => ?_, .cons ⟨rfl, cstIn_ok e2⟩ q3⟩
      rcases List.mem_cons.mp he with rfl | he
      · exact ⟨p.1, hk, h1.symm⟩
      · exact q2 e0 he
theorem ents_t {prog : Program} {w : World} {K : PySem.W.Frag} {h0 : Heap} (X : K.In h0) : ∀ {es : List DictEntry} {kvs : List (List Key × D)}, entsIn K es = some (tabEnts w (.t kvs)) → ∃ xs : List (List Key × Addr × Value), es = xs.map (entryOfKey (tupleKind (mixKind prog w))) ∧ (∀ x ∈ xs, (tupleKind (mixKind prog w)).is h0 x.1 x.2.1) ∧ Paired (fun p q => p.1 = q.1 ∧ CstV p.2 q.2.2) kvs xs
  | [], kvs, h => by
    have h : some [] = some (kvs.map fun p => (hashK w (.inr p.1), (Sum.inr p.1 : Key ⊕ List Key), p.2)) := h
    cases kvs with
    | nil => exact ⟨[], rfl, (fun e he => by cases he), .nil⟩
    | cons _ _ => cases h
  | e :: es, kvs, h => by
    obtain ⟨k, d, r', e1, e2, e3, e4⟩ := entsIn_cons h
    cases kvs with
    | nil => cases e4
    | cons p kvs =>
      have e5 : (hashK w (.inr p.1), (Sum.inr p.1 : Key ⊕ List Key), p.2) = (e.hash, k, d) ∧ (tabEnts w (.t kvs)) = r' := by
        have z : (hashK w (.inr p.1), (Sum.inr p.1 : Key ⊕ List Key), p.2) :: tabEnts w (.t kvs) = (e.hash, k, d) :: r' := e4
        exact ⟨(List.cons.inj z).1, (List.cons.inj z).2⟩
      obtain ⟨z1, rfl⟩ := e5
      obtain ⟨h1, z2⟩ := Prod.mk.inj z1
      obtain ⟨rfl, rfl⟩ := Prod.mk.inj z2
      obtain ⟨xs, q1, q2, q3⟩ := ents_t (prog := prog) X e3
      obtain ⟨b, oc, od, its, n, sl, eb, lk, ec, pk⟩ := keyIn_r e1
      subst ec
      refine ⟨(p.1, b, e.val) :: xs, ?_, fun x hx => ?_, .cons ⟨rfl, cstIn_ok e2⟩ q3⟩
      · rw [List.map_cons, ← q1]
        obtain ⟨eh, ek, ev⟩ := e
        have ek2 : ek = .ref b := eb
        have eh2 : reduceHash (Builtin.Tuple.tupleHashOf (p.1.map (keyH w))) = eh := h1
        rw [ek2, ← eh2]
        rfl
      · rcases List.mem_cons.mp hx with rfl | hx
        · exact ⟨_, its, n, X _ _ lk, rfl, rfl, plainKeys_are pk⟩
        · exact q2 x hx
theorem tab_of {prog : Program} {w : World} {K : PySem.W.Frag} {h0 : Heap} {mg : Str → Option Value} {x : Str} {t : Tab} (X : K.In h0) (G : h0.Ns mainGlobals mg) (h : tabIn K x = some (tabEnts w t)) (hn : tabNd t = true) : TabOk prog w K mg x t := by
  unfold tabIn at h
  split at h
  · rename_i a ea
    split at h
    · rename_i c es ep sl lk
      split at h
      · rename_i q
        obtain ⟨q1, q2⟩ := Bool.and_eq_true_iff.mp q
        obtain ⟨q2, q3⟩ := Bool.and_eq_true_iff.mp q2
        have q1 := of_decide_eq_true q1
        subst q1
        have sl0 : sl = #[] := Array.eq_empty_of_size_eq_zero (eq_of_beq q2)
        subst sl0
        have q3 : (a == sysModules) = false := by simpa using q3
        have hm := PySem.W.mg_of X G ea
        cases t with
        | k kvs =>
          refine ⟨a, hm, q3, fun h1 X1 => ?_⟩
          obtain ⟨vs, p1, p2, p3⟩ := ents_k (prog := prog) h
          refine ⟨vs, ⟨_, es, ep, X1 _ _ lk, ⟨rfl, rfl, rfl⟩, rfl, fun e he => p2 e (Array.mem_toList_iff.mpr he), p1, ?_⟩, p3⟩
          have nd := of_decide_eq_true (show decide (kvs.map (·.1)).Nodup = true from hn)
          have em : kvs.map (·.1) = vs.map (·.1) := by
            clear h p1 p2 hn nd
            induction p3 with
            | nil => rfl
            | cons a _ ih => rw [List.map_cons, List.map_cons, ih, a.1]
          rw [← em]
          exact nd
        | t kvs =>
          refine ⟨a, hm, q3, fun h1 X1 => ?_⟩
          obtain ⟨xs, p1, p2, p3⟩ := ents_t (prog := prog) X1 h
          refine ⟨xs, ⟨_, es, ep, X1 _ _ lk, ⟨rfl, rfl, rfl⟩, rfl, p1, p2, ?_⟩, p3⟩
          have nd := of_decide_eq_true (show decide (kvs.map (·.1)).Nodup = true from hn)
          have em : kvs.map (·.1) = xs.map (·.1) := by
            clear h p1 p2 hn nd
            induction p3 with
            | nil => rfl
            | cons a _ ih => rw [List.map_cons, List.map_cons, ih, a.1]
          rw [← em]
          exact nd
      · cases h
    · cases h
  · cases h
/-! ### the head's hook -/
/-- the tables' keys lie there, too -/
def keysG (g : Addr → Option Obj) (as : List Addr) : List Addr := as ++ as.flatMap fun a => match g a with
  | some ⟨.type _, none, .dict es _, _⟩ => es.toList.flatMap fun e => He.refV e.key
  | _ => []
abbrev AlZ : Type := He.AlD × Bool × List (Option (List Ent))
def obsZ (fa : List He.Fa) (fn : List He.DefD) (cs : List (Str × D)) (tb : List (Str × Tab)) (K : PySem.W.Frag) : AlZ := (He.obsD fa fn K, cs.all (cstB K), tb.map fun t => tabIn K t.1)
def valZ (fn : List He.DefD) (tb : List (Str × Tab)) (w : World) : AlZ := (He.valD fn, true, tb.map fun t => some (tabEnts w t.2))
def SaysZ (fa : List He.Fa) (fn : List He.DefD) (cs : List (Str × D)) (tb : List (Str × Tab)) (w : World) (K : PySem.W.Frag) : Prop := He.SaysD fa fn K ∧ (∀ c ∈ cs, cstB K c = true) ∧ (tb.map fun t => tabIn K t.1) = tb.map fun t => some (tabEnts w t.2)
def hookZ (n : Nat) (fa : List He.Fa) (fn : List He.DefD) (cs : List (Str × D)) (tb : List (Str × Tab)) : PySem.W.Hook where
  α := AlZ
  obs := fun s => obsZ fa fn cs tb (He.frG s.heap.get? (keysG s.heap.get? (He.asD s.heap.get? n)))
  val := valZ fn tb
  says := fun w h => ∃ K : PySem.W.Frag, K.In h ∧ SaysZ fa fn cs tb w K
  of := fun _ _ e => ⟨_, He.frG_in, congrArg (fun z : AlZ => z.1) e, fun c hc => List.all_eq_true.mp (congrArg (fun z : AlZ => z.2.1) e) c hc, congrArg (fun z : AlZ => z.2.2) e⟩
  keeps := fun _ _ _ ⟨K, hK, c⟩ k => ⟨K, PySem.W.Frag.In.keeps hK k, c⟩
def obG (n : Nat) (fa : List He.Fa) (fn : List He.DefD) (cs : List (Str × D)) (tb : List (Str × Tab)) (g : Addr → Option Obj) : AlZ := obsZ fa fn cs tb (He.frG g (keysG g (He.asD g n)))
theorem obG_eq {n : Nat} {fa : List He.Fa} {fn : List He.DefD} {cs : List (Str × D)} {tb : List (Str × Tab)} {g : Addr → Option Obj} {s : Shared} (h : ∀ a, g a = s.heap.get? a) : obG n fa fn cs tb g = (hookZ n fa fn cs tb).obs s := by
  have e : g = s.heap.get? := funext h
  rw [e] <;> rfl
theorem tabs_of {prog : Program} {w : World} {P : Prog} {K : PySem.W.Frag} {h0 : Heap} {mg : Str → Option Value} {fa : List He.Fa} {fn : List He.DefD} {cs : List (Str × D)} (X : K.In h0) (G : h0.Ns mainGlobals mg) (c : SaysZ fa fn cs P.tabs w K) (hn : (P.tabs.all fun t => tabNd t.2) = true) :
    ∀ x t, P.tabs.lookup x = some t → TabOk prog w K mg x t := by
  intro x t h
  have hm : (x, t) ∈ P.tabs := by
    clear c hn
    generalize P.tabs = l at h
    induction l with
    | nil => cases h
    | cons p r ih =>
      obtain ⟨y, u⟩ := p
      rw [List.lookup_cons] at h
      cases z : x == y with
      | true =>
        rw [z] at h
        cases h
        rw [eq_of_beq z]
        exact List.mem_cons_self
      | false =>
        rw [z] at h
        exact List.mem_cons_of_mem _ (ih h)
  obtain ⟨i, hi⟩ := List.getElem?_of_mem hm
  have e := c.2.2
  have e2 : (P.tabs.map fun t => tabIn K t.1)[i]? = (P.tabs.map fun t => some (tabEnts w t.2))[i]? := by rw [e]
  rw [List.getElem?_map, List.getElem?_map, hi] at e2
  exact tab_of X G (Option.some.inj e2) (List.all_eq_true.mp hn _ hm)
end Z


/-! Z: what a law's end leans on. -/
namespace Z
open PySem L2
/-- where each def stands -/
abbrev Where : Type := List (Str × (Str × Option Str))
def adrOf (L : Where) (K : PySem.W.Frag) (f : Str) : Addr := match L.lookup f with
  | some p => He.fAd K p
  | none => 0
def initS : Str := "__init__"
/-- what the head must tell -/
def faOf (P : Prog) : List He.Fa :=
  bnames.map .free ++ (P.fns.flatMap (fun p => [.glo p.1, .keep p.1]) ++ (P.ats.flatMap (fun p => [.cls p.1, .noat p.1 p.2]) ++ (P.mt.flatMap (fun q => [.cls q.1.1, .meth q.1.1 q.1.2]) ++
    (P.mt.filter fun q => decide (q.1.2 = initS)).flatMap fun q => [.mkr q.1.1, .glo q.1.1])))
def okP (P : Prog) (L : Where) : Bool := (P.fns.all fun p => decide (L.lookup p.2 = some (p.1, none))) && (P.mt.all fun q => decide (L.lookup q.2 = some (q.1.1, some q.1.2)))
theorem mem_of_lookup {α β : Type} [BEq α] [LawfulBEq α] : ∀ {l : List (α × β)} {a : α} {b : β}, l.lookup a = some b → (a, b) ∈ l
  | [], a, b, h => by cases h
  | (c, d) :: r, a, b, h => by
    rw [List.lookup_cons] at h
    cases z : a == c with
    | true =>
      rw [z] at h
      cases h
      rw [eq_of_beq z]
      exact List.mem_cons_self
    | false =>
      rw [z] at h
      exact List.mem_cons_of_mem _ (mem_of_lookup h)
section
variable {P : Prog} {L : Where} {K : PySem.W.Frag} {h : Heap} {mg : Str → Option Value} {fn : List He.DefD}
theorem says_mem {fa : List He.Fa} (c : He.SaysD fa fn K) {f : He.Fa} (hf : f ∈ fa) : f.ok K = true := by
  have c1 := (Bool.and_eq_true_iff.mp (show ((fa.all fun f => f.ok K) && fn.all fun d => d.ok K) = true from congrArg (fun z : He.AlD => z.1) c)).1
  exact List.all_eq_true.mp c1 f hf
theorem kn_of {w0 : World} {tb : List (Str × Tab)} (c : SaysZ (faOf P) fn P.gl tb w0 K) (X : K.In h) (G : h.Ns mainGlobals mg) (ok : okP P L = true) : Kn P K mg (adrOf L K) := by
  obtain ⟨c1, c2, _⟩ := c
  obtain ⟨o1, o2⟩ := Bool.and_eq_true_iff.mp ok
  have fm : ∀ x f, (x, f) ∈ P.fns → He.Fa.glo x ∈ faOf P ∧ He.Fa.keep x ∈ faOf P := fun x f hm =>
    ⟨List.mem_append_right _ (List.mem_append_left _ (List.mem_flatMap.mpr ⟨_, hm, by simp⟩)), List.mem_append_right _ (List.mem_append_left _ (List.mem_flatMap.mpr ⟨_, hm, by simp⟩))⟩
  have mm : ∀ C m f, ((C, m), f) ∈ P.mt → He.Fa.cls C ∈ faOf P ∧ He.Fa.meth C m ∈ faOf P := fun C m f hm =>
    ⟨List.mem_append_right _ (List.mem_append_right _ (List.mem_append_right _ (List.mem_append_left _ (List.mem_flatMap.mpr ⟨_, hm, by simp⟩)))),
      List.mem_append_right _ (List.mem_append_right _ (List.mem_append_right _ (List.mem_append_left _ (List.mem_flatMap.mpr ⟨_, hm, by simp⟩))))⟩
  have km : ∀ C f, ((C, initS), f) ∈ P.mt → He.Fa.mkr C ∈ faOf P ∧ He.Fa.glo C ∈ faOf P := fun C f hm => by
    have hm2 : ((C, initS), f) ∈ P.mt.filter fun q => decide (q.1.2 = initS) := List.mem_filter.mpr ⟨hm, by simp⟩
    exact ⟨List.mem_append_right _ (List.mem_append_right _ (List.mem_append_right _ (List.mem_append_right _ (List.mem_flatMap.mpr ⟨_, hm2, by simp⟩)))),
      List.mem_append_right _ (List.mem_append_right _ (List.mem_append_right _ (List.mem_append_right _ (List.mem_flatMap.mpr ⟨_, hm2, by simp⟩))))⟩
  have am : ∀ C m f, ((C, m), f) ∈ P.mt → adrOf L K f = He.ma K (He.ga K C) m := fun C m f hm => by
    have z := of_decide_eq_true (List.all_eq_true.mp o2 _ hm)
    unfold adrOf
    rw [show L.lookup f = some (C, some m) from z]
    rfl
  refine ⟨fun x hx => ?_, fun x d hd => ?_, fun C f hf => ?_, fun x f hf => ?_, fun C m f hf => ?_, fun C f hf => ?_⟩
  · exact He.free_ok X G (says_mem c1 (List.mem_append_left _ (List.mem_map.mpr ⟨x, hx, rfl⟩)))
  · have b := c2 _ (mem_of_lookup hd)
    unfold cstB at b
    split at b
    · rename_i u hu
      obtain ⟨v, r, q⟩ := datV_ok b
      exact ⟨v, u, PySem.W.mg_of X G hu, r, q⟩
    · cases b
  · obtain ⟨p, hp, hq⟩ := List.any_eq_true.mp hf
    obtain ⟨e1, e2⟩ := Bool.and_eq_true_iff.mp hq
    have e1 := of_decide_eq_true e1
    have e2 := of_decide_eq_true e2
    subst e1 e2
    have m : ∀ f ∈ [He.Fa.cls p.1, He.Fa.noat p.1 p.2], f ∈ faOf P := fun f hf => List.mem_append_right _ (List.mem_append_right _ (List.mem_append_left _ (List.mem_flatMap.mpr ⟨_, hp, hf⟩)))
    exact ⟨He.cls_ok (says_mem c1 (m _ (by simp))), He.noat_ok (says_mem c1 (m _ (by simp)))⟩
  · have hm := mem_of_lookup hf
    have z := of_decide_eq_true (List.all_eq_true.mp o1 _ hm)
    have e : adrOf L K f = He.ga K x := by
      unfold adrOf
      rw [show L.lookup f = some (x, none) from z]
      rfl
    rw [e]
    exact ⟨He.glo_ok X G (says_mem c1 (fm x f hm).1), He.keep_ok (says_mem c1 (fm x f hm).2)⟩
  · have hm := mem_of_lookup hf
    rw [am C m f hm]
    exact ⟨He.cls_ok (says_mem c1 (mm C m f hm).1), He.meth_ok (says_mem c1 (mm C m f hm).2)⟩
  · have hm := mem_of_lookup hf
    rw [am C initS f hm]
    exact ⟨He.mkr_ok (says_mem c1 (km C f hm).1), He.glo_ok X G (says_mem c1 (km C f hm).2)⟩
/-- a def as data: its key, the term, where it stands in the text -/
structure DefT where
  key : Str
  d : CDef
  at_ : Str × Option Str
  name : Str
  qual : Str
  params : Arguments
  body : List Stmt
  scope : Scope
  ps : List Str
def DefT.dd (t : DefT) : He.DefD := ⟨t.at_, t.name, t.qual, t.params, t.body, t.scope, [], []⟩
/-- what a look at the text can tell -/
structure DefT.Fit (P : Prog) (t : DefT) : Prop where
  sc : FnScope t.d.N t.ps t.scope
  np : t.ps.length = t.d.np
  chk : chkS P t.d.N t.d.body t.scope t.body = true
  bind : ∀ (kV doc pm : Value) (an : Option Addr) (cdv ct : Value) (us : List Value), us.length = t.ps.length → bindArgs (PySem.W.fnOf t.name t.qual t.params t.body t.scope .none kV doc pm an cdv ct) ⟨us, []⟩ = pure (t.ps.zip us)
def AllT (p : DefT → Prop) : List DefT → Prop
  | [] => True
  | t :: r => p t ∧ AllT p r
theorem AllT.mem {p : DefT → Prop} : ∀ {l : List DefT}, AllT p l → ∀ t ∈ l, p t
  | [], _, _, h => by cases h
  | t :: r, ⟨a, b⟩, x, h => by
    rcases List.mem_cons.mp h with e | e
    · rw [e]; exact a
    · exact AllT.mem b x e
theorem defs_of {fa : List He.Fa} {ts : List DefT} (c : He.SaysD fa (ts.map DefT.dd) K) (fit : AllT (DefT.Fit P) ts) (hd : P.defs = ts.map fun t => (t.key, t.d)) (hL : (ts.all fun t => decide (L.lookup t.key = some t.at_)) = true) :
    ∀ f d, P.defs.lookup f = some d → DefOk P K (adrOf L K) f d := by
  intro f d hl
  have hm := mem_of_lookup hl
  rw [hd] at hm
  obtain ⟨t, ht, e⟩ := List.mem_map.mp hm
  cases e
  obtain ⟨i, hi⟩ := List.getElem?_of_mem ht
  obtain ⟨fd, F⟩ := c.def_ i (d := t.dd) (by rw [List.getElem?_map, hi]; rfl)
  have z := of_decide_eq_true (List.all_eq_true.mp hL t ht)
  have e : adrOf L K t.key = He.fAd K t.at_ := by
    unfold adrOf
    rw [z]
  have ft := fit.mem t ht
  have hp : t.d.N.take t.d.np = t.ps := by rw [← ft.np]; exact ft.sc.pre
  refine ⟨⟨t.name, t.qual, t.params, t.body, t.scope, fd, t.ps, ?_, ft.sc, ft.np, ft.chk, F.bindsN ft.bind⟩, fun s us hl => ?_⟩
  · rw [e]
    exact F
  · rw [hp] at hl ⊢
    have ef : fdAt K (He.fAd K t.at_) = fd := fdAt_of F
    rw [e, ef]
    exact F.bindsA ft.bind s us hl
/-- what the walk asks of a law (F of walk_ofE) -/
theorem end_of {prog : Program} {n m : Nat} {d : CDef} {ts : List DefT} (fit : AllT (DefT.Fit P) ts) (hd : P.defs = ts.map fun t => (t.key, t.d)) (hL : (ts.all fun t => decide (L.lookup t.key = some t.at_)) = true) (ok : okP P L = true) (hnd : (P.tabs.all fun t => tabNd t.2) = true)
    (hf : P.defs.lookup ("law" : Str) = some d) (hfn : P.fns.lookup ("law" : Str) = some ("law" : Str)) (hps : d.N.take d.np = [("script" : Str)]) (hrun : ∀ ns : List Int, ns.length ≤ m → ∃ S, run P n ("law" : Str) [.lst (ns.map D.int)] [] = .ok (.bl true) S)
    (w : World) {fa : Addr} (Y : (hookZ 6 (faOf P) (ts.map DefT.dd) P.gl P.tabs).says w h) (G : h.Ns mainGlobals mg) (hmg : mg ("law" : Str) = some (.ref fa)) :
    ∃ (K : PySem.W.Frag) (fd : FuncData) (sp : Sp), K.In h ∧ (∀ (s : Shared) (u : Value), BindsTo s fd ⟨[u], []⟩ [(("script" : Str), u)]) ∧
      (∀ (H : Hp) (a : Addr) (ns : List Int), ns.length ≤ m → SqL K H a (ns.map V.int) → sp [.ref a] H (fun v _ => v = .bl true) fun _ _ _ => False) ∧
      ∀ base : Heap, K.In base → base.Ns mainGlobals mg → FnOk prog w K mg base (CXW prog) (2 * n) fa fd [("script" : Str)] sp := by
  obtain ⟨K, KX, c⟩ := Y
  have kn : Kn P K mg (adrOf L K) := kn_of c KX G ok
  have dk := defs_of (P := P) (L := L) c.1 fit hd hL
  obtain ⟨hm, _⟩ := kn.fns _ _ hfn
  have ea : adrOf L K ("law" : Str) = fa := by
    rw [hmg] at hm
    cases hm
    rfl
  have base0 : ∀ base : Heap, FnOk prog w K mg base (CXW prog) (2 * n) fa (fdAt K fa) [("script" : Str)] (spLaw K m) ∧ Binds K (fdAt K fa) [("script" : Str)] [] := fun base => by
    have h0 := law_ok (prog := prog) (w := w) (base := base) kn (tabs_of KX G c hnd) dk hf hrun
    rw [ea, hps] at h0
    exact h0
  refine ⟨K, fdAt K fa, spLaw K m, KX, fun s u => ?_, fun H a ns hl hq => ⟨a, ns, hl, rfl, hq, fun _ => rfl⟩, fun base _ _ => (base0 base).1⟩
  have b := (dk _ d hf).all s [u] (by rw [hps]; rfl)
  rw [hps, ea] at b
  exact b
end
end Z


/-! Z: a run by what is wanted behind it. -/
namespace Z
open PySem
def Wp {α : Type} (o : Out α) (Q : α → Sto → Prop) : Prop := match o with
  | .ok a S => Q a S
  | _ => False
def Wo {α : Type} (o : Option α) (Q : α → Prop) : Prop := match o with
  | some a => Q a
  | none => False
def Ws (o : Fl) (N : En → Sto → Prop) (T : D → Sto → Prop) : Prop := match o with
  | .nx e S => N e S
  | .rt d S => T d S
  | _ => False
def val (e : En) (i : Nat) : Option D := match e[i]? with
  | some (.val d) => some d
  | _ => none
theorem wp_ok {α : Type} {a : α} {S : Sto} {Q : α → Sto → Prop} : Wp (.ok a S) Q = Q a S := rfl
theorem wo_some {α : Type} {a : α} {Q : α → Prop} : Wo (some a) Q = Q a := rfl
theorem wo_none {α : Type} {Q : α → Prop} : Wo none Q = False := rfl
theorem wo_if {α : Type} {c : Prop} [Decidable c] {a : α} {Q : α → Prop} : Wo (if c then some a else none) Q = (c ∧ Q a) := by
  by_cases h : c
  · rw [if_pos h]; simp [h, Wo]
  · rw [if_neg h]; simp [h, Wo]
theorem wo_map {α β : Type} {o : Option α} {f : α → β} {Q : β → Prop} : Wo (o.map f) Q = Wo o fun a => Q (f a) := by cases o <;> rfl
theorem wo_bind {α β : Type} {o : Option α} {f : α → Option β} {Q : β → Prop} : Wo (o.bind f) Q = Wo o fun a => Wo (f a) Q := by cases o <;> rfl
theorem wp_bind {α β : Type} {o : Out α} {f : α → Sto → Out β} {Q : β → Sto → Prop} : Wp (o.bind f) Q = Wp o fun a S => Wp (f a S) Q := by cases o <;> rfl
theorem wp_optD {S : Sto} {o : Option D} {Q : D → Sto → Prop} : Wp (optD S o) Q = Wo o fun d => Q d S := by cases o <;> rfl
theorem wp_optB {S : Sto} {o : Option Bool} {Q : D → Sto → Prop} : Wp (optB S o) Q = Wo o fun d => Q (.bl d) S := by cases o <;> rfl
theorem wp_optDS {o : Option (D × Sto)} {Q : D → Sto → Prop} : Wp (optDS o) Q = Wo o fun d => Q d.1 d.2 := by
  cases o with
  | none => rfl
  | some p => rfl
theorem wp_get {α : Type} {o : Out α} {Q : α → Sto → Prop} (h : Wp o Q) : ∃ a S, o = .ok a S ∧ Q a S := by
  cases o with
  | ok a S => exact ⟨a, S, rfl, h⟩
  | exc c S => exact h.elim
  | bad => exact h.elim
theorem wp_mono {α : Type} {o : Out α} {Q Q' : α → Sto → Prop} (h : Wp o Q) (k : ∀ a S, Q a S → Q' a S) : Wp o Q' := by
  cases o with
  | ok a S => exact k a S h
  | exc c S => exact h
  | bad => exact h
theorem ws_mono {o : Fl} {N N' : En → Sto → Prop} {T T' : D → Sto → Prop} (h : Ws o N T) (k : ∀ e S, N e S → N' e S) (t : ∀ d S, T d S → T' d S) : Ws o N' T' := by
  cases o with
  | nx e S => exact k e S h
  | rt d S => exact t d S h
  | ex c e S => exact h
  | bad => exact h
section
variable {P : Prog} {R : Str → List D → Sto → Out D} {e : En} {S : Sto} {Q : D → Sto → Prop} {N : En → Sto → Prop} {T : D → Sto → Prop} {a b c : Ex} {f : Str} {es : Exs}
theorem wp_var {i : Nat} : Wp (eval P R (.var i) e S) Q = Wo (val e i) fun d => Q d S := by
  unfold eval val
  cases e[i]? with
  | none => rfl
  | some s => cases s <;> rfl
theorem wp_int {i : Int} : Wp (eval P R (.int i) e S) Q = Q (.int i) S := by rw [eval]; rfl
theorem wp_str {i : Str} : Wp (eval P R (.str i) e S) Q = Q (.str i) S := by rw [eval]; rfl
theorem wp_bl {i : Bool} : Wp (eval P R (.bl i) e S) Q = Q (.bl i) S := by rw [eval]; rfl
theorem wp_non : Wp (eval P R .non e S) Q = Q .non S := by rw [eval]; rfl
theorem wp_gl {x : Str} : Wp (eval P R (.gl x) e S) Q = Wo (P.gl.lookup x) fun d => Q d S := by rw [eval, wp_optD]
theorem wp_bin {o : Bn} : Wp (eval P R (.bin o a b) e S) Q = Wp (eval P R a e S) fun x S => Wp (eval P R b e S) fun y S => Wo (evalB o x y) fun d => Q d S := by rw [eval]; simp only [wp_bind, wp_optD]
theorem wp_neg : Wp (eval P R (.neg a) e S) Q = Wp (eval P R a e S) fun x S => Wo (match x with
  | .int i => some (D.int (-i))
  | _ => none) fun d => Q d S := by
  rw [eval, wp_bind]
  congr 1
  funext x S
  cases x <;> rfl
theorem wp_cmp {o : Cm} : Wp (eval P R (.cmp o a b) e S) Q = Wp (eval P R a e S) fun x S => Wp (eval P R b e S) fun y S => Wo (evalC S o x y) fun d => Q (.bl d) S := by rw [eval]; simp only [wp_bind, wp_optB]
theorem wp_chain {o o' : Cm} : Wp (eval P R (.chain o o' a b c) e S) Q = Wp (eval P R a e S) fun x S => Wp (eval P R b e S) fun y S => Wo (evalC S o x y) fun k => if k = true then Wp (eval P R c e S) fun z S => Wo (evalC S o' y z) fun d => Q (.bl d) S else Q (.bl false) S := by
  rw [eval, wp_bind]
  congr 1
  funext x S
  rw [wp_bind]
  congr 1
  funext y S
  cases evalC S o x y with
  | none => rfl
  | some k => cases k with
    | false => rfl
    | true =>
      show Wp ((eval P R c e S).bind _) Q = _
      rw [wp_bind]
      show (Wp (eval P R c e S) fun z S => Wp (optB S (evalC S o' y z)) Q) = Wp (eval P R c e S) fun z S => Wo (evalC S o' y z) fun d => Q (.bl d) S
      simp only [wp_optB]
theorem wp_and : Wp (eval P R (.and a b) e S) Q = Wp (eval P R a e S) fun x S => Wo (truth S x) fun k => if k = true then Wp (eval P R b e S) Q else Q x S := by
  rw [eval, wp_bind]
  congr 1
  funext x S
  cases truth S x with
  | none => rfl
  | some k => cases k <;> rfl
theorem wp_or : Wp (eval P R (.or a b) e S) Q = Wp (eval P R a e S) fun x S => Wo (truth S x) fun k => if k = true then Q x S else Wp (eval P R b e S) Q := by
  rw [eval, wp_bind]
  congr 1
  funext x S
  cases truth S x with
  | none => rfl
  | some k => cases k <;> rfl
theorem wp_not : Wp (eval P R (.not a) e S) Q = Wp (eval P R a e S) fun x S => Wo (truth S x) fun k => Q (.bl (!k)) S := by rw [eval]; simp only [wp_bind, wp_optB, wo_map]
theorem wp_ite : Wp (eval P R (.ite a b c) e S) Q = Wp (eval P R a e S) fun x S => Wo (truth S x) fun k => if k = true then Wp (eval P R b e S) Q else Wp (eval P R c e S) Q := by
  rw [eval, wp_bind]
  congr 1
  funext x S
  cases truth S x with
  | none => rfl
  | some k => cases k <;> rfl
theorem wp_len {α : Type} {c : Prop} [Decidable c] {o : Out α} {Q : α → Sto → Prop} : Wp (if c then o else .bad) Q = (c ∧ Wp o Q) := by
  by_cases h : c
  · rw [if_pos h]; simp [h]
  · rw [if_neg h]; simp [h, Wp]
theorem wp_tup : Wp (eval P R (.tup es) e S) Q = Wp (evals P R es e S) fun xs S => xs.length ≤ sizeLine ∧ Q (.tup xs) S := by rw [eval]; simp only [wp_bind, wp_len, wp_ok]
theorem wp_lst : Wp (eval P R (.lst es) e S) Q = Wp (evals P R es e S) fun xs S => xs.length ≤ sizeLine ∧ Q (.lst xs) S := by rw [eval]; simp only [wp_bind, wp_len, wp_ok]
theorem wp_lstR : Wp (eval P R (.lstR es) e S) Q = Wp (evals P R es e S) fun xs S => xs.length ≤ sizeLine ∧ Q (.ref S.length) (S ++ [.lst xs]) := by rw [eval]; simp only [wp_bind, wp_len, wp_ok]
theorem wp_dkR {ks : List L2.Key} : Wp (eval P R (.dkR ks es) e S) Q = Wp (evals P R es e S) fun vs S => Q (.ref S.length) (S ++ [.dk (merge [] (ks.zip vs))]) := by rw [eval]; simp only [wp_bind, wp_ok]
theorem wp_dk0 : Wp (eval P R .dk0 e S) Q = Q (.ref S.length) (S ++ [.dk []]) := by rw [eval]; rfl
theorem wp_rep : Wp (eval P R (.rep es a) e S) Q = Wp (evals P R es e S) fun xs S => xs.length ≤ sizeLine ∧ Wp (eval P R a e S) fun y S => Wo (match y with
  | .int k => if -(2 ^ 63) ≤ k ∧ k < 2 ^ 63 ∧ xs.length * k.toNat ≤ sizeLine then some (D.lst (List.replicate k.toNat xs).flatten) else none
  | _ => none) fun d => Q d S := by
  rw [eval]
  simp only [wp_bind, wp_len]
  congr 1
  funext xs S
  congr 1
  congr 1
  funext y S
  cases y <;> try rfl
  show Wp (if _ then _ else _) Q = Wo (if _ then _ else _) _
  rw [wp_len, wo_if, wp_ok]
theorem wp_ix : Wp (eval P R (.ix a b) e S) Q = Wp (eval P R a e S) fun x S => Wp (eval P R b e S) fun y S => Wo (evalIx S x y) fun d => Q d S := by rw [eval]; simp only [wp_bind, wp_optD]
theorem wp_slTo : Wp (eval P R (.slTo a b) e S) Q = Wp (eval P R a e S) fun x S => Wp (eval P R b e S) fun y S => Wo (match y with
  | .int j => evalSl S x none (some j)
  | _ => none) fun d => Q d S := by
  rw [eval]
  simp only [wp_bind]
  congr 1
  funext x S
  congr 1
  funext y S
  cases y <;> first | rfl | exact wp_optD
theorem wp_slFr : Wp (eval P R (.slFr a b) e S) Q = Wp (eval P R a e S) fun x S => Wp (eval P R b e S) fun y S => Wo (match y with
  | .int j => evalSl S x (some j) none
  | _ => none) fun d => Q d S := by
  rw [eval]
  simp only [wp_bind]
  congr 1
  funext x S
  congr 1
  funext y S
  cases y <;> first | rfl | exact wp_optD
theorem wp_slBt : Wp (eval P R (.slBt a b c) e S) Q = Wp (eval P R a e S) fun x S => Wp (eval P R b e S) fun y S => Wo (match y with
  | .int i => some i
  | _ => none) fun i => Wp (eval P R c e S) fun z S => Wo (match z with
  | .int j => evalSl S x (some i) (some j)
  | _ => none) fun d => Q d S := by
  rw [eval]
  simp only [wp_bind]
  congr 1
  funext x S
  congr 1
  funext y S
  cases y <;> try rfl
  show Wp (Out.bind _ _) Q = _
  rw [wp_bind]
  show _ = Wp (eval P R c e S) _
  congr 1
  funext z S
  cases z <;> first | rfl | exact wp_optD
theorem wp_at {x : Str} : Wp (eval P R (.at a x) e S) Q = Wp (eval P R a e S) fun y S => Wo (attr P S y x) fun d => Q d S := by rw [eval]; simp only [wp_bind, wp_optD]
theorem wp_call : Wp (eval P R (.call f es) e S) Q = Wp (evals P R es e S) fun xs S => Wp (R f xs S) Q := by rw [eval]; simp only [wp_bind]
theorem wp_bi {o : Bi} : Wp (eval P R (.bi o es) e S) Q = Wp (evals P R es e S) fun xs S => Wo (evalBi S o xs) fun d => Q d S := by rw [eval]; simp only [wp_bind, wp_optD]
theorem wp_isi {t : Ty} : Wp (eval P R (.isi a t) e S) Q = Wp (eval P R a e S) fun x S => Wo (isTy x S t) fun d => Q (.bl d) S := by rw [eval]; simp only [wp_bind, wp_optB]
theorem wp_bm {m : Bm} : Wp (eval P R (.bm a m es) e S) Q = Wp (eval P R a e S) fun x S => recvOk S m x = true ∧ Wp (evals P R es e S) fun xs S => Wo (evalBm S m x xs) fun d => Q d.1 d.2 := by rw [eval]; simp only [wp_bind, wp_len, wp_optDS]
theorem wp_me {m : Str} : Wp (eval P R (.me a m es) e S) Q = Wp (eval P R a e S) fun x S => Wo (meth P S x m) fun f => Wp (evals P R es e S) fun xs S => Wp (R f (x :: xs) S) Q := by
  rw [eval]
  simp only [wp_bind]
  congr 1
  funext x S
  cases meth P S x m with
  | none => rfl
  | some f => show Wp (Out.bind _ _) Q = _; rw [wp_bind]; rfl
theorem wp_comp {r : Bool} {own : List (Str × Nat)} {t : Tg} {it : It} : Wp (eval P R (.comp r own t it a b) e S) Q = Wp (src P R it e S) fun w S => Wp (runC (bodyC P R t (own.map (·.2)) a b e) w S) fun acc S =>
    if r = true then Q (.ref S.length) (S ++ [.lst acc]) else Q (.lst acc) S := by
  rw [eval_comp]
  simp only [wp_bind]
  congr 1
  funext w S
  congr 1
  funext acc S
  cases r <;> rfl
theorem wp_tget {x : Str} {d : D} : Wp (eval P R (.tget x a d) e S) Q = Wp (eval P R a e S) fun y S => Wo (tabAt (P.tabs.lookup x) y d) fun d => Q d S := by rw [eval]; simp only [wp_bind, wp_optD]
theorem wp_lrng : Wp (eval P R (.lrng a b) e S) Q = Wp (eval P R a e S) fun x S => Wp (eval P R b e S) fun y S => Wo (match x, y with
    | .int i, .int j => if (-(2 ^ 62) ≤ i ∧ i < 2 ^ 62 ∧ -(2 ^ 62) ≤ j ∧ j < 2 ^ 62 ∧ (j - i).toNat ≤ 2 ^ 24) then some (D.lst (rngD i (j - i).toNat)) else none
    | _, _ => none) fun d => Q d S := by
  rw [eval]
  simp only [wp_bind]
  congr 1
  funext x S
  congr 1
  funext y S
  cases x <;> try rfl
  cases y <;> try rfl
  show Wp (if _ then _ else _) Q = Wo (if _ then _ else _) _
  rw [wp_len, wo_if, wp_ok]
theorem wp_isE {neg : Bool} : Wp (eval P R (.isE neg a) e S) Q = Wp (eval P R a e S) fun x S => Wo (match x with
    | .ref n => (match S[n]? with
      | some (.dk kvs) => some (neg != kvs.isEmpty)
      | _ => none)
    | _ => none) fun b => Q (.bl b) S := by
  rw [eval]
  simp only [wp_bind]
  congr 1
  funext x S
  cases x <;> try rfl
  rename_i m
  show Wp (match S[m]? with
      | some (.dk kvs) => .ok (.bl (neg != kvs.isEmpty)) S
      | _ => .bad) Q = Wo (match S[m]? with
      | some (.dk kvs) => some (neg != kvs.isEmpty)
      | _ => none) _
  cases S[m]? with
  | none => rfl
  | some o => cases o <;> rfl
theorem eq_of_wp {α : Type} {o : Out α} {x : α} {S' : Sto} (h : Wp o fun d S => d = x ∧ S = S') : o = .ok x S' := by
  cases o with
  | ok a S => obtain ⟨rfl, rfl⟩ := h; rfl
  | exc c S => exact h.elim
  | bad => exact h.elim
theorem wp_of_eq {α : Type} {o : Out α} {x : α} {S' : Sto} {Q : α → Sto → Prop} (h : o = .ok x S') : Wp o Q = Q x S' := by rw [h]; rfl
theorem wps_nil {Q : List D → Sto → Prop} : Wp (evals P R .nil e S) Q = Q [] S := by rw [evals]; rfl
theorem wps_cons {Q : List D → Sto → Prop} : Wp (evals P R (.cons a es) e S) Q = Wp (eval P R a e S) fun x S => Wp (evals P R es e S) fun xs S => Q (x :: xs) S := by rw [evals]; simp only [wp_bind, wp_ok]
theorem wi_seq {Q : Src → Sto → Prop} : Wp (src P R (.seq a) e S) Q = Wp (eval P R a e S) fun x S => Wo (match x with
    | .lst xs => some (Src.s (.free xs))
    | .tup xs => some (.s (.free xs))
    | .str s => some (.s (.free (signs s)))
    | .ctup xs => some (.s (.free xs))
    | .ref n => (match S[n]? with
      | some (.lst xs) => some (.s (.at n xs))
      | _ => none)
    | _ => none) fun s => Q s S := by
  rw [src]
  simp only [wp_bind]
  congr 1
  funext x S
  cases x <;> try rfl
  rename_i m
  show Wp (match S[m]? with
      | some (.lst xs) => .ok (.s (.at m xs)) S
      | _ => .bad) Q = Wo (match S[m]? with
      | some (.lst xs) => some (Src.s (.at m xs))
      | _ => none) _
  cases S[m]? with
  | none => rfl
  | some o => cases o <;> rfl
theorem wi_r1 {Q : Src → Sto → Prop} : Wp (src P R (.r1 a) e S) Q = Wp (eval P R a e S) fun x S => Wo (match x with
    | .int j => if -(2 ^ 62) ≤ j ∧ j < 2 ^ 62 then some (Src.s (.free (rngD 0 j.toNat))) else none
    | _ => none) fun s => Q s S := by
  rw [src]
  simp only [wp_bind]
  congr 1
  funext x S
  cases x <;> try rfl
  show Wp (if _ then _ else _) Q = Wo (if _ then _ else _) _
  rw [wp_len, wo_if, wp_ok]
theorem wi_zip {Q : Src → Sto → Prop} : Wp (src P R (.zip a b) e S) Q = Wp (eval P R a e S) fun x S => Wp (eval P R b e S) fun y S => Wo (match x, y with
    | .lst xs, .lst ys => some (Src.s (.free (zipD xs ys)))
    | .tup xs, .tup ys => some (.s (.free (zipD xs ys)))
    | .tup xs, .lst ys => some (.s (.free (zipD xs ys)))
    | _, _ => none) fun s => Q s S := by
  rw [src]
  simp only [wp_bind]
  congr 1
  funext x S
  congr 1
  funext y S
  cases x <;> cases y <;> rfl
theorem wi_enum {Q : Src → Sto → Prop} : Wp (src P R (.enum a) e S) Q = Wp (eval P R a e S) fun x S => Wo (match x with
    | .lst xs => some (Src.s (.free (enumD xs)))
    | .ref n => (match S[n]? with
      | some (.lst xs) => some (Src.s (.en n xs))
      | _ => none)
    | _ => none) fun s => Q s S := by
  rw [src]
  simp only [wp_bind]
  congr 1
  funext x S
  cases x <;> try rfl
  rename_i m
  show Wp (match S[m]? with
      | some (.lst xs) => .ok (.s (.en m xs)) S
      | _ => .bad) Q = Wo (match S[m]? with
      | some (.lst xs) => some (Src.s (.en m xs))
      | _ => none) _
  cases S[m]? with
  | none => rfl
  | some o => cases o <;> rfl
theorem wi_keys {Q : Src → Sto → Prop} : Wp (src P R (.keys a) e S) Q = Wp (eval P R a e S) fun x S => Wo (match x with
    | .ref n => (match S[n]? with
      | some (.frz (.dk kvs)) => some (Src.s (.free (tabKeys (.dk kvs))))
      | some (.frz (.dt kvs)) => some (Src.s (.free (tabKeys (.dt kvs))))
      | _ => none)
    | _ => none) fun s => Q s S := by
  rw [src]
  simp only [wp_bind]
  congr 1
  funext x S
  cases x <;> try rfl
  rename_i m
  show Wp (match S[m]? with
      | some (.frz (.dk kvs)) => .ok (.s (.free (tabKeys (.dk kvs)))) S
      | some (.frz (.dt kvs)) => .ok (.s (.free (tabKeys (.dt kvs)))) S
      | _ => .bad) Q = Wo (match S[m]? with
      | some (.frz (.dk kvs)) => some (Src.s (.free (tabKeys (.dk kvs))))
      | some (.frz (.dt kvs)) => some (Src.s (.free (tabKeys (.dt kvs))))
      | _ => none) _
  split <;> rfl
theorem wi_vals {Q : Src → Sto → Prop} : Wp (src P R (.vals a) e S) Q = Wp (eval P R a e S) fun x S => Wo (match x with
    | .ref n => (match S[n]? with
      | some (.frz (.dk kvs)) => some (Src.s (.free (tabVals (.dk kvs))))
      | some (.frz (.dt kvs)) => some (Src.s (.free (tabVals (.dt kvs))))
      | _ => none)
    | _ => none) fun s => Q s S := by
  rw [src]
  simp only [wp_bind]
  congr 1
  funext x S
  cases x <;> try rfl
  rename_i m
  show Wp (match S[m]? with
      | some (.frz (.dk kvs)) => .ok (.s (.free (tabVals (.dk kvs)))) S
      | some (.frz (.dt kvs)) => .ok (.s (.free (tabVals (.dt kvs)))) S
      | _ => .bad) Q = Wo (match S[m]? with
      | some (.frz (.dk kvs)) => some (Src.s (.free (tabVals (.dk kvs))))
      | some (.frz (.dt kvs)) => some (Src.s (.free (tabVals (.dt kvs))))
      | _ => none) _
  split <;> rfl
theorem wp_cat : Wp (eval P R (.cat a b) e S) Q = Wp (eval P R a e S) fun x S => Wp (eval P R b e S) fun y S => Wo (match view S x, view S y with
    | .lst xs, .lst ys => if xs.length + ys.length ≤ sizeLine then some (D.lst (xs ++ ys)) else none
    | _, _ => none) fun d => Q d S := by
  rw [eval]
  simp only [wp_bind]
  congr 1
  funext x S
  congr 1
  funext y S
  show Wp (match view S x, view S y with
    | .lst xs, .lst ys => if xs.length + ys.length ≤ sizeLine then .ok (D.lst (xs ++ ys)) S else .bad
    | _, _ => .bad) Q = Wo (match view S x, view S y with
    | .lst xs, .lst ys => if xs.length + ys.length ≤ sizeLine then some (D.lst (xs ++ ys)) else none
    | _, _ => none) fun d => Q d S
  split
  · rw [wp_len, wo_if]
    rfl
  · rfl
theorem wp_lvals : Wp (eval P R (.lvals a) e S) Q = Wp (eval P R a e S) fun x S => Wo (match x with
    | .ref n => (openTab S n).map fun ob => D.lst (tabVals ob)
    | _ => none) fun d => Q d S := by
  rw [eval]
  simp only [wp_bind]
  congr 1
  funext x S
  cases x <;> try rfl
  rename_i m
  show Wp (match openTab S m with
    | some ob => .ok (.lst (tabVals ob)) S
    | none => .bad) Q = Wo ((openTab S m).map fun ob => D.lst (tabVals ob)) _
  cases openTab S m <;> rfl
/-- a table locked: what stands in it stands at the end -/
theorem wp_lock {o : Ex} {n : Nat} {ob : Ob} (hl : loc o e S = some (n, ob)) (q : Wp (eval P R a e (S.set n (.frz ob))) fun d S' => (∃ o', S'[n]? = some (.frz o')) ∧ Q d (S'.set n ob)) : Wp (eval P R (.lock o a) e S) Q := by
  rw [eval, hl]
  show Wp ((eval P R a e (S.set n (.frz ob))).unlock n ob) Q
  cases hx : eval P R a e (S.set n (.frz ob)) with
  | bad => rw [hx] at q; exact q
  | exc c S1 => rw [hx] at q; exact q
  | ok d S1 =>
    rw [hx] at q
    obtain ⟨⟨o', ho⟩, q⟩ := q
    show Wp (match Z.unlock n ob S1 with
      | some S2 => .ok d S2
      | none => .bad) Q
    have : Z.unlock n ob S1 = some (S1.set n ob) := by unfold Z.unlock; rw [ho]
    rw [this]
    exact q
/-! ### statements -/
theorem ws_fl {α : Type} {o : Out α} {g : α → Sto → Fl} : Ws (o.fl e g) N T = Wp o fun a S => Ws (g a S) N T := by cases o <;> rfl
theorem ws_skip : Ws (exec P R .skip e S) N T = N e S := by rw [exec]; rfl
theorem ws_seq {s t : St} : Ws (exec P R (.seq s t) e S) N T = Ws (exec P R s e S) (fun e S => Ws (exec P R t e S) N T) T := by
  rw [exec]
  cases exec P R s e S <;> rfl
theorem ws_ex : Ws (exec P R (.ex a) e S) N T = Wp (eval P R a e S) fun _ S => N e S := by rw [exec, ws_fl]; rfl
theorem ws_set {i : Nat} : Ws (exec P R (.set i a) e S) N T = Wp (eval P R a e S) fun d S => i < e.length ∧ N (e.set i (.val d)) S := by
  rw [exec, ws_fl]
  congr 1
  funext d S
  unfold setE
  by_cases h : i < e.length
  · rw [if_pos h]; simp [h, Ws]
  · rw [if_neg h]; simp [h, Ws]
theorem ws_setI : Ws (exec P R (.setI a b c) e S) N T = Wp (eval P R c e S) fun d S => Wp (eval P R a e S) fun x S => Wp (eval P R b e S) fun i S => Wo (evalSet S x i d) fun S1 => N e S1 := by
  rw [exec]
  simp only [ws_fl]
  congr 1
  funext d S
  congr 1
  funext x S
  congr 1
  funext i S
  cases evalSet S x i d <;> rfl
theorem ws_setA {x : Str} : Ws (exec P R (.setA a x c) e S) N T = Wp (eval P R c e S) fun d S => Wp (eval P R a e S) fun y S => Wo (match y with
    | .ref n => (match S[n]? with
      | some (.ins C fs) => if fs.length < 1000 ∧ (P.ats.any fun p => decide (p.1 = C) && decide (p.2 = x)) = true then some (S.set n (.ins C (putFD x d fs))) else none
      | _ => none)
    | _ => none) fun S1 => N e S1 := by
  rw [exec]
  simp only [ws_fl]
  congr 1
  funext d S
  congr 1
  funext y S
  cases y <;> try rfl
  rename_i m
  show Ws (match S[m]? with
      | some (.ins C fs) => if fs.length < 1000 ∧ (P.ats.any fun p => decide (p.1 = C) && decide (p.2 = x)) = true then .nx e (S.set m (.ins C (putFD x d fs))) else .bad
      | _ => .bad) N T = Wo (match S[m]? with
      | some (.ins C fs) => if fs.length < 1000 ∧ (P.ats.any fun p => decide (p.1 = C) && decide (p.2 = x)) = true then some (S.set m (.ins C (putFD x d fs))) else none
      | _ => none) _
  cases S[m]? with
  | none => rfl
  | some o =>
    cases o <;> try rfl
    show Ws (if _ then _ else _) N T = Wo (if _ then _ else _) _
    split <;> rfl
theorem ws_ret : Ws (exec P R (.ret a) e S) N T = Wp (eval P R a e S) T := by rw [exec, ws_fl]; rfl
theorem ws_retN : Ws (exec P R .retN e S) N T = T .non S := by rw [exec]; rfl
theorem ws_ite {s t : St} : Ws (exec P R (.ite a s t) e S) N T = Wp (eval P R a e S) fun x S => Wo (truth S x) fun k => if k = true then Ws (exec P R s e S) N T else Ws (exec P R t e S) N T := by
  rw [exec, ws_fl]
  congr 1
  funext x S
  cases truth S x with
  | none => rfl
  | some k => cases k <;> rfl
theorem ws_unp {is : List Nat} : Ws (exec P R (.unp is a) e S) N T = Wp (eval P R a e S) fun d S => Wo (bindT (.many is) d e) fun e1 => N e1 S := by
  rw [exec, ws_fl]
  congr 1
  funext d S
  cases bindT (.many is) d e <;> rfl
theorem ws_for {t : Tg} {it : It} {s : St} : Ws (exec P R (.for t it s) e S) N T = Wp (src P R it e S) fun w S => Ws (runF (fun x e S => match bindT t x e with
    | some e1 => exec P R s e1 S
    | none => .bad) w e S) N T := by
  rw [exec, ws_fl] <;> rfl
/-- a loop over things that nobody changes -/
theorem ws_loop {t : Tg} {s : St} {xs : List D} (I : Nat → En → Sto → Prop) (h0 : I 0 e S) (hs : ∀ i x e S, xs[i]? = some x → I i e S → Wo (bindT t x e) fun e1 => Ws (exec P R s e1 S) (I (i + 1)) T) (hd : ∀ e S, I xs.length e S → N e S) :
    Ws (runF (fun x e S => match bindT t x e with
    | some e1 => exec P R s e1 S
    | none => .bad) (.s (.free xs)) e S) N T := by
  show Ws (loopF _ (fun _ => true) xs e S) N T
  have go : ∀ (ys : List D) (i : Nat) (e : En) (S : Sto), xs.drop i = ys → I i e S → i ≤ xs.length → Ws (loopF (fun x e S => match bindT t x e with
    | some e1 => exec P R s e1 S
    | none => .bad) (fun _ => true) ys e S) N T := fun ys => by
    induction ys with
    | nil =>
      intro i e S hx h hi
      have : xs.length ≤ i := by
        have := congrArg List.length hx
        rw [List.length_drop, List.length_nil] at this
        omega
      have e1 : i = xs.length := Nat.le_antisymm hi this
      subst e1
      rw [loopF]
      exact hd e S h
    | cons x ys ih =>
      intro i e S hx h hi
      have hlt : i < xs.length := by
        have := congrArg List.length hx
        rw [List.length_drop, List.length_cons] at this
        omega
      have hg : xs[i]? = some x := by
        have := List.drop_eq_getElem_cons hlt
        rw [hx] at this
        rw [List.getElem?_eq_getElem hlt]
        have := (List.cons.inj this).1
        rw [this]
      have hx2 : xs.drop (i + 1) = ys := by
        have := List.drop_eq_getElem_cons hlt
        rw [hx] at this
        exact (List.cons.inj this).2.symm
      have q := hs i x e S hg h
      rw [loopF_step, if_pos rfl]
      cases hb : bindT t x e with
      | none => rw [hb] at q; exact q.elim
      | some e1 =>
        rw [hb] at q
        have q : Ws (exec P R s e1 S) (I (i + 1)) T := q
        show Ws (match exec P R s e1 S with
          | .nx e1 S1 => loopF _ (fun _ => true) ys e1 S1
          | r => r) N T
        cases hx3 : exec P R s e1 S with
        | nx e2 S2 => rw [hx3] at q; exact ih (i + 1) e2 S2 hx2 q hlt
        | rt d S2 => rw [hx3] at q; exact q
        | ex c e2 S2 => rw [hx3] at q; exact q
        | bad => rw [hx3] at q; exact q
  exact go xs 0 e S (List.drop_zero) h0 (Nat.zero_le _)
theorem ws_lock {o : Ex} {s : St} {n : Nat} {ob : Ob} (hl : loc o e S = some (n, ob)) (q : Ws (exec P R s e (S.set n (.frz ob))) (fun e' S' => (∃ o', S'[n]? = some (.frz o')) ∧ N e' (S'.set n ob)) fun d S' => (∃ o', S'[n]? = some (.frz o')) ∧ T d (S'.set n ob)) : Ws (exec P R (.lock o s) e S) N T := by
  rw [exec, hl]
  show Ws ((exec P R s e (S.set n (.frz ob))).unlock n ob) N T
  cases hx : exec P R s e (S.set n (.frz ob)) with
  | bad => rw [hx] at q; exact q
  | ex c e1 S1 => rw [hx] at q; exact q
  | nx e1 S1 =>
    rw [hx] at q
    obtain ⟨⟨o', ho⟩, q⟩ := q
    show Ws (match Z.unlock n ob S1 with
      | some S2 => .nx e1 S2
      | none => .bad) N T
    have : Z.unlock n ob S1 = some (S1.set n ob) := by unfold Z.unlock; rw [ho]
    rw [this]
    exact q
  | rt d S1 =>
    rw [hx] at q
    obtain ⟨⟨o', ho⟩, q⟩ := q
    show Ws (match Z.unlock n ob S1 with
      | some S2 => .rt d S2
      | none => .bad) N T
    have : Z.unlock n ob S1 = some (S1.set n ob) := by unfold Z.unlock; rw [ho]
    rw [this]
    exact q
/-- a loop by what is left to do -/
theorem ws_while {s : St} {k : Nat} (I : Nat → En → Sto → Prop) (h0 : I k e S) (hk : k < P.fuel) (hs : ∀ i e S, I i e S → Wp (eval P R a e S) fun x S1 => Wo (truth S1 x) fun t => if t = true then 0 < i ∧ Ws (exec P R s e S1) (I (i - 1)) T else N e S1) : Ws (exec P R (.while a s) e S) N T := by
  rw [exec]
  generalize P.fuel = f at hk
  induction f generalizing k e S with
  | zero => exact absurd hk (Nat.not_lt_zero _)
  | succ f ih =>
    have q := hs k e S h0
    unfold loopW
    rw [ws_fl, wp_bind]
    refine wp_mono q fun x S1 q1 => ?_
    cases ht : truth S1 x with
    | none => rw [ht] at q1; exact q1
    | some t =>
      rw [ht] at q1
      have q1 : if t = true then 0 < k ∧ Ws (exec P R s e S1) (I (k - 1)) T else N e S1 := q1
      show Ws (if t = true then (match exec P R s e S1 with
        | .nx e1 S1 => loopW _ _ f e1 S1
        | r => r) else .nx e S1) N T
      cases t with
      | false =>
        rw [if_neg Bool.false_ne_true] at q1 ⊢
        exact q1
      | true =>
        rw [if_pos rfl] at q1 ⊢
        obtain ⟨hp, q1⟩ := q1
        cases hx : exec P R s e S1 with
        | nx e1 S2 =>
          rw [hx] at q1
          exact ih q1 (by omega)
        | rt d S2 => rw [hx] at q1; exact q1
        | ex c e1 S2 => rw [hx] at q1; exact q1
        | bad => rw [hx] at q1; exact q1
theorem wc_nil {g : D → Sto → Out (Option D)} {acc : List D} {Q : List D → Sto → Prop} : Wp (loopC g (fun _ => true) [] acc S) Q = Q acc S := by rw [loopC]; rfl
theorem wc_cons {g : D → Sto → Out (Option D)} {x : D} {xs acc : List D} {Q : List D → Sto → Prop} : Wp (loopC g (fun _ => true) (x :: xs) acc S) Q = Wp (g x S) fun o S => match o with
    | some d => acc.length < sizeLine ∧ Wp (loopC g (fun _ => true) xs (acc ++ [d]) S) Q
    | none => Wp (loopC g (fun _ => true) xs acc S) Q := by
  rw [loopC, if_pos rfl]
  cases g x S with
  | bad => rfl
  | exc c S1 => rfl
  | ok o S1 =>
    cases o with
    | none => rfl
    | some d =>
      show Wp (if acc.length < sizeLine then _ else .bad) Q = (acc.length < sizeLine ∧ _)
      rw [wp_len]
theorem wc_run {g : D → Sto → Out (Option D)} {xs : List D} {Q : List D → Sto → Prop} : Wp (runC g (.s (.free xs)) S) Q = Wp (loopC g (fun _ => true) xs [] S) Q := rfl
theorem wc_body {t : Tg} {vs : List Nat} {x : D} {Q : Option D → Sto → Prop} : Wp (bodyC P R t vs a b e x S) Q = Wo (bindT t x (wipeE e vs)) fun e1 => Wp (eval P R a e1 S) fun k S => Wo (truth S k) fun k => if k = true then Wp (eval P R b e1 S) fun d S => Q (some d) S else Q none S := by
  unfold bodyC
  cases bindT t x (wipeE e vs) with
  | none => rfl
  | some e1 =>
    show Wp (Out.bind _ _) Q = Wp _ _
    rw [wp_bind]
    congr 1
    funext k S
    cases truth S k with
    | none => rfl
    | some k =>
      cases k with
      | false => rfl
      | true =>
        show Wp (Out.bind _ _) Q = Wp _ _
        rw [wp_bind]
        rfl
/-- a def's body -/
theorem wp_run {n : Nat} {d : CDef} {ds : List D} (h : P.defs.lookup f = some d) (hl : ds.length = d.np) (q : Ws (exec P (run P n) d.body (ds.map Slot.val ++ List.replicate (d.N.length - d.np) .no) S) (fun _ S => Q .non S) Q) : Wp (run P (n + 1) f ds S) Q := by
  unfold run
  rw [h]
  show Wp (if ds.length = d.np then _ else _) Q
  rw [if_pos hl]
  cases z : exec P (run P n) d.body (ds.map Slot.val ++ List.replicate (d.N.length - d.np) .no) S with
  | nx e S1 => rw [z] at q; exact q
  | rt v S1 => rw [z] at q; exact q
  | ex c e S1 => rw [z] at q; exact q
  | bad => rw [z] at q; exact q
end
end Z


/-! Z: what is alike in the laws' texts: a cell, a bag, a number drawn. -/
namespace Z
open PySem
section
variable {S : Sto} {xs : List D} {i j : Int} {b : Nat} {d : D}
theorem b_add : evalB .add (.int i) (.int j) = some (.int (i + j)) := rfl
theorem b_sub : evalB .sub (.int i) (.int j) = some (.int (i - j)) := rfl
theorem b_mul : evalB .mul (.int i) (.int j) = if (small i || small j) = true then some (.int (i * j)) else none := rfl
theorem b_fdiv : evalB .fdiv (.int i) (.int j) = if 0 < j ∧ j < 1073741824 then some (.int (i / j)) else none := rfl
theorem b_mod : evalB .mod (.int i) (.int j) = if 0 < j then some (.int (i % j)) else none := rfl
theorem b_pow : evalB .pow (.int i) (.int j) = if 0 ≤ j ∧ j ≤ 1000000 ∧ i.natAbs < 2 ^ 64 then some (.int (i ^ j.toNat)) else none := rfl
theorem b_shr : evalB .shr (.int i) (.int j) = if 0 ≤ j then some (.int (i / 2 ^ j.toNat)) else none := rfl
theorem b_band : evalB .band (.int i) (.int j) = some (.int (Builtin.bitAnd i j)) := rfl
theorem b_lst {ys : List D} : evalB .add (.lst xs) (.lst ys) = if xs.length + ys.length ≤ sizeLine then some (.lst (xs ++ ys)) else none := rfl
theorem b_tup {ys : List D} : evalB .add (.tup xs) (.tup ys) = if xs.length + ys.length ≤ sizeLine then some (.tup (xs ++ ys)) else none := rfl
theorem c_lt : evalC S .lt (.int i) (.int j) = some (decide (i < j)) := rfl
theorem c_le : evalC S .le (.int i) (.int j) = some (decide (i ≤ j)) := rfl
theorem c_gt : evalC S .gt (.int i) (.int j) = some (decide (j < i)) := rfl
theorem c_ge : evalC S .ge (.int i) (.int j) = some (decide (j ≤ i)) := rfl
theorem c_eqI : evalC S .eq (.int i) (.int j) = some (i == j) := rfl
theorem c_neI : evalC S .ne (.int i) (.int j) = some (!(i == j)) := rfl
theorem c_eqS {s t : Str} : evalC S .eq (.str s) (.str t) = some (s == t) := rfl
theorem c_neS {s t : Str} : evalC S .ne (.str s) (.str t) = some (!(s == t)) := rfl
theorem tr_bl {k : Bool} : truth S (.bl k) = some k := rfl
theorem tr_int : truth S (.int i) = some (i != 0) := rfl
theorem ix_lst : evalIx S (.lst xs) (.int i) = L2.atI xs i := rfl
theorem ix_tup : evalIx S (.tup xs) (.int i) = L2.atI xs i := rfl
theorem view_ref (h : S[b]? = some (.lst xs)) : view S (.ref b) = .lst xs := by
  show (match S[b]? with
    | some (.lst xs) => D.lst xs
    | _ => .ref b) = _
  rw [h]
theorem ix_ref (h : S[b]? = some (.lst xs)) (i : Int) : evalIx S (.ref b) (.int i) = L2.atI xs i := by
  unfold evalIx
  rw [view_ref h]
theorem set_ref (h : S[b]? = some (.lst xs)) (i : Int) (d : D) : evalSet S (.ref b) (.int i) d = (L2.ixN xs.length i).map fun j => S.set b (.lst (xs.set j d)) := by
  show (match S[b]? with
    | some (.dk kvs) => _
    | some (.dt kvs) => _
    | some (.lst xs) => _
    | _ => _) = _
  rw [h]
theorem bt_one {t : Nat} {d : D} {e : En} : bindT (.one t) d e = if t < e.length then some (e.set t (.val d)) else none := rfl
theorem ite_ev {P : Prog} {R : Str → List D → Sto → Out D} {c : Bool} {a b : Ex} {e : En} {S : Sto} {Q : D → Sto → Prop} {W : D → Prop} (ha : ∃ d, Z.eval P R a e S = .ok d S ∧ W d) (hb : ∃ d, Z.eval P R b e S = .ok d S ∧ W d) (h : ∀ d, W d → Q d S) :
    if c = true then Wp (Z.eval P R a e S) Q else Wp (Z.eval P R b e S) Q := by
  obtain ⟨x, e1, w1⟩ := ha
  obtain ⟨y, e2, w2⟩ := hb
  rw [e1, e2]
  cases c with
  | true => exact h x w1
  | false => exact h y w2
theorem ite_wo {c : Bool} {x y : Option D} {Q : D → Prop} {W : D → Prop} (ha : ∃ d, x = some d ∧ W d) (hb : ∃ d, y = some d ∧ W d) (h : ∀ d, W d → Q d) : if c = true then Wo x Q else Wo y Q := by
  obtain ⟨x, rfl, w1⟩ := ha
  obtain ⟨y, rfl, w2⟩ := hb
  cases c with
  | true => exact h x w1
  | false => exact h y w2
theorem ix_newdk {S : Sto} {kvs : List (L2.Key × D)} {d : D} : evalIx (S ++ [.dk kvs]) (.ref S.length) d = (d.key.map fun k => look kvs k).bind id := by
  have e : (S ++ [Ob.dk kvs])[S.length]? = some (.dk kvs) := by rw [List.getElem?_append_right (Nat.le_refl _), Nat.sub_self]; rfl
  have v : view (S ++ [Ob.dk kvs]) (.ref S.length) = .ref S.length := by
    show (match (S ++ [Ob.dk kvs])[S.length]? with
      | some (.lst xs) => D.lst xs
      | _ => .ref S.length) = _
    rw [e]
  unfold evalIx
  rw [v]
  show (tabGet (S ++ [Ob.dk kvs]) S.length d).bind id = _
  unfold tabGet
  rw [e]
theorem at0 {a : D} {r : List D} : L2.atI (a :: r) 0 = some a := by simp [L2.atI, L2.ixN]
end
/-- a bag of numbers -/
def Bag (S : Sto) (b : Nat) (x y z : Int) : Prop := S[b]? = some (.lst [.int x, .int y, .int z])
def bag3 (x y z : Int) : Ob := .lst [.int x, .int y, .int z]
theorem Bag.set {S : Sto} {b : Nat} {x y z : Int} (h : Bag S b x y z) (x' y' z' : Int) : Bag (S.set b (bag3 x' y' z')) b x' y' z' := by
  unfold Bag
  rw [List.getElem?_set_self (lt_get h)]
  rfl
theorem set_set {S : Sto} {b : Nat} {o u : Ob} : (S.set b o).set b u = S.set b u := List.set_set ..
section
variable {S : Sto} {b : Nat} {x y z : Int} (h : Bag S b x y z)
theorem bag_0 (h : Bag S b x y z) : evalIx S (.ref b) (.int 0) = some (.int x) := by rw [ix_ref h]; rfl
theorem bag_1 (h : Bag S b x y z) : evalIx S (.ref b) (.int 1) = some (.int y) := by rw [ix_ref h]; rfl
theorem bag_2 (h : Bag S b x y z) : evalIx S (.ref b) (.int 2) = some (.int z) := by rw [ix_ref h]; rfl
theorem bag_s0 (h : Bag S b x y z) (v : Int) : evalSet S (.ref b) (.int 0) (.int v) = some (S.set b (bag3 v y z)) := by rw [set_ref h]; rfl
theorem bag_s1 (h : Bag S b x y z) (v : Int) : evalSet S (.ref b) (.int 1) (.int v) = some (S.set b (bag3 x v z)) := by rw [set_ref h]; rfl
theorem bag_s2 (h : Bag S b x y z) (v : Int) : evalSet S (.ref b) (.int 2) (.int v) = some (S.set b (bag3 x y v)) := by rw [set_ref h]; rfl
end
section
variable {P : Prog} {n : Nat} {Q : D → Sto → Prop} {S : Sto} {b : Nat} {x y z m : Int}
def cCell : CDef := ⟨2, ["script", "k"],
  (.seq (.ite (.cmp .lt (.var 1) (.bi .len (.cons (.var 0) .nil))) (.seq (.ret (.ix (.var 0) (.var 1))) .skip) .skip) (.seq (.ret (.int 0)) .skip))⟩
def cWell : CDef := ⟨2, ["cell", "turn"],
  (.seq (.ite (.cmp .ge (.var 0) (.bin .pow (.int 10) (.int 18))) (.seq (.ret (.lstR (.cons (.bin .sub (.var 0) (.bin .pow (.int 10) (.int 18))) (.cons (.bin .mod (.var 0) (.int 2305843009213693951)) (.cons (.var 1) .nil))))) .skip) .skip) (.seq (.ret (.lstR (.cons (.int 0) (.cons (.bin .mod (.var 0) (.int 2305843009213693951)) (.cons (.var 1) .nil))))) .skip))⟩
theorem well_spec {c t : Int} (lk : P.defs.lookup ("_law_well" : Str) = some cWell) (h : ∀ x y, Q (.ref S.length) (S ++ [bag3 x y t])) : Wp (run P (n + 1) ("_law_well" : Str) [.int c, .int t] S) Q := by
  refine wp_run lk rfl ?_
  simp only [cWell, ws_seq, ws_ite, wp_cmp, wp_var, wp_bin, wp_int, val, List.map_cons, List.map_nil, List.cons_append, List.nil_append, List.getElem?_cons_zero, List.getElem?_cons_succ, wo_some, b_pow, wo_if, c_ge, tr_bl, ws_ret, wp_lstR, wps_cons, wps_nil, b_sub, b_mod, ws_skip]
  refine ⟨by decide, ?_⟩
  split
  · exact ⟨by decide, by decide, by simp; rw [sizeLine_eq]; omega, h _ _⟩
  · exact ⟨by decide, by simp; rw [sizeLine_eq]; omega, h _ _⟩
def cTake : CDef := ⟨2, ["bag", "many", "p", "n", "found"],
  (.seq (.ite (.cmp .gt (.ix (.var 0) (.int 0)) (.int 0)) (.seq (.set 4 (.bin .mod (.ix (.var 0) (.int 0)) (.var 1))) (.seq (.setI (.var 0) (.int 0) (.bin .fdiv (.ix (.var 0) (.int 0)) (.var 1))) (.seq (.ret (.var 4)) .skip))) .skip) (.seq (.setI (.var 0) (.int 2) (.bin .add (.ix (.var 0) (.int 2)) (.int 1))) (.seq (.set 2 (.int 2305843009213693951)) (.seq (.set 3 (.bin .mod (.bin .add (.ix (.var 0) (.int 1)) (.bin .mul (.int 1000003) (.ix (.var 0) (.int 2)))) (.var 2))) (.seq (.set 3 (.bin .mod (.bin .add (.bin .add (.bin .mul (.var 3) (.var 3)) (.bin .mul (.int 7919) (.bin .pow (.ix (.var 0) (.int 2)) (.int 2)))) (.int 5)) (.var 2))) (.seq (.ret (.bin .mod (.bin .fdiv (.bin .mod (.bin .pow (.var 3) (.int 3)) (.var 2)) (.int 13)) (.var 1))) .skip))))))⟩
def cWhole : CDef := ⟨1, ["found"],
  (.seq (.ret (.and (.isi (.var 0) .int) (.not (.isi (.var 0) .bool)))) .skip)⟩
theorem take_spec (lk : P.defs.lookup ("_law_take" : Str) = some cTake) (hb : Bag S b x y z) (hm : 0 < m) (hm2 : m < 1000000000) (hz : 0 ≤ z) (hz2 : z < 1000000000)
    (h : ∀ r x' z', 0 ≤ r → r < m → 0 ≤ z' → z' ≤ z + 1 → Q (.int r) (S.set b (bag3 x' y z'))) : Wp (run P (n + 1) ("_law_take" : Str) [.ref b, .int m] S) Q := by
  refine wp_run lk rfl ?_
  have hl : b < S.length := lt_get hb
  simp only [cTake, ws_seq, ws_ite, ws_set, ws_setI, wp_cmp, wp_var, wp_bin, wp_ix, wp_int, val, List.map_cons, List.map_nil, List.cons_append, List.nil_append, List.getElem?_cons_zero, List.getElem?_cons_succ, List.set_cons_zero, List.set_cons_succ, List.replicate_succ, List.replicate_zero, List.length_cons, List.length_nil, wo_some, b_pow, wo_if, c_gt, tr_bl, ws_ret, b_mod, b_fdiv, b_add, b_mul, ws_skip, bag_0 hb, bag_1 hb, bag_2 hb, bag_s0 hb, bag_s2 hb, bag_1 (hb.set x y (z + 1)), bag_2 (hb.set x y (z + 1))]
  split
  · rename_i hx
    refine ⟨hm, by decide, ⟨hm, by omega⟩, ?_⟩
    exact h _ _ _ (Int.emod_nonneg _ (by omega)) (Int.emod_lt_of_pos _ hm) hz (by omega)
  · have pm : ∀ t : Int, 0 ≤ t % 2305843009213693951 ∧ t % 2305843009213693951 < 2305843009213693951 := fun t => ⟨Int.emod_nonneg _ (by decide), Int.emod_lt_of_pos _ (by decide)⟩
    have sm : ∀ t : Int, small (t % 2305843009213693951) = true := fun t => by
      obtain ⟨h1, h2⟩ := pm t
      unfold small
      rw [decide_eq_true (show -(2 ^ 64) < t % 2305843009213693951 by omega), decide_eq_true (show t % 2305843009213693951 < 2 ^ 64 by omega)]
      rfl
    have na : ∀ t : Int, (t % 2305843009213693951).natAbs < 2 ^ 64 := fun t => by
      obtain ⟨h1, h2⟩ := pm t
      omega
    refine ⟨by omega, by rw [show small 1000003 = true from by decide]; rfl, by decide, by omega, by rw [sm]; rfl, ⟨by decide, by decide, by omega⟩, by rw [show small 7919 = true from by decide]; rfl, by decide, by omega, ⟨by decide, by decide, na _⟩, by decide, ⟨by decide, by decide⟩, hm, ?_⟩
    exact h _ _ _ (Int.emod_nonneg _ (by omega)) (Int.emod_lt_of_pos _ hm) (by omega) (by omega)
theorem cell_spec {ns : List Int} {k : Int} (lk : P.defs.lookup ("_law_cell" : Str) = some cCell) (hk : 0 ≤ k) (h : ∀ c, Q (.int c) S) : Wp (run P (n + 1) ("_law_cell" : Str) [.lst (ns.map D.int), .int k] S) Q := by
  refine wp_run lk rfl ?_
  have lb : ∀ S : Sto, evalBi S .len [.lst (ns.map D.int)] = some (.int (ns.map D.int).length) := fun _ => rfl
  simp only [cCell, ws_seq, ws_ite, wp_cmp, wp_var, wp_ix, wp_int, wp_bi, wps_cons, wps_nil, val, List.map_cons, List.map_nil, List.cons_append, List.nil_append, List.getElem?_cons_zero, List.getElem?_cons_succ, wo_some, lb, c_lt, tr_bl, ws_ret, ws_skip, ix_lst]
  split
  · rename_i hx
    have hx := of_decide_eq_true hx
    rw [List.length_map] at hx
    have e : L2.atI (ns.map D.int) k = some (.int (ns[k.toNat]'(by omega))) := by
      unfold L2.atI L2.ixN
      rw [if_pos hk, if_pos (by rw [List.length_map]; exact hx)]
      show (ns.map D.int)[k.toNat]? = _
      rw [List.getElem?_map, List.getElem?_eq_getElem (by omega)]
      rfl
    rw [e]
    exact h _
  · exact h _
theorem whole_spec {d : D} {k : Bool} (lk : P.defs.lookup ("_law_whole" : Str) = some cWhole) (hd : (isTy d S .int = some k ∧ (k = true → ∃ c, isTy d S .bool = some c ∧ Q (.bl (!c)) S) ∧ (k = false → Q (.bl false) S))) : Wp (run P (n + 1) ("_law_whole" : Str) [d] S) Q := by
  refine wp_run lk rfl ?_
  obtain ⟨h1, h2, h3⟩ := hd
  simp only [cWhole, ws_seq, wp_var, wp_isi, wp_and, wp_not, val, List.map_cons, List.map_nil, List.cons_append, List.nil_append, List.getElem?_cons_zero, wo_some, tr_bl, ws_ret, ws_skip, h1]
  cases k with
  | true =>
    obtain ⟨c, h4, h5⟩ := h2 rfl
    rw [if_pos rfl, h4]
    exact h5
  | false => exact h3 rfl
/-- a bag of which at most k numbers were drawn by counting -/
def BagK (S : Sto) (b : Nat) (k : Nat) : Prop := ∃ x y z, Bag S b x y z ∧ 0 ≤ z ∧ z ≤ (k : Int)
theorem BagK.le {k j : Nat} (h : BagK S b k) (hk : k ≤ j) : BagK S b j := by
  obtain ⟨x, y, z, h1, h2, h3⟩ := h
  exact ⟨x, y, z, h1, h2, by omega⟩
theorem take_k {k : Nat} (lk : P.defs.lookup ("_law_take" : Str) = some cTake) (hb : BagK S b k) (hk : k < 100000000) (hm : 0 < m) (hm2 : m < 1000000000) (h : ∀ r S', 0 ≤ r → r < m → BagK S' b (k + 1) → Q (.int r) S') :
    Wp (run P (n + 1) ("_law_take" : Str) [.ref b, .int m] S) Q := by
  obtain ⟨x, y, z, h1, h2, h3⟩ := hb
  exact take_spec lk h1 hm hm2 h2 (by omega) fun r x' z' a1 a2 a3 a4 => h r _ a1 a2 ⟨x', y, z', h1.set x' y z', a3, by omega⟩
theorem well_k {c : Int} (lk : P.defs.lookup ("_law_well" : Str) = some cWell) (h : ∀ S' b, BagK S' b 0 → Q (.ref b) S') : Wp (run P (n + 1) ("_law_well" : Str) [.int c, .int 0] S) Q :=
  well_spec lk fun x y => h _ _ ⟨x, y, 0, by unfold Bag; rw [List.getElem?_append_right (Nat.le_refl _), Nat.sub_self]; rfl, Int.le_refl _, Int.le_refl _⟩
theorem pickI {is : List Int} {r : Int} {Q : D → Prop} (h1 : 0 ≤ r) (h2 : r < is.length) (k : ∀ v, v ∈ is → Q (.int v)) : Wo (L2.atI (is.map D.int) r) Q := by
  have e : L2.atI (is.map D.int) r = some (.int (is[r.toNat]'(by omega))) := by
    unfold L2.atI L2.ixN
    rw [if_pos h1, if_pos (by rw [List.length_map]; exact h2)]
    show (is.map D.int)[r.toNat]? = _
    rw [List.getElem?_map, List.getElem?_eq_getElem (by omega)]
    rfl
  rw [e]
  exact k _ (List.getElem_mem _)
theorem pickS {is : List Str} {r : Int} {Q : D → Prop} (h1 : 0 ≤ r) (h2 : r < is.length) (k : ∀ v, v ∈ is → Q (.str v)) : Wo (L2.atI (is.map D.str) r) Q := by
  have e : L2.atI (is.map D.str) r = some (.str (is[r.toNat]'(by omega))) := by
    unfold L2.atI L2.ixN
    rw [if_pos h1, if_pos (by rw [List.length_map]; exact h2)]
    show (is.map D.str)[r.toNat]? = _
    rw [List.getElem?_map, List.getElem?_eq_getElem (by omega)]
    rfl
  rw [e]
  exact k _ (List.getElem_mem _)
theorem BagK.keep {S' : Sto} {k : Nat} (h : BagK S b k) (f : S'[b]? = S[b]?) : BagK S' b k := by
  obtain ⟨x, y, z, h1, h2, h3⟩ := h
  exact ⟨x, y, z, (show S'[b]? = _ from f.trans h1), h2, h3⟩
theorem BagK.lt {k : Nat} (h : BagK S b k) : b < S.length := by
  obtain ⟨x, y, z, h1, h2, h3⟩ := h
  exact lt_get h1
theorem BagK.app {k : Nat} (h : BagK S b k) (more : Sto) : BagK (S ++ more) b k := h.keep (List.getElem?_append_left h.lt)
/-- a number drawn; nothing else of the store changes -/
theorem take_f {k : Nat} (lk : P.defs.lookup ("_law_take" : Str) = some cTake) (hb : BagK S b k) (hk : k < 100000000) (hm : 0 < m) (hm2 : m < 1000000000) (h : ∀ r S', 0 ≤ r → r < m → BagK S' b (k + 1) → S'.length = S.length → (∀ i, i ≠ b → S'[i]? = S[i]?) → Q (.int r) S') :
    Wp (run P (n + 1) ("_law_take" : Str) [.ref b, .int m] S) Q := by
  obtain ⟨x, y, z, h1, h2, h3⟩ := hb
  exact take_spec lk h1 hm hm2 h2 (by omega) fun r x' z' a1 a2 a3 a4 => h r _ a1 a2 ⟨x', y, z', h1.set x' y z', a3, by omega⟩ List.length_set fun i hi => List.getElem?_set_ne (Ne.symm hi)
theorem atI_get {α : Type} {xs : List α} {r : Int} (h1 : 0 ≤ r) (h2 : r < xs.length) : L2.atI xs r = some (xs[r.toNat]'(by omega)) := by
  unfold L2.atI L2.ixN
  rw [if_pos h1, if_pos h2]
  show xs[r.toNat]? = _
  rw [List.getElem?_eq_getElem (by omega)]
theorem pickD {xs : List D} {r : Int} {Q : D → Prop} (h1 : 0 ≤ r) (h2 : r < xs.length) (k : ∀ v, v ∈ xs → Q v) : Wo (L2.atI xs r) Q := by
  rw [atI_get h1 h2]
  exact k _ (List.getElem_mem _)
theorem append_at {a : Nat} {xs : List D} {x : D} (h : S[a]? = some (.lst xs)) (hl : xs.length < sizeLine) : recvOk S .append (.ref a) = true ∧ evalBm S .append (.ref a) [x] = some (.non, S.set a (.lst (xs ++ [x]))) := by
  constructor
  · show (match S[a]? with
      | some (.lst _) => true
      | _ => false) = true
    rw [h]
  · show (match S[a]? with
      | some (.lst xs) => if xs.length < sizeLine then some (D.non, S.set a (.lst (xs ++ [x]))) else none
      | _ => none) = _
    rw [h]
    exact if_pos hl
theorem app_get {x : Ob} : (S ++ [x])[S.length]? = some x := by rw [List.getElem?_append_right (Nat.le_refl _), Nat.sub_self]; rfl
theorem app_set {x y : Ob} : (S ++ [x]).set S.length y = S ++ [y] := by
  induction S with
  | nil => rfl
  | cons a r ih => exact congrArg (a :: ·) ih
theorem len_lstR {a : Nat} {xs : List D} (h : S[a]? = some (.lst xs)) : evalBi S .len [.ref a] = some (.int xs.length) := by
  have hv := view_ref h
  show (match view S (.ref a) with
    | .lst xs => some (D.int xs.length)
    | .tup xs => some (.int xs.length)
    | .str s => if s.length ≤ sizeLine then some (.int s.length) else none
    | .ref n => (match S[n]? with
      | some (.dk kvs) => some (.int kvs.length)
      | some (.dt kvs) => some (.int kvs.length)
      | _ => none)
    | _ => none) = _
  rw [hv]
theorem tup_lstR {a : Nat} {xs : List D} (h : S[a]? = some (.lst xs)) : evalBi S .tupOf [.ref a] = some (.tup xs) := by
  have hv := view_ref h
  show (match view S (.ref a) with
    | .lst xs => some (D.tup xs)
    | .tup xs => some (.tup xs)
    | _ => none) = _
  rw [hv]
theorem mem_rng {lo : Int} {k : Nat} {x : D} (h : x ∈ rngD lo k) : ∃ i : Int, x = .int i ∧ lo ≤ i ∧ i < lo + (k : Int) := by
  obtain ⟨i, hi, rfl⟩ := List.mem_map.mp h
  have := List.mem_range.mp hi
  exact ⟨_, rfl, by omega, by omega⟩
/-- a list made one by one: each thing alike -/
theorem wc_all {g : D → Sto → Out (Option D)} {W : D → Prop} {Q : List D → Sto → Prop} : ∀ (xs acc : List D), (∀ x ∈ xs, ∃ d, g x S = .ok (some d) S ∧ W d) → (∀ y ∈ acc, W y) → acc.length + xs.length < sizeLine → (∀ ys, ys.length = acc.length + xs.length → (∀ y ∈ ys, W y) → Q ys S) → Wp (loopC g (fun _ => true) xs acc S) Q
  | [], acc, _, h2, _, k => by
    rw [wc_nil]
    exact k acc rfl h2
  | x :: xs, acc, h1, h2, h3, k => by
    obtain ⟨d, e, hd⟩ := h1 x List.mem_cons_self
    rw [List.length_cons] at h3 k
    rw [wc_cons, e]
    refine ⟨by omega, wc_all xs (acc ++ [d]) (fun y hy => h1 y (List.mem_cons_of_mem _ hy)) (fun y hy => ?_) (by rw [List.length_append, List.length_singleton]; omega) fun ys hl hy => k ys (by rw [hl, List.length_append, List.length_singleton]; omega) hy⟩
    rcases List.mem_append.mp hy with h | h
    · exact h2 y h
    · rw [List.mem_singleton.mp h]
      exact hd
end
/-! ### calls behind a veil: R is a run, but nobody looks into it -/
section
variable {P : Prog} {n : Nat} {Q : D → Sto → Prop} {S : Sto} {b : Nat} {m : Int} {R : Str → List D → Sto → Out D}
theorem take_R {k : Nat} (hR : R = run P (n + 1)) (lk : P.defs.lookup ("_law_take" : Str) = some cTake) (hb : BagK S b k) (hk : k < 100000000) (hm : 0 < m) (hm2 : m < 1000000000) (h : ∀ r S', 0 ≤ r → r < m → BagK S' b (k + 1) → Q (.int r) S') : Wp (R ("_law_take" : Str) [.ref b, .int m] S) Q := by
  subst hR
  exact take_k lk hb hk hm hm2 h
theorem well_R {c : Int} (hR : R = run P (n + 1)) (lk : P.defs.lookup ("_law_well" : Str) = some cWell) (h : ∀ S' b, BagK S' b 0 → Q (.ref b) S') : Wp (R ("_law_well" : Str) [.int c, .int 0] S) Q := by
  subst hR
  exact well_k lk h
theorem cell_R {ns : List Int} {k : Int} (hR : R = run P (n + 1)) (lk : P.defs.lookup ("_law_cell" : Str) = some cCell) (hk : 0 ≤ k) (h : ∀ c, Q (.int c) S) : Wp (R ("_law_cell" : Str) [.lst (ns.map D.int), .int k] S) Q := by
  subst hR
  exact cell_spec lk hk h
theorem take_fR {k : Nat} (hR : R = run P (n + 1)) (lk : P.defs.lookup ("_law_take" : Str) = some cTake) (hb : BagK S b k) (hk : k < 100000000) (hm : 0 < m) (hm2 : m < 1000000000) (h : ∀ r S', 0 ≤ r → r < m → BagK S' b (k + 1) → S'.length = S.length → (∀ i, i ≠ b → S'[i]? = S[i]?) → Q (.int r) S') : Wp (R ("_law_take" : Str) [.ref b, .int m] S) Q := by
  subst hR
  exact take_f lk hb hk hm hm2 h
/-- the cells: the first one, or 0, and those from 1 on to K -/
theorem cells_R {e : En} {ns : List Int} {K : Int} {Q : Src → Sto → Prop} (hR : R = run P (n + 1)) (lk : P.defs.lookup ("_law_cell" : Str) = some cCell) (he : e[0]? = some (.val (.lst (ns.map D.int)))) (hn : ns.length ≤ 63)
    (q : ∀ cs : List Int, 0 < cs.length → cs.length ≤ 64 → Q (.s (.free (cs.map D.int))) S) :
    Wp (src P R (.seq (.bin .add (.lst (.cons (.call "_law_cell" (.cons (.var 0) (.cons (.int 0) .nil))) .nil)) (.slBt (.var 0) (.int 1) (.int K)))) e S) Q := by
  have hv : val e 0 = some (.lst (ns.map D.int)) := by unfold val; rw [he]
  rw [wi_seq]
  simp only [wp_bin, wp_lst, wp_call, wp_var, wp_int, wps_cons, wps_nil, hv, wo_some]
  refine cell_R hR lk (by decide) fun c => ?_
  refine ⟨by rw [sizeLine_eq]; simp, ?_⟩
  simp only [wp_slBt, wp_var, wp_int, hv, wo_some]
  obtain ⟨cs, hcs, hl⟩ : ∃ cs : List Int, cut (ns.map D.int) (some 1) (some K) = cs.map D.int ∧ cs.length ≤ 63 := by
    refine ⟨cut ns (some 1) (some K), ?_, ?_⟩
    · unfold cut
      rw [List.length_map, List.map_take, List.map_drop]
    · unfold cut
      rw [List.length_take, List.length_drop]
      omega
  show Wo (evalB .add (.lst [.int c]) (.lst (cut (ns.map D.int) (some 1) (some K)))) _
  rw [hcs, b_lst, wo_if]
  refine ⟨by rw [sizeLine_eq, List.length_map]; simp; omega, ?_⟩
  exact q (c :: cs) (by simp) (by rw [List.length_cons]; omega)
theorem true_of {f : Str} {d : CDef} {ds : List D} (h : P.defs.lookup f = some d) (hl : ds.length = d.np) (q : ∀ R, R = run P n → Ws (exec P R d.body (ds.map Slot.val ++ List.replicate (d.N.length - d.np) .no) S) (fun _ _ => False) fun d _ => d = .bl true) : ∃ S', run P (n + 1) f ds S = .ok (.bl true) S' := by
  have z : Wp (run P (n + 1) f ds S) (fun d _ => d = .bl true) := wp_run h hl (ws_mono (q _ rfl) (fun _ _ h => h.elim) fun _ _ h => h)
  obtain ⟨d, S', e, rfl⟩ := wp_get z
  exact ⟨S', e⟩
end
end Z


/-! ZPool: what the pool's methods compute. -/
namespace Z
open PySem L2
/-! ### the plain side -/
def getU (un : List (Int × Int)) (k : Int) : Option Int := (un.find? fun p => decide (p.1 = k)).map (·.2)
def putU (un : List (Int × Int)) (k v : Int) : List (Int × Int) := if (un.any fun p => decide (p.1 = k)) = true then un.map (fun p => if p.1 = k then (p.1, v) else p) else un ++ [(k, v)]
def putT (tk : List Int) (k : Int) : List Int := if k ∈ tk then tk else tk ++ [k]
structure Pl where
  low : Int
  high : Int
  mark : Int
  tk : List Int
  un : List (Int × Int)
def Pl.free (p : Pl) (k m : Int) : Bool := !(decide (k < p.low) || (decide (p.high < k) || decide (k ∈ p.tk))) && decide ((getU p.un k).getD 0 ≤ m)
def rng (i : Int) (n : Nat) : List Int := (List.range n).map fun (k : Nat) => i + (k : Int)
def Pl.row (p : Pl) : List Int := rng p.mark (p.high + 1 - p.mark).toNat ++ rng p.low (p.mark - p.low).toNat
def Pl.pick (p : Pl) (way : Str) (door m : Int) : Option Int := if (way == "keep" && p.free door m) = true then some door else p.row.find? fun k => p.free k m
def Pl.take (p : Pl) (k : Int) : Pl := { p with tk := putT p.tk k, mark := if k = p.high then p.low else k + 1 }
def Pl.give (p : Pl) (k v : Int) : Pl := { p with tk := p.tk.filter fun j => decide (j ≠ k), un := putU p.un k v }
def Pl.rest (p : Pl) (m : Int) : List (Int × Int) := ((sortI (p.un.map (·.1))).filter fun k => !decide (k ∈ p.tk)).filterMap fun k => match getU p.un k with
  | some v => if m < v then some (k, v) else none
  | none => none
def Pl.many (p : Pl) (m : Int) : Int := p.high - p.low + 1 - p.tk.length - (p.rest m).length
/-! ### as it lies in the store -/
def tkD (tk : List Int) : List (Key × D) := tk.map fun k => (.inl k, .bl true)
def unD (un : List (Int × Int)) : List (Key × D) := un.map fun p => (.inl p.1, .int p.2)
def plO (p : Pl) (t u : Nat) : Ob := .ins ("Pool" : Str) [("low", .int p.low), ("high", .int p.high), ("taken", .ref t), ("until", .ref u), ("mark", .int p.mark)]
structure PlAt (S : Sto) (o t u : Nat) (p : Pl) : Prop where
  ho : S[o]? = some (plO p t u)
  ht : S[t]? = some (.dk (tkD p.tk))
  hu : S[u]? = some (.dk (unD p.un))
  ot : o ≠ t
  ou : o ≠ u
  tu : t ≠ u
theorem look_tk {tk : List Int} {k : Int} : (look (tkD tk) (.inl k : Key)).isSome = decide (k ∈ tk) := by
  unfold look tkD
  induction tk with
  | nil => rfl
  | cons a r ih =>
    rw [List.map_cons, List.find?_cons]
    by_cases h : a = k
    · subst h
      simp
    · have e : decide ((((Sum.inl a : Key), D.bl true) : Key × D).1 = Sum.inl k) = false := decide_eq_false fun z => h (Sum.inl.inj z)
      rw [e]
      exact ih.trans (by by_cases z : k ∈ r <;> simp [z, Ne.symm h])
theorem look_un {un : List (Int × Int)} {k : Int} : look (unD un) (.inl k : Key) = (getU un k).map D.int := by
  unfold look unD getU
  induction un with
  | nil => rfl
  | cons a r ih =>
    rw [List.map_cons, List.find?_cons, List.find?_cons]
    by_cases h : a.1 = k
    · have e : decide ((Sum.inl a.1 : Key) = Sum.inl k) = true := decide_eq_true (by rw [h])
      rw [e, decide_eq_true h]
      rfl
    · have e : decide ((Sum.inl a.1 : Key) = Sum.inl k) = false := decide_eq_false fun z => h (Sum.inl.inj z)
      rw [e, decide_eq_false h]
      exact ih
theorem put_tk {tk : List Int} {k : Int} : put (tkD tk) (.inl k : Key) (.bl true) = tkD (putT tk k) := by
  have ha : ((tkD tk).any fun kv => decide (kv.1 = (Sum.inl k : Key))) = decide (k ∈ tk) := by
    unfold tkD
    induction tk with
    | nil => rfl
    | cons a r ih =>
      rw [List.map_cons, List.any_cons, ih]
      by_cases h : a = k
      · subst h; simp
      · have e : decide ((Sum.inl a : Key) = Sum.inl k) = false := decide_eq_false fun z => h (Sum.inl.inj z)
        show (decide ((Sum.inl a : Key) = Sum.inl k) || _) = _
        rw [e]
        simp [Ne.symm h]
  unfold put putT
  rw [ha]
  by_cases h : k ∈ tk
  · rw [if_pos (by simpa using h), if_pos h]
    unfold tkD
    rw [List.map_map]
    apply List.map_congr_left
    intro a _
    show (if (Sum.inl a : Key) = Sum.inl k then ((Sum.inl a : Key), D.bl true) else (Sum.inl a, D.bl true)) = _
    split <;> rfl
  · rw [if_neg (by simpa using h), if_neg h]
    unfold tkD
    rw [List.map_append]
    rfl
theorem drop_tk {tk : List Int} {k : Int} : drop (tkD tk) (.inl k : Key) = tkD (tk.filter fun j => decide (j ≠ k)) := by
  unfold drop tkD
  rw [List.filter_map]
  congr 1
  apply List.filter_congr
  intro a _
  by_cases h : a = k
  · subst h; simp
  · have e1 : decide (a ≠ k) = true := decide_eq_true h
    rw [e1]
    exact decide_eq_true (fun z => h (Sum.inl.inj z))
theorem put_un {un : List (Int × Int)} {k v : Int} : put (unD un) (.inl k : Key) (.int v) = unD (putU un k v) := by
  have ha : ((unD un).any fun kv => decide (kv.1 = (Sum.inl k : Key))) = (un.any fun p => decide (p.1 = k)) := by
    unfold unD
    rw [List.any_map]
    congr 1
    funext a
    show decide ((Sum.inl a.1 : Key) = Sum.inl k) = decide (a.1 = k)
    by_cases h : a.1 = k
    · rw [decide_eq_true h, decide_eq_true (by rw [h])]
    · rw [decide_eq_false h, decide_eq_false (fun z => h (Sum.inl.inj z))]
  unfold put putU
  rw [ha]
  split
  · unfold unD
    rw [List.map_map, List.map_map]
    apply List.map_congr_left
    intro a _
    show (if (Sum.inl a.1 : Key) = Sum.inl k then ((Sum.inl a.1 : Key), D.int v) else (Sum.inl a.1, D.int a.2)) = (Sum.inl (if a.1 = k then (a.1, v) else a).1, D.int (if a.1 = k then (a.1, v) else a).2)
    by_cases h : a.1 = k
    · rw [if_pos h, if_pos (by rw [h])]
    · rw [if_neg h, if_neg (fun z => h (Sum.inl.inj z))]
  · unfold unD
    rw [List.map_append]
    rfl
theorem len_tk {tk : List Int} : (tkD tk).length = tk.length := by unfold tkD; rw [List.length_map]
theorem len_un {un : List (Int × Int)} : (unD un).length = un.length := by unfold unD; rw [List.length_map]
theorem keys_tk {tk : List Int} : asInts ((tkD tk).map fun kv => keyD kv.1) = some tk := by
  unfold tkD
  rw [List.map_map]
  induction tk with
  | nil => rfl
  | cons a r ih =>
    show (match asInts (List.map ((fun kv => keyD kv.1) ∘ fun k => ((Sum.inl k : Key), D.bl true)) r) with
      | some s => some (a :: s)
      | none => none) = _
    rw [ih]
theorem keys_un {un : List (Int × Int)} : asInts ((unD un).map fun kv => keyD kv.1) = some (un.map (·.1)) := by
  unfold unD
  rw [List.map_map]
  induction un with
  | nil => rfl
  | cons a r ih =>
    show (match asInts (List.map ((fun kv => keyD kv.1) ∘ fun (p : Int × Int) => ((Sum.inl p.1 : Key), D.int p.2)) r) with
      | some s => some (a.1 :: s)
      | none => none) = _
    rw [ih]
    rfl
/-! ### tables in the store -/
section
variable {S : Sto} {t : Nat} {kvs : List (Key × D)} {d v : D} {k : Key}
theorem view_dk (h : S[t]? = some (.dk kvs)) : view S (.ref t) = .ref t := by
  show (match S[t]? with
    | some (.lst xs) => D.lst xs
    | _ => .ref t) = _
  rw [h]
theorem tab_dk_get (h : S[t]? = some (.dk kvs)) (hk : d.key = some k) : tabGet S t d = some (look kvs k) := by
  unfold tabGet
  rw [h]
  show d.key.map (fun k => look kvs k) = _
  rw [hk]
  rfl
theorem in_dk (h : S[t]? = some (.dk kvs)) (hk : d.key = some k) : evalC S .isin d (.ref t) = some (look kvs k).isSome ∧ evalC S .notin d (.ref t) = some (!(look kvs k).isSome) := by
  have e : isIn S d (.ref t) = some (look kvs k).isSome := by
    unfold isIn
    rw [view_dk h]
    show (tabGet S t d).map Option.isSome = _
    rw [tab_dk_get h hk]
    rfl
  refine ⟨?_, ?_⟩
  · exact (by cases d <;> rfl : evalC S .isin d (.ref t) = isIn S d (.ref t)).trans e
  · refine (by cases d <;> rfl : evalC S .notin d (.ref t) = (isIn S d (.ref t)).map (!·)).trans ?_
    rw [e]
    rfl
theorem isTab_dk (h : S[t]? = some (.dk kvs)) : isTab S t = true := by
  unfold isTab
  rw [h]
theorem get2_dk (h : S[t]? = some (.dk kvs)) (hk : d.key = some k) : recvOk S .get2 (.ref t) = true ∧ evalBm S .get2 (.ref t) [d, v] = some ((look kvs k).getD v, S) := by
  refine ⟨isTab_dk h, ?_⟩
  show (if isTab S t = true then (tabGet S t d).map fun o => (o.getD v, S) else none) = _
  rw [if_pos (isTab_dk h), tab_dk_get h hk]
  rfl
theorem get1_dk (h : S[t]? = some (.dk kvs)) (hk : d.key = some k) : recvOk S .get1 (.ref t) = true ∧ evalBm S .get1 (.ref t) [d] = some ((look kvs k).getD .non, S) := by
  refine ⟨isTab_dk h, ?_⟩
  show (if isTab S t = true then (tabGet S t d).map fun o => (o.getD .non, S) else none) = _
  rw [if_pos (isTab_dk h), tab_dk_get h hk]
  rfl
theorem ix_dk (h : S[t]? = some (.dk kvs)) (hk : d.key = some k) : evalIx S (.ref t) d = look kvs k := by
  unfold evalIx
  rw [view_dk h]
  show (tabGet S t d).bind id = _
  rw [tab_dk_get h hk]
  rfl
theorem set_dk (h : S[t]? = some (.dk kvs)) (hk : d.key = some k) (hl : kvs.length < sizeLine) : evalSet S (.ref t) d v = some (S.set t (.dk (put kvs k v))) := by
  show (match S[t]? with
    | some (.dk kvs) => if kvs.length < sizeLine then d.key.map fun k => S.set t (.dk (put kvs k v)) else none
    | some (.dt kvs) => _
    | some (.lst xs) => _
    | _ => none) = _
  rw [h]
  show (if kvs.length < sizeLine then d.key.map fun k => S.set t (.dk (put kvs k v)) else none) = _
  rw [if_pos hl, hk]
  rfl
theorem pop_dk (h : S[t]? = some (.dk kvs)) (hk : d.key = some k) (hv : look kvs k = some v) : recvOk S .pop (.ref t) = true ∧ evalBm S .pop (.ref t) [d] = some (v, S.set t (.dk (drop kvs k))) := by
  refine ⟨isTab_dk h, ?_⟩
  show (match S[t]? with
    | some (.dk kvs) => d.key.bind fun k => (look kvs k).map fun v => (v, S.set t (.dk (drop kvs k)))
    | _ => none) = _
  rw [h]
  show (d.key.bind fun k => (look kvs k).map fun v => (v, S.set t (.dk (drop kvs k)))) = _
  rw [hk]
  show ((look kvs k).map fun v => (v, S.set t (.dk (drop kvs k)))) = _
  rw [hv]
  rfl
theorem len_dk (h : S[t]? = some (.dk kvs)) : evalBi S .len [.ref t] = some (.int kvs.length) := by
  show (match view S (.ref t) with
    | .lst xs => some (D.int xs.length)
    | .tup xs => some (.int xs.length)
    | .str s => if s.length ≤ sizeLine then some (.int s.length) else none
    | .ref n => (match S[n]? with
      | some (.dk kvs) => some (.int kvs.length)
      | some (.dt kvs) => some (.int kvs.length)
      | _ => none)
    | _ => none) = _
  rw [view_dk h]
  show (match S[t]? with
      | some (.dk kvs) => some (D.int kvs.length)
      | some (.dt kvs) => some (.int kvs.length)
      | _ => none) = _
  rw [h]
theorem sorted_dk {is : List Int} (h : S[t]? = some (.dk kvs)) (ha : asInts (kvs.map fun (kv : Key × D) => keyD kv.1) = some is) (hl : is.length < 64) : evalBi S .sorted [.ref t] = some (.lst ((sortI is).map D.int)) := by
  show (match view S (.ref t) with
    | .lst xs => sortedD xs
    | .ref n => (match S[n]? with
      | some (.dk kvs) => (asInts (kvs.map fun (kv : Key × D) => keyD kv.1)).bind fun is => if is.length < 64 then some (D.lst ((sortI is).map D.int)) else none
      | _ => none)
    | _ => none) = _
  rw [view_dk h]
  show (match S[t]? with
      | some (.dk kvs) => (asInts (kvs.map fun (kv : Key × D) => keyD kv.1)).bind fun is => if is.length < 64 then some (D.lst ((sortI is).map D.int)) else none
      | _ => none) = _
  rw [h]
  show ((asInts (kvs.map fun (kv : Key × D) => keyD kv.1)).bind fun is => if is.length < 64 then some (D.lst ((sortI is).map D.int)) else none) = _
  rw [ha]
  show (if is.length < 64 then some (D.lst ((sortI is).map D.int)) else none) = _
  rw [if_pos hl]
theorem attr_ins {P : Prog} {C f : Str} {fs : List (Str × D)} (h : S[t]? = some (.ins C fs)) (ha : (P.ats.any fun p => decide (p.1 = C) && decide (p.2 = f)) = true) : attr P S (.ref t) f = fs.lookup f := by
  show (match S[t]? with
    | some (.ins C fs) => if (P.ats.any fun p => decide (p.1 = C) && decide (p.2 = f)) = true then fs.lookup f else none
    | _ => none) = _
  rw [h]
  show (if (P.ats.any fun p => decide (p.1 = C) && decide (p.2 = f)) = true then fs.lookup f else none) = _
  rw [if_pos ha]
theorem meth_ins {P : Prog} {C m : Str} {fs : List (Str × D)} (h : S[t]? = some (.ins C fs)) (ha : (fs.lookup m).isNone = true) : meth P S (.ref t) m = P.mt.lookup (C, m) := by
  show (match S[t]? with
    | some (.ins C fs) => if (fs.lookup m).isNone = true then P.mt.lookup (C, m) else none
    | _ => none) = _
  rw [h]
  show (if (fs.lookup m).isNone = true then P.mt.lookup (C, m) else none) = _
  rw [if_pos ha]
end
/-! ### the methods -/
def cIsFree : CDef := ⟨3, ["self", "number", "moment"],
  (.seq (.ite (.or (.cmp .lt (.var 1) (.at (.var 0) "low")) (.or (.cmp .gt (.var 1) (.at (.var 0) "high")) (.cmp .isin (.var 1) (.at (.var 0) "taken")))) (.seq (.ret (.bl false)) .skip) .skip) (.seq (.ret (.cmp .le (.bm (.at (.var 0) "until") .get2 (.cons (.var 1) (.cons (.int 0) .nil))) (.var 2))) .skip))⟩
def cPicked : CDef := ⟨4, ["self", "pick", "door", "moment", "number"],
  (.seq (.ite (.and (.cmp .eq (.var 1) (.str "keep")) (.me (.var 0) "is_free" (.cons (.var 2) (.cons (.var 3) .nil)))) (.seq (.ret (.var 2)) .skip) .skip) (.seq (.for (.one 4) (.seq (.bin .add (.lrng (.at (.var 0) "mark") (.bin .add (.at (.var 0) "high") (.int 1))) (.lrng (.at (.var 0) "low") (.at (.var 0) "mark")))) (.seq (.ite (.me (.var 0) "is_free" (.cons (.var 4) (.cons (.var 3) .nil))) (.seq (.ret (.var 4)) .skip) .skip) .skip)) (.seq (.ret .non) .skip)))⟩
def cTakeN : CDef := ⟨2, ["self", "number"],
  (.seq (.setI (.at (.var 0) "taken") (.var 1) (.bl true)) (.seq (.setA (.var 0) "mark" (.bin .add (.var 1) (.int 1))) (.seq (.ite (.cmp .eq (.var 1) (.at (.var 0) "high")) (.seq (.setA (.var 0) "mark" (.at (.var 0) "low")) .skip) .skip) .skip)))⟩
def cGive : CDef := ⟨3, ["self", "number", "until"],
  (.seq (.ex (.bm (.at (.var 0) "taken") .pop (.cons (.var 1) .nil))) (.seq (.setI (.at (.var 0) "until") (.var 1) (.var 2)) .skip))⟩
def cMany : CDef := ⟨2, ["self", "moment"],
  (.seq (.ret (.bin .sub (.bin .sub (.bin .add (.bin .sub (.at (.var 0) "high") (.at (.var 0) "low")) (.int 1)) (.bi .len (.cons (.at (.var 0) "taken") .nil))) (.bi .len (.cons (.me (.var 0) "resting" (.cons (.var 1) .nil)) .nil)))) .skip)⟩
def cRest (r : Bool) : CDef := ⟨2, ["self", "moment", "some", "number"],
  (.seq (.set 2 (.comp false [("number", 3)] (.one 3) (.seq (.bi .sorted (.cons (.at (.var 0) "until") .nil))) (.cmp .notin (.var 3) (.at (.var 0) "taken")) (.var 3))) (.seq (.ret (.comp r [("number", 3)] (.one 3) (.seq (.var 2)) (.cmp .gt (.ix (.at (.var 0) "until") (.var 3)) (.var 1)) (.tup (.cons (.var 3) (.cons (.ix (.at (.var 0) "until") (.var 3)) .nil))))) .skip))⟩
def cPool0 : CDef := ⟨3, ["self", "low", "high"],
  (.seq (.setA (.var 0) "low" (.var 1)) (.seq (.setA (.var 0) "high" (.var 2)) (.seq (.setA (.var 0) "taken" .dk0) (.seq (.setA (.var 0) "until" .dk0) (.seq (.setA (.var 0) "mark" (.var 1)) .skip)))))⟩

structure PoolP (P : Prog) (r : Bool) : Prop where
  ats : ∀ f ∈ [("low" : Str), "high", "taken", "until", "mark"], (P.ats.any fun q => decide (q.1 = ("Pool" : Str)) && decide (q.2 = f)) = true
  l0 : P.defs.lookup ("Pool.__init__" : Str) = some cPool0
  l1 : P.defs.lookup ("Pool.is_free" : Str) = some cIsFree
  l2 : P.defs.lookup ("Pool.picked" : Str) = some cPicked
  l3 : P.defs.lookup ("Pool.take" : Str) = some cTakeN
  l4 : P.defs.lookup ("Pool.give" : Str) = some cGive
  l5 : P.defs.lookup ("Pool.resting" : Str) = some (cRest r)
  l6 : P.defs.lookup ("Pool.many_free" : Str) = some cMany
  m0 : P.mt.lookup (("Pool" : Str), ("__init__" : Str)) = some ("Pool.__init__" : Str)
  m1 : P.mt.lookup (("Pool" : Str), ("is_free" : Str)) = some ("Pool.is_free" : Str)
  m2 : P.mt.lookup (("Pool" : Str), ("picked" : Str)) = some ("Pool.picked" : Str)
  m3 : P.mt.lookup (("Pool" : Str), ("take" : Str)) = some ("Pool.take" : Str)
  m4 : P.mt.lookup (("Pool" : Str), ("give" : Str)) = some ("Pool.give" : Str)
  m5 : P.mt.lookup (("Pool" : Str), ("resting" : Str)) = some ("Pool.resting" : Str)
  m6 : P.mt.lookup (("Pool" : Str), ("many_free" : Str)) = some ("Pool.many_free" : Str)
section
variable {P : Prog} {r : Bool} {n : Nat} {S : Sto} {o t u : Nat} {p : Pl}
theorem at_low (pp : PoolP P r) (h : PlAt S o t u p) : attr P S (.ref o) ("low" : Str) = some (.int p.low) := (attr_ins h.ho (pp.ats _ (by simp))).trans (by kernel_rfl)
theorem at_high (pp : PoolP P r) (h : PlAt S o t u p) : attr P S (.ref o) ("high" : Str) = some (.int p.high) := (attr_ins h.ho (pp.ats _ (by simp))).trans (by kernel_rfl)
theorem at_taken (pp : PoolP P r) (h : PlAt S o t u p) : attr P S (.ref o) ("taken" : Str) = some (.ref t) := (attr_ins h.ho (pp.ats _ (by simp))).trans (by kernel_rfl)
theorem at_until (pp : PoolP P r) (h : PlAt S o t u p) : attr P S (.ref o) ("until" : Str) = some (.ref u) := (attr_ins h.ho (pp.ats _ (by simp))).trans (by kernel_rfl)
theorem at_mark (pp : PoolP P r) (h : PlAt S o t u p) : attr P S (.ref o) ("mark" : Str) = some (.int p.mark) := (attr_ins h.ho (pp.ats _ (by simp))).trans (by kernel_rfl)
theorem me_free (pp : PoolP P r) (h : PlAt S o t u p) : meth P S (.ref o) ("is_free" : Str) = some ("Pool.is_free" : Str) := (meth_ins h.ho (by kernel_rfl)).trans pp.m1
theorem me_rest (pp : PoolP P r) (h : PlAt S o t u p) : meth P S (.ref o) ("resting" : Str) = some ("Pool.resting" : Str) := (meth_ins h.ho (by kernel_rfl)).trans pp.m5
theorem free_eq (pp : PoolP P r) (h : PlAt S o t u p) {a m : Int} : run P (n + 1) ("Pool.is_free" : Str) [.ref o, .int a, .int m] S = .ok (.bl (p.free a m)) S := by
  apply eq_of_wp
  refine wp_run pp.l1 rfl ?_
  have g := get2_dk (d := .int a) (v := .int 0) h.hu rfl
  simp only [cIsFree, ws_seq, ws_ite, ws_ret, ws_skip, wp_or, wp_cmp, wp_var, wp_at, wp_bm, wp_bl, wp_int, wps_cons, wps_nil, val, List.map_cons, List.map_nil, List.cons_append, List.nil_append, List.getElem?_cons_zero, List.getElem?_cons_succ, wo_some, at_low pp h, at_high pp h, at_taken pp h, at_until pp h, c_lt, c_gt, tr_bl, (in_dk (d := .int a) h.ht rfl).1, look_tk, g.1, g.2, look_un]
  have hg : evalC S .le (((getU p.un a).map D.int).getD (.int 0)) (.int m) = some (decide ((getU p.un a).getD 0 ≤ m)) := by cases getU p.un a <;> rfl
  rw [hg, wo_some]
  unfold Pl.free
  by_cases h1 : a < p.low
  · simp [h1]
  · by_cases h2 : p.high < a
    · simp [h1, h2]
    · by_cases h3 : a ∈ p.tk
      · simp [h1, h2, h3]
      · simp [h1, h2, h3]
theorem find_at {f : Int → Bool} : ∀ {xs : List Int} {i : Nat} {k : Int}, (∀ j, j < i → ∀ k, xs[j]? = some k → f k = false) → xs[i]? = some k → f k = true → xs.find? f = some k
  | [], i, k, _, h, _ => by cases i <;> cases h
  | x :: xs, 0, k, _, h, hk => by
    cases h
    rw [List.find?_cons_of_pos hk]
  | x :: xs, i + 1, k, hj, h, hk => by
    rw [List.find?_cons_of_neg (by rw [hj 0 (Nat.succ_pos _) x rfl]; decide)]
    exact find_at (fun j q => hj (j + 1) (Nat.succ_lt_succ q)) h hk
theorem find_no {f : Int → Bool} {xs : List Int} (h : ∀ j, j < xs.length → ∀ k, xs[j]? = some k → f k = false) : xs.find? f = none := by
  rw [List.find?_eq_none]
  intro x hx
  obtain ⟨j, hj⟩ := List.getElem?_of_mem hx
  rw [h j (List.getElem?_eq_some_iff.mp hj).1 x hj]
  decide
def optI : Option Int → D
  | some k => .int k
  | none => .non
theorem rngD_eq {i : Int} {n : Nat} : rngD i n = (rng i n).map D.int := by
  unfold rngD rng
  rw [List.map_map]
  rfl
structure Pl.Ok (p : Pl) : Prop where
  l0 : 0 ≤ p.low
  l1 : p.low ≤ p.mark
  l2 : p.mark ≤ p.high
  l3 : p.high < 20000
theorem picked_eq (pp : PoolP P r) (h : PlAt S o t u p) (ok : p.Ok) {way : Str} {door m : Int} : run P (n + 2) ("Pool.picked" : Str) [.ref o, .str way, .int door, .int m] S = .ok (optI (p.pick way door m)) S := by
  obtain ⟨l0, l1, l2, l3⟩ := ok
  apply eq_of_wp
  refine wp_run pp.l2 rfl ?_
  have fr : ∀ (a m : Int) (Q : D → Sto → Prop), Wp (run P (n + 1) ("Pool.is_free" : Str) [.ref o, .int a, .int m] S) Q = Q (.bl (p.free a m)) S := fun a m Q => wp_of_eq (free_eq pp h)
  simp only [cPicked]
  rw [ws_seq, ws_ite]
  simp only [wp_and, wp_cmp, wp_var, wp_str, wp_me, wps_cons, wps_nil, val, List.map_cons, List.map_nil, List.cons_append, List.nil_append, List.getElem?_cons_zero, List.getElem?_cons_succ, wo_some, c_eqS, tr_bl, me_free pp h, fr]
  have rest : Ws (exec P (run P (n + 1)) (.seq (.for (.one 4) (.seq (.bin .add (.lrng (.at (.var 0) "mark") (.bin .add (.at (.var 0) "high") (.int 1))) (.lrng (.at (.var 0) "low") (.at (.var 0) "mark")))) (.seq (.ite (.me (.var 0) "is_free" (.cons (.var 4) (.cons (.var 3) .nil))) (.seq (.ret (.var 4)) .skip) .skip) .skip)) (.seq (.ret .non) .skip)) [.val (.ref o), .val (.str way), .val (.int door), .val (.int m), .no] S)
      (fun _ S' => D.non = optI (p.row.find? fun k => p.free k m) ∧ S' = S) (fun d S' => d = optI (p.row.find? fun k => p.free k m) ∧ S' = S) := by
    rw [ws_seq, ws_for]
    simp only [wi_seq, wp_bin, wp_lrng, wp_var, wp_at, wp_int, val, List.getElem?_cons_zero, List.getElem?_cons_succ, wo_some, at_low pp h, at_high pp h, at_mark pp h, b_add, wo_if]
    refine ⟨⟨by omega, by omega, by omega, by omega, by omega⟩, ⟨by omega, by omega, by omega, by omega, by omega⟩, ?_⟩
    rw [b_lst, wo_if]
    refine ⟨by unfold rngD; simp only [List.length_map, List.length_range]; rw [sizeLine_eq]; omega, ?_⟩
    rw [rngD_eq, rngD_eq, ← List.map_append]
    show Ws (runF _ (.s (.free (p.row.map D.int))) _ _) _ _
    refine ws_loop (fun i e S' => S' = S ∧ (∃ s4, e = [Slot.val (.ref o), .val (.str way), .val (.int door), .val (.int m), s4]) ∧ ∀ j, j < i → ∀ k, p.row[j]? = some k → p.free k m = false) ⟨rfl, ⟨_, rfl⟩, fun j hj => absurd hj (Nat.not_lt_zero _)⟩ ?_ ?_
    · rintro i x e S' hx ⟨rfl, ⟨s4, rfl⟩, hj⟩
      rw [List.getElem?_map] at hx
      obtain ⟨k, hk, rfl⟩ := Option.map_eq_some_iff.mp hx
      rw [bt_one, wo_if]
      refine ⟨by simp, ?_⟩
      simp only [List.set_cons_zero, List.set_cons_succ]
      rw [ws_seq, ws_ite]
      simp only [wp_me, wp_var, wps_cons, wps_nil, val, List.getElem?_cons_zero, List.getElem?_cons_succ, wo_some, me_free pp h, fr, tr_bl]
      by_cases hf : p.free k m = true
      · rw [if_pos hf, ws_seq, ws_ret, wp_var]
        show Wo (some (D.int k)) _
        rw [wo_some, find_at hj hk hf]
        exact ⟨rfl, rfl⟩
      · rw [if_neg hf, ws_skip, ws_skip]
        refine ⟨rfl, ⟨_, rfl⟩, fun j hj2 k2 hk2 => ?_⟩
        by_cases e : j = i
        · subst e
          rw [hk] at hk2
          cases hk2
          simpa using hf
        · exact hj j (by omega) k2 hk2
    · rintro e S' ⟨rfl, ⟨s4, rfl⟩, hj⟩
      rw [List.length_map] at hj
      rw [ws_seq, ws_ret, wp_non, find_no hj]
      exact ⟨rfl, rfl⟩
  unfold Pl.pick
  cases hw : (way == "keep") with
  | false =>
    rw [if_neg (by decide), if_neg (by decide), ws_skip]
    exact rest
  | true =>
    rw [if_pos rfl]
    cases hf : p.free door m with
    | true =>
      rw [if_pos rfl, ws_seq, ws_ret, wp_var]
      exact ⟨rfl, rfl⟩
    | false =>
      rw [if_neg (by decide), ws_skip]
      exact rest
def setAt (P : Prog) (S : Sto) (o : Nat) (x : Str) (d : D) : Option Sto := match S[o]? with
  | some (.ins C fs) => if fs.length < 1000 ∧ (P.ats.any fun p => decide (p.1 = C) && decide (p.2 = x)) = true then some (S.set o (.ins C (putFD x d fs))) else none
  | _ => none
theorem ws_setV {R : Str → List D → Sto → Out D} {e : En} {N : En → Sto → Prop} {T : D → Sto → Prop} {i : Nat} {x : Str} {c : Ex} (hv : val e i = some (.ref o)) : Ws (exec P R (.setA (.var i) x c) e S) N T = Wp (eval P R c e S) fun d S => Wo (setAt P S o x d) fun S1 => N e S1 := by
  rw [ws_setA]
  congr 1
  funext d S
  rw [wp_var, hv]
  rfl
theorem setAt_ins {C x : Str} {fs : List (Str × D)} {d : D} (h : S[o]? = some (.ins C fs)) (hl : fs.length < 1000) (ha : (P.ats.any fun p => decide (p.1 = C) && decide (p.2 = x)) = true) : setAt P S o x d = some (S.set o (.ins C (putFD x d fs))) := by
  unfold setAt
  rw [h]
  show (if fs.length < 1000 ∧ _ then _ else none) = _
  rw [if_pos ⟨hl, ha⟩]
theorem put_mark {a b c d e v : D} : putFD ("mark" : Str) v ([("low", a), ("high", b), ("taken", c), ("until", d), ("mark", e)] : List (Str × D)) = ([("low", a), ("high", b), ("taken", c), ("until", d), ("mark", v)] : List (Str × D)) := by kernel_rfl
theorem set_mark (pp : PoolP P r) (h : PlAt S o t u p) {v : Int} : setAt P S o ("mark" : Str) (.int v) = some (S.set o (plO { p with mark := v } t u)) := by
  rw [setAt_ins h.ho (by simp) (pp.ats _ (by simp)), put_mark]
  rfl
theorem PlAt.setO (h : PlAt S o t u p) {v : Int} : PlAt (S.set o (plO { p with mark := v } t u)) o t u { p with mark := v } :=
  ⟨List.getElem?_set_self (lt_get h.ho), (List.getElem?_set_ne h.ot).trans h.ht, (List.getElem?_set_ne h.ou).trans h.hu, h.ot, h.ou, h.tu⟩
theorem PlAt.setT (h : PlAt S o t u p) {tk : List Int} {S' : Sto} (e : S' = S.set t (.dk (tkD tk))) : S'[o]? = some (plO p t u) ∧ PlAt S' o t u { p with tk := tk } := by
  subst e
  have z : (S.set t (.dk (tkD tk)))[o]? = some (plO p t u) := (List.getElem?_set_ne (Ne.symm h.ot)).trans h.ho
  exact ⟨z, z, List.getElem?_set_self (lt_get h.ht), (List.getElem?_set_ne h.tu).trans h.hu, h.ot, h.ou, h.tu⟩
def takeS (S : Sto) (o t u : Nat) (p : Pl) (k : Int) : Sto := (S.set t (.dk (tkD (p.take k).tk))).set o (plO (p.take k) t u)
theorem take_eq (pp : PoolP P r) (h : PlAt S o t u p) (hl : p.tk.length < 10000) {k : Int} : run P (n + 1) ("Pool.take" : Str) [.ref o, .int k] S = .ok .non (takeS S o t u p k) := by
  apply eq_of_wp
  refine wp_run pp.l3 rfl ?_
  simp only [cTakeN]
  rw [ws_seq, ws_setI]
  simp only [wp_bl, wp_var, wp_at, val, List.map_cons, List.map_nil, List.cons_append, List.nil_append, List.getElem?_cons_zero, List.getElem?_cons_succ, wo_some, at_taken pp h]
  rw [set_dk (d := .int k) h.ht rfl (by rw [len_tk, sizeLine_eq]; omega), put_tk, wo_some]
  obtain ⟨h0, h1⟩ := h.setT (tk := putT p.tk k) rfl
  rw [ws_seq, ws_setV (o := o) rfl]
  simp only [wp_bin, wp_var, wp_int, val, List.getElem?_cons_zero, List.getElem?_cons_succ, wo_some, b_add]
  rw [set_mark pp h1, wo_some]
  have h2 := h1.setO (v := k + 1)
  rw [ws_seq, ws_ite]
  simp only [wp_cmp, wp_var, wp_at, val, List.getElem?_cons_zero, List.getElem?_cons_succ, wo_some, at_high pp h2, c_eqI, tr_bl]
  by_cases e : k = p.high
  · have e1 : (k == p.high) = true := beq_iff_eq.mpr e
    rw [if_pos e1, ws_seq, ws_setV (o := o) rfl]
    simp only [wp_var, wp_at, val, List.getElem?_cons_zero, List.getElem?_cons_succ, wo_some, at_low pp h2]
    rw [set_mark pp h2, wo_some, ws_skip, ws_skip, List.set_set]
    refine ⟨trivial, ?_⟩
    unfold takeS Pl.take
    rw [if_pos e]
  · have e1 : ¬ (k == p.high) = true := fun z => e (beq_iff_eq.mp z)
    rw [if_neg e1, ws_skip, ws_skip]
    refine ⟨trivial, ?_⟩
    unfold takeS Pl.take
    rw [if_neg e]
def giveS (S : Sto) (t u : Nat) (p : Pl) (k v : Int) : Sto := (S.set t (.dk (tkD (p.give k v).tk))).set u (.dk (unD (p.give k v).un))
theorem give_eq (pp : PoolP P r) (h : PlAt S o t u p) (hl : p.un.length < 10000) {k v : Int} (hk : k ∈ p.tk) : run P (n + 1) ("Pool.give" : Str) [.ref o, .int k, .int v] S = .ok .non (giveS S t u p k v) := by
  apply eq_of_wp
  refine wp_run pp.l4 rfl ?_
  obtain ⟨w, hw⟩ : ∃ w, look (tkD p.tk) (.inl k : Key) = some w := by
    have z : (look (tkD p.tk) (.inl k : Key)).isSome = true := by rw [look_tk]; exact decide_eq_true hk
    exact Option.isSome_iff_exists.mp z
  have g := pop_dk (d := .int k) h.ht rfl hw
  simp only [cGive]
  rw [ws_seq, ws_ex]
  simp only [wp_bm, wp_var, wp_at, wps_cons, wps_nil, val, List.map_cons, List.map_nil, List.cons_append, List.nil_append, List.getElem?_cons_zero, List.getElem?_cons_succ, wo_some, at_taken pp h, g.1, g.2, true_and]
  rw [drop_tk]
  obtain ⟨h0, h1⟩ := h.setT (tk := p.tk.filter fun j => decide (j ≠ k)) rfl
  rw [ws_seq, ws_setI]
  simp only [wp_var, wp_at, val, List.getElem?_cons_zero, List.getElem?_cons_succ, wo_some, at_until pp h1]
  rw [set_dk (d := .int k) h1.hu rfl (by rw [len_un, sizeLine_eq]; exact Nat.lt_of_lt_of_le hl (by decide)), put_un, wo_some, ws_skip]
  exact rfl
theorem mem_insI {x k : Int} : ∀ {l : List Int}, k ∈ insI x l ↔ k = x ∨ k ∈ l
  | [] => by simp [insI]
  | y :: l => by
    unfold insI
    split
    · simp
    · rw [List.mem_cons, mem_insI, List.mem_cons]
      constructor
      · rintro (h | h | h)
        · exact .inr (.inl h)
        · exact .inl h
        · exact .inr (.inr h)
      · rintro (h | h | h)
        · exact .inr (.inl h)
        · exact .inl h
        · exact .inr (.inr h)
theorem mem_sortI {k : Int} : ∀ {l : List Int}, k ∈ sortI l ↔ k ∈ l
  | [] => by simp [sortI]
  | x :: l => by
    unfold sortI
    rw [mem_insI, mem_sortI, List.mem_cons]
theorem len_insI {x : Int} : ∀ {l : List Int}, (insI x l).length = l.length + 1
  | [] => rfl
  | y :: l => by
    unfold insI
    split
    · rfl
    · rw [List.length_cons, len_insI, List.length_cons]
theorem len_sortI : ∀ {l : List Int}, (sortI l).length = l.length
  | [] => rfl
  | x :: l => by
    unfold sortI
    rw [len_insI, len_sortI, List.length_cons]
theorem loop_filter {α : Type} {d : α → D} {g : D → Sto → Out (Option D)} {c : α → Bool} {f : α → D} : ∀ {xs : List α} {acc : List D} {S : Sto}, (∀ k ∈ xs, g (d k) S = .ok (if c k = true then some (f k) else none) S) → xs.length + acc.length < sizeLine →
    loopC g (fun _ => true) (xs.map d) acc S = .ok (acc ++ (xs.filter c).map f) S
  | [], acc, S, _, _ => by
    show (if true = true then Out.ok acc S else .bad) = _
    rw [if_pos rfl]
    simp
  | x :: xs, acc, S, hg, hl => by
    have e := hg x List.mem_cons_self
    show loopC g (fun _ => true) (d x :: xs.map d) acc S = _
    unfold loopC
    rw [if_pos rfl, e]
    rw [List.length_cons] at hl
    by_cases hc : c x = true
    · rw [if_pos hc]
      show (if acc.length < sizeLine then loopC g (fun _ => true) (xs.map d) (acc ++ [f x]) S else .bad) = _
      rw [if_pos (by omega), loop_filter (fun k hk => hg k (List.mem_cons_of_mem _ hk)) (by rw [List.length_append, List.length_singleton]; omega), List.filter_cons_of_pos hc]
      simp
    · rw [if_neg hc]
      show loopC g (fun _ => true) (xs.map d) acc S = _
      rw [loop_filter (fun k hk => hg k (List.mem_cons_of_mem _ hk)) (by omega), List.filter_cons_of_neg hc]
theorem getU_mem {un : List (Int × Int)} {k : Int} (h : k ∈ un.map (·.1)) : ∃ v, getU un k = some v := by
  unfold getU
  obtain ⟨q, hq, rfl⟩ := List.mem_map.mp h
  cases z : un.find? fun p => decide (p.1 = q.1) with
  | none =>
    have := List.find?_eq_none.mp z q hq
    simp at this
  | some w => exact ⟨w.2, rfl⟩
def rowsD (rs : List (Int × Int)) : List D := rs.map fun q => .tup [.int q.1, .int q.2]
theorem rest_rows {p : Pl} {m : Int} : ((((sortI (p.un.map (·.1))).filter fun k => !decide (k ∈ p.tk)).filter fun k => decide (m < (getU p.un k).getD 0)).map fun k => D.tup [.int k, .int ((getU p.un k).getD 0)]) = rowsD (p.rest m) := by
  unfold Pl.rest rowsD
  have hm : ∀ k ∈ (sortI (p.un.map (·.1))).filter fun k => !decide (k ∈ p.tk), k ∈ p.un.map (·.1) := fun k hk => mem_sortI.mp (List.mem_filter.mp hk).1
  revert hm
  generalize (sortI (p.un.map (·.1))).filter (fun k => !decide (k ∈ p.tk)) = l
  induction l with
  | nil => intro _; rfl
  | cons x l ih =>
    intro hm
    obtain ⟨v, hv⟩ := getU_mem (hm x List.mem_cons_self)
    have ih := ih fun k hk => hm k (List.mem_cons_of_mem _ hk)
    rw [List.filter_cons, List.filterMap_cons, hv]
    by_cases h : m < v
    · simp only [Option.getD_some, h, decide_true, if_true, List.map_cons, ih, hv]
    · simp only [Option.getD_some, h, decide_false, if_false, Bool.false_eq_true, ih]
theorem rest_eq (pp : PoolP P r) (h : PlAt S o t u p) (hl : p.un.length < 64) {m : Int} : run P (n + 1) ("Pool.resting" : Str) [.ref o, .int m] S = (if r = true then .ok (.ref S.length) (S ++ [.lst (rowsD (p.rest m))]) else .ok (.lst (rowsD (p.rest m))) S) := by
  have q : Wp (run P (n + 1) ("Pool.resting" : Str) [.ref o, .int m] S) (fun d S' => if r = true then d = .ref S.length ∧ S' = S ++ [.lst (rowsD (p.rest m))] else d = .lst (rowsD (p.rest m)) ∧ S' = S) := by
    refine wp_run pp.l5 rfl ?_
    simp only [cRest]
    rw [ws_seq, ws_set, wp_comp]
    simp only [wi_seq, wp_bi, wp_at, wp_var, wps_cons, wps_nil, val, List.map_cons, List.map_nil, List.cons_append, List.nil_append, List.getElem?_cons_zero, List.getElem?_cons_succ, wo_some, at_until pp h]
    rw [sorted_dk h.hu keys_un (by rw [List.length_map]; exact hl), wo_some]
    show Wp (loopC _ (fun _ => true) ((sortI (p.un.map (·.1))).map D.int) [] S) _
    rw [loop_filter (d := D.int) (c := fun k => !decide (k ∈ p.tk)) (f := D.int) (fun k _ => ?_) (by rw [len_sortI, List.length_map, List.length_nil, sizeLine_eq]; omega)]
    · rw [wp_ok, if_neg (by decide)]
      refine ⟨by simp, ?_⟩
      rw [ws_seq, ws_ret, wp_comp]
      simp only [wi_seq, wp_var, val, List.nil_append, List.replicate_succ, List.replicate_zero, List.length_cons, List.length_nil, List.set_cons_zero, List.set_cons_succ, List.getElem?_cons_zero, List.getElem?_cons_succ, wo_some]
      show Wp (loopC _ (fun _ => true) (((sortI (p.un.map (·.1))).filter fun k => !decide (k ∈ p.tk)).map D.int) [] S) _
      rw [loop_filter (d := D.int) (c := fun k => decide (m < (getU p.un k).getD 0)) (f := fun k => D.tup [.int k, .int ((getU p.un k).getD 0)]) (fun k hk => ?_) (by
        have := List.length_filter_le (fun k => !decide (k ∈ p.tk)) (sortI (p.un.map (·.1)))
        rw [len_sortI, List.length_map] at this
        rw [List.length_nil, sizeLine_eq]
        omega)]
      · rw [wp_ok, rest_rows]
        cases r <;> exact ⟨rfl, rfl⟩
      · obtain ⟨v, hv⟩ := getU_mem (mem_sortI.mp (List.mem_filter.mp hk).1)
        apply eq_of_wp
        rw [wc_body]
        have ix : evalIx S (.ref u) (.int k) = some (.int v) := by rw [ix_dk (k := .inl k) h.hu rfl, look_un, hv]; rfl
        simp only [bt_one, wipeE, List.map_cons, List.map_nil, wp_cmp, wp_ix, wp_at, wp_var, wp_tup, wps_cons, wps_nil, val, List.length_cons, List.length_nil, List.set_cons_zero, List.set_cons_succ, List.getElem?_cons_zero, List.getElem?_cons_succ, wo_some, wo_if, at_until pp h, ix, c_gt, tr_bl, hv]
        refine ⟨by decide, ?_⟩
        by_cases hc : m < v
        · rw [if_pos (by simpa using hc)]
          refine ⟨by rw [sizeLine_eq]; omega, ?_⟩
          simp [hc]
        · rw [if_neg (by simpa using hc)]
          simp [hc]
    · apply eq_of_wp
      rw [wc_body]
      simp only [bt_one, wipeE, List.map_cons, List.map_nil, wp_cmp, wp_at, wp_var, val, List.replicate_succ, List.replicate_zero, List.length_cons, List.length_nil, List.set_cons_zero, List.set_cons_succ, List.getElem?_cons_zero, List.getElem?_cons_succ, wo_some, wo_if, at_taken pp h, (in_dk (d := .int k) h.ht rfl).2, look_tk, tr_bl]
      refine ⟨by decide, ?_⟩
      by_cases hc : k ∈ p.tk
      · rw [if_neg (by simp [hc])]
        simp [hc]
      · rw [if_pos (by simp [hc])]
        simp [hc]
  cases r with
  | true => exact eq_of_wp q
  | false => exact eq_of_wp q
theorem many_eq (pp : PoolP P r) (h : PlAt S o t u p) (hl : p.un.length < 64) {m : Int} : run P (n + 2) ("Pool.many_free" : Str) [.ref o, .int m] S = .ok (.int (p.many m)) (if r = true then S ++ [.lst (rowsD (p.rest m))] else S) := by
  apply eq_of_wp
  refine wp_run pp.l6 rfl ?_
  have re := rest_eq (n := n) pp h hl (m := m)
  simp only [cMany]
  rw [ws_seq, ws_ret]
  simp only [wp_bin, wp_bi, wp_at, wp_var, wp_int, wp_me, wps_cons, wps_nil, val, List.map_cons, List.map_nil, List.cons_append, List.nil_append, List.getElem?_cons_zero, List.getElem?_cons_succ, wo_some, at_low pp h, at_high pp h, at_taken pp h, b_sub, b_add, len_dk h.ht, me_rest pp h]
  cases r with
  | true =>
    rw [if_pos rfl] at re
    rw [re, wp_ok]
    have hv : view (S ++ [Ob.lst (rowsD (p.rest m))]) (.ref S.length) = .lst (rowsD (p.rest m)) := view_ref (by rw [List.getElem?_append_right (Nat.le_refl _), Nat.sub_self]; rfl)
    have hb : evalBi (S ++ [Ob.lst (rowsD (p.rest m))]) .len [.ref S.length] = some (.int (rowsD (p.rest m)).length) := by
      show (match view (S ++ [Ob.lst (rowsD (p.rest m))]) (.ref S.length) with
        | .lst xs => some (D.int xs.length)
        | .tup xs => some (.int xs.length)
        | .str s => if s.length ≤ sizeLine then some (.int s.length) else none
        | .ref n => (match (S ++ [Ob.lst (rowsD (p.rest m))])[n]? with
          | some (.dk kvs) => some (.int kvs.length)
          | some (.dt kvs) => some (.int kvs.length)
          | _ => none)
        | _ => none) = _
      rw [hv]
    rw [hb, wo_some, b_sub, wo_some]
    refine ⟨?_, (if_pos rfl).symm⟩
    unfold Pl.many rowsD
    rw [len_tk, List.length_map]
  | false =>
    rw [if_neg (by decide)] at re
    rw [re, wp_ok]
    have hb : evalBi S .len [.lst (rowsD (p.rest m))] = some (.int (rowsD (p.rest m)).length) := rfl
    rw [hb, wo_some, b_sub, wo_some]
    refine ⟨?_, (if_neg (by decide)).symm⟩
    unfold Pl.many rowsD
    rw [len_tk, List.length_map]
theorem ws_setA_o {R : Str → List D → Sto → Out D} {e : En} {N : En → Sto → Prop} {T : D → Sto → Prop} {i : Nat} {x C : Str} {c : Ex} {d : D} {S1 : Sto} {fs fs' : List (Str × D)} (hv : val e i = some (.ref o)) (hc : eval P R c e S = .ok d S1) (h : S1[o]? = some (.ins C fs)) (hl : fs.length < 1000) (ha : (P.ats.any fun p => decide (p.1 = C) && decide (p.2 = x)) = true) (hf : putFD x d fs = fs')
    (k : N e (S1.set o (.ins C fs'))) : Ws (exec P R (.setA (.var i) x c) e S) N T := by
  rw [ws_setV hv, wp_of_eq hc, setAt_ins h hl ha, hf]
  exact k
theorem init_eq (pp : PoolP P r) (h : S[o]? = some (.ins ("Pool" : Str) [])) {low high : Int} : ∃ S', run P (n + 1) ("Pool.__init__" : Str) [.ref o, .int low, .int high] S = .ok .non S' ∧ PlAt S' o S.length (S.length + 1) ⟨low, high, low, [], []⟩ ∧ S'.length = S.length + 2 ∧ ∀ i, i < S.length → i ≠ o → S'[i]? = S[i]? := by
  have ho : o < S.length := lt_get h
  have q : Wp (run P (n + 1) ("Pool.__init__" : Str) [.ref o, .int low, .int high] S) (fun d S' => d = .non ∧ PlAt S' o S.length (S.length + 1) ⟨low, high, low, [], []⟩ ∧ S'.length = S.length + 2 ∧ ∀ i, i < S.length → i ≠ o → S'[i]? = S[i]?) := by
    refine wp_run pp.l0 rfl ?_
    simp only [cPool0]
    have at_ : ∀ f ∈ [("low" : Str), "high", "taken", "until", "mark"], (P.ats.any fun q => decide (q.1 = ("Pool" : Str)) && decide (q.2 = f)) = true := pp.ats
    have g : ∀ (S : Sto) (x : Ob), o < S.length → (S.set o x)[o]? = some x := fun S x hx => List.getElem?_set_self hx
    rw [ws_seq]
    refine ws_setA_o (o := o) (C := "Pool") (d := .int low) (S1 := S) (fs := []) (fs' := [("low", .int low)]) rfl rfl h (by simp) (at_ _ (by simp)) (by kernel_rfl) ?_
    rw [ws_seq]
    refine ws_setA_o (o := o) (C := "Pool") (d := .int high) (fs := [("low", .int low)]) (fs' := [("low", .int low), ("high", .int high)]) rfl rfl (g _ _ ho) (by simp) (at_ _ (by simp)) (by kernel_rfl) ?_
    rw [List.set_set, ws_seq]
    generalize h1 : S.set o (.ins ("Pool" : Str) [("low", .int low), ("high", .int high)]) = S1
    have l1 : S1.length = S.length := by rw [← h1, List.length_set]
    have f1 : ∀ i, i ≠ o → S1[i]? = S[i]? := fun i hi => by rw [← h1, List.getElem?_set_ne (Ne.symm hi)]
    have g1 : (S1 ++ [Ob.dk []])[o]? = some (.ins ("Pool" : Str) [("low", .int low), ("high", .int high)]) := by rw [List.getElem?_append_left (by omega), ← h1]; exact g _ _ ho
    refine ws_setA_o (o := o) (C := "Pool") (d := .ref S1.length) (S1 := S1 ++ [.dk []]) (fs' := [("low", .int low), ("high", .int high), ("taken", .ref S1.length)]) rfl (by rw [eval]) g1 (by simp) (at_ _ (by simp)) (by kernel_rfl) ?_
    generalize h2 : (S1 ++ [Ob.dk []]).set o (.ins ("Pool" : Str) [("low", .int low), ("high", .int high), ("taken", .ref S1.length)]) = S2
    have l2 : S2.length = S.length + 1 := by rw [← h2, List.length_set, List.length_append, l1]; rfl
    have f2 : ∀ i, i ≠ o → i < S.length → S2[i]? = S[i]? := fun i hi hl => by rw [← h2, List.getElem?_set_ne (Ne.symm hi), List.getElem?_append_left (by omega), f1 i hi]
    have t2 : S2[S.length]? = some (.dk []) := by rw [← h2, List.getElem?_set_ne (by omega), List.getElem?_append_right (by omega), l1, Nat.sub_self]; rfl
    have g2 : (S2 ++ [Ob.dk []])[o]? = some (.ins ("Pool" : Str) [("low", .int low), ("high", .int high), ("taken", .ref S1.length)]) := by rw [List.getElem?_append_left (by omega), ← h2]; exact g _ _ (by rw [List.length_append]; omega)
    rw [ws_seq]
    refine ws_setA_o (o := o) (C := "Pool") (d := .ref S2.length) (S1 := S2 ++ [.dk []]) (fs' := [("low", .int low), ("high", .int high), ("taken", .ref S1.length), ("until", .ref S2.length)]) rfl (by rw [eval]) g2 (by simp) (at_ _ (by simp)) (by kernel_rfl) ?_
    generalize h3 : (S2 ++ [Ob.dk []]).set o (.ins ("Pool" : Str) [("low", .int low), ("high", .int high), ("taken", .ref S1.length), ("until", .ref S2.length)]) = S3
    have l3 : S3.length = S.length + 2 := by rw [← h3, List.length_set, List.length_append, l2]; rfl
    have f3 : ∀ i, i ≠ o → i < S.length → S3[i]? = S[i]? := fun i hi hl => by rw [← h3, List.getElem?_set_ne (Ne.symm hi), List.getElem?_append_left (by omega), f2 i hi hl]
    have t3 : S3[S.length]? = some (.dk []) := by rw [← h3, List.getElem?_set_ne (by omega), List.getElem?_append_left (by omega), t2]
    have u3 : S3[S.length + 1]? = some (.dk []) := by rw [← h3, List.getElem?_set_ne (by omega), List.getElem?_append_right (by omega), l2, Nat.sub_self]; rfl
    have g3 : S3[o]? = some (.ins ("Pool" : Str) [("low", .int low), ("high", .int high), ("taken", .ref S1.length), ("until", .ref S2.length)]) := by rw [← h3]; exact g _ _ (by rw [List.length_append]; omega)
    rw [ws_seq]
    refine ws_setA_o (o := o) (C := "Pool") (d := .int low) (S1 := S3) (fs' := [("low", .int low), ("high", .int high), ("taken", .ref S1.length), ("until", .ref S2.length), ("mark", .int low)]) rfl rfl g3 (by simp) (at_ _ (by simp)) (by kernel_rfl) ?_
    rw [ws_skip]
    refine ⟨trivial, ⟨?_, ?_, ?_, by omega, by omega, by omega⟩, ?_, fun i hi hne => ?_⟩
    · rw [g _ _ (by omega), l1, l2]
      rfl
    · rw [List.getElem?_set_ne (by omega)]
      exact t3
    · rw [List.getElem?_set_ne (by omega)]
      exact u3
    · rw [List.length_set, l3]
    · rw [List.getElem?_set_ne (Ne.symm hne)]
      exact f3 i hne hi
  obtain ⟨d, S', e, rfl, q1, q2, q3⟩ := wp_get q
  exact ⟨S', e, q1, q2, q3⟩
end
end Z


/-! ZEnds: what the looks at deeds compute. -/
namespace Z.Ends
open PySem Z
def cis_whole : CDef := ⟨1, ["thing"],
  (.seq (.ret (.and (.isi (.var 0) .int) (.not (.isi (.var 0) .bool)))) .skip)⟩
def cis_within : CDef := ⟨3, ["thing", "low", "high"],
  (.seq (.ret (.and (.call "is_whole" (.cons (.var 0) .nil)) (.chain .le .le (.var 1) (.var 0) (.var 2)))) .skip)⟩
def cis_door : CDef := ⟨1, ["thing"],
  (.seq (.ret (.call "is_within" (.cons (.var 0) (.cons (.int 1) (.cons (.int 9999) .nil))))) .skip)⟩
def cis_place : CDef := ⟨2, ["thing", "least"],
  (.seq (.ret (.call "is_within" (.cons (.var 0) (.cons (.var 1) (.cons (.int 1000000) .nil))))) .skip)⟩
def cis_kind : CDef := ⟨1, ["thing"],
  (.seq (.ret (.and (.isi (.var 0) .str) (.cmp .isin (.var 0) (.gl "KINDS")))) .skip)⟩
def cis_text : CDef := ⟨1, ["thing", "sign"],
  (.seq (.ite (.or (.not (.isi (.var 0) .str)) (.cmp .gt (.bi .len (.cons (.var 0) .nil)) (.int 40))) (.seq (.ret (.bl false)) .skip) .skip) (.seq (.ret (.bi .all (.cons (.comp false [("sign", 1)] (.one 1) (.seq (.var 0)) (.bl true) (.and (.chain .le .le (.str " ") (.var 1) (.str "~")) (.not (.chain .lt .lt (.str "$") (.var 1) (.str "&"))))) .nil))) .skip))⟩
def cis_said : CDef := ⟨3, ["kind", "word", "text"],
  (.seq (.ite (.or (.not (.call "is_kind" (.cons (.var 0) .nil))) (.or (.not (.isi (.var 1) .str)) (.not (.call "is_text" (.cons (.var 2) .nil))))) (.seq (.ret (.bl false)) .skip) .skip) (.seq (.ret (.or (.and (.cmp .eq (.var 0) (.str "note")) (.cmp .eq (.var 1) (.str "say"))) (.and (.cmp .eq (.var 0) (.str "line")) (.cmp .isin (.var 1) (.gl "WORDS"))))) .skip))⟩
def cis_house_door : CDef := ⟨2, ["house", "door"],
  (.seq (.ret (.and (.call "is_within" (.cons (.var 0) (.cons (.int 0) (.cons (.int 99) .nil)))) (.call "is_door" (.cons (.var 1) .nil)))) .skip)⟩
def cis_out : CDef := ⟨1, ["deed"],
  (.seq (.ite (.or (.not (.call "is_house_door" (.cons (.ix (.var 0) (.int 2)) (.cons (.ix (.var 0) (.int 3)) .nil)))) (.or (.not (.call "is_place" (.cons (.ix (.var 0) (.int 4)) (.cons (.int 0) .nil)))) (.not (.call "is_door" (.cons (.ix (.var 0) (.int 5)) .nil))))) (.seq (.ret (.bl false)) .skip) .skip) (.seq (.ret (.call "is_said" (.cons (.ix (.var 0) (.int 1)) (.cons (.ix (.var 0) (.int 6)) (.cons (.ix (.var 0) (.int 7)) .nil))))) .skip))⟩
def cis_come : CDef := ⟨1, ["deed"],
  (.seq (.ite (.or (.not (.call "is_place" (.cons (.ix (.var 0) (.int 2)) (.cons (.int 1) .nil)))) (.or (.not (.call "is_door" (.cons (.ix (.var 0) (.int 3)) .nil))) (.not (.call "is_door" (.cons (.ix (.var 0) (.int 4)) .nil))))) (.seq (.ret (.bl false)) .skip) .skip) (.seq (.ret (.call "is_said" (.cons (.ix (.var 0) (.int 1)) (.cons (.ix (.var 0) (.int 5)) (.cons (.ix (.var 0) (.int 6)) .nil))))) .skip))⟩
def cis_lost : CDef := ⟨1, ["deed"],
  (.seq (.ite (.or (.not (.call "is_place" (.cons (.ix (.var 0) (.int 1)) (.cons (.int 1) .nil)))) (.or (.not (.call "is_kind" (.cons (.ix (.var 0) (.int 2)) .nil))) (.not (.call "is_door" (.cons (.ix (.var 0) (.int 3)) .nil))))) (.seq (.ret (.bl false)) .skip) .skip) (.seq (.ret (.and (.call "is_place" (.cons (.ix (.var 0) (.int 4)) (.cons (.int 1) .nil))) (.call "is_door" (.cons (.ix (.var 0) (.int 5)) .nil)))) .skip))⟩
def cis_rule : CDef := ⟨1, ["deed"],
  (.seq (.ite (.or (.not (.call "is_kind" (.cons (.ix (.var 0) (.int 1)) .nil))) (.not (.call "is_door" (.cons (.ix (.var 0) (.int 2)) .nil)))) (.seq (.ret (.bl false)) .skip) .skip) (.seq (.ite (.and (.cmp .notN (.ix (.var 0) (.int 3)) .non) (.not (.call "is_place" (.cons (.ix (.var 0) (.int 3)) (.cons (.int 0) .nil))))) (.seq (.ret (.bl false)) .skip) .skip) (.seq (.ret (.call "is_house_door" (.cons (.ix (.var 0) (.int 4)) (.cons (.ix (.var 0) (.int 5)) .nil)))) .skip)))⟩
def cis_deed : CDef := ⟨1, ["thing"],
  (.seq (.ite (.or (.not (.isi (.var 0) .tuple)) (.or (.cmp .eq (.bi .len (.cons (.var 0) .nil)) (.int 0)) (.not (.isi (.ix (.var 0) (.int 0)) .str)))) (.seq (.ret (.bl false)) .skip) .skip) (.seq (.ite (.cmp .ne (.tget "PARTS" (.ix (.var 0) (.int 0)) (.int 0)) (.bi .len (.cons (.var 0) .nil))) (.seq (.ret (.bl false)) .skip) .skip) (.seq (.ite (.cmp .eq (.ix (.var 0) (.int 0)) (.str "out")) (.seq (.ret (.call "is_out" (.cons (.var 0) .nil))) .skip) .skip) (.seq (.ite (.cmp .eq (.ix (.var 0) (.int 0)) (.str "come")) (.seq (.ret (.call "is_come" (.cons (.var 0) .nil))) .skip) .skip) (.seq (.ite (.cmp .eq (.ix (.var 0) (.int 0)) (.str "lost")) (.seq (.ret (.call "is_lost" (.cons (.var 0) .nil))) .skip) .skip) (.seq (.ite (.cmp .eq (.ix (.var 0) (.int 0)) (.str "rule")) (.seq (.ret (.call "is_rule" (.cons (.var 0) .nil))) .skip) .skip) (.seq (.ret (.call "is_within" (.cons (.ix (.var 0) (.int 1)) (.cons (.int 0) (.cons (.int 1000000) .nil))))) .skip)))))))⟩
structure EndsOk (P : Prog) : Prop where
  lk1 : P.defs.lookup ("is_whole" : Str) = some cis_whole
  lk2 : P.defs.lookup ("is_within" : Str) = some cis_within
  lk3 : P.defs.lookup ("is_door" : Str) = some cis_door
  lk4 : P.defs.lookup ("is_place" : Str) = some cis_place
  lk5 : P.defs.lookup ("is_kind" : Str) = some cis_kind
  lk6 : P.defs.lookup ("is_text" : Str) = some cis_text
  lk7 : P.defs.lookup ("is_said" : Str) = some cis_said
  lk8 : P.defs.lookup ("is_house_door" : Str) = some cis_house_door
  lk9 : P.defs.lookup ("is_out" : Str) = some cis_out
  lk10 : P.defs.lookup ("is_come" : Str) = some cis_come
  lk11 : P.defs.lookup ("is_lost" : Str) = some cis_lost
  lk12 : P.defs.lookup ("is_rule" : Str) = some cis_rule
  lk13 : P.defs.lookup ("is_deed" : Str) = some cis_deed
  glK : P.gl.lookup ("KINDS" : Str) = some (.ctup [.str "note", .str "line"])
  glW : P.gl.lookup ("WORDS" : Str) = some (.ctup [.str "open", .str "say", .str "close", .str "break"])
  tabP : P.tabs.lookup ("PARTS" : Str) = some (.k [(.inr "out", .int 8), (.inr "come", .int 7), (.inr "lost", .int 6), (.inr "wait", .int 2), (.inr "rule", .int 6), (.inr "unrule", .int 2)])
variable {P : Prog}
theorem szT {k : Nat} (h : k < 16777216) : k < sizeLine := by rw [sizeLine_eq]; exact h
theorem szL {k : Nat} (h : k ≤ 16777216) : k ≤ sizeLine := by rw [sizeLine_eq]; exact h

/-! ### what a part is, plainly -/
def isI : D → Bool
  | .int _ => true
  | _ => false
def isS : D → Bool
  | .str _ => true
  | _ => false
def inB (lo hi : Int) : D → Bool
  | .int i => decide (lo ≤ i) && decide (i ≤ hi)
  | _ => false
def isK : D → Bool
  | .str s => s == "note" || s == "line"
  | _ => false
/-- a part as the law makes it -/
def Okd (d : D) : Prop := d.pure = true ∧ ∀ s, d = .str s → s.length ≤ 1000
section
variable {S : Sto} {n : Nat} {d : D}
theorem ty_int (h : d.pure = true) : ∃ k, isTy d S .int = some k ∧ (k = false → isI d = false) ∧ (k = true → ∃ c, isTy d S .bool = some c ∧ isI d = !c) := by
  cases d with
  | non => exact ⟨false, rfl, fun _ => rfl, fun h => by cases h⟩
  | bl b => exact ⟨true, rfl, (fun h => by cases h), fun _ => ⟨true, rfl, rfl⟩⟩
  | int i => exact ⟨true, rfl, (fun h => by cases h), fun _ => ⟨false, rfl, rfl⟩⟩
  | str s => exact ⟨false, rfl, fun _ => rfl, fun h => by cases h⟩
  | tup xs => exact ⟨false, rfl, fun _ => rfl, fun h => by cases h⟩
  | lst xs => exact ⟨false, rfl, fun _ => rfl, fun h => by cases h⟩
  | ctup xs => cases h
  | ref i => cases h
theorem whole_eq (E : EndsOk P) (h : d.pure = true) : Z.run P (n + 1) ("is_whole" : Str) [d] S = .ok (.bl (isI d)) S := by
  apply eq_of_wp
  refine wp_run E.lk1 rfl ?_
  obtain ⟨k, e, h1, h2⟩ := ty_int (S := S) h
  simp only [cis_whole, ws_seq, ws_ret, ws_skip, wp_and, wp_isi, wp_not, wp_var, val, List.map_cons, List.map_nil, List.cons_append, List.nil_append, List.getElem?_cons_zero, List.getElem?_cons_succ, List.set_cons_zero, List.set_cons_succ, List.replicate_succ, List.replicate_zero, List.length_cons, List.length_nil, wo_some, e, tr_bl]
  cases k with
  | false =>
    rw [if_neg (by decide), h1 rfl]
    first | exact ⟨rfl, rfl⟩ | exact ⟨rfl, trivial⟩
  | true =>
    obtain ⟨c, e2, e3⟩ := h2 rfl
    rw [if_pos (by decide), e2, e3]
    first | exact ⟨rfl, rfl⟩ | exact ⟨rfl, trivial⟩
theorem within_eq (E : EndsOk P) (h : d.pure = true) {lo hi : Int} : Z.run P (n + 2) ("is_within" : Str) [d, .int lo, .int hi] S = .ok (.bl (inB lo hi d)) S := by
  apply eq_of_wp
  refine wp_run E.lk2 rfl ?_
  simp only [cis_within, ws_seq, ws_ret, ws_skip, wp_and, wp_chain, wp_call, wp_var, wps_cons, wps_nil, val, List.map_cons, List.map_nil, List.cons_append, List.nil_append, List.getElem?_cons_zero, List.getElem?_cons_succ, List.set_cons_zero, List.set_cons_succ, List.replicate_succ, List.replicate_zero, List.length_cons, List.length_nil, wo_some]
  rw [whole_eq E h, wp_ok, tr_bl, wo_some]
  cases d with
  | int i =>
    rw [if_pos (by rfl)]
    show Wo (some (decide (lo ≤ i))) _
    rw [wo_some]
    by_cases h1 : lo ≤ i
    · rw [if_pos (by simpa using h1)]
      first | refine ⟨?_, rfl⟩ | refine ⟨?_, trivial⟩
      simp [inB, h1]
    · rw [if_neg (by simpa using h1)]
      first | refine ⟨?_, rfl⟩ | refine ⟨?_, trivial⟩
      simp [inB, h1]
  | _ => first | exact ⟨rfl, rfl⟩ | exact ⟨rfl, trivial⟩
theorem door_eq (E : EndsOk P) (h : d.pure = true) : Z.run P (n + 3) ("is_door" : Str) [d] S = .ok (.bl (inB 1 9999 d)) S := by
  apply eq_of_wp
  refine wp_run E.lk3 rfl ?_
  simp only [cis_door, ws_seq, ws_ret, ws_skip, wp_call, wp_var, wp_int, wps_cons, wps_nil, val, List.map_cons, List.map_nil, List.cons_append, List.nil_append, List.getElem?_cons_zero, List.getElem?_cons_succ, List.set_cons_zero, List.set_cons_succ, List.replicate_succ, List.replicate_zero, List.length_cons, List.length_nil, wo_some]
  rw [within_eq E h, wp_ok]
  first | exact ⟨rfl, rfl⟩ | exact ⟨rfl, trivial⟩
theorem place_eq (E : EndsOk P) (h : d.pure = true) {lo : Int} : Z.run P (n + 3) ("is_place" : Str) [d, .int lo] S = .ok (.bl (inB lo 1000000 d)) S := by
  apply eq_of_wp
  refine wp_run E.lk4 rfl ?_
  simp only [cis_place, ws_seq, ws_ret, ws_skip, wp_call, wp_var, wp_int, wps_cons, wps_nil, val, List.map_cons, List.map_nil, List.cons_append, List.nil_append, List.getElem?_cons_zero, List.getElem?_cons_succ, List.set_cons_zero, List.set_cons_succ, List.replicate_succ, List.replicate_zero, List.length_cons, List.length_nil, wo_some]
  rw [within_eq E h, wp_ok]
  first | exact ⟨rfl, rfl⟩ | exact ⟨rfl, trivial⟩
theorem hdoor_eq (E : EndsOk P) {d' : D} (h : d.pure = true) (h' : d'.pure = true) : Z.run P (n + 4) ("is_house_door" : Str) [d, d'] S = .ok (.bl (inB 0 99 d && inB 1 9999 d')) S := by
  apply eq_of_wp
  refine wp_run E.lk8 rfl ?_
  simp only [cis_house_door, ws_seq, ws_ret, ws_skip, wp_and, wp_call, wp_var, wp_int, wps_cons, wps_nil, val, List.map_cons, List.map_nil, List.cons_append, List.nil_append, List.getElem?_cons_zero, List.getElem?_cons_succ, List.set_cons_zero, List.set_cons_succ, List.replicate_succ, List.replicate_zero, List.length_cons, List.length_nil, wo_some]
  rw [within_eq E (n := n + 1) h, wp_ok, tr_bl, wo_some]
  cases inB 0 99 d with
  | false =>
    rw [if_neg (by decide)]
    first | exact ⟨rfl, rfl⟩ | exact ⟨rfl, trivial⟩
  | true =>
    rw [if_pos rfl, door_eq E h', wp_ok]
    first | exact ⟨rfl, rfl⟩ | exact ⟨rfl, trivial⟩
theorem in_strs {s : Str} {xs : List Str} : (xs.map D.str).any (fun z => D.eqv z (.str s)) = xs.any (fun z => z == s) := by
  rw [List.any_map]
  rfl
theorem kind_eq (E : EndsOk P) (h : d.pure = true) : Z.run P (n + 1) ("is_kind" : Str) [d] S = .ok (.bl (isK d)) S := by
  apply eq_of_wp
  refine wp_run E.lk5 rfl ?_
  simp only [cis_kind, ws_seq, ws_ret, ws_skip, wp_and, wp_isi, wp_cmp, wp_gl, wp_var, val, List.map_cons, List.map_nil, List.cons_append, List.nil_append, List.getElem?_cons_zero, List.getElem?_cons_succ, List.set_cons_zero, List.set_cons_succ, List.replicate_succ, List.replicate_zero, List.length_cons, List.length_nil, wo_some, E.glK]
  cases d with
  | str s =>
    show Wo (some true) _
    rw [wo_some, tr_bl, wo_some, if_pos rfl]
    show Wo (some ([D.str "note", D.str "line"].any fun z => D.eqv z (.str s))) _
    rw [wo_some]
    first | refine ⟨?_, rfl⟩ | refine ⟨?_, trivial⟩
    show D.bl ((("note" : Str) == s) || ((("line" : Str) == s) || false)) = D.bl (s == ("note" : Str) || s == ("line" : Str))
    rw [Bool.or_false, BEq.comm (a := ("note" : Str)), BEq.comm (a := ("line" : Str))]
  | ctup xs => cases h
  | ref i => cases h
  | _ => first | exact ⟨rfl, rfl⟩ | exact ⟨rfl, trivial⟩
end
def sg (c : Nat) : D := .str ⟨#[c]⟩
def okc (c : Nat) : Bool := (decide (32 ≤ c) && decide (c ≤ 126)) && !(decide (36 < c) && decide (c < 38))
def isT : D → Bool
  | .str s => decide (s.length ≤ 40) && s.cps.toList.all okc
  | _ => false
theorem bools_map {α : Type} {f : α → Bool} : ∀ xs : List α, bools (xs.map fun c => D.bl (f c)) = some (xs.map f)
  | [] => rfl
  | x :: xs => by
    show (match bools (xs.map fun c => D.bl (f c)) with
      | some s => some (f x :: s)
      | none => none) = _
    rw [bools_map xs]
    rfl
theorem lt_sg {S : Sto} {a b : Nat} : evalC S .lt (sg a) (sg b) = some (decide (a < b)) ∧ evalC S .gt (sg a) (sg b) = some (decide (b < a)) ∧ evalC S .le (sg a) (sg b) = some (decide (a ≤ b)) := by
  have h : ∀ a b : Nat, decide ([a] < [b]) = decide (a < b) := fun a b => by
    have e : ([a] < [b]) ↔ a < b := by
      rw [List.cons_lt_cons_iff]
      simp
    exact decide_eq_decide.mpr e
  refine ⟨?_, ?_, ?_⟩
  · show some (decide ([a] < [b])) = _
    rw [h]
  · show some (decide ([b] < [a])) = _
    rw [h]
  · show some (!decide ([b] < [a])) = _
    rw [h]
    congr 1
    by_cases z : b < a
    · simp [z]
    · simp [z]; omega
section
variable {S : Sto} {n : Nat} {d : D}
theorem text_eq (E : EndsOk P) (h : Okd d) : Z.run P (n + 1) ("is_text" : Str) [d] S = .ok (.bl (isT d)) S := by
  apply eq_of_wp
  refine wp_run E.lk6 rfl ?_
  obtain ⟨hp, hs⟩ := h
  simp only [cis_text]
  rw [ws_seq, ws_ite]
  simp only [wp_or, wp_not, wp_isi, wp_cmp, wp_bi, wp_var, wp_int, wps_cons, wps_nil, val, List.map_cons, List.map_nil, List.cons_append, List.nil_append, List.getElem?_cons_zero, List.getElem?_cons_succ, List.set_cons_zero, List.set_cons_succ, List.replicate_succ, List.replicate_zero, List.length_cons, List.length_nil, wo_some]
  cases d with
  | str s =>
    have hl := hs s rfl
    show Wo (some true) _
    rw [wo_some, tr_bl, wo_some]
    try simp only [tr_bl, wo_some]
    rw [if_neg (by decide)]
    have e : evalBi S .len [.str s] = some (.int s.length) := if_pos (show s.length ≤ sizeLine by rw [sizeLine_eq]; omega)
    rw [e, wo_some, c_gt, wo_some]
    try simp only [tr_bl, wo_some]
    by_cases h40 : s.length ≤ 40
    · rw [if_neg (by simp; omega), ws_skip, ws_seq, ws_ret]
      simp only [wp_bi, wp_comp, wi_seq, wp_var, wps_cons, wps_nil, val, List.map_cons, List.map_nil, List.cons_append, List.nil_append, List.getElem?_cons_zero, List.getElem?_cons_succ, List.set_cons_zero, List.set_cons_succ, List.replicate_succ, List.replicate_zero, List.length_cons, List.length_nil, wo_some]
      show Wp (loopC _ (fun _ => true) (s.cps.toList.map sg) [] S) _
      rw [loop_filter (d := sg) (c := fun _ => true) (f := fun c => D.bl (okc c)) (fun c _ => ?_) (by
        show s.cps.toList.length + 0 < sizeLine
        have : s.cps.toList.length = s.length := rfl
        rw [sizeLine_eq]
        omega)]
      · rw [wp_ok, if_neg (by decide), List.nil_append, List.filter_eq_self.mpr (fun _ _ => rfl)]
        have e2 : evalBi S .all [.lst (s.cps.toList.map fun c => D.bl (okc c))] = some (.bl ((s.cps.toList.map okc).all id)) := by
          show ((bools (s.cps.toList.map fun c => D.bl (okc c))).map fun bs => D.bl (bs.all id)) = _
          rw [bools_map]
          rfl
        rw [e2, wo_some]
        refine ⟨?_, by first | rfl | trivial⟩
        unfold isT
        rw [List.all_map]
        simp [h40] <;> rfl
      · apply eq_of_wp
        rw [wc_body]
        simp only [bt_one, wipeE, List.map_cons, List.map_nil, wp_and, wp_chain, wp_not, wp_bl, wp_str, wp_var, val, List.map_cons, List.map_nil, List.cons_append, List.nil_append, List.getElem?_cons_zero, List.getElem?_cons_succ, List.set_cons_zero, List.set_cons_succ, List.replicate_succ, List.replicate_zero, List.length_cons, List.length_nil, wo_some, wo_if, tr_bl]
        refine ⟨by simp, ?_⟩
        rw [if_pos trivial]
        have s1 : (D.str (" " : Str)) = sg 32 := rfl
        have s2 : (D.str ("~" : Str)) = sg 126 := rfl
        have s3 : (D.str ("$" : Str)) = sg 36 := rfl
        have s4 : (D.str ("&" : Str)) = sg 38 := rfl
        rw [s1, s2, s3, s4, (lt_sg (S := S) (a := 32) (b := c)).2.2, wo_some]
        have g1 := (lt_sg (S := S) (a := c) (b := 126)).2.2
        have g2 := (lt_sg (S := S) (a := 36) (b := c)).1
        have g3 := (lt_sg (S := S) (a := c) (b := 38)).1
        unfold okc
        cases e1 : decide (32 ≤ c) <;> cases e2 : decide (c ≤ 126) <;> cases e3 : decide (36 < c) <;> cases e4 : decide (c < 38) <;> simp [g1, g2, g3, e1, e2, e3, e4, wo_some, tr_bl]
    · rw [if_pos (by simp; omega), ws_seq, ws_ret, wp_bl]
      refine ⟨?_, by first | rfl | trivial⟩
      unfold isT
      simp [h40]
  | ctup xs => cases hp
  | ref i => cases hp
  | _ =>
    show Wo (some false) _
    rw [wo_some]
    try simp only [tr_bl, wo_some]
    rw [if_pos (by decide), ws_seq, ws_ret, wp_bl]
    first | exact ⟨rfl, rfl⟩ | exact ⟨rfl, trivial⟩
theorem view_pure (h : d.pure = true) : view S d = d := by
  cases d with
  | ref i => cases h
  | _ => rfl
def eqS (d : D) (s : Str) : Bool := match d with
  | .str t => t == s
  | _ => false
theorem c_eqD {s : Str} (h : d.pure = true) : evalC S .eq d (.str s) = some (eqS d s) ∧ evalC S .ne d (.str s) = some (!eqS d s) := by
  have hc : ((view S d).pure && (view S (.str s)).pure) = true ∧ min (view S d).depth (view S (.str s)).depth ≤ 60 := by
    rw [view_pure h]
    refine ⟨by rw [h]; rfl, ?_⟩
    show min d.depth 0 ≤ 60
    omega
  have e : D.eqv (view S d) (view S (.str s)) = eqS d s := by
    rw [view_pure h]
    cases d <;> rfl
  constructor
  · show (if ((view S d).pure && (view S (.str s)).pure) = true ∧ min (view S d).depth (view S (.str s)).depth ≤ 60 then some (D.eqv (view S d) (view S (.str s))) else none) = _
    rw [if_pos hc, e]
  · show (if ((view S d).pure && (view S (.str s)).pure) = true ∧ min (view S d).depth (view S (.str s)).depth ≤ 60 then some (!D.eqv (view S d) (view S (.str s))) else none) = _
    rw [if_pos hc, e]
def inS (d : D) (ws : List Str) : Bool := ws.any fun w => eqS d w
theorem strs_pure : ∀ ws : List Str, D.pures (ws.map D.str) = true ∧ D.depths (ws.map D.str) = 0
  | [] => ⟨rfl, rfl⟩
  | w :: ws => by
    obtain ⟨a, b⟩ := strs_pure ws
    refine ⟨a, ?_⟩
    show max 0 (D.depths (ws.map D.str)) = 0
    rw [b]
    rfl
theorem any_strs (ws : List Str) : (ws.map D.str).any (fun z => D.eqv z d) = inS d ws := by
  rw [List.any_map]
  unfold inS
  congr 1
  funext w
  cases d with
  | str t =>
    show (w == t) = (t == w)
    exact BEq.comm
  | _ => rfl
theorem in_core (h : d.pure = true) (ws : List Str) : (if (d.pure && D.pures (ws.map D.str)) = true ∧ min (D.depths (ws.map D.str)) d.depth ≤ 60 then some ((ws.map D.str).any fun z => D.eqv z d) else none) = some (inS d ws) := by
  rw [if_pos ⟨by rw [h, (strs_pure ws).1]; rfl, by rw [(strs_pure ws).2]; omega⟩, any_strs]
theorem in_ctup (h : d.pure = true) (ws : List Str) : evalC S .isin d (.ctup (ws.map D.str)) = some (inS d ws) := in_core h ws
theorem in_tup (h : d.pure = true) (ws : List Str) : evalC S .isin d (.tup (ws.map D.str)) = some (inS d ws) ∧ evalC S .notin d (.tup (ws.map D.str)) = some (!inS d ws) :=
  ⟨in_core h ws, (congrArg (Option.map (!·)) (in_core h ws))⟩
theorem in_lst (h : d.pure = true) (ws : List Str) : evalC S .isin d (.lst (ws.map D.str)) = some (inS d ws) ∧ evalC S .notin d (.lst (ws.map D.str)) = some (!inS d ws) :=
  ⟨in_core h ws, (congrArg (Option.map (!·)) (in_core h ws))⟩
theorem ty_str (h : d.pure = true) : isTy d S .str = some (isS d) := by
  cases d with
  | ref i => cases h
  | ctup xs => cases h
  | _ => rfl
def saidB (k w x : D) : Bool := (isK k && (isS w && isT x)) && ((eqS k "note" && eqS w "say") || (eqS k "line" && inS w ["open", "say", "close", "break"]))
theorem said_eq (E : EndsOk P) {k w x : D} (hk : k.pure = true) (hw : w.pure = true) (hx : Okd x) : Z.run P (n + 2) ("is_said" : Str) [k, w, x] S = .ok (.bl (saidB k w x)) S := by
  apply eq_of_wp
  refine wp_run E.lk7 rfl ?_
  simp only [cis_said]
  rw [ws_seq, ws_ite]
  simp only [wp_or, wp_not, wp_isi, wp_call, wp_var, wps_cons, wps_nil, val, List.map_cons, List.map_nil, List.cons_append, List.nil_append, List.getElem?_cons_zero, List.getElem?_cons_succ, List.set_cons_zero, List.set_cons_succ, List.replicate_succ, List.replicate_zero, List.length_cons, List.length_nil, wo_some]
  rw [kind_eq E (n := n) hk, wp_ok]
  try simp only [tr_bl, wo_some]
  unfold saidB
  cases isK k with
  | false =>
    rw [if_pos (by decide)]
    try simp only [tr_bl, wo_some]
    rw [if_pos (by decide), ws_seq, ws_ret, wp_bl]
    first | exact ⟨rfl, rfl⟩ | exact ⟨rfl, trivial⟩
  | true =>
    rw [if_neg (by decide), ty_str hw]
    try simp only [tr_bl, wo_some]
    cases isS w with
    | false =>
      rw [if_pos (by decide)]
      try simp only [tr_bl, wo_some]
      rw [if_pos (by decide), ws_seq, ws_ret, wp_bl]
      first | exact ⟨rfl, rfl⟩ | exact ⟨rfl, trivial⟩
    | true =>
      rw [if_neg (by decide), text_eq E (n := n) hx, wp_ok]
      try simp only [tr_bl, wo_some]
      cases isT x with
      | false =>
        rw [if_pos (by decide), ws_seq, ws_ret, wp_bl]
        first | exact ⟨rfl, rfl⟩ | exact ⟨rfl, trivial⟩
      | true =>
        rw [if_neg (by decide), ws_skip, ws_seq, ws_ret]
        simp only [wp_or, wp_and, wp_cmp, wp_str, wp_gl, wp_var, val, List.map_cons, List.map_nil, List.cons_append, List.nil_append, List.getElem?_cons_zero, List.getElem?_cons_succ, List.set_cons_zero, List.set_cons_succ, List.replicate_succ, List.replicate_zero, List.length_cons, List.length_nil, wo_some, (c_eqD hk).1, (c_eqD hw).1, E.glW, tr_bl]
        have e := in_ctup (S := S) hw [("open" : Str), "say", "close", "break"]
        simp only [List.map_cons, List.map_nil] at e
        rw [e, wo_some]
        cases eqS k "note" <;> cases eqS w "say" <;> cases eqS k "line" <;> cases inS w ["open", "say", "close", "break"] <;> simp
end
def outB : List D → Bool
  | [_, x1, x2, x3, x4, x5, x6, x7] => (inB 0 99 x2 && inB 1 9999 x3) && (inB 0 1000000 x4 && (inB 1 9999 x5 && saidB x1 x6 x7))
  | _ => false
def comeB : List D → Bool
  | [_, x1, x2, x3, x4, x5, x6] => inB 1 1000000 x2 && (inB 1 9999 x3 && (inB 1 9999 x4 && saidB x1 x5 x6))
  | _ => false
def lostB : List D → Bool
  | [_, x1, x2, x3, x4, x5] => inB 1 1000000 x1 && (isK x2 && (inB 1 9999 x3 && (inB 1 1000000 x4 && inB 1 9999 x5)))
  | _ => false
def isN : D → Bool
  | .non => true
  | _ => false
def ruleB : List D → Bool
  | [_, x1, x2, x3, x4, x5] => isK x1 && (inB 1 9999 x2 && ((isN x3 || inB 0 1000000 x3) && (inB 0 99 x4 && inB 1 9999 x5)))
  | _ => false
section
variable {S : Sto} {n : Nat} {x0 x1 x2 x3 x4 x5 x6 x7 : D}
theorem out_eq (E : EndsOk P) (h1 : Okd x1) (h2 : Okd x2) (h3 : Okd x3) (h4 : Okd x4) (h5 : Okd x5) (h6 : Okd x6) (h7 : Okd x7) : Z.run P (n + 5) ("is_out" : Str) [.tup [x0, x1, x2, x3, x4, x5, x6, x7]] S = .ok (.bl (outB [x0, x1, x2, x3, x4, x5, x6, x7])) S := by
  apply eq_of_wp
  refine wp_run E.lk9 rfl ?_
  have i : ∀ (k : Int), evalIx S (.tup [x0, x1, x2, x3, x4, x5, x6, x7]) (.int k) = L2.atI [x0, x1, x2, x3, x4, x5, x6, x7] k := fun k => ix_tup
  have i1 : L2.atI [x0, x1, x2, x3, x4, x5, x6, x7] 1 = some x1 := rfl
  have i2 : L2.atI [x0, x1, x2, x3, x4, x5, x6, x7] 2 = some x2 := rfl
  have i3 : L2.atI [x0, x1, x2, x3, x4, x5, x6, x7] 3 = some x3 := rfl
  have i4 : L2.atI [x0, x1, x2, x3, x4, x5, x6, x7] 4 = some x4 := rfl
  have i5 : L2.atI [x0, x1, x2, x3, x4, x5, x6, x7] 5 = some x5 := rfl
  have i6 : L2.atI [x0, x1, x2, x3, x4, x5, x6, x7] 6 = some x6 := rfl
  have i7 : L2.atI [x0, x1, x2, x3, x4, x5, x6, x7] 7 = some x7 := rfl
  have c1 := fun Q => wp_of_eq (Q := Q) (hdoor_eq E (S := S) (n := n) h2.1 h3.1)
  have c2 := fun Q => wp_of_eq (Q := Q) (place_eq E (S := S) (n := n + 1) (lo := 0) h4.1)
  have c3 := fun Q => wp_of_eq (Q := Q) (door_eq E (S := S) (n := n + 1) h5.1)
  have c4 := fun Q => wp_of_eq (Q := Q) (said_eq E (S := S) (n := n + 2) h1.1 h6.1 h7)
  simp only [cis_out, outB, ws_seq, ws_ite, ws_ret, ws_skip, wp_or, wp_not, wp_ix, wp_call, wp_var, wp_int, wp_bl, wps_cons, wps_nil, val, List.map_cons, List.map_nil, List.cons_append, List.nil_append, List.getElem?_cons_zero, List.getElem?_cons_succ, List.set_cons_zero, List.set_cons_succ, List.replicate_succ, List.replicate_zero, List.length_cons, List.length_nil, wo_some, i, i1, i2, i3, i4, i5, i6, i7, tr_bl, c1, c2, c3, c4]
  cases inB 0 99 x2 && inB 1 9999 x3 <;> cases inB 0 1000000 x4 <;> cases inB 1 9999 x5 <;> simp
theorem come_eq (E : EndsOk P) (h1 : Okd x1) (h2 : Okd x2) (h3 : Okd x3) (h4 : Okd x4) (h5 : Okd x5) (h6 : Okd x6) : Z.run P (n + 5) ("is_come" : Str) [.tup [x0, x1, x2, x3, x4, x5, x6]] S = .ok (.bl (comeB [x0, x1, x2, x3, x4, x5, x6])) S := by
  apply eq_of_wp
  refine wp_run E.lk10 rfl ?_
  have i : ∀ (k : Int), evalIx S (.tup [x0, x1, x2, x3, x4, x5, x6]) (.int k) = L2.atI [x0, x1, x2, x3, x4, x5, x6] k := fun k => ix_tup
  have i1 : L2.atI [x0, x1, x2, x3, x4, x5, x6] 1 = some x1 := rfl
  have i2 : L2.atI [x0, x1, x2, x3, x4, x5, x6] 2 = some x2 := rfl
  have i3 : L2.atI [x0, x1, x2, x3, x4, x5, x6] 3 = some x3 := rfl
  have i4 : L2.atI [x0, x1, x2, x3, x4, x5, x6] 4 = some x4 := rfl
  have i5 : L2.atI [x0, x1, x2, x3, x4, x5, x6] 5 = some x5 := rfl
  have i6 : L2.atI [x0, x1, x2, x3, x4, x5, x6] 6 = some x6 := rfl
  have c1 := fun Q => wp_of_eq (Q := Q) (place_eq E (S := S) (n := n + 1) (lo := 1) h2.1)
  have c2 := fun Q => wp_of_eq (Q := Q) (door_eq E (S := S) (n := n + 1) h3.1)
  have c3 := fun Q => wp_of_eq (Q := Q) (door_eq E (S := S) (n := n + 1) h4.1)
  have c4 := fun Q => wp_of_eq (Q := Q) (said_eq E (S := S) (n := n + 2) h1.1 h5.1 h6)
  simp only [cis_come, comeB, ws_seq, ws_ite, ws_ret, ws_skip, wp_or, wp_not, wp_ix, wp_call, wp_var, wp_int, wp_bl, wps_cons, wps_nil, val, List.map_cons, List.map_nil, List.cons_append, List.nil_append, List.getElem?_cons_zero, List.getElem?_cons_succ, List.set_cons_zero, List.set_cons_succ, List.replicate_succ, List.replicate_zero, List.length_cons, List.length_nil, wo_some, i, i1, i2, i3, i4, i5, i6, tr_bl, c1, c2, c3, c4]
  cases inB 1 1000000 x2 <;> cases inB 1 9999 x3 <;> cases inB 1 9999 x4 <;> simp
theorem lost_eq (E : EndsOk P) (h1 : Okd x1) (h2 : Okd x2) (h3 : Okd x3) (h4 : Okd x4) (h5 : Okd x5) : Z.run P (n + 5) ("is_lost" : Str) [.tup [x0, x1, x2, x3, x4, x5]] S = .ok (.bl (lostB [x0, x1, x2, x3, x4, x5])) S := by
  apply eq_of_wp
  refine wp_run E.lk11 rfl ?_
  have i : ∀ (k : Int), evalIx S (.tup [x0, x1, x2, x3, x4, x5]) (.int k) = L2.atI [x0, x1, x2, x3, x4, x5] k := fun k => ix_tup
  have i1 : L2.atI [x0, x1, x2, x3, x4, x5] 1 = some x1 := rfl
  have i2 : L2.atI [x0, x1, x2, x3, x4, x5] 2 = some x2 := rfl
  have i3 : L2.atI [x0, x1, x2, x3, x4, x5] 3 = some x3 := rfl
  have i4 : L2.atI [x0, x1, x2, x3, x4, x5] 4 = some x4 := rfl
  have i5 : L2.atI [x0, x1, x2, x3, x4, x5] 5 = some x5 := rfl
  have c1 := fun Q => wp_of_eq (Q := Q) (place_eq E (S := S) (n := n + 1) (lo := 1) h1.1)
  have c2 := fun Q => wp_of_eq (Q := Q) (kind_eq E (S := S) (n := n + 3) h2.1)
  have c3 := fun Q => wp_of_eq (Q := Q) (door_eq E (S := S) (n := n + 1) h3.1)
  have c4 := fun Q => wp_of_eq (Q := Q) (place_eq E (S := S) (n := n + 1) (lo := 1) h4.1)
  have c5 := fun Q => wp_of_eq (Q := Q) (door_eq E (S := S) (n := n + 1) h5.1)
  simp only [cis_lost, lostB, ws_seq, ws_ite, ws_ret, ws_skip, wp_or, wp_and, wp_not, wp_ix, wp_call, wp_var, wp_int, wp_bl, wps_cons, wps_nil, val, List.map_cons, List.map_nil, List.cons_append, List.nil_append, List.getElem?_cons_zero, List.getElem?_cons_succ, List.set_cons_zero, List.set_cons_succ, List.replicate_succ, List.replicate_zero, List.length_cons, List.length_nil, wo_some, i, i1, i2, i3, i4, i5, tr_bl, c1, c2, c3, c4, c5]
  cases inB 1 1000000 x1 <;> cases isK x2 <;> cases inB 1 9999 x3 <;> cases inB 1 1000000 x4 <;> simp
theorem c_notN (d : D) : evalC S .notN d .non = some (!isN d) := by cases d <;> rfl
theorem rule_eq (E : EndsOk P) (h1 : Okd x1) (h2 : Okd x2) (h3 : Okd x3) (h4 : Okd x4) (h5 : Okd x5) : Z.run P (n + 5) ("is_rule" : Str) [.tup [x0, x1, x2, x3, x4, x5]] S = .ok (.bl (ruleB [x0, x1, x2, x3, x4, x5])) S := by
  apply eq_of_wp
  refine wp_run E.lk12 rfl ?_
  have i : ∀ (k : Int), evalIx S (.tup [x0, x1, x2, x3, x4, x5]) (.int k) = L2.atI [x0, x1, x2, x3, x4, x5] k := fun k => ix_tup
  have i1 : L2.atI [x0, x1, x2, x3, x4, x5] 1 = some x1 := rfl
  have i2 : L2.atI [x0, x1, x2, x3, x4, x5] 2 = some x2 := rfl
  have i3 : L2.atI [x0, x1, x2, x3, x4, x5] 3 = some x3 := rfl
  have i4 : L2.atI [x0, x1, x2, x3, x4, x5] 4 = some x4 := rfl
  have i5 : L2.atI [x0, x1, x2, x3, x4, x5] 5 = some x5 := rfl
  have c1 := fun Q => wp_of_eq (Q := Q) (kind_eq E (S := S) (n := n + 3) h1.1)
  have c2 := fun Q => wp_of_eq (Q := Q) (door_eq E (S := S) (n := n + 1) h2.1)
  have c3 := fun Q => wp_of_eq (Q := Q) (place_eq E (S := S) (n := n + 1) (lo := 0) h3.1)
  have c4 := fun Q => wp_of_eq (Q := Q) (hdoor_eq E (S := S) (n := n) h4.1 h5.1)
  simp only [cis_rule, ruleB, ws_seq, ws_ite, ws_ret, ws_skip, wp_or, wp_and, wp_not, wp_cmp, wp_non, wp_ix, wp_call, wp_var, wp_int, wp_bl, wps_cons, wps_nil, val, List.map_cons, List.map_nil, List.cons_append, List.nil_append, List.getElem?_cons_zero, List.getElem?_cons_succ, List.set_cons_zero, List.set_cons_succ, List.replicate_succ, List.replicate_zero, List.length_cons, List.length_nil, wo_some, i, i1, i2, i3, i4, i5, tr_bl, c_notN, c1, c2, c3, c4]
  cases isK x1 <;> cases inB 1 9999 x2 <;> cases isN x3 <;> cases inB 0 1000000 x3 <;> simp
end
def oneB : List D → Bool
  | [_, x1] => inB 0 1000000 x1
  | _ => false
theorem out_len {xs : List D} (h : outB xs = true) : xs.length = 8 := by
  unfold outB at h
  split at h
  · rfl
  · cases h
theorem come_len {xs : List D} (h : comeB xs = true) : xs.length = 7 := by
  unfold comeB at h
  split at h
  · rfl
  · cases h
theorem lost_len {xs : List D} (h : lostB xs = true) : xs.length = 6 := by
  unfold lostB at h
  split at h
  · rfl
  · cases h
theorem rule_len {xs : List D} (h : ruleB xs = true) : xs.length = 6 := by
  unfold ruleB at h
  split at h
  · rfl
  · cases h
theorem one_len {xs : List D} (h : oneB xs = true) : xs.length = 2 := by
  unfold oneB at h
  split at h
  · rfl
  · cases h
def deedB : D → Bool
  | .tup (.str s :: r) => if s = "out" then outB (.str s :: r) else if s = "come" then comeB (.str s :: r) else if s = "lost" then lostB (.str s :: r) else if s = "rule" then ruleB (.str s :: r)
    else if s = "wait" ∨ s = "unrule" then oneB (.str s :: r) else false
  | _ => false
theorem deedB_str {s : Str} {r : List D} : deedB (.tup (.str s :: r)) = if s = "out" then outB (.str s :: r) else if s = "come" then comeB (.str s :: r) else if s = "lost" then lostB (.str s :: r) else if s = "rule" then ruleB (.str s :: r) else if s = "wait" ∨ s = "unrule" then oneB (.str s :: r) else false := rfl
def pn (s : Str) : Int := if s = "out" then 8 else if s = "come" then 7 else if s = "lost" then 6 else if s = "wait" then 2 else if s = "rule" then 6 else if s = "unrule" then 2 else 0
theorem tab_pn (E : EndsOk P) (s : Str) : tabAt (P.tabs.lookup ("PARTS" : Str)) (.str s) (.int 0) = some (.int (pn s)) := by
  rw [E.tabP]
  show some ((look [((Sum.inr "out" : L2.Key), D.int 8), (.inr "come", .int 7), (.inr "lost", .int 6), (.inr "wait", .int 2), (.inr "rule", .int 6), (.inr "unrule", .int 2)] (.inr s)).getD (.int 0)) = _
  unfold look pn
  have q : ∀ a : Str, decide ((Sum.inr a : L2.Key) = .inr s) = decide (s = a) := fun a => decide_eq_decide.mpr ⟨fun h => (Sum.inr.inj h).symm, fun h => by rw [h]⟩
  simp only [List.find?_cons, List.find?_nil, q]
  by_cases h1 : s = "out"
  · subst h1
    kernel_rfl
  by_cases h2 : s = "come"
  · subst h2
    kernel_rfl
  by_cases h3 : s = "lost"
  · subst h3
    kernel_rfl
  by_cases h4 : s = "wait"
  · subst h4
    kernel_rfl
  by_cases h5 : s = "rule"
  · subst h5
    kernel_rfl
  by_cases h6 : s = "unrule"
  · subst h6
    kernel_rfl
  simp [h1, h2, h3, h4, h5, h6]
theorem at0 {x : D} {r : List D} : L2.atI (x :: r) 0 = some x := by
  unfold L2.atI L2.ixN
  rw [if_pos (by decide), if_pos (by simp <;> omega)]
  rfl
theorem len1 {r : List D} (h : r.length = 1) : ∃ a, r = [a] := match r, h with
  | [a], _ => ⟨a, rfl⟩
theorem len5 {r : List D} (h : r.length = 5) : ∃ a b c d e, r = [a, b, c, d, e] := match r, h with
  | [a, b, c, d, e], _ => ⟨a, b, c, d, e, rfl⟩
theorem len6 {r : List D} (h : r.length = 6) : ∃ a b c d e f, r = [a, b, c, d, e, f] := match r, h with
  | [a, b, c, d, e, f], _ => ⟨a, b, c, d, e, f, rfl⟩
theorem len7 {r : List D} (h : r.length = 7) : ∃ a b c d e f g, r = [a, b, c, d, e, f, g] := match r, h with
  | [a, b, c, d, e, f, g], _ => ⟨a, b, c, d, e, f, g, rfl⟩
section
variable {S : Sto} {n : Nat}
theorem deed_eq (E : EndsOk P) {thing : D} (h : (∃ xs, thing = .tup xs ∧ ∀ x ∈ xs, Okd x) ∨ ∃ xs, thing = .lst xs) : Z.run P (n + 6) ("is_deed" : Str) [thing] S = .ok (.bl (deedB thing)) S := by
  apply eq_of_wp
  refine wp_run E.lk13 rfl ?_
  simp only [cis_deed]
  rw [ws_seq, ws_ite]
  simp only [wp_or, wp_not, wp_isi, wp_cmp, wp_bi, wp_ix, wp_var, wp_int, wps_cons, wps_nil, val, List.map_cons, List.map_nil, List.cons_append, List.nil_append, List.getElem?_cons_zero, List.getElem?_cons_succ, List.set_cons_zero, List.set_cons_succ, List.replicate_succ, List.replicate_zero, List.length_cons, List.length_nil, wo_some]
  rcases h with ⟨xs, rfl, hx⟩ | ⟨xs, rfl⟩
  · show Wo (some true) _
    rw [wo_some, tr_bl, wo_some]
    try simp only [tr_bl, wo_some]
    rw [if_neg (by decide)]
    have el : evalBi S .len [.tup xs] = some (.int xs.length) := rfl
    rw [el, wo_some, c_eqI, wo_some]
    try simp only [tr_bl, wo_some]
    cases xs with
    | nil =>
      rw [if_pos (by decide)]
      try simp only [tr_bl, wo_some]
      rw [if_pos (by decide), ws_seq, ws_ret, wp_bl]
      first | exact ⟨rfl, rfl⟩ | exact ⟨rfl, trivial⟩
    | cons x r =>
      rw [if_neg (by simp; omega), ix_tup, at0, wo_some, ty_str (hx x List.mem_cons_self).1, wo_some]
      try simp only [tr_bl, wo_some]
      cases x with
      | str s =>
        rw [if_neg (show ¬ (!isS (.str s)) = true by simp [isS]), ws_skip, ws_seq, ws_ite]
        simp only [wp_cmp, wp_tget, wp_bi, wp_ix, wp_var, wp_int, wps_cons, wps_nil, val, List.map_cons, List.map_nil, List.cons_append, List.nil_append, List.getElem?_cons_zero, List.getElem?_cons_succ, List.set_cons_zero, List.set_cons_succ, List.replicate_succ, List.replicate_zero, List.length_cons, List.length_nil, wo_some]
        rw [ix_tup, at0, wo_some, tab_pn E, wo_some, show evalBi S .len [.tup (.str s :: r)] = some (.int (D.str s :: r).length) from rfl, wo_some, c_neI, wo_some]
        try simp only [tr_bl, wo_some]
        by_cases hp : pn s = ((D.str s :: r).length : Int)
        · rw [if_neg (by simp [hp]), ws_skip]
          have hx1 : ∀ x ∈ r, Okd x := fun x hm => hx x (List.mem_cons_of_mem _ hm)
          have i0 : evalIx S (.tup (.str s :: r)) (.int 0) = some (.str s) := by rw [ix_tup, at0]
          have ce : ∀ a : Str, evalC S .eq (.str s) (.str a) = some (s == a) := fun _ => rfl
          rw [List.length_cons] at hp
          rw [ws_seq, ws_ite]
          simp only [wp_cmp, wp_ix, wp_var, wp_int, wp_str, val, List.map_cons, List.map_nil, List.cons_append, List.nil_append, List.getElem?_cons_zero, List.getElem?_cons_succ, List.set_cons_zero, List.set_cons_succ, List.replicate_succ, List.replicate_zero, List.length_cons, List.length_nil, wo_some, i0, ce, tr_bl]
          by_cases e1 : s = "out"
          · subst e1
            have hl : r.length = 7 := by
              have : pn ("out" : Str) = 8 := by kernel_rfl
              omega
            obtain ⟨y1, y2, y3, y4, y5, y6, y7, rfl⟩ := len7 hl
            rw [if_pos (by rfl), ws_seq, ws_ret]
            simp only [wp_call, wp_var, wps_cons, wps_nil, val, List.map_cons, List.map_nil, List.cons_append, List.nil_append, List.getElem?_cons_zero, List.getElem?_cons_succ, List.set_cons_zero, List.set_cons_succ, List.replicate_succ, List.replicate_zero, List.length_cons, List.length_nil, wo_some]
            rw [out_eq E (hx1 _ (by simp)) (hx1 _ (by simp)) (hx1 _ (by simp)) (hx1 _ (by simp)) (hx1 _ (by simp)) (hx1 _ (by simp)) (hx1 _ (by simp)), wp_ok]
            first | exact ⟨rfl, rfl⟩ | exact ⟨rfl, trivial⟩
          rw [if_neg (by simpa using e1), ws_skip]
          rw [ws_seq, ws_ite]
          simp only [wp_cmp, wp_ix, wp_var, wp_int, wp_str, val, List.map_cons, List.map_nil, List.cons_append, List.nil_append, List.getElem?_cons_zero, List.getElem?_cons_succ, List.set_cons_zero, List.set_cons_succ, List.replicate_succ, List.replicate_zero, List.length_cons, List.length_nil, wo_some, i0, ce, tr_bl]
          by_cases e2 : s = "come"
          · subst e2
            have hl : r.length = 6 := by
              have : pn ("come" : Str) = 7 := by kernel_rfl
              omega
            obtain ⟨y1, y2, y3, y4, y5, y6, rfl⟩ := len6 hl
            rw [if_pos (by rfl), ws_seq, ws_ret]
            simp only [wp_call, wp_var, wps_cons, wps_nil, val, List.map_cons, List.map_nil, List.cons_append, List.nil_append, List.getElem?_cons_zero, List.getElem?_cons_succ, List.set_cons_zero, List.set_cons_succ, List.replicate_succ, List.replicate_zero, List.length_cons, List.length_nil, wo_some]
            rw [come_eq E (hx1 _ (by simp)) (hx1 _ (by simp)) (hx1 _ (by simp)) (hx1 _ (by simp)) (hx1 _ (by simp)) (hx1 _ (by simp)), wp_ok]
            first | exact ⟨rfl, rfl⟩ | exact ⟨rfl, trivial⟩
          rw [if_neg (by simpa using e2), ws_skip]
          rw [ws_seq, ws_ite]
          simp only [wp_cmp, wp_ix, wp_var, wp_int, wp_str, val, List.map_cons, List.map_nil, List.cons_append, List.nil_append, List.getElem?_cons_zero, List.getElem?_cons_succ, List.set_cons_zero, List.set_cons_succ, List.replicate_succ, List.replicate_zero, List.length_cons, List.length_nil, wo_some, i0, ce, tr_bl]
          by_cases e3 : s = "lost"
          · subst e3
            have hl : r.length = 5 := by
              have : pn ("lost" : Str) = 6 := by kernel_rfl
              omega
            obtain ⟨y1, y2, y3, y4, y5, rfl⟩ := len5 hl
            rw [if_pos (by rfl), ws_seq, ws_ret]
            simp only [wp_call, wp_var, wps_cons, wps_nil, val, List.map_cons, List.map_nil, List.cons_append, List.nil_append, List.getElem?_cons_zero, List.getElem?_cons_succ, List.set_cons_zero, List.set_cons_succ, List.replicate_succ, List.replicate_zero, List.length_cons, List.length_nil, wo_some]
            rw [lost_eq E (hx1 _ (by simp)) (hx1 _ (by simp)) (hx1 _ (by simp)) (hx1 _ (by simp)) (hx1 _ (by simp)), wp_ok]
            first | exact ⟨rfl, rfl⟩ | exact ⟨rfl, trivial⟩
          rw [if_neg (by simpa using e3), ws_skip]
          rw [ws_seq, ws_ite]
          simp only [wp_cmp, wp_ix, wp_var, wp_int, wp_str, val, List.map_cons, List.map_nil, List.cons_append, List.nil_append, List.getElem?_cons_zero, List.getElem?_cons_succ, List.set_cons_zero, List.set_cons_succ, List.replicate_succ, List.replicate_zero, List.length_cons, List.length_nil, wo_some, i0, ce, tr_bl]
          by_cases e4 : s = "rule"
          · subst e4
            have hl : r.length = 5 := by
              have : pn ("rule" : Str) = 6 := by kernel_rfl
              omega
            obtain ⟨y1, y2, y3, y4, y5, rfl⟩ := len5 hl
            rw [if_pos (by rfl), ws_seq, ws_ret]
            simp only [wp_call, wp_var, wps_cons, wps_nil, val, List.map_cons, List.map_nil, List.cons_append, List.nil_append, List.getElem?_cons_zero, List.getElem?_cons_succ, List.set_cons_zero, List.set_cons_succ, List.replicate_succ, List.replicate_zero, List.length_cons, List.length_nil, wo_some]
            rw [rule_eq E (hx1 _ (by simp)) (hx1 _ (by simp)) (hx1 _ (by simp)) (hx1 _ (by simp)) (hx1 _ (by simp)), wp_ok]
            first | exact ⟨rfl, rfl⟩ | exact ⟨rfl, trivial⟩
          rw [if_neg (by simpa using e4), ws_skip]
          rw [ws_seq, ws_ret]
          have e5 : s = "wait" ∨ s = "unrule" := by
            by_cases e5 : s = "wait"
            · exact .inl e5
            by_cases e6 : s = "unrule"
            · exact .inr e6
            exfalso
            unfold pn at hp
            rw [if_neg e1, if_neg e2, if_neg e3, if_neg e5, if_neg e4, if_neg e6] at hp
            omega
          have hl : r.length = 1 := by
            have : pn s = 2 := by rcases e5 with rfl | rfl <;> kernel_rfl
            omega
          obtain ⟨y1, rfl⟩ := len1 hl
          simp only [wp_call, wp_ix, wp_var, wp_int, wps_cons, wps_nil, val, List.map_cons, List.map_nil, List.cons_append, List.nil_append, List.getElem?_cons_zero, List.getElem?_cons_succ, List.set_cons_zero, List.set_cons_succ, List.replicate_succ, List.replicate_zero, List.length_cons, List.length_nil, wo_some]
          rw [ix_tup, show L2.atI [D.str s, y1] 1 = some y1 from rfl, wo_some, within_eq E (n := n + 3) (hx1 _ (by simp)).1, wp_ok]
          refine ⟨?_, by first | rfl | trivial⟩
          rw [deedB_str, if_neg e1, if_neg e2, if_neg e3, if_neg e4, if_pos e5]
          rfl
        · rw [if_pos (by simpa using hp), ws_seq, ws_ret, wp_bl]
          refine ⟨?_, by first | rfl | trivial⟩
          have z : deedB (.tup (.str s :: r)) = false := by
            cases hb : deedB (.tup (.str s :: r)) with
            | false => rfl
            | true =>
              exfalso
              rw [deedB_str] at hb
              unfold pn at hp
              by_cases e1 : s = "out"
              · rw [if_pos e1] at hb hp
                rw [out_len hb] at hp
                exact hp rfl
              rw [if_neg e1] at hb hp
              by_cases e2 : s = "come"
              · rw [if_pos e2] at hb hp
                rw [come_len hb] at hp
                exact hp rfl
              rw [if_neg e2] at hb hp
              by_cases e3 : s = "lost"
              · rw [if_pos e3] at hb hp
                rw [lost_len hb] at hp
                exact hp rfl
              rw [if_neg e3] at hb hp
              by_cases e4 : s = "rule"
              · subst e4
                rw [if_pos rfl] at hb
                rw [if_neg (by decide), if_pos rfl, rule_len hb] at hp
                exact hp rfl
              rw [if_neg e4] at hb hp
              by_cases e5 : s = "wait" ∨ s = "unrule"
              · rw [if_pos e5] at hb
                rw [one_len hb] at hp
                rcases e5 with rfl | rfl
                · exact hp rfl
                · exact hp rfl
              · rw [if_neg e5] at hb
                cases hb
          rw [z]
      | ref i => exact absurd (hx _ List.mem_cons_self).1 (by intro h; cases h)
      | ctup i => exact absurd (hx _ List.mem_cons_self).1 (by intro h; cases h)
      | _ =>
        rw [if_pos (by rfl), ws_seq, ws_ret, wp_bl]
        first | exact ⟨rfl, rfl⟩ | exact ⟨rfl, trivial⟩
  · show Wo (some false) _
    rw [wo_some]
    try simp only [tr_bl, wo_some]
    rw [if_pos (by decide)]
    try simp only [tr_bl, wo_some]
    rw [if_pos (by decide), ws_seq, ws_ret, wp_bl]
    first | exact ⟨rfl, rfl⟩ | exact ⟨rfl, trivial⟩
end

end Z.Ends


namespace K25
open PySem PySem.Spec PyProof.Rows L2 Z
def top (i : Nat) : Stmt := PySem.Challenge.pw_lentgate_k25_deeds_written_and_read.main.body.getD i (.Pass ⟨0, 0, 0, 0⟩)
def inner (s : Stmt) (j : Nat) : Stmt := match s with
  | .ClassDef _ _ _ body .. => body.getD j (.Pass ⟨0, 0, 0, 0⟩)
  | _ => .Pass ⟨0, 0, 0, 0⟩
def cis_whole : CDef := ⟨1, ["thing"],
  (.seq (.ret (.and (.isi (.var 0) .int) (.not (.isi (.var 0) .bool)))) .skip)⟩
def cis_within : CDef := ⟨3, ["thing", "low", "high"],
  (.seq (.ret (.and (.call "is_whole" (.cons (.var 0) .nil)) (.chain .le .le (.var 1) (.var 0) (.var 2)))) .skip)⟩
def cis_door : CDef := ⟨1, ["thing"],
  (.seq (.ret (.call "is_within" (.cons (.var 0) (.cons (.int 1) (.cons (.int 9999) .nil))))) .skip)⟩
def cis_place : CDef := ⟨2, ["thing", "least"],
  (.seq (.ret (.call "is_within" (.cons (.var 0) (.cons (.var 1) (.cons (.int 1000000) .nil))))) .skip)⟩
def cis_kind : CDef := ⟨1, ["thing"],
  (.seq (.ret (.and (.isi (.var 0) .str) (.cmp .isin (.var 0) (.gl "KINDS")))) .skip)⟩
def cis_text : CDef := ⟨1, ["thing", "sign"],
  (.seq (.ite (.or (.not (.isi (.var 0) .str)) (.cmp .gt (.bi .len (.cons (.var 0) .nil)) (.int 40))) (.seq (.ret (.bl false)) .skip) .skip) (.seq (.ret (.bi .all (.cons (.comp false [("sign", 1)] (.one 1) (.seq (.var 0)) (.bl true) (.and (.chain .le .le (.str " ") (.var 1) (.str "~")) (.not (.chain .lt .lt (.str "$") (.var 1) (.str "&"))))) .nil))) .skip))⟩
def cis_said : CDef := ⟨3, ["kind", "word", "text"],
  (.seq (.ite (.or (.not (.call "is_kind" (.cons (.var 0) .nil))) (.or (.not (.isi (.var 1) .str)) (.not (.call "is_text" (.cons (.var 2) .nil))))) (.seq (.ret (.bl false)) .skip) .skip) (.seq (.ret (.or (.and (.cmp .eq (.var 0) (.str "note")) (.cmp .eq (.var 1) (.str "say"))) (.and (.cmp .eq (.var 0) (.str "line")) (.cmp .isin (.var 1) (.gl "WORDS"))))) .skip))⟩
def cis_house_door : CDef := ⟨2, ["house", "door"],
  (.seq (.ret (.and (.call "is_within" (.cons (.var 0) (.cons (.int 0) (.cons (.int 99) .nil)))) (.call "is_door" (.cons (.var 1) .nil)))) .skip)⟩
def cis_out : CDef := ⟨1, ["deed"],
  (.seq (.ite (.or (.not (.call "is_house_door" (.cons (.ix (.var 0) (.int 2)) (.cons (.ix (.var 0) (.int 3)) .nil)))) (.or (.not (.call "is_place" (.cons (.ix (.var 0) (.int 4)) (.cons (.int 0) .nil)))) (.not (.call "is_door" (.cons (.ix (.var 0) (.int 5)) .nil))))) (.seq (.ret (.bl false)) .skip) .skip) (.seq (.ret (.call "is_said" (.cons (.ix (.var 0) (.int 1)) (.cons (.ix (.var 0) (.int 6)) (.cons (.ix (.var 0) (.int 7)) .nil))))) .skip))⟩
def cis_come : CDef := ⟨1, ["deed"],
  (.seq (.ite (.or (.not (.call "is_place" (.cons (.ix (.var 0) (.int 2)) (.cons (.int 1) .nil)))) (.or (.not (.call "is_door" (.cons (.ix (.var 0) (.int 3)) .nil))) (.not (.call "is_door" (.cons (.ix (.var 0) (.int 4)) .nil))))) (.seq (.ret (.bl false)) .skip) .skip) (.seq (.ret (.call "is_said" (.cons (.ix (.var 0) (.int 1)) (.cons (.ix (.var 0) (.int 5)) (.cons (.ix (.var 0) (.int 6)) .nil))))) .skip))⟩
def cis_lost : CDef := ⟨1, ["deed"],
  (.seq (.ite (.or (.not (.call "is_place" (.cons (.ix (.var 0) (.int 1)) (.cons (.int 1) .nil)))) (.or (.not (.call "is_kind" (.cons (.ix (.var 0) (.int 2)) .nil))) (.not (.call "is_door" (.cons (.ix (.var 0) (.int 3)) .nil))))) (.seq (.ret (.bl false)) .skip) .skip) (.seq (.ret (.and (.call "is_place" (.cons (.ix (.var 0) (.int 4)) (.cons (.int 1) .nil))) (.call "is_door" (.cons (.ix (.var 0) (.int 5)) .nil)))) .skip))⟩
def cis_rule : CDef := ⟨1, ["deed"],
  (.seq (.ite (.or (.not (.call "is_kind" (.cons (.ix (.var 0) (.int 1)) .nil))) (.not (.call "is_door" (.cons (.ix (.var 0) (.int 2)) .nil)))) (.seq (.ret (.bl false)) .skip) .skip) (.seq (.ite (.and (.cmp .notN (.ix (.var 0) (.int 3)) .non) (.not (.call "is_place" (.cons (.ix (.var 0) (.int 3)) (.cons (.int 0) .nil))))) (.seq (.ret (.bl false)) .skip) .skip) (.seq (.ret (.call "is_house_door" (.cons (.ix (.var 0) (.int 4)) (.cons (.ix (.var 0) (.int 5)) .nil)))) .skip)))⟩
def cis_deed : CDef := ⟨1, ["thing"],
  (.seq (.ite (.or (.not (.isi (.var 0) .tuple)) (.or (.cmp .eq (.bi .len (.cons (.var 0) .nil)) (.int 0)) (.not (.isi (.ix (.var 0) (.int 0)) .str)))) (.seq (.ret (.bl false)) .skip) .skip) (.seq (.ite (.cmp .ne (.tget "PARTS" (.ix (.var 0) (.int 0)) (.int 0)) (.bi .len (.cons (.var 0) .nil))) (.seq (.ret (.bl false)) .skip) .skip) (.seq (.ite (.cmp .eq (.ix (.var 0) (.int 0)) (.str "out")) (.seq (.ret (.call "is_out" (.cons (.var 0) .nil))) .skip) .skip) (.seq (.ite (.cmp .eq (.ix (.var 0) (.int 0)) (.str "come")) (.seq (.ret (.call "is_come" (.cons (.var 0) .nil))) .skip) .skip) (.seq (.ite (.cmp .eq (.ix (.var 0) (.int 0)) (.str "lost")) (.seq (.ret (.call "is_lost" (.cons (.var 0) .nil))) .skip) .skip) (.seq (.ite (.cmp .eq (.ix (.var 0) (.int 0)) (.str "rule")) (.seq (.ret (.call "is_rule" (.cons (.var 0) .nil))) .skip) .skip) (.seq (.ret (.call "is_within" (.cons (.ix (.var 0) (.int 1)) (.cons (.int 0) (.cons (.int 1000000) .nil))))) .skip)))))))⟩
def cshow_part : CDef := ⟨1, ["part"],
  (.seq (.ite (.cmp .isN (.var 0) .non) (.seq (.ret (.str "any")) .skip) .skip) (.seq (.ret (.bi .strOf (.cons (.var 0) .nil))) .skip))⟩
def cshow_deed : CDef := ⟨1, ["deed", "part"],
  (.seq (.ite (.or (.cmp .eq (.ix (.var 0) (.int 0)) (.str "out")) (.cmp .eq (.ix (.var 0) (.int 0)) (.str "come"))) (.seq (.ret (.bin .add (.bin .add (.bm (.str " ") .join (.cons (.comp false [("part", 1)] (.one 1) (.seq (.slTo (.var 0) (.neg (.int 1)))) (.bl true) (.call "show_part" (.cons (.var 1) .nil))) .nil)) (.str " :")) (.ix (.var 0) (.neg (.int 1))))) .skip) .skip) (.seq (.ret (.bm (.str " ") .join (.cons (.comp false [("part", 1)] (.one 1) (.seq (.var 0)) (.bl true) (.call "show_part" (.cons (.var 1) .nil))) .nil))) .skip))⟩
def cshow_answer : CDef := ⟨1, ["answer", "part"],
  (.seq (.ite (.cmp .isN (.var 0) .non) (.seq (.ret (.str "ok")) .skip) .skip) (.seq (.ite (.isi (.var 0) .int) (.seq (.ret (.bin .add (.str "rule ") (.bi .strOf (.cons (.var 0) .nil)))) .skip) .skip) (.seq (.ite (.cmp .eq (.ix (.var 0) (.int 0)) (.str "turned")) (.seq (.ret (.bin .add (.bin .add (.bin .add (.str "turned ") (.bi .strOf (.cons (.ix (.var 0) (.int 1)) .nil))) (.str " ")) (.call "show_answer" (.cons (.ix (.var 0) (.int 2)) .nil)))) .skip) .skip) (.seq (.ret (.bm (.str " ") .join (.cons (.comp false [("part", 1)] (.one 1) (.seq (.var 0)) (.bl true) (.call "show_part" (.cons (.var 1) .nil))) .nil))) .skip))))⟩
def cread_part : CDef := ⟨1, ["word", "sign"],
  (.seq (.ite (.cmp .eq (.var 0) (.str "any")) (.seq (.ret .non) .skip) .skip) (.seq (.ite (.or (.cmp .eq (.var 0) (.str "")) (.or (.cmp .gt (.bi .len (.cons (.var 0) .nil)) (.int 7)) (.and (.cmp .eq (.ix (.var 0) (.int 0)) (.str "0")) (.cmp .ne (.var 0) (.str "0"))))) (.seq (.ret (.var 0)) .skip) .skip) (.seq (.for (.one 1) (.seq (.var 0)) (.seq (.ite (.or (.cmp .lt (.var 1) (.str "0")) (.cmp .gt (.var 1) (.str "9"))) (.seq (.ret (.var 0)) .skip) .skip) .skip)) (.seq (.ret (.bi .intOf (.cons (.var 0) .nil))) .skip))))⟩
def cread_deed : CDef := ⟨1, ["text", "parts", "lettered", "deed", "head", "colon", "said", "word"],
  (.seq (.unp [4, 5, 6] (.bm (.var 0) .partition (.cons (.str " :") .nil))) (.seq (.set 1 (.comp true [("word", 7)] (.one 7) (.seq (.bm (.var 4) .split (.cons (.str " ") .nil))) (.bl true) (.call "read_part" (.cons (.var 7) .nil)))) (.seq (.set 2 (.or (.cmp .eq (.ix (.var 1) (.int 0)) (.str "out")) (.cmp .eq (.ix (.var 1) (.int 0)) (.str "come")))) (.seq (.ite (.and (.var 2) (.cmp .ne (.var 5) (.str ""))) (.seq (.ex (.bm (.var 1) .append (.cons (.var 6) .nil))) .skip) .skip) (.seq (.set 3 (.bi .tupOf (.cons (.var 1) .nil))) (.seq (.ite (.or (.cmp .ne (.var 2) (.cmp .ne (.var 5) (.str ""))) (.not (.call "is_deed" (.cons (.var 3) .nil)))) (.seq .never .skip) .skip) (.seq (.ret (.var 3)) .skip)))))))⟩
def c_law_cell : CDef := ⟨2, ["script", "k"],
  (.seq (.ite (.cmp .lt (.var 1) (.bi .len (.cons (.var 0) .nil))) (.seq (.ret (.ix (.var 0) (.var 1))) .skip) .skip) (.seq (.ret (.int 0)) .skip))⟩
def c_law_well : CDef := ⟨2, ["cell", "turn"],
  (.seq (.ite (.cmp .ge (.var 0) (.bin .pow (.int 10) (.int 18))) (.seq (.ret (.lstR (.cons (.bin .sub (.var 0) (.bin .pow (.int 10) (.int 18))) (.cons (.bin .mod (.var 0) (.int 2305843009213693951)) (.cons (.var 1) .nil))))) .skip) .skip) (.seq (.ret (.lstR (.cons (.int 0) (.cons (.bin .mod (.var 0) (.int 2305843009213693951)) (.cons (.var 1) .nil))))) .skip))⟩
def c_law_take : CDef := ⟨2, ["bag", "many", "p", "n", "found"],
  (.seq (.ite (.cmp .gt (.ix (.var 0) (.int 0)) (.int 0)) (.seq (.set 4 (.bin .mod (.ix (.var 0) (.int 0)) (.var 1))) (.seq (.setI (.var 0) (.int 0) (.bin .fdiv (.ix (.var 0) (.int 0)) (.var 1))) (.seq (.ret (.var 4)) .skip))) .skip) (.seq (.setI (.var 0) (.int 2) (.bin .add (.ix (.var 0) (.int 2)) (.int 1))) (.seq (.set 2 (.int 2305843009213693951)) (.seq (.set 3 (.bin .mod (.bin .add (.ix (.var 0) (.int 1)) (.bin .mul (.int 1000003) (.ix (.var 0) (.int 2)))) (.var 2))) (.seq (.set 3 (.bin .mod (.bin .add (.bin .add (.bin .mul (.var 3) (.var 3)) (.bin .mul (.int 7919) (.bin .pow (.ix (.var 0) (.int 2)) (.int 2)))) (.int 5)) (.var 2))) (.seq (.ret (.bin .mod (.bin .fdiv (.bin .mod (.bin .pow (.var 3) (.int 3)) (.var 2)) (.int 13)) (.var 1))) .skip))))))⟩
def c_law_said : CDef := ⟨1, ["bag", "signs", "many", "one", "step", "k"],
  (.seq (.set 1 (.str " !\"#$&'()*+,-./0123456789:;<=>?@ABCDEFGHIJKLMNOPQRSTUVWXYZ[\\]^_`abcdefghijklmnopqrstuvwxyz{|}~")) (.seq (.set 2 (.ix (.lst (.cons (.int 0) (.cons (.int 1) (.cons (.call "_law_take" (.cons (.var 0) (.cons (.int 8) .nil))) (.cons (.int 40) .nil))))) (.call "_law_take" (.cons (.var 0) (.cons (.int 4) .nil))))) (.seq (.set 3 (.call "_law_take" (.cons (.var 0) (.cons (.int 94) .nil)))) (.seq (.set 4 (.call "_law_take" (.cons (.var 0) (.cons (.int 94) .nil)))) (.seq (.ret (.bm (.str "") .join (.cons (.comp false [("k", 5)] (.one 5) (.r1 (.var 2)) (.bl true) (.ix (.var 1) (.bin .mod (.bin .add (.var 3) (.bin .mul (.var 5) (.var 4))) (.int 94)))) .nil))) .skip)))))⟩
def c_law_is : CDef := ⟨2, ["found", "due", "one", "other"],
  (.seq (.ite (.isi (.var 1) .tuple) (.seq (.ite (.or (.not (.isi (.var 0) .tuple)) (.cmp .ne (.bi .len (.cons (.var 0) .nil)) (.bi .len (.cons (.var 1) .nil)))) (.seq (.ret (.bl false)) .skip) .skip) (.seq (.ret (.bi .all (.cons (.comp false [("one", 2), ("other", 3)] (.many [2, 3]) (.zip (.var 0) (.var 1)) (.bl true) (.call "_law_is" (.cons (.var 2) (.cons (.var 3) .nil)))) .nil))) .skip)) .skip) (.seq (.ret (.and (.not (.isi (.var 0) .bool)) (.cmp .eq (.var 0) (.var 1)))) .skip))⟩
def c_law_a_text : CDef := ⟨1, ["bag", "odd"],
  (.seq (.set 1 (.lst (.cons (.str " :") (.cons (.str ": ") (.cons (.str " ") (.cons (.str "say :a") (.cons (.str " : :") (.cons (.str "any") (.cons (.str "wait 3") (.cons (.str ":") (.cons (.str "a ") (.cons (.str " a") (.cons (.str "::a :") (.cons (.str "0") .nil)))))))))))))) (.seq (.ret (.ix (.lst (.cons (.call "_law_said" (.cons (.var 0) .nil)) (.cons (.ix (.var 1) (.call "_law_take" (.cons (.var 0) (.cons (.int 12) .nil)))) .nil))) (.call "_law_take" (.cons (.var 0) (.cons (.int 2) .nil))))) .skip))⟩
def c_law_number_for : CDef := ⟨3, ["bag", "low", "high"],
  (.seq (.ret (.ix (.lst (.cons (.var 1) (.cons (.var 2) (.cons (.bin .add (.var 1) (.call "_law_take" (.cons (.var 0) (.cons (.bin .add (.bin .sub (.var 2) (.var 1)) (.int 1)) .nil)))) (.cons (.bin .add (.var 1) (.call "_law_take" (.cons (.var 0) (.cons (.int 12) .nil)))) .nil))))) (.call "_law_take" (.cons (.var 0) (.cons (.int 4) .nil))))) .skip)⟩
def c_law_a_deed : CDef := ⟨1, ["bag", "kind", "said", "ends", "number", "place", "far", "some"],
  (.seq (.set 1 (.ix (.lst (.cons (.str "note") (.cons (.str "line") .nil))) (.call "_law_take" (.cons (.var 0) (.cons (.int 2) .nil))))) (.seq (.set 2 (.tup (.cons (.ite (.cmp .eq (.var 1) (.str "note")) (.str "say") (.ix (.lst (.cons (.str "open") (.cons (.str "say") (.cons (.str "close") (.cons (.str "break") .nil))))) (.call "_law_take" (.cons (.var 0) (.cons (.int 4) .nil))))) (.cons (.call "_law_a_text" (.cons (.var 0) .nil)) .nil)))) (.seq (.set 3 (.tup (.cons (.call "_law_number_for" (.cons (.var 0) (.cons (.int 0) (.cons (.int 99) .nil)))) (.cons (.call "_law_number_for" (.cons (.var 0) (.cons (.int 1) (.cons (.int 9999) .nil)))) .nil)))) (.seq (.set 4 (.call "_law_number_for" (.cons (.var 0) (.cons (.int 1) (.cons (.int 9999) .nil))))) (.seq (.set 5 (.call "_law_number_for" (.cons (.var 0) (.cons (.int 1) (.cons (.int 1000000) .nil))))) (.seq (.set 6 (.call "_law_number_for" (.cons (.var 0) (.cons (.int 1) (.cons (.int 9999) .nil))))) (.seq (.set 7 (.lstR (.cons (.bin .add (.bin .add (.bin .add (.tup (.cons (.str "out") (.cons (.var 1) .nil))) (.var 3)) (.tup (.cons (.ix (.lst (.cons (.var 5) (.cons (.int 0) .nil))) (.call "_law_take" (.cons (.var 0) (.cons (.int 2) .nil)))) (.cons (.var 6) .nil)))) (.var 2)) .nil))) (.seq (.ex (.bm (.var 7) .append (.cons (.bin .add (.tup (.cons (.str "come") (.cons (.var 1) (.cons (.var 5) (.cons (.var 6) (.cons (.var 4) .nil)))))) (.var 2)) .nil))) (.seq (.ex (.bm (.var 7) .append (.cons (.tup (.cons (.str "lost") (.cons (.call "_law_number_for" (.cons (.var 0) (.cons (.int 1) (.cons (.int 1000000) .nil)))) (.cons (.var 1) (.cons (.var 4) (.cons (.var 5) (.cons (.var 6) .nil))))))) .nil))) (.seq (.ex (.bm (.var 7) .append (.cons (.tup (.cons (.str "wait") (.cons (.call "_law_number_for" (.cons (.var 0) (.cons (.int 0) (.cons (.int 1000000) .nil)))) .nil))) .nil))) (.seq (.ex (.bm (.var 7) .append (.cons (.bin .add (.tup (.cons (.str "rule") (.cons (.var 1) (.cons (.var 4) (.cons (.ix (.lst (.cons .non (.cons (.int 0) (.cons (.var 5) .nil)))) (.call "_law_take" (.cons (.var 0) (.cons (.int 3) .nil)))) .nil))))) (.var 3)) .nil))) (.seq (.ex (.bm (.var 7) .append (.cons (.tup (.cons (.str "unrule") (.cons (.call "_law_number_for" (.cons (.var 0) (.cons (.int 0) (.cons (.int 1000000) .nil)))) .nil))) .nil))) (.seq (.ret (.ix (.var 7) (.call "_law_take" (.cons (.var 0) (.cons (.int 6) .nil))))) .skip)))))))))))))⟩
def c_law_shown : CDef := ⟨1, ["deed", "words", "part"],
  (.seq (.set 1 (.lstR .nil)) (.seq (.for (.one 2) (.seq (.slTo (.var 0) (.neg (.int 1)))) (.seq (.ex (.bm (.var 1) .append (.cons (.ite (.cmp .isN (.var 2) .non) (.str "any") (.bi .strOf (.cons (.var 2) .nil))) .nil))) .skip)) (.seq (.ite (.or (.cmp .eq (.ix (.var 0) (.int 0)) (.str "out")) (.cmp .eq (.ix (.var 0) (.int 0)) (.str "come"))) (.seq (.ret (.bin .add (.bin .add (.bm (.str " ") .join (.cons (.var 1) .nil)) (.str " :")) (.ix (.var 0) (.neg (.int 1))))) .skip) .skip) (.seq (.ret (.bm (.str " ") .join (.cons (.cat (.var 1) (.lst (.cons (.bi .strOf (.cons (.ix (.var 0) (.neg (.int 1))) .nil)) .nil))) .nil))) .skip))))⟩
def c_law_an_answer : CDef := ⟨1, ["bag", "number", "inside", "why", "some"],
  (.seq (.set 1 (.call "_law_number_for" (.cons (.var 0) (.cons (.int 1) (.cons (.int 9999) .nil))))) (.seq (.set 2 (.tup (.cons (.str "in") (.cons (.call "_law_number_for" (.cons (.var 0) (.cons (.int 0) (.cons (.int 99) .nil)))) (.cons (.call "_law_number_for" (.cons (.var 0) (.cons (.int 1) (.cons (.int 9999) .nil)))) .nil))))) (.seq (.set 3 (.tup (.cons (.str "kept") (.cons (.ix (.lst (.cons (.str "astray") (.cons (.str "most") (.cons (.str "full") (.cons (.str "nobody") (.cons (.str "sieve") (.cons (.str "clash") .nil))))))) (.call "_law_take" (.cons (.var 0) (.cons (.int 6) .nil)))) .nil)))) (.seq (.set 4 (.lst (.cons (.tup (.cons (.str "led") (.cons (.var 1) .nil))) (.cons (.var 2) (.cons (.var 3) (.cons (.tup (.cons (.str "turned") (.cons (.var 1) (.cons (.ix (.lst (.cons (.var 2) (.cons (.var 3) .nil))) (.call "_law_take" (.cons (.var 0) (.cons (.int 2) .nil)))) .nil)))) .nil)))))) (.seq (.ret (.ix (.bin .add (.var 4) (.lst (.cons (.bin .add (.tup (.cons (.str "told") .nil)) (.slFr (.var 2) (.int 1))) (.cons .non (.cons (.call "_law_take" (.cons (.var 0) (.cons (.int 1000) .nil))) .nil))))) (.call "_law_take" (.cons (.var 0) (.cons (.int 7) .nil))))) .skip)))))⟩
def c_law_answered : CDef := ⟨1, ["answer", "part"],
  (.seq (.ite (.cmp .isN (.var 0) .non) (.seq (.ret (.str "ok")) .skip) .skip) (.seq (.ite (.not (.isi (.var 0) .tuple)) (.seq (.ret (.bin .add (.str "rule ") (.bi .strOf (.cons (.var 0) .nil)))) .skip) .skip) (.seq (.ite (.cmp .eq (.ix (.var 0) (.int 0)) (.str "turned")) (.seq (.ret (.bin .add (.bin .add (.bin .add (.str "turned ") (.bi .strOf (.cons (.ix (.var 0) (.int 1)) .nil))) (.str " ")) (.call "_law_answered" (.cons (.ix (.var 0) (.int 2)) .nil)))) .skip) .skip) (.seq (.ret (.bm (.str " ") .join (.cons (.comp false [("part", 1)] (.one 1) (.seq (.var 0)) (.bl true) (.bi .strOf (.cons (.var 1) .nil))) .nil))) .skip))))⟩
def claw : CDef := ⟨1, ["script", "cell", "bag", "deed", "text", "turn", "answer", "found"],
  (.seq (.for (.one 1) (.seq (.bin .add (.lst (.cons (.call "_law_cell" (.cons (.var 0) (.cons (.int 0) .nil))) .nil)) (.slBt (.var 0) (.int 1) (.int 20)))) (.seq (.set 2 (.call "_law_well" (.cons (.var 1) (.cons (.int 0) .nil)))) (.seq (.set 3 (.call "_law_a_deed" (.cons (.var 2) .nil))) (.seq (.set 4 (.call "_law_shown" (.cons (.var 3) .nil))) (.seq (.ite (.or (.cmp .ne (.call "show_deed" (.cons (.var 3) .nil)) (.var 4)) (.not (.call "_law_is" (.cons (.call "read_deed" (.cons (.var 4) .nil)) (.cons (.var 3) .nil))))) (.seq (.ret (.bl false)) .skip) .skip) (.seq (.for (.one 5) (.r1 (.int 3)) (.seq (.set 6 (.call "_law_an_answer" (.cons (.var 2) .nil))) (.seq (.set 7 (.call "show_answer" (.cons (.var 6) .nil))) (.seq (.ite (.or (.not (.isi (.var 7) .str)) (.cmp .ne (.var 7) (.call "_law_answered" (.cons (.var 6) .nil)))) (.seq (.ret (.bl false)) .skip) .skip) .skip)))) .skip)))))) (.seq (.ret (.bl true)) .skip))⟩
def tis_whole : DefT := ⟨"is_whole", cis_whole, ("is_whole", none), "is_whole", "is_whole", defArgs (top 4), defBody (top 4), defScope (top 4), ["thing"]⟩
def tis_within : DefT := ⟨"is_within", cis_within, ("is_within", none), "is_within", "is_within", defArgs (top 5), defBody (top 5), defScope (top 5), ["thing", "low", "high"]⟩
def tis_door : DefT := ⟨"is_door", cis_door, ("is_door", none), "is_door", "is_door", defArgs (top 6), defBody (top 6), defScope (top 6), ["thing"]⟩
def tis_place : DefT := ⟨"is_place", cis_place, ("is_place", none), "is_place", "is_place", defArgs (top 7), defBody (top 7), defScope (top 7), ["thing", "least"]⟩
def tis_kind : DefT := ⟨"is_kind", cis_kind, ("is_kind", none), "is_kind", "is_kind", defArgs (top 8), defBody (top 8), defScope (top 8), ["thing"]⟩
def tis_text : DefT := ⟨"is_text", cis_text, ("is_text", none), "is_text", "is_text", defArgs (top 9), defBody (top 9), defScope (top 9), ["thing"]⟩
def tis_said : DefT := ⟨"is_said", cis_said, ("is_said", none), "is_said", "is_said", defArgs (top 10), defBody (top 10), defScope (top 10), ["kind", "word", "text"]⟩
def tis_house_door : DefT := ⟨"is_house_door", cis_house_door, ("is_house_door", none), "is_house_door", "is_house_door", defArgs (top 11), defBody (top 11), defScope (top 11), ["house", "door"]⟩
def tis_out : DefT := ⟨"is_out", cis_out, ("is_out", none), "is_out", "is_out", defArgs (top 12), defBody (top 12), defScope (top 12), ["deed"]⟩
def tis_come : DefT := ⟨"is_come", cis_come, ("is_come", none), "is_come", "is_come", defArgs (top 13), defBody (top 13), defScope (top 13), ["deed"]⟩
def tis_lost : DefT := ⟨"is_lost", cis_lost, ("is_lost", none), "is_lost", "is_lost", defArgs (top 14), defBody (top 14), defScope (top 14), ["deed"]⟩
def tis_rule : DefT := ⟨"is_rule", cis_rule, ("is_rule", none), "is_rule", "is_rule", defArgs (top 15), defBody (top 15), defScope (top 15), ["deed"]⟩
def tis_deed : DefT := ⟨"is_deed", cis_deed, ("is_deed", none), "is_deed", "is_deed", defArgs (top 16), defBody (top 16), defScope (top 16), ["thing"]⟩
def tshow_part : DefT := ⟨"show_part", cshow_part, ("show_part", none), "show_part", "show_part", defArgs (top 21), defBody (top 21), defScope (top 21), ["part"]⟩
def tshow_deed : DefT := ⟨"show_deed", cshow_deed, ("show_deed", none), "show_deed", "show_deed", defArgs (top 22), defBody (top 22), defScope (top 22), ["deed"]⟩
def tshow_answer : DefT := ⟨"show_answer", cshow_answer, ("show_answer", none), "show_answer", "show_answer", defArgs (top 23), defBody (top 23), defScope (top 23), ["answer"]⟩
def tread_part : DefT := ⟨"read_part", cread_part, ("read_part", none), "read_part", "read_part", defArgs (top 24), defBody (top 24), defScope (top 24), ["word"]⟩
def tread_deed : DefT := ⟨"read_deed", cread_deed, ("read_deed", none), "read_deed", "read_deed", defArgs (top 25), defBody (top 25), defScope (top 25), ["text"]⟩
def t_law_cell : DefT := ⟨"_law_cell", c_law_cell, ("_law_cell", none), "_law_cell", "_law_cell", defArgs (top 27), defBody (top 27), defScope (top 27), ["script", "k"]⟩
def t_law_well : DefT := ⟨"_law_well", c_law_well, ("_law_well", none), "_law_well", "_law_well", defArgs (top 28), defBody (top 28), defScope (top 28), ["cell", "turn"]⟩
def t_law_take : DefT := ⟨"_law_take", c_law_take, ("_law_take", none), "_law_take", "_law_take", defArgs (top 29), defBody (top 29), defScope (top 29), ["bag", "many"]⟩
def t_law_said : DefT := ⟨"_law_said", c_law_said, ("_law_said", none), "_law_said", "_law_said", defArgs (top 30), defBody (top 30), defScope (top 30), ["bag"]⟩
def t_law_is : DefT := ⟨"_law_is", c_law_is, ("_law_is", none), "_law_is", "_law_is", defArgs (top 31), defBody (top 31), defScope (top 31), ["found", "due"]⟩
def t_law_a_text : DefT := ⟨"_law_a_text", c_law_a_text, ("_law_a_text", none), "_law_a_text", "_law_a_text", defArgs (top 32), defBody (top 32), defScope (top 32), ["bag"]⟩
def t_law_number_for : DefT := ⟨"_law_number_for", c_law_number_for, ("_law_number_for", none), "_law_number_for", "_law_number_for", defArgs (top 33), defBody (top 33), defScope (top 33), ["bag", "low", "high"]⟩
def t_law_a_deed : DefT := ⟨"_law_a_deed", c_law_a_deed, ("_law_a_deed", none), "_law_a_deed", "_law_a_deed", defArgs (top 34), defBody (top 34), defScope (top 34), ["bag"]⟩
def t_law_shown : DefT := ⟨"_law_shown", c_law_shown, ("_law_shown", none), "_law_shown", "_law_shown", defArgs (top 35), defBody (top 35), defScope (top 35), ["deed"]⟩
def t_law_an_answer : DefT := ⟨"_law_an_answer", c_law_an_answer, ("_law_an_answer", none), "_law_an_answer", "_law_an_answer", defArgs (top 36), defBody (top 36), defScope (top 36), ["bag"]⟩
def t_law_answered : DefT := ⟨"_law_answered", c_law_answered, ("_law_answered", none), "_law_answered", "_law_answered", defArgs (top 37), defBody (top 37), defScope (top 37), ["answer"]⟩
def tlaw : DefT := ⟨"law", claw, ("law", none), "law", "law", defArgs (top 38), defBody (top 38), defScope (top 38), ["script"]⟩
def ts : List DefT := [tis_whole, tis_within, tis_door, tis_place, tis_kind, tis_text, tis_said, tis_house_door, tis_out, tis_come, tis_lost, tis_rule, tis_deed, tshow_part, tshow_deed, tshow_answer, tread_part, tread_deed, t_law_cell, t_law_well, t_law_take, t_law_said, t_law_is, t_law_a_text, t_law_number_for, t_law_a_deed, t_law_shown, t_law_an_answer, t_law_answered, tlaw]
def P : Prog := ⟨ts.map fun t => (t.key, t.d), [], [("KINDS", .ctup [(.str "note"), (.str "line")]), ("WORDS", .ctup [(.str "open"), (.str "say"), (.str "close"), (.str "break")])], [], [("is_whole", "is_whole"), ("is_within", "is_within"), ("is_door", "is_door"), ("is_place", "is_place"), ("is_kind", "is_kind"), ("is_text", "is_text"), ("is_said", "is_said"), ("is_house_door", "is_house_door"), ("is_out", "is_out"), ("is_come", "is_come"), ("is_lost", "is_lost"), ("is_rule", "is_rule"), ("is_deed", "is_deed"), ("show_part", "show_part"), ("show_deed", "show_deed"), ("show_answer", "show_answer"), ("read_part", "read_part"), ("read_deed", "read_deed"), ("_law_cell", "_law_cell"), ("_law_well", "_law_well"), ("_law_take", "_law_take"), ("_law_said", "_law_said"), ("_law_is", "_law_is"), ("_law_a_text", "_law_a_text"), ("_law_number_for", "_law_number_for"), ("_law_a_deed", "_law_a_deed"), ("_law_shown", "_law_shown"), ("_law_an_answer", "_law_an_answer"), ("_law_answered", "_law_answered"), ("law", "law")], [], 1000, [("PARTS", .k [(.inr "out", .int 8), (.inr "come", .int 7), (.inr "lost", .int 6), (.inr "wait", .int 2), (.inr "rule", .int 6), (.inr "unrule", .int 2)])]⟩
def wh : Where := ts.map fun t => (t.key, t.at_)
theorem fitis_whole : DefT.Fit P tis_whole := ⟨⟨rfl, rfl, rfl, by decide +kernel, rfl, by decide +kernel, by decide +kernel⟩, rfl, by decide +kernel, fun _ _ _ _ _ _ us hl => match us, hl with | [_], _ => rfl⟩
theorem fitis_within : DefT.Fit P tis_within := ⟨⟨rfl, rfl, rfl, by decide +kernel, rfl, by decide +kernel, by decide +kernel⟩, rfl, by decide +kernel, fun _ _ _ _ _ _ us hl => match us, hl with | [_, _, _], _ => rfl⟩
theorem fitis_door : DefT.Fit P tis_door := ⟨⟨rfl, rfl, rfl, by decide +kernel, rfl, by decide +kernel, by decide +kernel⟩, rfl, by decide +kernel, fun _ _ _ _ _ _ us hl => match us, hl with | [_], _ => rfl⟩
theorem fitis_place : DefT.Fit P tis_place := ⟨⟨rfl, rfl, rfl, by decide +kernel, rfl, by decide +kernel, by decide +kernel⟩, rfl, by decide +kernel, fun _ _ _ _ _ _ us hl => match us, hl with | [_, _], _ => rfl⟩
theorem fitis_kind : DefT.Fit P tis_kind := ⟨⟨rfl, rfl, rfl, by decide +kernel, rfl, by decide +kernel, by decide +kernel⟩, rfl, by decide +kernel, fun _ _ _ _ _ _ us hl => match us, hl with | [_], _ => rfl⟩
theorem fitis_text : DefT.Fit P tis_text := ⟨⟨rfl, rfl, rfl, by decide +kernel, rfl, by decide +kernel, by decide +kernel⟩, rfl, by decide +kernel, fun _ _ _ _ _ _ us hl => match us, hl with | [_], _ => rfl⟩
theorem fitis_said : DefT.Fit P tis_said := ⟨⟨rfl, rfl, rfl, by decide +kernel, rfl, by decide +kernel, by decide +kernel⟩, rfl, by decide +kernel, fun _ _ _ _ _ _ us hl => match us, hl with | [_, _, _], _ => rfl⟩
theorem fitis_house_door : DefT.Fit P tis_house_door := ⟨⟨rfl, rfl, rfl, by decide +kernel, rfl, by decide +kernel, by decide +kernel⟩, rfl, by decide +kernel, fun _ _ _ _ _ _ us hl => match us, hl with | [_, _], _ => rfl⟩
theorem fitis_out : DefT.Fit P tis_out := ⟨⟨rfl, rfl, rfl, by decide +kernel, rfl, by decide +kernel, by decide +kernel⟩, rfl, by decide +kernel, fun _ _ _ _ _ _ us hl => match us, hl with | [_], _ => rfl⟩
theorem fitis_come : DefT.Fit P tis_come := ⟨⟨rfl, rfl, rfl, by decide +kernel, rfl, by decide +kernel, by decide +kernel⟩, rfl, by decide +kernel, fun _ _ _ _ _ _ us hl => match us, hl with | [_], _ => rfl⟩
theorem fitis_lost : DefT.Fit P tis_lost := ⟨⟨rfl, rfl, rfl, by decide +kernel, rfl, by decide +kernel, by decide +kernel⟩, rfl, by decide +kernel, fun _ _ _ _ _ _ us hl => match us, hl with | [_], _ => rfl⟩
theorem fitis_rule : DefT.Fit P tis_rule := ⟨⟨rfl, rfl, rfl, by decide +kernel, rfl, by decide +kernel, by decide +kernel⟩, rfl, by decide +kernel, fun _ _ _ _ _ _ us hl => match us, hl with | [_], _ => rfl⟩
theorem fitis_deed : DefT.Fit P tis_deed := ⟨⟨rfl, rfl, rfl, by decide +kernel, rfl, by decide +kernel, by decide +kernel⟩, rfl, by decide +kernel, fun _ _ _ _ _ _ us hl => match us, hl with | [_], _ => rfl⟩
theorem fitshow_part : DefT.Fit P tshow_part := ⟨⟨rfl, rfl, rfl, by decide +kernel, rfl, by decide +kernel, by decide +kernel⟩, rfl, by decide +kernel, fun _ _ _ _ _ _ us hl => match us, hl with | [_], _ => rfl⟩
theorem fitshow_deed : DefT.Fit P tshow_deed := ⟨⟨rfl, rfl, rfl, by decide +kernel, rfl, by decide +kernel, by decide +kernel⟩, rfl, by decide +kernel, fun _ _ _ _ _ _ us hl => match us, hl with | [_], _ => rfl⟩
theorem fitshow_answer : DefT.Fit P tshow_answer := ⟨⟨rfl, rfl, rfl, by decide +kernel, rfl, by decide +kernel, by decide +kernel⟩, rfl, by decide +kernel, fun _ _ _ _ _ _ us hl => match us, hl with | [_], _ => rfl⟩
theorem fitread_part : DefT.Fit P tread_part := ⟨⟨rfl, rfl, rfl, by decide +kernel, rfl, by decide +kernel, by decide +kernel⟩, rfl, by decide +kernel, fun _ _ _ _ _ _ us hl => match us, hl with | [_], _ => rfl⟩
theorem fitread_deed : DefT.Fit P tread_deed := ⟨⟨rfl, rfl, rfl, by decide +kernel, rfl, by decide +kernel, by decide +kernel⟩, rfl, by decide +kernel, fun _ _ _ _ _ _ us hl => match us, hl with | [_], _ => rfl⟩
theorem fit_law_cell : DefT.Fit P t_law_cell := ⟨⟨rfl, rfl, rfl, by decide +kernel, rfl, by decide +kernel, by decide +kernel⟩, rfl, by decide +kernel, fun _ _ _ _ _ _ us hl => match us, hl with | [_, _], _ => rfl⟩
theorem fit_law_well : DefT.Fit P t_law_well := ⟨⟨rfl, rfl, rfl, by decide +kernel, rfl, by decide +kernel, by decide +kernel⟩, rfl, by decide +kernel, fun _ _ _ _ _ _ us hl => match us, hl with | [_, _], _ => rfl⟩
theorem fit_law_take : DefT.Fit P t_law_take := ⟨⟨rfl, rfl, rfl, by decide +kernel, rfl, by decide +kernel, by decide +kernel⟩, rfl, by decide +kernel, fun _ _ _ _ _ _ us hl => match us, hl with | [_, _], _ => rfl⟩
theorem fit_law_said : DefT.Fit P t_law_said := ⟨⟨rfl, rfl, rfl, by decide +kernel, rfl, by decide +kernel, by decide +kernel⟩, rfl, by decide +kernel, fun _ _ _ _ _ _ us hl => match us, hl with | [_], _ => rfl⟩
theorem fit_law_is : DefT.Fit P t_law_is := ⟨⟨rfl, rfl, rfl, by decide +kernel, rfl, by decide +kernel, by decide +kernel⟩, rfl, by decide +kernel, fun _ _ _ _ _ _ us hl => match us, hl with | [_, _], _ => rfl⟩
theorem fit_law_a_text : DefT.Fit P t_law_a_text := ⟨⟨rfl, rfl, rfl, by decide +kernel, rfl, by decide +kernel, by decide +kernel⟩, rfl, by decide +kernel, fun _ _ _ _ _ _ us hl => match us, hl with | [_], _ => rfl⟩
theorem fit_law_number_for : DefT.Fit P t_law_number_for := ⟨⟨rfl, rfl, rfl, by decide +kernel, rfl, by decide +kernel, by decide +kernel⟩, rfl, by decide +kernel, fun _ _ _ _ _ _ us hl => match us, hl with | [_, _, _], _ => rfl⟩
theorem fit_law_a_deed : DefT.Fit P t_law_a_deed := ⟨⟨rfl, rfl, rfl, by decide +kernel, rfl, by decide +kernel, by decide +kernel⟩, rfl, by decide +kernel, fun _ _ _ _ _ _ us hl => match us, hl with | [_], _ => rfl⟩
theorem fit_law_shown : DefT.Fit P t_law_shown := ⟨⟨rfl, rfl, rfl, by decide +kernel, rfl, by decide +kernel, by decide +kernel⟩, rfl, by decide +kernel, fun _ _ _ _ _ _ us hl => match us, hl with | [_], _ => rfl⟩
theorem fit_law_an_answer : DefT.Fit P t_law_an_answer := ⟨⟨rfl, rfl, rfl, by decide +kernel, rfl, by decide +kernel, by decide +kernel⟩, rfl, by decide +kernel, fun _ _ _ _ _ _ us hl => match us, hl with | [_], _ => rfl⟩
theorem fit_law_answered : DefT.Fit P t_law_answered := ⟨⟨rfl, rfl, rfl, by decide +kernel, rfl, by decide +kernel, by decide +kernel⟩, rfl, by decide +kernel, fun _ _ _ _ _ _ us hl => match us, hl with | [_], _ => rfl⟩
theorem fitlaw : DefT.Fit P tlaw := ⟨⟨rfl, rfl, rfl, by decide +kernel, rfl, by decide +kernel, by decide +kernel⟩, rfl, by decide +kernel, fun _ _ _ _ _ _ us hl => match us, hl with | [_], _ => rfl⟩
theorem fits : AllT (DefT.Fit P) ts := ⟨fitis_whole, fitis_within, fitis_door, fitis_place, fitis_kind, fitis_text, fitis_said, fitis_house_door, fitis_out, fitis_come, fitis_lost, fitis_rule, fitis_deed, fitshow_part, fitshow_deed, fitshow_answer, fitread_part, fitread_deed, fit_law_cell, fit_law_well, fit_law_take, fit_law_said, fit_law_is, fit_law_a_text, fit_law_number_for, fit_law_a_deed, fit_law_shown, fit_law_an_answer, fit_law_answered, fitlaw, trivial⟩
theorem okL : (ts.all fun t => decide (wh.lookup t.key = some t.at_)) = true := by decide +kernel
theorem okPL : okP P wh = true := by decide +kernel
theorem okT : (P.tabs.all fun t => tabNd t.2) = true := by decide +kernel
abbrev R : PySem.W.OpenRow := PySem.W.OpenLaw.row PySem.Challenge.rw_lentgate_k25_deeds_written_and_read
abbrev hk : PySem.W.Hook := hookZ 6 (faOf P) (ts.map DefT.dd) P.gl P.tabs
def ob (s : PySem.W.SharedT) : AlZ := obG 6 (faOf P) (ts.map DefT.dd) P.gl P.tabs (HandSHeadRun.getT s)
theorem ob_eq (s : PySem.W.SharedT) : ob s = hk.obs s.abs := obG_eq (HandSHeadRun.getT_eq s)
def loose : List PySem.Str := (["is_whole", "is_within", "is_door", "is_place", "is_kind", "is_text", "is_said", "is_house_door", "is_out", "is_come", "is_lost", "is_rule", "is_deed", "show_part", "show_deed", "show_answer", "read_part", "read_deed", "_law_cell", "_law_well", "_law_take", "_law_said", "_law_is", "_law_a_text", "_law_number_for"] : List PySem.Str) ++ (["_law_a_deed", "_law_shown", "_law_an_answer", "_law_answered", "GateError", "NoRow", "KINDS", "WORDS", "PARTS"] : List PySem.Str)
theorem run : ∀ w : World, HandSHeadRun.RunEq R (PySem.W.view R.prog [38]) hk ob 1959 loose w :=
  PySem.W.byRow2 "special-get-raises" (P := fun w => HandSHeadRun.RunEq R (PySem.W.view R.prog [38]) hk ob 1959 loose w) (fun w os => by kernel_rfl) (fun w os => by kernel_rfl)
end K25


namespace K25
open PySem Z
theorem endsOk : Z.Ends.EndsOk P := ⟨by kernel_rfl, by kernel_rfl, by kernel_rfl, by kernel_rfl, by kernel_rfl, by kernel_rfl, by kernel_rfl, by kernel_rfl, by kernel_rfl, by kernel_rfl, by kernel_rfl, by kernel_rfl, by kernel_rfl, by kernel_rfl, by kernel_rfl, by kernel_rfl⟩
theorem lkT : P.defs.lookup ("_law_take" : Str) = some cTake := by kernel_rfl
theorem lkC : P.defs.lookup ("_law_cell" : Str) = some cCell := by kernel_rfl
theorem lkW : P.defs.lookup ("_law_well" : Str) = some cWell := by kernel_rfl
theorem lk1 : P.defs.lookup ("show_part" : Str) = some cshow_part := by kernel_rfl
theorem lk2 : P.defs.lookup ("show_deed" : Str) = some cshow_deed := by kernel_rfl
theorem lk3 : P.defs.lookup ("show_answer" : Str) = some cshow_answer := by kernel_rfl
theorem lk4 : P.defs.lookup ("read_part" : Str) = some cread_part := by kernel_rfl
theorem lk5 : P.defs.lookup ("read_deed" : Str) = some cread_deed := by kernel_rfl
theorem lk6 : P.defs.lookup ("_law_is" : Str) = some c_law_is := by kernel_rfl
theorem lk7 : P.defs.lookup ("_law_a_text" : Str) = some c_law_a_text := by kernel_rfl
theorem lk8 : P.defs.lookup ("_law_number_for" : Str) = some c_law_number_for := by kernel_rfl
theorem lk9 : P.defs.lookup ("_law_a_deed" : Str) = some c_law_a_deed := by kernel_rfl
theorem lk10 : P.defs.lookup ("_law_shown" : Str) = some c_law_shown := by kernel_rfl
theorem lk11 : P.defs.lookup ("_law_an_answer" : Str) = some c_law_an_answer := by kernel_rfl
theorem lk12 : P.defs.lookup ("_law_answered" : Str) = some c_law_answered := by kernel_rfl
theorem lk13 : P.defs.lookup ("_law_said" : Str) = some c_law_said := by kernel_rfl
theorem lkL : P.defs.lookup ("law" : Str) = some claw := by kernel_rfl
theorem szL {k : Nat} (h : k ≤ 16777216) : k ≤ sizeLine := by rw [sizeLine_eq]; exact h
/-! ### parts and their texts -/
inductive Pt where
  | w (s : Str) | n (k : Nat) | any
def numS (k : Nat) : Str := Str.ofString (toString ((k : Nat) : Int))
def Pt.d : Pt → D
  | .w s => .str s
  | .n k => .int (k : Nat)
  | .any => .non
def Pt.s : Pt → Str
  | .w s => s
  | .n k => numS k
  | .any => "any"
def wordsL : List Str := ["out", "come", "lost", "wait", "rule", "unrule", "note", "line", "say", "open", "close", "break"]
/-- a part that can be read back -/
def Pt.Ok : Pt → Prop
  | .w s => s ∈ wordsL
  | .n k => k ≤ 1000000
  | .any => True
/-- a part that can be shown -/
def Pt.Sh : Pt → Prop
  | .w s => s.length ≤ 100
  | .n k => k ≤ 1000000
  | .any => True
theorem words_len : ∀ s ∈ wordsL, s.length ≤ 100 := by decide
theorem Pt.Ok.sh {p : Pt} (h : p.Ok) : p.Sh := by
  cases p with
  | w s => exact words_len s h
  | n k => exact h
  | any => trivial
theorem tl_numS (k : Nat) : TL.tl (numS k) = TL.numL k := TL.tl_num k
theorem num_len {k : Nat} (h : k ≤ 1000000) : (numS k).length ≤ 7 := by
  have : (numS k).length = (TL.tl (numS k)).length := TL.len_tl _
  rw [this, tl_numS]
  exact TL.numL_len (by decide) (by omega)
theorem Pt.Sh.len {p : Pt} (h : p.Sh) : p.s.length ≤ 100 := by
  cases p with
  | w s => exact h
  | n k => exact Nat.le_trans (num_len h) (by decide)
  | any => decide
theorem num_log {k : Nat} (h : k ≤ 1000000) : ((k : Nat) : Int).natAbs.log2 < 1920 := by
  have h2 : ((k : Nat) : Int).natAbs = k := by omega
  rw [h2]
  have : k.log2 < 20 ∨ k = 0 := by
    by_cases hz : k = 0
    · exact .inr hz
    · exact .inl ((Nat.log2_lt hz).mpr (by omega))
  rcases this with h | h
  · omega
  · subst h
    decide
theorem head_num : ∀ k : Nat, 0 < k → ∃ c r, TL.numL k = c :: r ∧ 49 ≤ c ∧ c ≤ 57 := by
  intro k
  induction k using Nat.strongRecOn with
  | _ k ih =>
    intro hk
    by_cases h : k < 10
    · exact ⟨48 + k, [], TL.numL_lt h, by omega, by omega⟩
    · obtain ⟨c, r, e, h1, h2⟩ := ih (k / 10) (by omega) (by omega)
      exact ⟨c, r ++ [48 + k % 10], by rw [TL.numL_step (by omega), e]; rfl, h1, h2⟩
section
variable {S : Sto} {m : Nat}
theorem c_eqS' {s u : Str} : evalC S .eq (.str s) (.str u) = some (s == u) := rfl
theorem show_eq {p : Pt} (h : p.Sh) : Z.run P (m + 1) ("show_part" : Str) [p.d] S = .ok (.str p.s) S := by
  apply eq_of_wp
  refine wp_run lk1 rfl ?_
  simp only [cshow_part]
  rw [ws_seq, ws_ite]
  simp only [wp_cmp, wp_var, wp_non, val, List.map_cons, List.map_nil, List.cons_append, List.nil_append, List.getElem?_cons_zero, List.getElem?_cons_succ, List.set_cons_zero, List.set_cons_succ, List.replicate_succ, List.replicate_zero, List.length_cons, List.length_nil, wo_some]
  cases p with
  | w s =>
    show Wo (some false) _
    simp only [wo_some, tr_bl, Bool.false_eq_true, if_false, ws_skip]
    rw [ws_seq, ws_ret]
    simp only [wp_bi, wp_var, wps_cons, wps_nil, val, List.map_cons, List.map_nil, List.cons_append, List.nil_append, List.getElem?_cons_zero, List.getElem?_cons_succ, List.set_cons_zero, List.set_cons_succ, List.replicate_succ, List.replicate_zero, List.length_cons, List.length_nil, wo_some]
    show Wo (some (D.str s)) _
    rw [wo_some]
    first | exact ⟨rfl, rfl⟩ | exact ⟨rfl, trivial⟩ | exact ⟨trivial, trivial⟩ | trivial
  | n k =>
    show Wo (some false) _
    simp only [wo_some, tr_bl, Bool.false_eq_true, if_false, ws_skip]
    rw [ws_seq, ws_ret]
    simp only [wp_bi, wp_var, wps_cons, wps_nil, val, List.map_cons, List.map_nil, List.cons_append, List.nil_append, List.getElem?_cons_zero, List.getElem?_cons_succ, List.set_cons_zero, List.set_cons_succ, List.replicate_succ, List.replicate_zero, List.length_cons, List.length_nil, wo_some]
    have e : evalBi S .strOf [.int (k : Nat)] = some (.str (numS k)) := if_pos (num_log h)
    show Wo (evalBi S .strOf [.int (k : Nat)]) _
    rw [e, wo_some]
    first | exact ⟨rfl, rfl⟩ | exact ⟨rfl, trivial⟩ | exact ⟨trivial, trivial⟩ | trivial
  | any =>
    show Wo (some true) _
    simp only [wo_some, tr_bl, if_true]
    rw [ws_seq, ws_ret, wp_str]
    first | exact ⟨rfl, rfl⟩ | exact ⟨rfl, trivial⟩ | exact ⟨trivial, trivial⟩ | trivial
theorem sig_lt {c e : Nat} : evalC S .lt (.str ⟨#[c]⟩) (.str ⟨#[e]⟩) = some (decide (c < e)) ∧ evalC S .gt (.str ⟨#[c]⟩) (.str ⟨#[e]⟩) = some (decide (e < c)) := ⟨(Z.Ends.lt_sg (a := c) (b := e)).1, (Z.Ends.lt_sg (a := c) (b := e)).2.1⟩
theorem read_num {k : Nat} (h : k ≤ 1000000) : Z.run P (m + 1) ("read_part" : Str) [.str (numS k)] S = .ok (.int (k : Nat)) S := by
  apply eq_of_wp
  refine wp_run lk4 rfl ?_
  have hl := num_len h
  have ht := tl_numS k
  have dg := TL.numL_digits k
  have ne : ∀ u : Str, (∃ c ∈ TL.tl u, c < 48 ∨ 57 < c) → (numS k == u) = false := fun u ⟨c, hc, ho⟩ => beq_eq_false_iff_ne.mpr fun e => by
    rw [← e, ht] at hc
    have := dg c hc
    omega
  have ne0 : (numS k == ("" : Str)) = false := beq_eq_false_iff_ne.mpr fun e => TL.numL_ne k (by rw [← ht, e]; rfl)
  simp only [cread_part]
  rw [ws_seq, ws_ite]
  simp only [wp_cmp, wp_var, wp_str, val, List.map_cons, List.map_nil, List.cons_append, List.nil_append, List.getElem?_cons_zero, List.getElem?_cons_succ, List.set_cons_zero, List.set_cons_succ, List.replicate_succ, List.replicate_zero, List.length_cons, List.length_nil, wo_some]
  rw [c_eqS', ne "any" ⟨97, by decide, by decide⟩, wo_some]
  simp only [wo_some, tr_bl, Bool.false_eq_true, if_false, ws_skip]
  rw [ws_seq, ws_ite]
  simp only [wp_or, wp_and, wp_cmp, wp_bi, wp_ix, wp_var, wp_str, wp_int, wps_cons, wps_nil, val, List.map_cons, List.map_nil, List.cons_append, List.nil_append, List.getElem?_cons_zero, List.getElem?_cons_succ, List.set_cons_zero, List.set_cons_succ, List.replicate_succ, List.replicate_zero, List.length_cons, List.length_nil, wo_some]
  rw [c_eqS', ne0, wo_some]
  simp only [wo_some, tr_bl, Bool.false_eq_true, if_false]
  have el : evalBi S .len [.str (numS k)] = some (.int (numS k).length) := if_pos (by rw [sizeLine_eq]; omega)
  rw [el, wo_some, c_gt, wo_some]
  rw [decide_eq_false (by omega : ¬ (7 : Int) < ((numS k).length : Nat))]
  simp only [wo_some, tr_bl, Bool.false_eq_true, if_false]
  have hne := TL.numL_ne k
  obtain ⟨c0, r0, e0, hz⟩ : ∃ c r, TL.numL k = c :: r ∧ (c = 48 → k = 0) := by
    by_cases hk : k = 0
    · subst hk
      exact ⟨48, [], by decide, fun _ => rfl⟩
    · obtain ⟨c, r, e, h1, _⟩ := head_num k (by omega)
      exact ⟨c, r, e, fun h => by omega⟩
  have e1 : (numS k).cps.toList = c0 :: r0 := ht.trans e0
  have ei : evalIx S (.str (numS k)) (.int 0) = some (.str ⟨#[c0]⟩) := by
    show (if (numS k).length ≤ sizeLine then (L2.atI (numS k).cps.toList 0).map fun c => D.str ⟨#[c]⟩ else none) = _
    rw [if_pos (by rw [sizeLine_eq]; omega), e1, atI_get (by decide) (by rw [List.length_cons]; omega)]
    rfl
  rw [ei, wo_some, c_eqS', wo_some]
  try simp only [tr_bl, wo_some]
  have fin : Ws (Z.exec P (Z.run P m) (.seq (.for (.one 1) (.seq (.var 0)) (.seq (.ite (.or (.cmp .lt (.var 1) (.str "0")) (.cmp .gt (.var 1) (.str "9"))) (.seq (.ret (.var 0)) .skip) .skip) .skip)) (.seq (.ret (.bi .intOf (.cons (.var 0) .nil))) .skip)) [.val (.str (numS k)), .no] S) (fun _ S' => D.non = .int (k : Nat) ∧ S' = S) fun d S' => d = .int (k : Nat) ∧ S' = S := by
    rw [ws_seq, ws_for]
    simp only [wi_seq, wp_var, val, List.map_cons, List.map_nil, List.cons_append, List.nil_append, List.getElem?_cons_zero, List.getElem?_cons_succ, List.set_cons_zero, List.set_cons_succ, List.replicate_succ, List.replicate_zero, List.length_cons, List.length_nil, wo_some]
    refine ws_loop (fun _ e S' => S' = S ∧ ∃ s1, e = [.val (.str (numS k)), s1]) ⟨rfl, _, rfl⟩ ?_ ?_
    · rintro i x e S' hx ⟨rfl, s1, rfl⟩
      obtain ⟨c, hc, rfl⟩ := List.mem_map.mp (List.mem_of_getElem? hx)
      rw [show (numS k).cps.toList = TL.numL k from ht] at hc
      have := dg c hc
      rw [bt_one, wo_if]
      refine ⟨by simp, ?_⟩
      rw [ws_seq, ws_ite]
      simp only [wp_or, wp_cmp, wp_var, wp_str, val, List.map_cons, List.map_nil, List.cons_append, List.nil_append, List.getElem?_cons_zero, List.getElem?_cons_succ, List.set_cons_zero, List.set_cons_succ, List.replicate_succ, List.replicate_zero, List.length_cons, List.length_nil, wo_some]
      rw [show (("0" : Str)) = ⟨#[48]⟩ from rfl, show (("9" : Str)) = ⟨#[57]⟩ from rfl, sig_lt.1, wo_some, decide_eq_false (by omega : ¬ c < 48)]
      simp only [wo_some, tr_bl, Bool.false_eq_true, if_false]
      rw [sig_lt.2, wo_some, decide_eq_false (by omega : ¬ 57 < c)]
      simp only [wo_some, tr_bl, Bool.false_eq_true, if_false, ws_skip]
      first | exact ⟨rfl, _, rfl⟩ | exact ⟨trivial, _, rfl⟩ | exact ⟨_, rfl⟩
    · rintro e S' ⟨rfl, s1, rfl⟩
      rw [ws_seq, ws_ret]
      simp only [wp_bi, wp_var, wps_cons, wps_nil, val, List.map_cons, List.map_nil, List.cons_append, List.nil_append, List.getElem?_cons_zero, List.getElem?_cons_succ, List.set_cons_zero, List.set_cons_succ, List.replicate_succ, List.replicate_zero, List.length_cons, List.length_nil, wo_some]
      have e : evalBi S' .intOf [.str (numS k)] = some (.int (k : Nat)) := by
        show (if (numS k).length ≤ 640 then (PySem.intText? (numS k)).map D.int else none) = _
        rw [if_pos (by omega), show PySem.intText? (numS k) = some ((k : Nat) : Int) from TL.int_num (by have := TL.numL_len (n := k) (k := 7) (by decide) (by omega); omega)]
        rfl
      rw [e, wo_some]
      first | exact ⟨rfl, rfl⟩ | exact ⟨rfl, trivial⟩ | exact ⟨trivial, trivial⟩ | trivial
  by_cases hc : c0 = 48
  · have hk := hz hc
    subst hk
    subst hc
    rw [show ((⟨#[48]⟩ : Str) == ("0" : Str)) = true from by kernel_rfl]
    simp only [if_true]
    rw [show evalC S .ne (.str (numS 0)) (.str "0") = some false from by kernel_rfl]
    simp only [wo_some, tr_bl, Bool.false_eq_true, if_false, ws_skip]
    exact fin
  · rw [show ((⟨#[c0]⟩ : Str) == ("0" : Str)) = false from beq_eq_false_iff_ne.mpr fun e => hc (by have e' : (⟨#[c0]⟩ : Str) = ⟨#[48]⟩ := e; have := congrArg (fun s : Str => s.cps.toList) e'; simpa using this)]
    simp only [wo_some, tr_bl, Bool.false_eq_true, if_false, ws_skip]
    exact fin
theorem read_eq {p : Pt} (h : p.Ok) : Z.run P (m + 1) ("read_part" : Str) [.str p.s] S = .ok p.d S := by
  cases p with
  | w s =>
    have h : s ∈ wordsL := h
    unfold wordsL at h
    simp only [List.mem_cons, List.not_mem_nil, or_false] at h
    rcases h with rfl | rfl | rfl | rfl | rfl | rfl | rfl | rfl | rfl | rfl | rfl | rfl <;> kernel_rfl
  | n k => exact read_num h
  | any => kernel_rfl
end
end K25


namespace K25
open PySem Z
/-! ### texts put together, taken apart -/
def headS (ps : List Pt) : Str := Txt.join " " (ps.map Pt.s)
theorem sum_le : ∀ {ss : List Str}, (∀ s ∈ ss, s.length ≤ 100) → (ss.map (·.length)).sum ≤ 100 * ss.length
  | [], _ => Nat.le_refl _
  | s :: ss, h => by
    have h1 := h s List.mem_cons_self
    have h2 := sum_le fun z hz => h z (List.mem_cons_of_mem s hz)
    rw [List.map_cons, List.sum_cons, List.length_cons]
    omega
theorem strs_map : ∀ ss : List Str, asStrs (ss.map D.str) = some ss
  | [] => rfl
  | s :: ss => by
    show (match asStrs (ss.map D.str) with
      | some r => some (s :: r)
      | none => none) = _
    rw [strs_map ss]
theorem joinL_len (S : List Nat) : ∀ ps : List (List Nat), (TL.joinL S ps).length ≤ (ps.map (·.length)).sum + ps.length * S.length
  | [] => Nat.zero_le _
  | [p] => by
    show p.length ≤ _
    rw [List.map_cons, List.sum_cons]
    omega
  | p :: q :: r => by
    have ih := joinL_len S (q :: r)
    show (p ++ (S ++ TL.joinL S (q :: r))).length ≤ _
    rw [List.length_append, List.length_append, List.map_cons, List.sum_cons]
    have : (p :: q :: r).length * S.length = (q :: r).length * S.length + S.length := by rw [List.length_cons, Nat.add_mul, Nat.one_mul]
    omega
theorem join_len {ss : List Str} (h : ∀ s ∈ ss, s.length ≤ 100) : (Txt.join " " ss).length ≤ 101 * ss.length := by
  have e : (Txt.join " " ss).length = (TL.tl (Txt.join " " ss)).length := TL.len_tl _
  rw [e, TL.join_eq, TL.tl_join]
  refine Nat.le_trans (joinL_len _ _) ?_
  have h2 := sum_le h
  have e2 : ((ss.map TL.tl).map (·.length)).sum = (ss.map (·.length)).sum := by
    rw [List.map_map]
    rfl
  rw [e2, List.length_map]
  show _ + ss.length * 1 ≤ _
  omega
theorem mem_joinL {S : List Nat} {c : Nat} : ∀ {ps : List (List Nat)}, c ∈ TL.joinL S ps → c ∈ S ∨ ∃ p ∈ ps, c ∈ p
  | [], h => by cases h
  | [p], h => .inr ⟨p, List.mem_cons_self, h⟩
  | p :: q :: r, h => by
    have h : c ∈ p ++ (S ++ TL.joinL S (q :: r)) := h
    rcases List.mem_append.mp h with h | h
    · exact .inr ⟨p, List.mem_cons_self, h⟩
    · rcases List.mem_append.mp h with h | h
      · exact .inl h
      · rcases mem_joinL h with h | ⟨z, hz, h⟩
        · exact .inl h
        · exact .inr ⟨z, List.mem_cons_of_mem _ hz, h⟩
theorem words_free : ∀ s ∈ wordsL, 32 ∉ TL.tl s ∧ 58 ∉ TL.tl s := by decide
theorem Pt.Ok.free {p : Pt} (h : p.Ok) : 32 ∉ TL.tl p.s ∧ 58 ∉ TL.tl p.s := by
  cases p with
  | w s => exact words_free s h
  | n k =>
    show 32 ∉ TL.tl (numS k) ∧ 58 ∉ TL.tl (numS k)
    rw [tl_numS]
    exact ⟨TL.numL_free (by omega), TL.numL_free (by omega)⟩
  | any => decide
theorem head_free {ps : List Pt} (h : ∀ p ∈ ps, p.Ok) : 58 ∉ TL.tl (headS ps) := by
  intro hc
  unfold headS at hc
  rw [TL.join_eq, TL.tl_join] at hc
  rcases mem_joinL hc with hc | ⟨q, hq, hc⟩
  · revert hc
    decide
  · obtain ⟨s, hs, rfl⟩ := List.mem_map.mp hq
    obtain ⟨p, hp, rfl⟩ := List.mem_map.mp hs
    exact (h p hp).free.2 hc
theorem split_head {ps : List Pt} (hne : ps ≠ []) (h : ∀ p ∈ ps, p.Ok) : Txt.split (headS ps) " " = ps.map Pt.s :=
  TL.split_join (s := 32) (S := []) rfl (by kernel_rfl) (fun e => hne (List.map_eq_nil_iff.mp e)) fun s hs => by
    obtain ⟨p, hp, rfl⟩ := List.mem_map.mp hs
    exact (h p hp).free.1
theorem pre_two {l : List Nat} {i : Nat} (hi : i < l.length) (h : l[i + 1]? ≠ some 58) : TL.pre [32, 58] (l.drop i) = false := by
  rw [List.drop_eq_getElem_cons hi]
  cases hz : l.drop (i + 1) with
  | nil =>
    show ([l[i]].take 2 == [32, 58]) = false
    simp
  | cons c r =>
    have hc : l[i + 1]? = some c := by
      have := List.getElem?_drop (xs := l) (i := i + 1) (j := 0)
      rw [hz] at this
      simpa using this.symm
    have nc : c ≠ 58 := fun e => h (by rw [hc, e])
    show (([l[i], c] : List Nat) == [32, 58]) = false
    refine beq_eq_false_iff_ne.mpr fun e => ?_
    injection e with e1 e2
    injection e2 with e2 _
    exact nc e2
theorem part_col {a b : Str} (h : 58 ∉ TL.tl a) : Txt.partition (a ++ " :" ++ b) " :" = (a, (" :" : Str), b) := by
  rw [TL.partition_par _ _ (by decide), TL.tl_append, TL.tl_append, List.append_assoc]
  have e : TL.tl (" :" : Str) = [32, 58] := by kernel_rfl
  rw [e, TL.par_part (by decide) fun i hi => ?_]
  · show ((⟨([] ++ TL.tl a).toArray⟩ : Str), (" :" : Str), (⟨(TL.tl b).toArray⟩ : Str)) = _
    rw [List.nil_append, TL.mk_tl, TL.mk_tl]
  · refine pre_two (by rw [List.length_append]; omega) fun q => ?_
    by_cases hl : i + 1 < (TL.tl a).length
    · rw [List.getElem?_append_left hl] at q
      exact h (List.mem_of_getElem? q)
    · have hl2 : i + 1 = (TL.tl a).length := by omega
      rw [List.getElem?_append_right (by omega), hl2, Nat.sub_self] at q
      cases q
theorem part_no {a : Str} (h : 58 ∉ TL.tl a) : Txt.partition a " :" = (a, ("" : Str), ("" : Str)) := by
  rw [TL.partition_par _ _ (by decide)]
  have e : TL.tl (" :" : Str) = [32, 58] := by kernel_rfl
  rw [e, TL.par_none fun i hi => pre_two hi fun q => h (List.mem_of_getElem? q)]
  rfl
theorem cut_init {xs : List D} {x : D} : cut (xs ++ [x]) none (some (-1)) = xs := by
  unfold cut
  have e1 : HT.sIx (xs ++ [x]).length 0 none = 0 := rfl
  have e2 : HT.sIx (xs ++ [x]).length (xs ++ [x]).length (some (-1)) = xs.length := by
    show (if (-1 : Int) < 0 then ((-1 : Int) + ((xs ++ [x]).length : Int)).toNat else min (-1 : Int).toNat (xs ++ [x]).length) = _
    rw [if_pos (by decide), List.length_append, List.length_singleton]
    omega
  rw [e1, e2, List.drop_zero, Nat.sub_zero, List.take_left]
theorem at_last {xs : List D} {x : D} : L2.atI (xs ++ [x]) (-1) = some x := by
  unfold L2.atI L2.ixN
  rw [if_neg (by decide), if_pos (by rw [List.length_append, List.length_singleton]; omega)]
  have e : ((-1 : Int) + ((xs ++ [x]).length : Int)).toNat = xs.length := by
    rw [List.length_append, List.length_singleton]
    omega
  first
    | (show (xs ++ [x])[((-1 : Int) + ((xs ++ [x]).length : Int)).toNat]? = some x
       rw [e, List.getElem?_append_right (Nat.le_refl _), Nat.sub_self]
       rfl)
    | (show (xs ++ [x])[((xs ++ [x]).length : Int) + (-1 : Int) |>.toNat]? = some x
       rw [Int.add_comm, e, List.getElem?_append_right (Nat.le_refl _), Nat.sub_self]
       rfl)
section
variable {S : Sto} {m : Nat}
theorem join_bm {x : D} {ss : List Str} (hv : view S x = .lst (ss.map D.str)) (h : ∀ s ∈ ss, s.length ≤ 100) (hl : ss.length ≤ 100) : evalBm S .join (.str " ") [x] = some (.str (Txt.join " " ss), S) := by
  show (match view S x with
    | .lst xs => (asStrs xs).bind fun (ys : List Str) => if (List.map Str.length ys).sum + ys.length * (" " : Str).length ≤ 16777216 then some (D.str (Txt.join " " ys), S) else none
    | _ => none) = _
  rw [hv]
  show ((asStrs (ss.map D.str)).bind fun (ys : List Str) => if (List.map Str.length ys).sum + ys.length * (" " : Str).length ≤ 16777216 then some (D.str (Txt.join " " ys), S) else none) = _
  rw [strs_map]
  show (if (ss.map (·.length)).sum + ss.length * (" " : Str).length ≤ 16777216 then some (D.str (Txt.join " " ss), S) else none) = _
  have := sum_le h
  rw [if_pos (by rw [show (" " : Str).length = 1 from rfl]; omega)]
theorem loop_map {α : Type} {g : D → Sto → Out (Option D)} {d f : α → D} : ∀ {xs : List α} {acc : List D}, (∀ x ∈ xs, g (d x) S = .ok (some (f x)) S) → acc.length + xs.length < sizeLine → loopC g (fun _ => true) (xs.map d) acc S = .ok (acc ++ xs.map f) S
  | [], acc, _, _ => by
    rw [List.map_nil, List.map_nil, List.append_nil, loopC]
    rfl
  | x :: xs, acc, h, hl => by
    rw [List.length_cons] at hl
    rw [List.map_cons, loopC, if_pos rfl, h x List.mem_cons_self]
    show (if acc.length < sizeLine then loopC g (fun _ => true) (xs.map d) (acc ++ [f x]) S else .bad) = _
    rw [if_pos (by omega), loop_map (fun y hy => h y (List.mem_cons_of_mem _ hy)) (by rw [List.length_append, List.length_singleton]; omega), List.append_assoc]
    rfl
def dS (p : Pt) : D := .str p.s
theorem map_dS (ps : List Pt) : ps.map dS = (ps.map Pt.s).map D.str := by rw [List.map_map]; rfl
theorem sh_len {ps : List Pt} (h : ∀ p ∈ ps, p.Sh) : ∀ s ∈ ps.map Pt.s, s.length ≤ 100 := fun s hs => by
  obtain ⟨p, hp, rfl⟩ := List.mem_map.mp hs
  exact (h p hp).len
theorem comp_show {ps : List Pt} {v0 : Slot} {s1 : Slot} (h : ∀ p ∈ ps, p.Sh) (hl : ps.length ≤ 100) : loopC (bodyC P (Z.run P (m + 1)) (.one 1) [1] (.bl true) (.call "show_part" (.cons (.var 1) .nil)) [v0, s1]) (fun _ => true) (ps.map Pt.d) [] S = .ok ((ps.map Pt.s).map D.str) S := by
  rw [loop_map (f := dS) (fun p hp => ?_) (by rw [sizeLine_eq, List.length_nil]; omega), List.nil_append, map_dS]
  apply eq_of_wp
  rw [wc_body]
  have c : ∀ Q : D → Sto → Prop, Wp (Z.run P (m + 1) ("show_part" : Str) [p.d] S) Q = Q (.str p.s) S := fun Q => wp_of_eq (show_eq (h p hp))
  simp only [bt_one, wipeE, wp_bl, wp_call, wp_var, wps_cons, wps_nil, val, List.map_cons, List.map_nil, List.cons_append, List.nil_append, List.getElem?_cons_zero, List.getElem?_cons_succ, List.set_cons_zero, List.set_cons_succ, List.replicate_succ, List.replicate_zero, List.length_cons, List.length_nil, wo_some, wo_if, tr_bl, if_true, c]
  first | exact ⟨by simp, rfl, rfl⟩ | exact ⟨by simp, rfl⟩ | simp [dS]
theorem add_str {a b : Str} (h : a.length + b.length ≤ 16777216) : evalB .add (.str a) (.str b) = some (.str (a ++ b)) := if_pos (by rw [sizeLine_eq]; exact h)
/-- a deed with a text, its parts ahead of it -/
def deedL (ps : List Pt) (t : Str) : D := .tup (ps.map Pt.d ++ [.str t])
def deedN (ps : List Pt) : D := .tup (ps.map Pt.d)
def textL (ps : List Pt) (t : Str) : Str := headS ps ++ " :" ++ t
theorem head_len {ps : List Pt} (h : ∀ p ∈ ps, p.Sh) (hl : ps.length ≤ 100) : (headS ps).length ≤ 10100 := by
  have := join_len (sh_len h)
  rw [List.length_map] at this
  unfold headS
  omega
theorem showL_eq {nm : Str} {r : List Pt} {t : Str} (hn : nm = "out" ∨ nm = "come") (h : ∀ p ∈ Pt.w nm :: r, p.Sh) (hl : r.length ≤ 50) (ht : t.length ≤ 1000) : Z.run P (m + 2) ("show_deed" : Str) [deedL (.w nm :: r) t] S = .ok (.str (textL (.w nm :: r) t)) S := by
  apply eq_of_wp
  refine wp_run lk2 rfl ?_
  simp only [cshow_deed]
  have i0 : evalIx S (deedL (.w nm :: r) t) (.int 0) = some (.str nm) := by
    show L2.atI (D.str nm :: (r.map Pt.d ++ [.str t])) 0 = _
    rw [atI_get (by decide) (by rw [List.length_cons]; omega)]
    rfl
  have iL : evalIx S (deedL (.w nm :: r) t) (.int (-1)) = some (.str t) := at_last
  have sl : evalSl S (deedL (.w nm :: r) t) none (some (-1)) = some (.tup ((Pt.w nm :: r).map Pt.d)) := congrArg (fun x => some (D.tup x)) cut_init
  rw [ws_seq, ws_ite]
  simp only [wp_or, wp_cmp, wp_ix, wp_var, wp_str, wp_int, val, List.map_cons, List.map_nil, List.cons_append, List.nil_append, List.getElem?_cons_zero, List.getElem?_cons_succ, List.set_cons_zero, List.set_cons_succ, List.replicate_succ, List.replicate_zero, List.length_cons, List.length_nil, wo_some, i0, c_eqS']
  have go : Ws (Z.exec P (Z.run P (m + 1)) (.seq (.ret (.bin .add (.bin .add (.bm (.str " ") .join (.cons (.comp false [("part", 1)] (.one 1) (.seq (.slTo (.var 0) (.neg (.int 1)))) (.bl true) (.call "show_part" (.cons (.var 1) .nil))) .nil)) (.str " :")) (.ix (.var 0) (.neg (.int 1))))) .skip) [.val (deedL (.w nm :: r) t), .no] S) (fun e S' => Ws (Z.exec P (Z.run P (m + 1)) (.seq (.ret (.bm (.str " ") .join (.cons (.comp false [("part", 1)] (.one 1) (.seq (.var 0)) (.bl true) (.call "show_part" (.cons (.var 1) .nil))) .nil))) .skip) e S') (fun _ S' => D.non = .str (textL (.w nm :: r) t) ∧ S' = S) fun d S' => d = .str (textL (.w nm :: r) t) ∧ S' = S) (fun d S' => d = .str (textL (.w nm :: r) t) ∧ S' = S) := by
    rw [ws_seq, ws_ret]
    simp only [wp_bin, wp_bm, wp_comp, wi_seq, wp_slTo, wp_neg, wp_ix, wp_var, wp_str, wp_int, wps_cons, wps_nil, val, List.map_cons, List.map_nil, List.cons_append, List.nil_append, List.getElem?_cons_zero, List.getElem?_cons_succ, List.set_cons_zero, List.set_cons_succ, List.replicate_succ, List.replicate_zero, List.length_cons, List.length_nil, wo_some, sl, iL]
    refine ⟨rfl, ?_⟩
    show Wp (loopC (bodyC P (Z.run P (m + 1)) (.one 1) [1] (.bl true) (.call "show_part" (.cons (.var 1) .nil)) [.val (deedL (.w nm :: r) t), .no]) (fun _ => true) ((Pt.w nm :: r).map Pt.d) [] S) _
    rw [comp_show h (by rw [List.length_cons]; omega), wp_ok, if_neg Bool.false_ne_true]
    rw [join_bm (x := .lst (((Pt.w nm :: r).map Pt.s).map D.str)) rfl (sh_len h) (by rw [List.length_map, List.length_cons]; omega), wo_some]
    have hh := head_len h (by rw [List.length_cons]; omega)
    unfold headS at hh
    rw [add_str (by rw [show (" :" : Str).length = 2 from rfl]; omega), wo_some]
    dsimp only
    rw [iL, wo_some, add_str (by rw [Str.length_append, show (" :" : Str).length = 2 from rfl]; omega), wo_some]
    first | exact ⟨rfl, rfl⟩ | exact ⟨rfl, trivial⟩ | exact ⟨trivial, trivial⟩ | trivial
  rcases hn with rfl | rfl
  · rw [show (("out" : Str) == ("out" : Str)) = true from by kernel_rfl]
    simp only [tr_bl, wo_some, if_true]
    exact go
  · rw [show (("come" : Str) == ("out" : Str)) = false from by kernel_rfl, show (("come" : Str) == ("come" : Str)) = true from by kernel_rfl]
    simp only [tr_bl, wo_some, if_true, Bool.false_eq_true, if_false]
    exact go
theorem showN_eq {nm : Str} {r : List Pt} (hn : nm ≠ "out" ∧ nm ≠ "come") (h : ∀ p ∈ Pt.w nm :: r, p.Sh) (hl : r.length ≤ 50) : Z.run P (m + 2) ("show_deed" : Str) [deedN (.w nm :: r)] S = .ok (.str (headS (.w nm :: r))) S := by
  apply eq_of_wp
  refine wp_run lk2 rfl ?_
  simp only [cshow_deed]
  have i0 : evalIx S (deedN (.w nm :: r)) (.int 0) = some (.str nm) := by
    show L2.atI (D.str nm :: r.map Pt.d) 0 = _
    rw [atI_get (by decide) (by rw [List.length_cons]; omega)]
    rfl
  rw [ws_seq, ws_ite]
  simp only [wp_or, wp_cmp, wp_ix, wp_var, wp_str, wp_int, val, List.map_cons, List.map_nil, List.cons_append, List.nil_append, List.getElem?_cons_zero, List.getElem?_cons_succ, List.set_cons_zero, List.set_cons_succ, List.replicate_succ, List.replicate_zero, List.length_cons, List.length_nil, wo_some, i0, c_eqS']
  rw [beq_eq_false_iff_ne.mpr hn.1, beq_eq_false_iff_ne.mpr hn.2]
  simp only [tr_bl, wo_some, Bool.false_eq_true, if_false, ws_skip]
  rw [ws_seq, ws_ret]
  simp only [wp_bm, wp_comp, wi_seq, wp_var, wp_str, wps_cons, wps_nil, val, List.map_cons, List.map_nil, List.cons_append, List.nil_append, List.getElem?_cons_zero, List.getElem?_cons_succ, List.set_cons_zero, List.set_cons_succ, List.replicate_succ, List.replicate_zero, List.length_cons, List.length_nil, wo_some]
  refine ⟨rfl, ?_⟩
  show Wp (loopC (bodyC P (Z.run P (m + 1)) (.one 1) [1] (.bl true) (.call "show_part" (.cons (.var 1) .nil)) [.val (deedN (.w nm :: r)), .no]) (fun _ => true) ((Pt.w nm :: r).map Pt.d) [] S) _
  rw [comp_show h (by rw [List.length_cons]; omega), wp_ok, if_neg Bool.false_ne_true]
  rw [join_bm (x := .lst (((Pt.w nm :: r).map Pt.s).map D.str)) rfl (sh_len h) (by rw [List.length_map, List.length_cons]; omega), wo_some]
  first | exact ⟨rfl, rfl⟩ | exact ⟨rfl, trivial⟩ | exact ⟨trivial, trivial⟩ | trivial
end
end K25


namespace K25
open PySem Z
def wBody : St := (.seq (.ex (.bm (.var 1) .append (.cons (.ite (.cmp .isN (.var 2) .non) (.str "any") (.bi .strOf (.cons (.var 2) .nil))) .nil))) .skip)
section
variable {S : Sto} {m : Nat} {Q : D → Sto → Prop}
theorem words_turn {p : Pt} (h : p.Sh) {v0 : D} {xs : List D} {N : En → Sto → Prop} {T : D → Sto → Prop} (hl : xs.length < 1000) (q : N [.val v0, .val (.ref S.length), .val p.d] (S ++ [.lst (xs ++ [dS p])])) :
    Ws (Z.exec P (Z.run P m) wBody [.val v0, .val (.ref S.length), .val p.d] (S ++ [.lst xs])) N T := by
  unfold wBody
  rw [ws_seq, ws_ex]
  simp only [wp_bm, wp_ite, wp_cmp, wp_bi, wp_non, wp_str, wp_var, wps_cons, wps_nil, val, List.map_cons, List.map_nil, List.cons_append, List.nil_append, List.getElem?_cons_zero, List.getElem?_cons_succ, List.set_cons_zero, List.set_cons_succ, List.replicate_succ, List.replicate_zero, List.length_cons, List.length_nil, wo_some]
  have a := append_at (S := S ++ [Ob.lst xs]) (a := S.length) (xs := xs) (x := dS p) app_get (by rw [sizeLine_eq]; omega)
  refine ⟨a.1, ?_⟩
  have go : Wo (evalBm (S ++ [Ob.lst xs]) .append (.ref S.length) [dS p]) fun d => Ws (Z.exec P (Z.run P m) .skip [.val v0, .val (.ref S.length), .val p.d] d.2) N T := by
    rw [a.2, wo_some]
    try dsimp only
    rw [app_set, ws_skip]
    exact q
  cases p with
  | w s =>
    show Wo (some false) _
    simp only [wo_some, tr_bl, Bool.false_eq_true, if_false]
    rw [show evalBi (S ++ [Ob.lst xs]) .strOf [(Pt.w s).d] = some (.str s) from rfl, wo_some]
    exact go
  | n k =>
    show Wo (some false) _
    simp only [wo_some, tr_bl, Bool.false_eq_true, if_false]
    have e : evalBi (S ++ [Ob.lst xs]) .strOf [(Pt.n k).d] = some (.str (numS k)) := if_pos (num_log h)
    rw [e, wo_some]
    exact go
  | any =>
    show Wo (some true) _
    simp only [wo_some, tr_bl, if_true]
    exact go
theorem words_loop {ps : List Pt} (h : ∀ p ∈ ps, p.Sh) (hl : ps.length ≤ 100) {v0 : D} {s2 : Slot} {N : En → Sto → Prop} {T : D → Sto → Prop} (q : ∀ s2, N [.val v0, .val (.ref S.length), s2] (S ++ [.lst (ps.map dS)])) :
    Ws (runF (fun x e S => match bindT (.one 2) x e with
    | some e1 => Z.exec P (Z.run P m) wBody e1 S
    | none => .bad) (.s (.free (ps.map Pt.d))) [.val v0, .val (.ref S.length), s2] (S ++ [.lst []])) N T := by
  refine ws_loop (fun i e S' => S' = S ++ [.lst ((ps.take i).map dS)] ∧ ∃ s2, e = [.val v0, .val (.ref S.length), s2]) ⟨rfl, _, rfl⟩ ?_ ?_
  · rintro i x e S' hx ⟨rfl, s2, rfl⟩
    rw [List.getElem?_map] at hx
    obtain ⟨p, hp, rfl⟩ := Option.map_eq_some_iff.mp hx
    have hi : i < ps.length := (List.getElem?_eq_some_iff.mp hp).1
    rw [bt_one, wo_if]
    refine ⟨by simp, ?_⟩
    refine words_turn (h p (List.mem_of_getElem? hp)) (by rw [List.length_map, List.length_take]; omega) ⟨?_, _, rfl⟩
    rw [List.take_succ, hp, List.map_append]
    rfl
  · rintro e S' ⟨rfl, s2, rfl⟩
    rw [List.length_map, List.take_length]
    exact q s2
theorem view_app {xs : List D} : view (S ++ [Ob.lst xs]) (.ref S.length) = .lst xs := view_ref app_get
theorem lshownL {nm : Str} {r : List Pt} {t : Str} (hn : nm = "out" ∨ nm = "come") (h : ∀ p ∈ Pt.w nm :: r, p.Sh) (hl : r.length ≤ 50) (ht : t.length ≤ 1000) (q : ∀ o, Q (.str (textL (.w nm :: r) t)) (S ++ [o])) : Wp (Z.run P (m + 1) ("_law_shown" : Str) [deedL (.w nm :: r) t] S) Q := by
  refine wp_run lk10 rfl ?_
  simp only [c_law_shown]
  have i0 : ∀ S : Sto, evalIx S (deedL (.w nm :: r) t) (.int 0) = some (.str nm) := fun S => by
    show L2.atI (D.str nm :: (r.map Pt.d ++ [.str t])) 0 = _
    rw [atI_get (by decide) (by rw [List.length_cons]; omega)]
    rfl
  have iL : ∀ S : Sto, evalIx S (deedL (.w nm :: r) t) (.int (-1)) = some (.str t) := fun S => at_last
  have sl : ∀ S : Sto, evalSl S (deedL (.w nm :: r) t) none (some (-1)) = some (.tup ((Pt.w nm :: r).map Pt.d)) := fun S => congrArg (fun x => some (D.tup x)) cut_init
  rw [ws_seq, ws_set]
  simp only [wp_lstR, wps_nil, val, List.map_cons, List.map_nil, List.cons_append, List.nil_append, List.getElem?_cons_zero, List.getElem?_cons_succ, List.set_cons_zero, List.set_cons_succ, List.replicate_succ, List.replicate_zero, List.length_cons, List.length_nil, wo_some]
  refine ⟨szL (by decide), by simp, ?_⟩
  rw [ws_seq, ws_for]
  simp only [wi_seq, wp_slTo, wp_neg, wp_int, wp_var, val, List.map_cons, List.map_nil, List.cons_append, List.nil_append, List.getElem?_cons_zero, List.getElem?_cons_succ, List.set_cons_zero, List.set_cons_succ, List.replicate_succ, List.replicate_zero, List.length_cons, List.length_nil, wo_some, sl]
  refine words_loop h (by rw [List.length_cons]; omega) fun s2 => ?_
  rw [ws_seq, ws_ite]
  simp only [wp_or, wp_cmp, wp_ix, wp_var, wp_str, wp_int, val, List.map_cons, List.map_nil, List.cons_append, List.nil_append, List.getElem?_cons_zero, List.getElem?_cons_succ, List.set_cons_zero, List.set_cons_succ, List.replicate_succ, List.replicate_zero, List.length_cons, List.length_nil, wo_some, i0, c_eqS']
  have go : ∀ (N : En → Sto → Prop), Ws (Z.exec P (Z.run P m) (.seq (.ret (.bin .add (.bin .add (.bm (.str " ") .join (.cons (.var 1) .nil)) (.str " :")) (.ix (.var 0) (.neg (.int 1))))) .skip) [.val (deedL (.w nm :: r) t), .val (.ref S.length), s2] (S ++ [.lst ((Pt.w nm :: r).map dS)])) N Q := fun N => by
    rw [ws_seq, ws_ret]
    simp only [wp_bin, wp_bm, wp_neg, wp_ix, wp_var, wp_str, wp_int, wps_cons, wps_nil, val, List.map_cons, List.map_nil, List.cons_append, List.nil_append, List.getElem?_cons_zero, List.getElem?_cons_succ, List.set_cons_zero, List.set_cons_succ, List.replicate_succ, List.replicate_zero, List.length_cons, List.length_nil, wo_some]
    refine ⟨rfl, ?_⟩
    have hv := view_app (S := S) (xs := (Pt.w nm :: r).map dS)
    rw [map_dS] at hv
    have hj := join_bm (S := S ++ [Ob.lst ((Pt.w nm :: r).map dS)]) (x := .ref S.length) (ss := (Pt.w nm :: r).map Pt.s) (by rw [map_dS]; exact hv) (sh_len h) (by rw [List.length_map, List.length_cons]; omega)
    simp only [List.map_cons] at hj
    rw [hj, wo_some]
    have hh := head_len h (by rw [List.length_cons]; omega)
    unfold headS at hh
    simp only [List.map_cons] at hh
    try dsimp only
    rw [add_str (by rw [show (" :" : Str).length = 2 from rfl]; omega), wo_some]
    try dsimp only
    rw [iL, wo_some, add_str (by rw [Str.length_append, show (" :" : Str).length = 2 from rfl]; omega), wo_some]
    exact q _
  rcases hn with rfl | rfl
  · rw [show (("out" : Str) == ("out" : Str)) = true from by kernel_rfl]
    simp only [tr_bl, wo_some, if_true]
    exact go _
  · rw [show (("come" : Str) == ("out" : Str)) = false from by kernel_rfl, show (("come" : Str) == ("come" : Str)) = true from by kernel_rfl]
    simp only [tr_bl, wo_some, if_true, Bool.false_eq_true, if_false]
    exact go _
theorem lshownN {nm : Str} {r : List Pt} {k : Nat} (hn : nm ≠ "out" ∧ nm ≠ "come") (h : ∀ p ∈ Pt.w nm :: (r ++ [.n k]), p.Sh) (hl : r.length ≤ 50) (q : ∀ o, Q (.str (headS (.w nm :: (r ++ [.n k])))) (S ++ [o])) : Wp (Z.run P (m + 1) ("_law_shown" : Str) [deedN (.w nm :: (r ++ [.n k]))] S) Q := by
  refine wp_run lk10 rfl ?_
  simp only [c_law_shown]
  have dd : deedN (.w nm :: (r ++ [.n k])) = .tup ((Pt.w nm :: r).map Pt.d ++ [(Pt.n k).d]) := by
    unfold deedN
    rw [← List.cons_append, List.map_append]
    rfl
  have hk : (Pt.n k).Sh := h _ (by simp)
  have h' : ∀ p ∈ Pt.w nm :: r, p.Sh := fun p hp => h p (by
    rcases List.mem_cons.mp hp with rfl | hp
    · exact List.mem_cons_self
    · exact List.mem_cons_of_mem _ (List.mem_append_left _ hp))
  rw [dd]
  have i0 : ∀ S : Sto, evalIx S (.tup ((Pt.w nm :: r).map Pt.d ++ [(Pt.n k).d])) (.int 0) = some (.str nm) := fun S => by
    show L2.atI (D.str nm :: (r.map Pt.d ++ [(Pt.n k).d])) 0 = _
    rw [atI_get (by decide) (by rw [List.length_cons]; omega)]
    rfl
  have iL : ∀ S : Sto, evalIx S (.tup ((Pt.w nm :: r).map Pt.d ++ [(Pt.n k).d])) (.int (-1)) = some (Pt.n k).d := fun S => at_last
  have sl : ∀ S : Sto, evalSl S (.tup ((Pt.w nm :: r).map Pt.d ++ [(Pt.n k).d])) none (some (-1)) = some (.tup ((Pt.w nm :: r).map Pt.d)) := fun S => congrArg (fun x => some (D.tup x)) cut_init
  generalize D.tup ((Pt.w nm :: r).map Pt.d ++ [(Pt.n k).d]) = dz at i0 iL sl
  rw [ws_seq, ws_set]
  simp only [wp_lstR, wps_nil, val, List.map_cons, List.map_nil, List.cons_append, List.nil_append, List.getElem?_cons_zero, List.getElem?_cons_succ, List.set_cons_zero, List.set_cons_succ, List.replicate_succ, List.replicate_zero, List.length_cons, List.length_nil, wo_some]
  refine ⟨szL (by decide), by simp, ?_⟩
  rw [ws_seq, ws_for]
  simp only [wi_seq, wp_slTo, wp_neg, wp_int, wp_var, val, List.map_cons, List.map_nil, List.cons_append, List.nil_append, List.getElem?_cons_zero, List.getElem?_cons_succ, List.set_cons_zero, List.set_cons_succ, List.replicate_succ, List.replicate_zero, List.length_cons, List.length_nil, wo_some, sl]
  refine words_loop h' (by rw [List.length_cons]; omega) fun s2 => ?_
  rw [ws_seq, ws_ite]
  simp only [wp_or, wp_cmp, wp_ix, wp_var, wp_str, wp_int, val, List.map_cons, List.map_nil, List.cons_append, List.nil_append, List.getElem?_cons_zero, List.getElem?_cons_succ, List.set_cons_zero, List.set_cons_succ, List.replicate_succ, List.replicate_zero, List.length_cons, List.length_nil, wo_some, i0, c_eqS']
  rw [beq_eq_false_iff_ne.mpr hn.1, beq_eq_false_iff_ne.mpr hn.2]
  simp only [tr_bl, wo_some, Bool.false_eq_true, if_false, ws_skip]
  rw [ws_seq, ws_ret]
  simp only [wp_bm, wp_cat, wp_lst, wp_bi, wp_neg, wp_ix, wp_var, wp_str, wp_int, wps_cons, wps_nil, val, List.map_cons, List.map_nil, List.cons_append, List.nil_append, List.getElem?_cons_zero, List.getElem?_cons_succ, List.set_cons_zero, List.set_cons_succ, List.replicate_succ, List.replicate_zero, List.length_cons, List.length_nil, wo_some, iL]
  refine ⟨rfl, ?_⟩
  have e : ∀ S : Sto, evalBi S .strOf [(Pt.n k).d] = some (.str (numS k)) := fun S => if_pos (num_log hk)
  rw [e, wo_some]
  refine ⟨szL (by decide), ?_⟩
  rw [show view (S ++ [Ob.lst (dS (Pt.w nm) :: List.map dS r)]) (.ref S.length) = .lst (dS (Pt.w nm) :: List.map dS r) from view_app]
  show Wo (if _ then _ else _) _
  rw [wo_if]
  refine ⟨szL (by simp; omega), ?_⟩
  have ee : dS (Pt.w nm) :: List.map dS r ++ [D.str (numS k)] = ((Pt.w nm :: (r ++ [.n k])).map Pt.s).map D.str := by
    rw [← map_dS, List.map_cons, List.map_append]
    rfl
  rw [ee, join_bm (x := .lst _) rfl (sh_len h) (by rw [List.length_map, List.length_cons, List.length_append, List.length_singleton]; omega), wo_some]
  exact q _
end
end K25


namespace K25
open PySem Z
theorem okP {p : Pt} (h : p.Sh) : Z.Ends.Okd p.d := by
  cases p with
  | w s => exact ⟨rfl, fun u e => by cases e; exact Nat.le_trans h (by decide)⟩
  | n k => exact ⟨rfl, fun u e => by cases e⟩
  | any => exact ⟨rfl, fun u e => by cases e⟩
theorem or_true {b1 b2 : Bool} {X : Bool → Prop} (h : b1 = true ∨ b2 = true) (q : X true) : if b1 = true then X b1 else X b2 := by
  by_cases h1 : b1 = true
  · rw [if_pos h1, h1]
    exact q
  · rw [if_neg h1, h.resolve_left h1]
    exact q
section
variable {S : Sto} {m : Nat} {Q : D → Sto → Prop}
theorem readL {nm : Str} {r : List Pt} {t : Str} (hn : nm = "out" ∨ nm = "come") (h : ∀ p ∈ Pt.w nm :: r, p.Ok) (hl : r.length ≤ 50) (ht : t.length ≤ 40) (hd : Z.Ends.deedB (deedL (.w nm :: r) t) = true) (q : ∀ S', (∃ o, S' = S ++ [o]) → Q (deedL (.w nm :: r) t) S') : Wp (Z.run P (m + 7) ("read_deed" : Str) [.str (textL (.w nm :: r) t)] S) Q := by
  refine wp_run lk5 rfl ?_
  simp only [cread_deed]
  have hs : ∀ p ∈ Pt.w nm :: r, p.Sh := fun p hp => (h p hp).sh
  have hh := head_len hs (by rw [List.length_cons]; omega)
  rw [ws_seq, ws_unp]
  simp only [wp_bm, wp_var, wp_str, wps_cons, wps_nil, val, List.map_cons, List.map_nil, List.cons_append, List.nil_append, List.getElem?_cons_zero, List.getElem?_cons_succ, List.set_cons_zero, List.set_cons_succ, List.replicate_succ, List.replicate_zero, List.length_cons, List.length_nil, wo_some]
  refine ⟨rfl, ?_⟩
  have ep : evalBm S .partition (.str (textL (.w nm :: r) t)) [.str " :"] = some (.tup [.str (headS (.w nm :: r)), .str " :", .str t], S) := by
    show (if ((" :" : Str).length == 0) = false ∧ (textL (.w nm :: r) t).length ≤ sizeLine then some (D.tup [.str (Txt.partition (textL (.w nm :: r) t) " :").1, .str (Txt.partition (textL (.w nm :: r) t) " :").2.1, .str (Txt.partition (textL (.w nm :: r) t) " :").2.2], S) else none) = _
    rw [if_pos ⟨by kernel_rfl, by unfold textL; rw [Str.length_append, Str.length_append, sizeLine_eq, show (" :" : Str).length = 2 from rfl]; omega⟩]
    unfold textL
    rw [part_col (head_free h)]
  rw [ep, wo_some]
  have hb : bindT (.many [4, 5, 6]) (.tup [.str (headS (.w nm :: r)), .str " :", .str t]) [.val (.str (textL (.w nm :: r) t)), .no, .no, .no, .no, .no, .no, .no] = some [.val (.str (textL (.w nm :: r) t)), .no, .no, .no, .val (.str (headS (.w nm :: r))), .val (.str " :"), .val (.str t), .no] := rfl
  rw [hb, wo_some, ws_seq, ws_set]
  simp only [wp_comp, wi_seq, wp_bm, wp_var, wp_str, wps_cons, wps_nil, val, List.map_cons, List.map_nil, List.cons_append, List.nil_append, List.getElem?_cons_zero, List.getElem?_cons_succ, List.set_cons_zero, List.set_cons_succ, List.replicate_succ, List.replicate_zero, List.length_cons, List.length_nil, wo_some]
  refine ⟨rfl, ?_⟩
  have es : evalBm S .split (.str (headS (.w nm :: r))) [.str " "] = some (.lst ((Pt.w nm :: r).map dS), S) := by
    show (if ((" " : Str).length == 0) = false ∧ (headS (.w nm :: r)).length + 2 ≤ sizeLine then some (D.lst ((Txt.split (headS (.w nm :: r)) " ").map D.str), S) else none) = _
    rw [if_pos ⟨by kernel_rfl, by rw [sizeLine_eq]; omega⟩, split_head (List.cons_ne_nil _ _) h, map_dS]
  rw [es, wo_some]
  show Wp (loopC (bodyC P (Z.run P (m + 6)) (.one 7) [7] (.bl true) (.call "read_part" (.cons (.var 7) .nil)) _) (fun _ => true) ((Pt.w nm :: r).map dS) [] S) _
  rw [loop_map (f := Pt.d) (fun p hp => ?_) (by rw [sizeLine_eq, List.length_nil, List.length_cons]; omega), wp_ok, if_pos trivial, List.nil_append]
  · refine ⟨by simp, ?_⟩
    have i0 : ∀ S' : Sto, S' = S ++ [Ob.lst ((Pt.w nm :: r).map Pt.d)] → evalIx S' (.ref S.length) (.int 0) = some (.str nm) := fun S' e => by
      subst e
      rw [ix_ref app_get]
      show L2.atI (D.str nm :: r.map Pt.d) 0 = _
      rw [atI_get (by decide) (by rw [List.length_cons]; omega)]
      rfl
    rw [ws_seq, ws_set]
    simp only [wp_or, wp_cmp, wp_ix, wp_var, wp_str, wp_int, val, List.map_cons, List.map_nil, List.cons_append, List.nil_append, List.getElem?_cons_zero, List.getElem?_cons_succ, List.set_cons_zero, List.set_cons_succ, List.replicate_succ, List.replicate_zero, List.length_cons, List.length_nil, wo_some]
    have i0 : evalIx (S ++ [Ob.lst ((Pt.w nm).d :: List.map Pt.d r)]) (.ref S.length) (.int 0) = some (.str nm) := i0 _ rfl
    rw [i0]
    simp only [wo_some, c_eqS']
    have hor : (nm == ("out" : Str)) = true ∨ (nm == ("come" : Str)) = true := by
      rcases hn with rfl | rfl
      · exact .inl (by kernel_rfl)
      · exact .inr (by kernel_rfl)
    try simp only [tr_bl, wo_some]
    revert hor
    generalize (nm == ("out" : Str)) = b1
    generalize (nm == ("come" : Str)) = b2
    intro hor
    apply or_true hor
    refine ⟨by simp, ?_⟩
    try simp only [val, List.map_cons, List.map_nil, List.cons_append, List.nil_append, List.getElem?_cons_zero, List.getElem?_cons_succ, List.set_cons_zero, List.set_cons_succ, List.replicate_succ, List.replicate_zero, List.length_cons, List.length_nil, wo_some]
    rw [ws_seq, ws_ite]
    simp only [wp_and, wp_cmp, wp_var, wp_str, val, List.map_cons, List.map_nil, List.cons_append, List.nil_append, List.getElem?_cons_zero, List.getElem?_cons_succ, List.set_cons_zero, List.set_cons_succ, List.replicate_succ, List.replicate_zero, List.length_cons, List.length_nil, wo_some, tr_bl, if_true]
    rw [show evalC (S ++ [Ob.lst ((Pt.w nm).d :: List.map Pt.d r)]) .ne (.str " :") (.str "") = some true from rfl]
    simp only [wo_some, tr_bl, if_true]
    rw [ws_seq, ws_ex]
    simp only [wp_bm, wp_var, wps_cons, wps_nil, val, List.map_cons, List.map_nil, List.cons_append, List.nil_append, List.getElem?_cons_zero, List.getElem?_cons_succ, List.set_cons_zero, List.set_cons_succ, List.replicate_succ, List.replicate_zero, List.length_cons, List.length_nil, wo_some]
    have a := append_at (S := S ++ [Ob.lst ((Pt.w nm).d :: List.map Pt.d r)]) (a := S.length) (x := .str t) app_get (by rw [sizeLine_eq, List.length_cons, List.length_map]; omega)
    refine ⟨a.1, ?_⟩
    rw [a.2, wo_some]
    try dsimp only
    rw [app_set, ws_skip, ws_seq, ws_set]
    simp only [wp_bi, wp_var, wps_cons, wps_nil, val, List.map_cons, List.map_nil, List.cons_append, List.nil_append, List.getElem?_cons_zero, List.getElem?_cons_succ, List.set_cons_zero, List.set_cons_succ, List.replicate_succ, List.replicate_zero, List.length_cons, List.length_nil, wo_some]
    rw [tup_lstR app_get, wo_some]
    refine ⟨by simp, ?_⟩
    rw [show D.tup ((Pt.w nm).d :: (List.map Pt.d r ++ [D.str t])) = deedL (.w nm :: r) t from rfl]
    rw [ws_seq, ws_ite]
    have dc : ∀ Q' : D → Sto → Prop, Wp (Z.run P (m + 6) ("is_deed" : Str) [deedL (.w nm :: r) t] (S ++ [Ob.lst ((Pt.w nm).d :: (List.map Pt.d r ++ [D.str t]))])) Q' = Q' (.bl true) (S ++ [Ob.lst ((Pt.w nm).d :: (List.map Pt.d r ++ [D.str t]))]) := fun Q' => by
      have := wp_of_eq (Q := Q') (Z.Ends.deed_eq endsOk (n := m) (S := S ++ [Ob.lst ((Pt.w nm).d :: (List.map Pt.d r ++ [D.str t]))]) (thing := deedL (.w nm :: r) t) (.inl ⟨_, rfl, fun x hx => ?_⟩))
      · rw [this, hd]
      · rcases List.mem_append.mp hx with hx | hx
        · obtain ⟨p, hp, rfl⟩ := List.mem_map.mp hx
          exact okP (hs p hp)
        · rw [List.mem_singleton.mp hx]
          exact ⟨rfl, fun s e => by cases e; omega⟩
    simp only [wp_or, wp_not, wp_cmp, wp_call, wp_var, wp_str, wps_cons, wps_nil, val, List.map_cons, List.map_nil, List.cons_append, List.nil_append, List.getElem?_cons_zero, List.getElem?_cons_succ, List.set_cons_zero, List.set_cons_succ, List.replicate_succ, List.replicate_zero, List.length_cons, List.length_nil, wo_some]
    rw [show evalC (S ++ [Ob.lst ((Pt.w nm).d :: (List.map Pt.d r ++ [D.str t]))]) .ne (.str " :") (.str "") = some true from rfl, wo_some, show evalC (S ++ [Ob.lst ((Pt.w nm).d :: (List.map Pt.d r ++ [D.str t]))]) .ne (.bl true) (.bl true) = some false from rfl, wo_some]
    simp only [wo_some, tr_bl, Bool.false_eq_true, if_false, dc, Bool.not_true]
    rw [ws_skip, ws_seq, ws_ret]
    simp only [wp_var, val, List.map_cons, List.map_nil, List.cons_append, List.nil_append, List.getElem?_cons_zero, List.getElem?_cons_succ, List.set_cons_zero, List.set_cons_succ, List.replicate_succ, List.replicate_zero, List.length_cons, List.length_nil, wo_some]
    exact q _ ⟨_, rfl⟩
  · apply eq_of_wp
    rw [wc_body]
    have c : ∀ Q : D → Sto → Prop, Wp (Z.run P (m + 6) ("read_part" : Str) [.str p.s] S) Q = Q p.d S := fun Q => wp_of_eq (read_eq (m := m + 5) (h p hp))
    simp only [bt_one, wipeE, wp_bl, wp_call, wp_var, wps_cons, wps_nil, val, List.map_cons, List.map_nil, List.cons_append, List.nil_append, List.getElem?_cons_zero, List.getElem?_cons_succ, List.set_cons_zero, List.set_cons_succ, List.replicate_succ, List.replicate_zero, List.length_cons, List.length_nil, wo_some, wo_if, tr_bl, if_true, dS, c]
    first | exact ⟨by simp, rfl, rfl⟩ | exact ⟨by simp, rfl⟩ | simp
theorem readN {nm : Str} {r : List Pt} (hn : nm ≠ "out" ∧ nm ≠ "come") (h : ∀ p ∈ Pt.w nm :: r, p.Ok) (hl : r.length ≤ 50) (hd : Z.Ends.deedB (deedN (.w nm :: r)) = true) (q : ∀ S', (∃ o, S' = S ++ [o]) → Q (deedN (.w nm :: r)) S') : Wp (Z.run P (m + 7) ("read_deed" : Str) [.str (headS (.w nm :: r))] S) Q := by
  refine wp_run lk5 rfl ?_
  simp only [cread_deed]
  have hs : ∀ p ∈ Pt.w nm :: r, p.Sh := fun p hp => (h p hp).sh
  have hh := head_len hs (by rw [List.length_cons]; omega)
  rw [ws_seq, ws_unp]
  simp only [wp_bm, wp_var, wp_str, wps_cons, wps_nil, val, List.map_cons, List.map_nil, List.cons_append, List.nil_append, List.getElem?_cons_zero, List.getElem?_cons_succ, List.set_cons_zero, List.set_cons_succ, List.replicate_succ, List.replicate_zero, List.length_cons, List.length_nil, wo_some]
  refine ⟨rfl, ?_⟩
  have ep : evalBm S .partition (.str (headS (.w nm :: r))) [.str " :"] = some (.tup [.str (headS (.w nm :: r)), .str "", .str ""], S) := by
    show (if ((" :" : Str).length == 0) = false ∧ (headS (.w nm :: r)).length ≤ sizeLine then some (D.tup [.str (Txt.partition (headS (.w nm :: r)) " :").1, .str (Txt.partition (headS (.w nm :: r)) " :").2.1, .str (Txt.partition (headS (.w nm :: r)) " :").2.2], S) else none) = _
    rw [if_pos ⟨by kernel_rfl, by rw [sizeLine_eq]; omega⟩, part_no (head_free h)]
  rw [ep, wo_some]
  have hb : bindT (.many [4, 5, 6]) (.tup [.str (headS (.w nm :: r)), .str "", .str ""]) [.val (.str (headS (.w nm :: r))), .no, .no, .no, .no, .no, .no, .no] = some [.val (.str (headS (.w nm :: r))), .no, .no, .no, .val (.str (headS (.w nm :: r))), .val (.str ""), .val (.str ""), .no] := rfl
  rw [hb, wo_some, ws_seq, ws_set]
  simp only [wp_comp, wi_seq, wp_bm, wp_var, wp_str, wps_cons, wps_nil, val, List.map_cons, List.map_nil, List.cons_append, List.nil_append, List.getElem?_cons_zero, List.getElem?_cons_succ, List.set_cons_zero, List.set_cons_succ, List.replicate_succ, List.replicate_zero, List.length_cons, List.length_nil, wo_some]
  refine ⟨rfl, ?_⟩
  have es : evalBm S .split (.str (headS (.w nm :: r))) [.str " "] = some (.lst ((Pt.w nm :: r).map dS), S) := by
    show (if ((" " : Str).length == 0) = false ∧ (headS (.w nm :: r)).length + 2 ≤ sizeLine then some (D.lst ((Txt.split (headS (.w nm :: r)) " ").map D.str), S) else none) = _
    rw [if_pos ⟨by kernel_rfl, by rw [sizeLine_eq]; omega⟩, split_head (List.cons_ne_nil _ _) h, map_dS]
  rw [es, wo_some]
  show Wp (loopC (bodyC P (Z.run P (m + 6)) (.one 7) [7] (.bl true) (.call "read_part" (.cons (.var 7) .nil)) _) (fun _ => true) ((Pt.w nm :: r).map dS) [] S) _
  rw [loop_map (f := Pt.d) (fun p hp => ?_) (by rw [sizeLine_eq, List.length_nil, List.length_cons]; omega), wp_ok, if_pos trivial, List.nil_append]
  · refine ⟨by simp, ?_⟩
    have i0 : ∀ S' : Sto, S' = S ++ [Ob.lst ((Pt.w nm :: r).map Pt.d)] → evalIx S' (.ref S.length) (.int 0) = some (.str nm) := fun S' e => by
      subst e
      rw [ix_ref app_get]
      show L2.atI (D.str nm :: r.map Pt.d) 0 = _
      rw [atI_get (by decide) (by rw [List.length_cons]; omega)]
      rfl
    rw [ws_seq, ws_set]
    simp only [wp_or, wp_cmp, wp_ix, wp_var, wp_str, wp_int, val, List.map_cons, List.map_nil, List.cons_append, List.nil_append, List.getElem?_cons_zero, List.getElem?_cons_succ, List.set_cons_zero, List.set_cons_succ, List.replicate_succ, List.replicate_zero, List.length_cons, List.length_nil, wo_some]
    have i0 : evalIx (S ++ [Ob.lst ((Pt.w nm).d :: List.map Pt.d r)]) (.ref S.length) (.int 0) = some (.str nm) := i0 _ rfl
    rw [i0]
    simp only [wo_some, c_eqS']
    rw [beq_eq_false_iff_ne.mpr hn.1, beq_eq_false_iff_ne.mpr hn.2]
    simp only [wo_some, tr_bl, Bool.false_eq_true, if_false]
    refine ⟨by simp, ?_⟩
    try simp only [val, List.map_cons, List.map_nil, List.cons_append, List.nil_append, List.getElem?_cons_zero, List.getElem?_cons_succ, List.set_cons_zero, List.set_cons_succ, List.replicate_succ, List.replicate_zero, List.length_cons, List.length_nil, wo_some]
    rw [ws_seq, ws_ite]
    simp only [wp_and, wp_cmp, wp_var, wp_str, val, List.map_cons, List.map_nil, List.cons_append, List.nil_append, List.getElem?_cons_zero, List.getElem?_cons_succ, List.set_cons_zero, List.set_cons_succ, List.replicate_succ, List.replicate_zero, List.length_cons, List.length_nil, wo_some, tr_bl, Bool.false_eq_true, if_false]
    rw [ws_skip, ws_seq, ws_set]
    simp only [wp_bi, wp_var, wps_cons, wps_nil, val, List.map_cons, List.map_nil, List.cons_append, List.nil_append, List.getElem?_cons_zero, List.getElem?_cons_succ, List.set_cons_zero, List.set_cons_succ, List.replicate_succ, List.replicate_zero, List.length_cons, List.length_nil, wo_some]
    rw [tup_lstR app_get, wo_some]
    refine ⟨by simp, ?_⟩
    rw [show D.tup ((Pt.w nm).d :: List.map Pt.d r) = deedN (.w nm :: r) from rfl]
    rw [ws_seq, ws_ite]
    have dc : ∀ Q' : D → Sto → Prop, Wp (Z.run P (m + 6) ("is_deed" : Str) [deedN (.w nm :: r)] (S ++ [Ob.lst ((Pt.w nm).d :: List.map Pt.d r)])) Q' = Q' (.bl true) (S ++ [Ob.lst ((Pt.w nm).d :: List.map Pt.d r)]) := fun Q' => by
      have := wp_of_eq (Q := Q') (Z.Ends.deed_eq endsOk (n := m) (S := S ++ [Ob.lst ((Pt.w nm).d :: List.map Pt.d r)]) (thing := deedN (.w nm :: r)) (.inl ⟨_, rfl, fun x hx => ?_⟩))
      · rw [this, hd]
      · obtain ⟨p, hp, rfl⟩ := List.mem_map.mp hx
        exact okP (hs p hp)
    simp only [wp_or, wp_not, wp_cmp, wp_call, wp_var, wp_str, wps_cons, wps_nil, val, List.map_cons, List.map_nil, List.cons_append, List.nil_append, List.getElem?_cons_zero, List.getElem?_cons_succ, List.set_cons_zero, List.set_cons_succ, List.replicate_succ, List.replicate_zero, List.length_cons, List.length_nil, wo_some]
    rw [show evalC (S ++ [Ob.lst ((Pt.w nm).d :: List.map Pt.d r)]) .ne (.str "") (.str "") = some false from rfl, wo_some, show evalC (S ++ [Ob.lst ((Pt.w nm).d :: List.map Pt.d r)]) .ne (.bl false) (.bl false) = some false from rfl, wo_some]
    simp only [wo_some, tr_bl, Bool.false_eq_true, if_false, dc, Bool.not_true]
    rw [ws_skip, ws_seq, ws_ret]
    simp only [wp_var, val, List.map_cons, List.map_nil, List.cons_append, List.nil_append, List.getElem?_cons_zero, List.getElem?_cons_succ, List.set_cons_zero, List.set_cons_succ, List.replicate_succ, List.replicate_zero, List.length_cons, List.length_nil, wo_some]
    exact q _ ⟨_, rfl⟩
  · apply eq_of_wp
    rw [wc_body]
    have c : ∀ Q : D → Sto → Prop, Wp (Z.run P (m + 6) ("read_part" : Str) [.str p.s] S) Q = Q p.d S := fun Q => wp_of_eq (read_eq (m := m + 5) (h p hp))
    simp only [bt_one, wipeE, wp_bl, wp_call, wp_var, wps_cons, wps_nil, val, List.map_cons, List.map_nil, List.cons_append, List.nil_append, List.getElem?_cons_zero, List.getElem?_cons_succ, List.set_cons_zero, List.set_cons_succ, List.replicate_succ, List.replicate_zero, List.length_cons, List.length_nil, wo_some, wo_if, tr_bl, if_true, dS, c]
    first | exact ⟨by simp, rfl, rfl⟩ | exact ⟨by simp, rfl⟩ | simp
end
end K25


namespace K25
open PySem Z
section
variable {S : Sto} {m : Nat} {Q : D → Sto → Prop}
/-- no tuple, no list, no truth -/
def Flat : D → Prop
  | .str _ => True
  | .int _ => True
  | .non => True
  | _ => False
theorem is_flat {x : D} (h : Flat x) : Z.run P (m + 1) ("_law_is" : Str) [x, x] S = .ok (.bl true) S := by
  apply eq_of_wp
  refine wp_run lk6 rfl ?_
  simp only [c_law_is]
  rw [ws_seq, ws_ite]
  simp only [wp_isi, wp_var, val, List.map_cons, List.map_nil, List.cons_append, List.nil_append, List.getElem?_cons_zero, List.getElem?_cons_succ, List.set_cons_zero, List.set_cons_succ, List.replicate_succ, List.replicate_zero, List.length_cons, List.length_nil, wo_some]
  have go : ∀ N : En → Sto → Prop, isTy x S .bool = some false → evalC S .eq x x = some true → Ws (Z.exec P (Z.run P m) (.seq (.ret (.and (.not (.isi (.var 0) .bool)) (.cmp .eq (.var 0) (.var 1)))) .skip) [.val x, .val x, .no, .no] S) N fun d S' => d = .bl true ∧ S' = S := fun N h1 h2 => by
    rw [ws_seq, ws_ret]
    simp only [wp_and, wp_not, wp_isi, wp_cmp, wp_var, val, List.map_cons, List.map_nil, List.cons_append, List.nil_append, List.getElem?_cons_zero, List.getElem?_cons_succ, List.set_cons_zero, List.set_cons_succ, List.replicate_succ, List.replicate_zero, List.length_cons, List.length_nil, wo_some, h1, tr_bl, Bool.not_false, if_true, h2]
    first | exact ⟨rfl, rfl⟩ | exact ⟨rfl, trivial⟩ | exact ⟨trivial, trivial⟩ | trivial
  cases x with
  | str s =>
    show Wo (some false) _
    simp only [wo_some, tr_bl, Bool.false_eq_true, if_false, ws_skip]
    exact go _ rfl (by rw [c_eqS', beq_self_eq_true])
  | int i =>
    show Wo (some false) _
    simp only [wo_some, tr_bl, Bool.false_eq_true, if_false, ws_skip]
    exact go _ rfl (by rw [c_eqI, beq_self_eq_true])
  | non =>
    show Wo (some false) _
    simp only [wo_some, tr_bl, Bool.false_eq_true, if_false, ws_skip]
    exact go _ rfl rfl
  | _ => exact h.elim
theorem zip_self : ∀ xs : List D, zipD xs xs = xs.map fun x => D.tup [x, x]
  | [] => rfl
  | x :: xs => by
    show D.tup [x, x] :: zipD xs xs = _
    rw [zip_self xs]
    rfl
theorem bools_true : ∀ xs : List D, bools (xs.map fun _ => D.bl true) = some (xs.map fun _ => true)
  | [] => rfl
  | x :: xs => by
    show (match bools (xs.map fun _ => D.bl true) with
      | some s => some (true :: s)
      | none => none) = _
    rw [bools_true xs]
    rfl
theorem is_tup {xs : List D} (h : ∀ x ∈ xs, Flat x) (hl : xs.length ≤ 1000) : Z.run P (m + 2) ("_law_is" : Str) [.tup xs, .tup xs] S = .ok (.bl true) S := by
  apply eq_of_wp
  refine wp_run lk6 rfl ?_
  simp only [c_law_is]
  have el : evalBi S .len [.tup xs] = some (.int (xs.length : Nat)) := rfl
  rw [ws_seq, ws_ite]
  simp only [wp_isi, wp_var, val, List.map_cons, List.map_nil, List.cons_append, List.nil_append, List.getElem?_cons_zero, List.getElem?_cons_succ, List.set_cons_zero, List.set_cons_succ, List.replicate_succ, List.replicate_zero, List.length_cons, List.length_nil, wo_some]
  rw [show isTy (.tup xs) S .tuple = some true from rfl]
  simp only [wo_some, tr_bl, if_true]
  rw [ws_seq, ws_ite]
  simp only [wp_or, wp_not, wp_isi, wp_cmp, wp_bi, wp_var, wps_cons, wps_nil, val, List.map_cons, List.map_nil, List.cons_append, List.nil_append, List.getElem?_cons_zero, List.getElem?_cons_succ, List.set_cons_zero, List.set_cons_succ, List.replicate_succ, List.replicate_zero, List.length_cons, List.length_nil, wo_some, el]
  rw [show isTy (.tup xs) S .tuple = some true from rfl]
  simp only [wo_some, tr_bl, Bool.not_true, Bool.false_eq_true, if_false, c_neI, beq_self_eq_true, ws_skip]
  rw [ws_seq, ws_ret]
  simp only [wp_bi, wp_comp, wi_zip, wp_var, wps_cons, wps_nil, val, List.map_cons, List.map_nil, List.cons_append, List.nil_append, List.getElem?_cons_zero, List.getElem?_cons_succ, List.set_cons_zero, List.set_cons_succ, List.replicate_succ, List.replicate_zero, List.length_cons, List.length_nil, wo_some]
  rw [zip_self]
  show Wp (loopC (bodyC P (Z.run P (m + 1)) (.many [2, 3]) [2, 3] (.bl true) (.call "_law_is" (.cons (.var 2) (.cons (.var 3) .nil))) [.val (.tup xs), .val (.tup xs), .no, .no]) (fun _ => true) (xs.map fun x => D.tup [x, x]) [] S) _
  rw [loop_map (f := fun _ => D.bl true) (fun x hx => ?_) (by rw [sizeLine_eq, List.length_nil]; omega), wp_ok, if_neg Bool.false_ne_true, List.nil_append]
  · have e : evalBi S .all [.lst (xs.map fun _ => D.bl true)] = some (.bl true) := by
      show (bools (xs.map fun _ => D.bl true)).map (fun bs => D.bl (bs.all id)) = _
      rw [bools_true]
      show some (D.bl ((xs.map fun _ => true).all id)) = _
      simp
    rw [e, wo_some]
    first | exact ⟨rfl, rfl⟩ | exact ⟨rfl, trivial⟩ | exact ⟨trivial, trivial⟩ | trivial
  · apply eq_of_wp
    rw [wc_body]
    have hb : bindT (.many [2, 3]) (.tup [x, x]) (wipeE [.val (.tup xs), .val (.tup xs), .no, .no] [2, 3]) = some [.val (.tup xs), .val (.tup xs), .val x, .val x] := rfl
    have c : ∀ Q : D → Sto → Prop, Wp (Z.run P (m + 1) ("_law_is" : Str) [x, x] S) Q = Q (.bl true) S := fun Q => wp_of_eq (is_flat (h x hx))
    rw [hb]
    simp only [wp_bl, wp_call, wp_var, wps_cons, wps_nil, val, List.map_cons, List.map_nil, List.cons_append, List.nil_append, List.getElem?_cons_zero, List.getElem?_cons_succ, List.set_cons_zero, List.set_cons_succ, List.replicate_succ, List.replicate_zero, List.length_cons, List.length_nil, wo_some, tr_bl, if_true, c]
    first | exact ⟨rfl, rfl⟩ | exact ⟨rfl, trivial⟩ | exact ⟨trivial, trivial⟩ | trivial
theorem flatP (p : Pt) : Flat p.d := by cases p <;> trivial
/-! ### answers -/
inductive An where
  | none | num (k : Nat) | row (ps : List Pt) | turn (k : Nat) (ps : List Pt)
def An.d : An → D
  | .none => .non
  | .num k => .int (k : Nat)
  | .row ps => .tup (ps.map Pt.d)
  | .turn k ps => .tup [.str "turned", .int (k : Nat), .tup (ps.map Pt.d)]
def An.s : An → Str
  | .none => "ok"
  | .num k => "rule " ++ numS k
  | .row ps => headS ps
  | .turn k ps => "turned " ++ numS k ++ " " ++ headS ps
def RowOk (ps : List Pt) : Prop := (∃ nm r, ps = .w nm :: r ∧ nm ≠ "turned") ∧ (∀ p ∈ ps, p.Sh ∧ p.d ≠ .non) ∧ ps.length ≤ 50
def An.Ok : An → Prop
  | .none => True
  | .num k => k ≤ 1000000
  | .row ps => RowOk ps
  | .turn k ps => k ≤ 1000000 ∧ RowOk ps
theorem str_num {k : Nat} (h : k ≤ 1000000) : evalBi S .strOf [.int (k : Nat)] = some (.str (numS k)) := if_pos (num_log h)
theorem row_at {nm : Str} {r : List Pt} : evalIx S (.tup ((Pt.w nm :: r).map Pt.d)) (.int 0) = some (.str nm) := by
  show L2.atI (D.str nm :: r.map Pt.d) 0 = _
  rw [atI_get (by decide) (by rw [List.length_cons]; omega)]
  rfl
theorem show_row {ps : List Pt} (h : RowOk ps) : Z.run P (m + 2) ("show_answer" : Str) [(An.row ps).d] S = .ok (.str (headS ps)) S := by
  obtain ⟨⟨nm, r, rfl, hn⟩, h1, h2⟩ := h
  apply eq_of_wp
  refine wp_run lk3 rfl ?_
  simp only [cshow_answer]
  have hs : ∀ p ∈ Pt.w nm :: r, p.Sh := fun p hp => (h1 p hp).1
  rw [ws_seq, ws_ite]
  simp only [wp_cmp, wp_var, wp_non, val, List.map_cons, List.map_nil, List.cons_append, List.nil_append, List.getElem?_cons_zero, List.getElem?_cons_succ, List.set_cons_zero, List.set_cons_succ, List.replicate_succ, List.replicate_zero, List.length_cons, List.length_nil, wo_some, An.d]
  show Wo (some false) _
  simp only [wo_some, tr_bl, Bool.false_eq_true, if_false, ws_skip]
  rw [ws_seq, ws_ite]
  simp only [wp_isi, wp_var, val, List.map_cons, List.map_nil, List.cons_append, List.nil_append, List.getElem?_cons_zero, List.getElem?_cons_succ, List.set_cons_zero, List.set_cons_succ, List.replicate_succ, List.replicate_zero, List.length_cons, List.length_nil, wo_some]
  show Wo (some false) _
  simp only [wo_some, tr_bl, Bool.false_eq_true, if_false, ws_skip]
  rw [ws_seq, ws_ite]
  simp only [wp_cmp, wp_ix, wp_var, wp_int, wp_str, val, List.map_cons, List.map_nil, List.cons_append, List.nil_append, List.getElem?_cons_zero, List.getElem?_cons_succ, List.set_cons_zero, List.set_cons_succ, List.replicate_succ, List.replicate_zero, List.length_cons, List.length_nil, wo_some]
  rw [show evalIx S (.tup ((Pt.w nm).d :: List.map Pt.d r)) (.int 0) = some (.str nm) from row_at]
  simp only [wo_some, c_eqS', beq_eq_false_iff_ne.mpr hn, tr_bl, Bool.false_eq_true, if_false, ws_skip]
  rw [ws_seq, ws_ret]
  simp only [wp_bm, wp_comp, wi_seq, wp_var, wp_str, wps_cons, wps_nil, val, List.map_cons, List.map_nil, List.cons_append, List.nil_append, List.getElem?_cons_zero, List.getElem?_cons_succ, List.set_cons_zero, List.set_cons_succ, List.replicate_succ, List.replicate_zero, List.length_cons, List.length_nil, wo_some]
  refine ⟨rfl, ?_⟩
  show Wp (loopC (bodyC P (Z.run P (m + 1)) (.one 1) [1] (.bl true) (.call "show_part" (.cons (.var 1) .nil)) [.val _, .no]) (fun _ => true) ((Pt.w nm :: r).map Pt.d) [] S) _
  rw [comp_show hs (Nat.le_trans h2 (by decide)), wp_ok, if_neg Bool.false_ne_true]
  rw [join_bm (x := .lst (((Pt.w nm :: r).map Pt.s).map D.str)) rfl (sh_len hs) (by rw [List.length_map]; exact Nat.le_trans h2 (by decide)), wo_some]
  first | exact ⟨rfl, rfl⟩ | exact ⟨rfl, trivial⟩ | exact ⟨trivial, trivial⟩ | trivial
theorem ans_row {ps : List Pt} (h : RowOk ps) : Z.run P (m + 1) ("_law_answered" : Str) [(An.row ps).d] S = .ok (.str (headS ps)) S := by
  obtain ⟨⟨nm, r, rfl, hn⟩, h1, h2⟩ := h
  apply eq_of_wp
  refine wp_run lk12 rfl ?_
  simp only [c_law_answered]
  have hs : ∀ p ∈ Pt.w nm :: r, p.Sh := fun p hp => (h1 p hp).1
  rw [ws_seq, ws_ite]
  simp only [wp_cmp, wp_var, wp_non, val, List.map_cons, List.map_nil, List.cons_append, List.nil_append, List.getElem?_cons_zero, List.getElem?_cons_succ, List.set_cons_zero, List.set_cons_succ, List.replicate_succ, List.replicate_zero, List.length_cons, List.length_nil, wo_some, An.d]
  show Wo (some false) _
  simp only [wo_some, tr_bl, Bool.false_eq_true, if_false, ws_skip]
  rw [ws_seq, ws_ite]
  simp only [wp_not, wp_isi, wp_var, val, List.map_cons, List.map_nil, List.cons_append, List.nil_append, List.getElem?_cons_zero, List.getElem?_cons_succ, List.set_cons_zero, List.set_cons_succ, List.replicate_succ, List.replicate_zero, List.length_cons, List.length_nil, wo_some]
  show Wo (some true) _
  simp only [wo_some, tr_bl, Bool.not_true, Bool.false_eq_true, if_false, ws_skip]
  rw [ws_seq, ws_ite]
  simp only [wp_cmp, wp_ix, wp_var, wp_int, wp_str, val, List.map_cons, List.map_nil, List.cons_append, List.nil_append, List.getElem?_cons_zero, List.getElem?_cons_succ, List.set_cons_zero, List.set_cons_succ, List.replicate_succ, List.replicate_zero, List.length_cons, List.length_nil, wo_some]
  rw [show evalIx S (.tup ((Pt.w nm).d :: List.map Pt.d r)) (.int 0) = some (.str nm) from row_at]
  simp only [wo_some, c_eqS', beq_eq_false_iff_ne.mpr hn, tr_bl, Bool.false_eq_true, if_false, ws_skip]
  rw [ws_seq, ws_ret]
  simp only [wp_bm, wp_comp, wi_seq, wp_var, wp_str, wps_cons, wps_nil, val, List.map_cons, List.map_nil, List.cons_append, List.nil_append, List.getElem?_cons_zero, List.getElem?_cons_succ, List.set_cons_zero, List.set_cons_succ, List.replicate_succ, List.replicate_zero, List.length_cons, List.length_nil, wo_some]
  refine ⟨rfl, ?_⟩
  show Wp (loopC (bodyC P (Z.run P m) (.one 1) [1] (.bl true) (.bi .strOf (.cons (.var 1) .nil)) [.val _, .no]) (fun _ => true) ((Pt.w nm :: r).map Pt.d) [] S) _
  rw [loop_map (f := dS) (fun p hp => ?_) (by rw [sizeLine_eq, List.length_nil]; omega), wp_ok, if_neg Bool.false_ne_true, List.nil_append, map_dS]
  · rw [join_bm (x := .lst (((Pt.w nm :: r).map Pt.s).map D.str)) rfl (sh_len hs) (by rw [List.length_map]; exact Nat.le_trans h2 (by decide)), wo_some]
    first | exact ⟨rfl, rfl⟩ | exact ⟨rfl, trivial⟩ | exact ⟨trivial, trivial⟩ | trivial
  · apply eq_of_wp
    rw [wc_body]
    have e : evalBi S .strOf [p.d] = some (dS p) := by
      obtain ⟨g1, g2⟩ := h1 p hp
      cases p with
      | w s => rfl
      | n k => exact str_num g1
      | any => exact absurd rfl g2
    simp only [bt_one, wipeE, wp_bl, wp_bi, wp_var, wps_cons, wps_nil, val, List.map_cons, List.map_nil, List.cons_append, List.nil_append, List.getElem?_cons_zero, List.getElem?_cons_succ, List.set_cons_zero, List.set_cons_succ, List.replicate_succ, List.replicate_zero, List.length_cons, List.length_nil, wo_some, wo_if, tr_bl, if_true, e]
    first | exact ⟨by simp, rfl, rfl⟩ | exact ⟨by simp, rfl⟩ | simp
theorem show_an {a : An} (h : a.Ok) : Z.run P (m + 3) ("show_answer" : Str) [a.d] S = .ok (.str a.s) S := by
  cases a with
  | row ps => exact show_row (m := m + 1) h
  | none =>
    apply eq_of_wp
    refine wp_run lk3 rfl ?_
    simp only [cshow_answer]
    rw [ws_seq, ws_ite]
    simp only [wp_cmp, wp_var, wp_non, val, List.map_cons, List.map_nil, List.cons_append, List.nil_append, List.getElem?_cons_zero, List.getElem?_cons_succ, List.set_cons_zero, List.set_cons_succ, List.replicate_succ, List.replicate_zero, List.length_cons, List.length_nil, wo_some, An.d]
    show Wo (some true) _
    simp only [wo_some, tr_bl, if_true]
    rw [ws_seq, ws_ret, wp_str]
    first | exact ⟨rfl, rfl⟩ | exact ⟨rfl, trivial⟩ | exact ⟨trivial, trivial⟩ | trivial
  | num k =>
    apply eq_of_wp
    refine wp_run lk3 rfl ?_
    simp only [cshow_answer]
    have hk := num_len (show k ≤ 1000000 from h)
    rw [ws_seq, ws_ite]
    simp only [wp_cmp, wp_var, wp_non, val, List.map_cons, List.map_nil, List.cons_append, List.nil_append, List.getElem?_cons_zero, List.getElem?_cons_succ, List.set_cons_zero, List.set_cons_succ, List.replicate_succ, List.replicate_zero, List.length_cons, List.length_nil, wo_some, An.d]
    show Wo (some false) _
    simp only [wo_some, tr_bl, Bool.false_eq_true, if_false, ws_skip]
    rw [ws_seq, ws_ite]
    simp only [wp_isi, wp_var, val, List.map_cons, List.map_nil, List.cons_append, List.nil_append, List.getElem?_cons_zero, List.getElem?_cons_succ, List.set_cons_zero, List.set_cons_succ, List.replicate_succ, List.replicate_zero, List.length_cons, List.length_nil, wo_some]
    show Wo (some true) _
    simp only [wo_some, tr_bl, if_true]
    rw [ws_seq, ws_ret]
    simp only [wp_bin, wp_bi, wp_var, wp_str, wps_cons, wps_nil, val, List.map_cons, List.map_nil, List.cons_append, List.nil_append, List.getElem?_cons_zero, List.getElem?_cons_succ, List.set_cons_zero, List.set_cons_succ, List.replicate_succ, List.replicate_zero, List.length_cons, List.length_nil, wo_some, str_num (show k ≤ 1000000 from h)]
    rw [add_str (by rw [show ("rule " : Str).length = 5 from rfl]; omega), wo_some]
    first | exact ⟨rfl, rfl⟩ | exact ⟨rfl, trivial⟩ | exact ⟨trivial, trivial⟩ | trivial
  | turn k ps =>
    apply eq_of_wp
    refine wp_run lk3 rfl ?_
    simp only [cshow_answer]
    have hk := num_len h.1
    have hh : (headS ps).length ≤ 10100 := head_len (fun p hp => (h.2.2.1 p hp).1) (Nat.le_trans h.2.2.2 (by decide))
    rw [ws_seq, ws_ite]
    simp only [wp_cmp, wp_var, wp_non, val, List.map_cons, List.map_nil, List.cons_append, List.nil_append, List.getElem?_cons_zero, List.getElem?_cons_succ, List.set_cons_zero, List.set_cons_succ, List.replicate_succ, List.replicate_zero, List.length_cons, List.length_nil, wo_some, An.d]
    show Wo (some false) _
    simp only [wo_some, tr_bl, Bool.false_eq_true, if_false, ws_skip]
    rw [ws_seq, ws_ite]
    simp only [wp_isi, wp_var, val, List.map_cons, List.map_nil, List.cons_append, List.nil_append, List.getElem?_cons_zero, List.getElem?_cons_succ, List.set_cons_zero, List.set_cons_succ, List.replicate_succ, List.replicate_zero, List.length_cons, List.length_nil, wo_some]
    show Wo (some false) _
    simp only [wo_some, tr_bl, Bool.false_eq_true, if_false, ws_skip]
    rw [ws_seq, ws_ite]
    simp only [wp_cmp, wp_ix, wp_var, wp_int, wp_str, val, List.map_cons, List.map_nil, List.cons_append, List.nil_append, List.getElem?_cons_zero, List.getElem?_cons_succ, List.set_cons_zero, List.set_cons_succ, List.replicate_succ, List.replicate_zero, List.length_cons, List.length_nil, wo_some]
    rw [show evalIx S (.tup [.str "turned", .int (k : Nat), .tup (ps.map Pt.d)]) (.int 0) = some (.str "turned") from rfl]
    simp only [wo_some, c_eqS', beq_self_eq_true, tr_bl, if_true]
    rw [ws_seq, ws_ret]
    have c : ∀ Q : D → Sto → Prop, Wp (Z.run P (m + 2) ("show_answer" : Str) [.tup (ps.map Pt.d)] S) Q = Q (.str (headS ps)) S := fun Q => wp_of_eq (show_row h.2)
    simp only [wp_bin, wp_bi, wp_ix, wp_call, wp_var, wp_int, wp_str, wps_cons, wps_nil, val, List.map_cons, List.map_nil, List.cons_append, List.nil_append, List.getElem?_cons_zero, List.getElem?_cons_succ, List.set_cons_zero, List.set_cons_succ, List.replicate_succ, List.replicate_zero, List.length_cons, List.length_nil, wo_some]
    rw [show evalIx S (.tup [.str "turned", .int (k : Nat), .tup (ps.map Pt.d)]) (.int 1) = some (.int (k : Nat)) from rfl, wo_some, str_num h.1, wo_some, add_str (by rw [show ("turned " : Str).length = 7 from rfl]; omega), wo_some, add_str (by rw [Str.length_append, show ("turned " : Str).length = 7 from rfl, show (" " : Str).length = 1 from rfl]; omega), wo_some]
    rw [show evalIx S (.tup [.str "turned", .int (k : Nat), .tup (ps.map Pt.d)]) (.int 2) = some (.tup (ps.map Pt.d)) from rfl, wo_some, c, add_str (by rw [Str.length_append, Str.length_append, show ("turned " : Str).length = 7 from rfl, show (" " : Str).length = 1 from rfl]; omega), wo_some]
    first | exact ⟨rfl, rfl⟩ | exact ⟨rfl, trivial⟩ | exact ⟨trivial, trivial⟩ | trivial
theorem ans_an {a : An} (h : a.Ok) : Z.run P (m + 2) ("_law_answered" : Str) [a.d] S = .ok (.str a.s) S := by
  cases a with
  | row ps => exact ans_row (m := m + 1) h
  | none =>
    apply eq_of_wp
    refine wp_run lk12 rfl ?_
    simp only [c_law_answered]
    rw [ws_seq, ws_ite]
    simp only [wp_cmp, wp_var, wp_non, val, List.map_cons, List.map_nil, List.cons_append, List.nil_append, List.getElem?_cons_zero, List.getElem?_cons_succ, List.set_cons_zero, List.set_cons_succ, List.replicate_succ, List.replicate_zero, List.length_cons, List.length_nil, wo_some, An.d]
    show Wo (some true) _
    simp only [wo_some, tr_bl, if_true]
    rw [ws_seq, ws_ret, wp_str]
    first | exact ⟨rfl, rfl⟩ | exact ⟨rfl, trivial⟩ | exact ⟨trivial, trivial⟩ | trivial
  | num k =>
    apply eq_of_wp
    refine wp_run lk12 rfl ?_
    simp only [c_law_answered]
    have hk := num_len (show k ≤ 1000000 from h)
    rw [ws_seq, ws_ite]
    simp only [wp_cmp, wp_var, wp_non, val, List.map_cons, List.map_nil, List.cons_append, List.nil_append, List.getElem?_cons_zero, List.getElem?_cons_succ, List.set_cons_zero, List.set_cons_succ, List.replicate_succ, List.replicate_zero, List.length_cons, List.length_nil, wo_some, An.d]
    show Wo (some false) _
    simp only [wo_some, tr_bl, Bool.false_eq_true, if_false, ws_skip]
    rw [ws_seq, ws_ite]
    simp only [wp_not, wp_isi, wp_var, val, List.map_cons, List.map_nil, List.cons_append, List.nil_append, List.getElem?_cons_zero, List.getElem?_cons_succ, List.set_cons_zero, List.set_cons_succ, List.replicate_succ, List.replicate_zero, List.length_cons, List.length_nil, wo_some]
    show Wo (some false) _
    simp only [wo_some, tr_bl, Bool.not_false, if_true]
    rw [ws_seq, ws_ret]
    simp only [wp_bin, wp_bi, wp_var, wp_str, wps_cons, wps_nil, val, List.map_cons, List.map_nil, List.cons_append, List.nil_append, List.getElem?_cons_zero, List.getElem?_cons_succ, List.set_cons_zero, List.set_cons_succ, List.replicate_succ, List.replicate_zero, List.length_cons, List.length_nil, wo_some, str_num (show k ≤ 1000000 from h)]
    rw [add_str (by rw [show ("rule " : Str).length = 5 from rfl]; omega), wo_some]
    first | exact ⟨rfl, rfl⟩ | exact ⟨rfl, trivial⟩ | exact ⟨trivial, trivial⟩ | trivial
  | turn k ps =>
    apply eq_of_wp
    refine wp_run lk12 rfl ?_
    simp only [c_law_answered]
    have hk := num_len h.1
    have hh : (headS ps).length ≤ 10100 := head_len (fun p hp => (h.2.2.1 p hp).1) (Nat.le_trans h.2.2.2 (by decide))
    rw [ws_seq, ws_ite]
    simp only [wp_cmp, wp_var, wp_non, val, List.map_cons, List.map_nil, List.cons_append, List.nil_append, List.getElem?_cons_zero, List.getElem?_cons_succ, List.set_cons_zero, List.set_cons_succ, List.replicate_succ, List.replicate_zero, List.length_cons, List.length_nil, wo_some, An.d]
    show Wo (some false) _
    simp only [wo_some, tr_bl, Bool.false_eq_true, if_false, ws_skip]
    rw [ws_seq, ws_ite]
    simp only [wp_not, wp_isi, wp_var, val, List.map_cons, List.map_nil, List.cons_append, List.nil_append, List.getElem?_cons_zero, List.getElem?_cons_succ, List.set_cons_zero, List.set_cons_succ, List.replicate_succ, List.replicate_zero, List.length_cons, List.length_nil, wo_some]
    show Wo (some true) _
    simp only [wo_some, tr_bl, Bool.not_true, Bool.false_eq_true, if_false, ws_skip]
    rw [ws_seq, ws_ite]
    simp only [wp_cmp, wp_ix, wp_var, wp_int, wp_str, val, List.map_cons, List.map_nil, List.cons_append, List.nil_append, List.getElem?_cons_zero, List.getElem?_cons_succ, List.set_cons_zero, List.set_cons_succ, List.replicate_succ, List.replicate_zero, List.length_cons, List.length_nil, wo_some]
    rw [show evalIx S (.tup [.str "turned", .int (k : Nat), .tup (ps.map Pt.d)]) (.int 0) = some (.str "turned") from rfl]
    simp only [wo_some, c_eqS', beq_self_eq_true, tr_bl, if_true]
    rw [ws_seq, ws_ret]
    have c : ∀ Q : D → Sto → Prop, Wp (Z.run P (m + 1) ("_law_answered" : Str) [.tup (ps.map Pt.d)] S) Q = Q (.str (headS ps)) S := fun Q => wp_of_eq (ans_row h.2)
    simp only [wp_bin, wp_bi, wp_ix, wp_call, wp_var, wp_int, wp_str, wps_cons, wps_nil, val, List.map_cons, List.map_nil, List.cons_append, List.nil_append, List.getElem?_cons_zero, List.getElem?_cons_succ, List.set_cons_zero, List.set_cons_succ, List.replicate_succ, List.replicate_zero, List.length_cons, List.length_nil, wo_some]
    rw [show evalIx S (.tup [.str "turned", .int (k : Nat), .tup (ps.map Pt.d)]) (.int 1) = some (.int (k : Nat)) from rfl, wo_some, str_num h.1, wo_some, add_str (by rw [show ("turned " : Str).length = 7 from rfl]; omega), wo_some, add_str (by rw [Str.length_append, show ("turned " : Str).length = 7 from rfl, show (" " : Str).length = 1 from rfl]; omega), wo_some]
    rw [show evalIx S (.tup [.str "turned", .int (k : Nat), .tup (ps.map Pt.d)]) (.int 2) = some (.tup (ps.map Pt.d)) from rfl, wo_some, c, add_str (by rw [Str.length_append, Str.length_append, show ("turned " : Str).length = 7 from rfl, show (" " : Str).length = 1 from rfl]; omega), wo_some]
    first | exact ⟨rfl, rfl⟩ | exact ⟨rfl, trivial⟩ | exact ⟨trivial, trivial⟩ | trivial
end
end K25


namespace K25
open PySem Z Z.Ends
section
variable {S : Sto} {n b k : Nat} {Q : D → Sto → Prop}
theorem ix_in {x : Str} {j : Int} (h0 : 0 ≤ j) (h1 : j < x.length) (hl : x.length ≤ sizeLine) : ∃ c ∈ x.cps.toList, evalIx S (.str x) (.int j) = some (sg c) := by
  have hz : x.cps.toList.length = x.length := rfl
  refine ⟨x.cps.toList[j.toNat]'(by omega), List.getElem_mem _, ?_⟩
  show (if x.length ≤ sizeLine then (L2.atI x.cps.toList j).map fun c => D.str ⟨#[c]⟩ else none) = _
  rw [if_pos hl, atI_get h0 (by omega)]
  rfl
theorem all_ok : ∀ ys : List D, (∀ y ∈ ys, ∃ c, okc c = true ∧ y = sg c) → ∃ cs : List Nat, ys = cs.map sg ∧ cs.all okc = true
  | [], _ => ⟨[], rfl, rfl⟩
  | y :: ys, h => by
    obtain ⟨c, hc, rfl⟩ := h y List.mem_cons_self
    obtain ⟨cs, rfl, h2⟩ := all_ok ys fun y hy => h y (List.mem_cons_of_mem _ hy)
    exact ⟨c :: cs, rfl, by rw [List.all_cons, hc, h2]; rfl⟩
theorem strs_sg : ∀ cs : List Nat, asStrs (cs.map sg) = some (cs.map fun c => (⟨#[c]⟩ : Str))
  | [] => rfl
  | c :: cs => by
    show (match asStrs (cs.map sg) with
      | some s => some ((⟨#[c]⟩ : Str) :: s)
      | none => none) = _
    rw [strs_sg cs]
    rfl
theorem sum_sg (cs : List Nat) : ((cs.map fun c => (⟨#[c]⟩ : Str)).map (·.length)).sum = cs.length := by
  induction cs with
  | nil => rfl
  | cons c cs ih =>
    rw [List.map_cons, List.map_cons, List.sum_cons, ih, List.length_cons]
    show 1 + cs.length = _
    omega
theorem joinL_ones : ∀ cs : List Nat, TL.joinL [] (cs.map fun c => [c]) = cs
  | [] => rfl
  | [c] => rfl
  | c :: e :: cs => by
    have ih := joinL_ones (e :: cs)
    show [c] ++ ([] ++ TL.joinL [] ((e :: cs).map fun c => [c])) = _
    rw [ih]
    rfl
theorem join_sg {cs : List Nat} (h : cs.length ≤ 1000) : ∃ s : Str, s.cps.toList = cs ∧ evalBm S .join (.str "") [.lst (cs.map sg)] = some (.str s, S) := by
  refine ⟨Txt.join "" (cs.map fun c => (⟨#[c]⟩ : Str)), ?_, ?_⟩
  · show TL.tl (Txt.join "" (cs.map fun c => (⟨#[c]⟩ : Str))) = cs
    rw [TL.join_eq, TL.tl_join, List.map_map]
    exact joinL_ones cs
  · show ((asStrs (cs.map sg)).bind fun (ys : List Str) => if (List.map Str.length ys).sum + ys.length * ("" : Str).length ≤ 16777216 then some (D.str (Txt.join "" ys), S) else none) = _
    rw [strs_sg]
    show (if ((cs.map fun c => (⟨#[c]⟩ : Str)).map (·.length)).sum + (cs.map fun c => (⟨#[c]⟩ : Str)).length * ("" : Str).length ≤ 16777216 then some (D.str (Txt.join "" (cs.map fun c => (⟨#[c]⟩ : Str))), S) else none) = _
    rw [sum_sg, if_pos (by rw [show ("" : Str).length = 0 from rfl]; omega)]
theorem small_of {i : Int} (h0 : -1000000 ≤ i) (h1 : i ≤ 1000000) : small i = true := by
  unfold small
  rw [decide_eq_true (show -(2 ^ 64) < i by omega), decide_eq_true (show i < 2 ^ 64 by omega)]
  rfl
def sgs : Str := " !\"#$&'()*+,-./0123456789:;<=>?@ABCDEFGHIJKLMNOPQRSTUVWXYZ[\\]^_`abcdefghijklmnopqrstuvwxyz{|}~"
theorem sgs_len : sgs.length = 94 := by kernel_rfl
theorem sgs_ok : sgs.cps.toList.all okc = true := by kernel_rfl
/-- the bag k draws on, the rest as it was -/
def Fr (S S' : Sto) (b k : Nat) : Prop := BagK S' b k ∧ S'.length = S.length ∧ ∀ i, i ≠ b → S'[i]? = S[i]?
theorem Fr.trans {S S1 S2 : Sto} {j k : Nat} (h : Fr S S1 b j) (g : Fr S1 S2 b k) : Fr S S2 b k := ⟨g.1, g.2.1.trans h.2.1, fun i hi => (g.2.2 i hi).trans (h.2.2 i hi)⟩
theorem Fr.le {S S1 : Sto} {j k : Nat} (h : Fr S S1 b j) (hk : j ≤ k) : Fr S S1 b k := ⟨h.1.le hk, h.2⟩
theorem take_F {m : Int} (hb : BagK S b k) (hk : k < 100000) (hm : 0 < m) (hm2 : m < 1000000000) (h : ∀ r S', 0 ≤ r → r < m → Fr S S' b (k + 1) → Q (.int r) S') : Wp (Z.run P (n + 1) ("_law_take" : Str) [.ref b, .int m] S) Q :=
  take_f lkT hb (by omega) hm hm2 fun r S' a1 a2 a3 a4 a5 => h r S' a1 a2 ⟨a3, a4, a5⟩
theorem said_mk (hb : BagK S b k) (hk : k < 10000) (h : ∀ s S', isT (.str s) = true → Fr S S' b (k + 4) → Q (.str s) S') : Wp (Z.run P (n + 2) ("_law_said" : Str) [.ref b] S) Q := by
  refine wp_run lk13 rfl ?_
  simp only [c_law_said]
  rw [ws_seq, ws_set]
  simp only [wp_str, val, List.map_cons, List.map_nil, List.cons_append, List.nil_append, List.getElem?_cons_zero, List.getElem?_cons_succ, List.set_cons_zero, List.set_cons_succ, List.replicate_succ, List.replicate_zero, List.length_cons, List.length_nil, wo_some]
  refine ⟨by decide, ?_⟩
  rw [show (" !\"#$&'()*+,-./0123456789:;<=>?@ABCDEFGHIJKLMNOPQRSTUVWXYZ[\\]^_`abcdefghijklmnopqrstuvwxyz{|}~" : Str) = sgs from rfl]
  rw [ws_seq, ws_set]
  simp only [wp_ix, wp_lst, wp_int, wp_call, wp_var, wps_cons, wps_nil, val, List.map_cons, List.map_nil, List.cons_append, List.nil_append, List.getElem?_cons_zero, List.getElem?_cons_succ, List.set_cons_zero, List.set_cons_succ, List.replicate_succ, List.replicate_zero, List.length_cons, List.length_nil, wo_some]
  refine take_F hb (by omega) (by decide) (by decide) fun r1 S1 a1 a2 f1 => ?_
  refine ⟨szL (by decide), ?_⟩
  refine take_F f1.1 (by omega) (by decide) (by decide) fun r2 S2 a3 a4 f2 => ?_
  rw [ix_lst]
  refine pickI (is := [0, 1, r1, 40]) a3 a4 fun v hv => ?_
  have hv2 : 0 ≤ v ∧ v ≤ 40 := by
    simp only [List.mem_cons, List.not_mem_nil, or_false] at hv
    rcases hv with rfl | rfl | rfl | rfl <;> omega
  refine ⟨by simp, ?_⟩
  rw [ws_seq, ws_set]
  simp only [wp_int, wp_call, wp_var, wps_cons, wps_nil, val, List.map_cons, List.map_nil, List.cons_append, List.nil_append, List.getElem?_cons_zero, List.getElem?_cons_succ, List.set_cons_zero, List.set_cons_succ, List.replicate_succ, List.replicate_zero, List.length_cons, List.length_nil, wo_some]
  refine take_F f2.1 (by omega) (by decide) (by decide) fun r3 S3 a5 a6 f3 => ?_
  refine ⟨by simp, ?_⟩
  rw [ws_seq, ws_set]
  simp only [wp_int, wp_call, wp_var, wps_cons, wps_nil, val, List.map_cons, List.map_nil, List.cons_append, List.nil_append, List.getElem?_cons_zero, List.getElem?_cons_succ, List.set_cons_zero, List.set_cons_succ, List.replicate_succ, List.replicate_zero, List.length_cons, List.length_nil, wo_some]
  refine take_F f3.1 (by omega) (by decide) (by decide) fun r4 S4 a7 a8 f4 => ?_
  refine ⟨by simp, ?_⟩
  rw [ws_seq, ws_ret]
  simp only [wp_bm, wp_str, wp_comp, wi_r1, wp_var, wps_cons, wps_nil, val, List.map_cons, List.map_nil, List.cons_append, List.nil_append, List.getElem?_cons_zero, List.getElem?_cons_succ, List.set_cons_zero, List.set_cons_succ, List.replicate_succ, List.replicate_zero, List.length_cons, List.length_nil, wo_some]
  refine ⟨rfl, ?_⟩
  rw [wo_if]
  refine ⟨by omega, ?_⟩
  show Wp (loopC _ (fun _ => true) (rngD 0 v.toNat) [] S4) _
  refine wc_all (W := fun y => ∃ c, okc c = true ∧ y = sg c) _ _ ?_ (fun y hy => by cases hy) ?_ ?_
  · intro x hx
    obtain ⟨i, rfl, i0, i1⟩ := mem_rng hx
    have p0 : 0 ≤ (r3 + i * r4) % 94 := Int.emod_nonneg _ (by decide)
    have p1 : (r3 + i * r4) % 94 < 94 := Int.emod_lt_of_pos _ (by decide)
    obtain ⟨c, hm, hc⟩ := ix_in (S := S4) (x := sgs) p0 (by rw [sgs_len]; exact p1) (by rw [sgs_len, sizeLine_eq]; decide)
    refine ⟨sg c, ?_, c, List.all_eq_true.mp sgs_ok c hm, rfl⟩
    apply eq_of_wp
    rw [wc_body]
    simp only [bt_one, wipeE, wp_bl, wp_ix, wp_bin, wp_int, wp_var, val, List.map_cons, List.map_nil, List.cons_append, List.nil_append, List.getElem?_cons_zero, List.getElem?_cons_succ, List.set_cons_zero, List.set_cons_succ, List.replicate_succ, List.replicate_zero, List.length_cons, List.length_nil, wo_some, wo_if, tr_bl, if_true, b_mul, b_add, b_mod]
    refine ⟨by simp, ?_⟩
    refine ⟨by rw [small_of (by omega) (by omega)]; rfl, by decide, ?_⟩
    rw [hc]
    first | exact ⟨rfl, rfl⟩ | exact ⟨rfl, trivial⟩ | exact ⟨trivial, trivial⟩ | trivial
  · rw [sizeLine_eq]
    unfold rngD
    rw [List.length_map, List.length_range, List.length_nil]
    omega
  · intro ys hl hy
    obtain ⟨cs, rfl, hok⟩ := all_ok ys hy
    unfold rngD at hl
    rw [List.length_map, List.length_map, List.length_range, List.length_nil] at hl
    obtain ⟨s, hs, hj⟩ := join_sg (S := S4) (cs := cs) (by omega)
    rw [if_neg Bool.false_ne_true, hj, wo_some]
    refine h s S4 ?_ (((f1.trans f2).trans f3).trans f4)
    have hsl : s.length = cs.length := by
      show s.cps.toList.length = _
      rw [hs]
    show (decide (s.length ≤ 40) && s.cps.toList.all okc) = true
    rw [hs, hok, decide_eq_true (by omega)]
    rfl
def odds : List Str := [" :", ": ", " ", "say :a", " : :", "any", "wait 3", ":", "a ", " a", "::a :", "0"]
theorem odds_ok : ∀ s ∈ odds, isT (.str s) = true := by
  intro s hs
  unfold odds at hs
  simp only [List.mem_cons, List.not_mem_nil, or_false] at hs
  rcases hs with rfl | rfl | rfl | rfl | rfl | rfl | rfl | rfl | rfl | rfl | rfl | rfl <;> kernel_rfl
theorem text_mk (hb : BagK S b k) (hk : k < 10000) (h : ∀ s S', isT (.str s) = true → Fr S S' b (k + 6) → Q (.str s) S') : Wp (Z.run P (n + 3) ("_law_a_text" : Str) [.ref b] S) Q := by
  refine wp_run lk7 rfl ?_
  simp only [c_law_a_text]
  rw [ws_seq, ws_set]
  simp only [wp_lst, wp_str, wps_cons, wps_nil, val, List.map_cons, List.map_nil, List.cons_append, List.nil_append, List.getElem?_cons_zero, List.getElem?_cons_succ, List.set_cons_zero, List.set_cons_succ, List.replicate_succ, List.replicate_zero, List.length_cons, List.length_nil, wo_some]
  refine ⟨szL (by decide), by simp, ?_⟩
  rw [ws_seq, ws_ret]
  simp only [wp_ix, wp_lst, wp_call, wp_int, wp_var, wps_cons, wps_nil, val, List.map_cons, List.map_nil, List.cons_append, List.nil_append, List.getElem?_cons_zero, List.getElem?_cons_succ, List.set_cons_zero, List.set_cons_succ, List.replicate_succ, List.replicate_zero, List.length_cons, List.length_nil, wo_some]
  refine said_mk hb hk fun s S1 hs f1 => ?_
  refine take_F f1.1 (by omega) (by decide) (by decide) fun r1 S2 a1 a2 f2 => ?_
  rw [ix_lst]
  refine pickS (is := odds) a1 a2 fun o ho => ?_
  refine ⟨szL (by decide), ?_⟩
  refine take_F f2.1 (by omega) (by decide) (by decide) fun r2 S3 a3 a4 f3 => ?_
  rw [ix_lst]
  refine pickS (is := [s, o]) a3 a4 fun v hv => ?_
  refine h v S3 ?_ ((f1.trans f2).trans f3)
  simp only [List.mem_cons, List.not_mem_nil, or_false] at hv
  rcases hv with rfl | rfl
  · exact hs
  · exact odds_ok _ ho
theorem num_mk {lo hi : Nat} (h1 : lo + 11 ≤ hi) (h2 : hi ≤ 1000000) (hb : BagK S b k) (hk : k < 10000) (h : ∀ (v : Nat) S', lo ≤ v → v ≤ hi → Fr S S' b (k + 3) → Q (.int (v : Nat)) S') : Wp (Z.run P (n + 2) ("_law_number_for" : Str) [.ref b, .int (lo : Nat), .int (hi : Nat)] S) Q := by
  refine wp_run lk8 rfl ?_
  simp only [c_law_number_for]
  rw [ws_seq, ws_ret]
  simp only [wp_ix, wp_lst, wp_bin, wp_call, wp_int, wp_var, wps_cons, wps_nil, val, List.map_cons, List.map_nil, List.cons_append, List.nil_append, List.getElem?_cons_zero, List.getElem?_cons_succ, List.set_cons_zero, List.set_cons_succ, List.replicate_succ, List.replicate_zero, List.length_cons, List.length_nil, wo_some, b_sub, b_add]
  refine take_F hb (by omega) (by omega) (by omega) fun r1 S1 a1 a2 f1 => ?_
  simp only [b_add, wo_some]
  refine take_F f1.1 (by omega) (by decide) (by decide) fun r2 S2 a3 a4 f2 => ?_
  simp only [b_add, wo_some]
  refine ⟨szL (by decide), ?_⟩
  refine take_F f2.1 (by omega) (by decide) (by decide) fun r3 S3 a5 a6 f3 => ?_
  rw [ix_lst]
  refine pickI (is := [(lo : Nat), (hi : Nat), (lo : Nat) + r1, (lo : Nat) + r2]) a5 a6 fun v hv => ?_
  have hv2 : (lo : Int) ≤ v ∧ v ≤ (hi : Nat) := by
    simp only [List.mem_cons, List.not_mem_nil, or_false] at hv
    rcases hv with rfl | rfl | rfl | rfl <;> omega
  obtain ⟨w, rfl⟩ : ∃ w : Nat, v = (w : Nat) := ⟨v.toNat, by omega⟩
  exact h w S3 (by omega) (by omega) ((f1.trans f2).trans f3)
end
end K25


namespace K25
open PySem Z Z.Ends
inductive GD : D → Prop
  | L (nm : Str) (r : List Pt) (t : Str) (hn : nm = "out" ∨ nm = "come") (ok : ∀ p ∈ Pt.w nm :: r, p.Ok) (hl : r.length ≤ 50) (ht : t.length ≤ 40) (hd : deedB (deedL (.w nm :: r) t) = true) : GD (deedL (.w nm :: r) t)
  | N (nm : Str) (r : List Pt) (k : Nat) (hn : nm ≠ "out" ∧ nm ≠ "come") (ok : ∀ p ∈ Pt.w nm :: (r ++ [.n k]), p.Ok) (hl : r.length ≤ 40) (hd : deedB (deedN (.w nm :: (r ++ [.n k]))) = true) : GD (deedN (.w nm :: (r ++ [.n k])))
def KW (kd wd : Str) : Prop := (kd = "note" ∧ wd = "say") ∨ (kd = "line" ∧ wd ∈ [("open" : Str), "say", "close", "break"])
theorem KW.words {kd wd : Str} (h : KW kd wd) : kd ∈ wordsL ∧ wd ∈ wordsL := by
  rcases h with ⟨rfl, rfl⟩ | ⟨rfl, hw⟩
  · exact ⟨by decide, by decide⟩
  · refine ⟨by decide, ?_⟩
    simp only [List.mem_cons, List.not_mem_nil, or_false] at hw
    rcases hw with rfl | rfl | rfl | rfl <;> decide
theorem KW.said {kd wd tx : Str} (h : KW kd wd) (ht : isT (.str tx) = true) : saidB (.str kd) (.str wd) (.str tx) = true := by
  unfold saidB
  rw [ht]
  rcases h with ⟨rfl, rfl⟩ | ⟨rfl, hw⟩
  · kernel_rfl
  · simp only [List.mem_cons, List.not_mem_nil, or_false] at hw
    rcases hw with rfl | rfl | rfl | rfl <;> kernel_rfl
theorem KW.isK {kd wd : Str} (h : KW kd wd) : isK (.str kd) = true := by
  rcases h with ⟨rfl, _⟩ | ⟨rfl, _⟩ <;> kernel_rfl
theorem inB_n {lo hi : Int} {h : Nat} (h1 : lo ≤ (h : Nat)) (h2 : ((h : Nat) : Int) ≤ hi) : inB lo hi (.int (h : Nat)) = true := by
  show (decide (lo ≤ ((h : Nat) : Int)) && decide (((h : Nat) : Int) ≤ hi)) = true
  rw [decide_eq_true h1, decide_eq_true h2]
  rfl
theorem len_T {tx : Str} (ht : isT (.str tx) = true) : tx.length ≤ 40 := by
  have h : (decide (tx.length ≤ 40) && tx.cps.toList.all okc) = true := ht
  exact of_decide_eq_true (Bool.and_eq_true_iff.mp h).1
section
variable {kd wd tx : Str} {h dr pl fa nu te : Nat}
theorem gd_out (kw : KW kd wd) (ht : isT (.str tx) = true) (h1 : h ≤ 99) (h2 : 1 ≤ dr) (h3 : dr ≤ 9999) (h4 : pl ≤ 1000000) (h5 : 1 ≤ fa) (h6 : fa ≤ 9999) : GD (.tup [.str "out", .str kd, .int (h : Nat), .int (dr : Nat), .int (pl : Nat), .int (fa : Nat), .str wd, .str tx]) := by
  refine GD.L "out" [.w kd, .n h, .n dr, .n pl, .n fa, .w wd] tx (.inl rfl) ?_ (by simp) (len_T ht) ?_
  · intro p hp
    simp only [List.mem_cons, List.not_mem_nil, or_false] at hp
    rcases hp with rfl | rfl | rfl | rfl | rfl | rfl | rfl
    · show ("out" : Str) ∈ wordsL; decide
    · exact kw.words.1
    · show h ≤ 1000000; omega
    · show dr ≤ 1000000; omega
    · exact h4
    · show fa ≤ 1000000; omega
    · exact kw.words.2
  · show (inB 0 99 (.int (h : Nat)) && inB 1 9999 (.int (dr : Nat)) && (inB 0 1000000 (.int (pl : Nat)) && (inB 1 9999 (.int (fa : Nat)) && saidB (.str kd) (.str wd) (.str tx)))) = true
    rw [inB_n (by omega) (by omega), inB_n (by omega) (by omega), inB_n (by omega) (by omega), inB_n (by omega) (by omega), kw.said ht]
    rfl
theorem gd_come (kw : KW kd wd) (ht : isT (.str tx) = true) (h1 : 1 ≤ pl) (h2 : pl ≤ 1000000) (h3 : 1 ≤ fa) (h4 : fa ≤ 9999) (h5 : 1 ≤ nu) (h6 : nu ≤ 9999) : GD (.tup [.str "come", .str kd, .int (pl : Nat), .int (fa : Nat), .int (nu : Nat), .str wd, .str tx]) := by
  refine GD.L "come" [.w kd, .n pl, .n fa, .n nu, .w wd] tx (.inr rfl) ?_ (by simp) (len_T ht) ?_
  · intro p hp
    simp only [List.mem_cons, List.not_mem_nil, or_false] at hp
    rcases hp with rfl | rfl | rfl | rfl | rfl | rfl
    · show ("come" : Str) ∈ wordsL; decide
    · exact kw.words.1
    · exact h2
    · show fa ≤ 1000000; omega
    · show nu ≤ 1000000; omega
    · exact kw.words.2
  · show (inB 1 1000000 (.int (pl : Nat)) && (inB 1 9999 (.int (fa : Nat)) && (inB 1 9999 (.int (nu : Nat)) && saidB (.str kd) (.str wd) (.str tx)))) = true
    rw [inB_n (by omega) (by omega), inB_n (by omega) (by omega), inB_n (by omega) (by omega), kw.said ht]
    rfl
theorem gd_lost (kw : KW kd wd) (h0 : 1 ≤ te) (h0' : te ≤ 1000000) (h1 : 1 ≤ pl) (h2 : pl ≤ 1000000) (h3 : 1 ≤ fa) (h4 : fa ≤ 9999) (h5 : 1 ≤ nu) (h6 : nu ≤ 9999) : GD (.tup [.str "lost", .int (te : Nat), .str kd, .int (nu : Nat), .int (pl : Nat), .int (fa : Nat)]) := by
  refine GD.N "lost" [.n te, .w kd, .n nu, .n pl] fa ⟨by decide, by decide⟩ ?_ (by simp) ?_
  · intro p hp
    simp only [List.cons_append, List.nil_append, List.mem_cons, List.not_mem_nil, or_false] at hp
    rcases hp with rfl | rfl | rfl | rfl | rfl | rfl
    · show ("lost" : Str) ∈ wordsL; decide
    · exact h0'
    · exact kw.words.1
    · show nu ≤ 1000000; omega
    · exact h2
    · show fa ≤ 1000000; omega
  · show (inB 1 1000000 (.int (te : Nat)) && (isK (.str kd) && (inB 1 9999 (.int (nu : Nat)) && (inB 1 1000000 (.int (pl : Nat)) && inB 1 9999 (.int (fa : Nat)))))) = true
    rw [inB_n (by omega) (by omega), inB_n (by omega) (by omega), inB_n (by omega) (by omega), inB_n (by omega) (by omega), kw.isK]
    rfl
theorem gd_wait (h2 : te ≤ 1000000) : GD (.tup [.str "wait", .int (te : Nat)]) := by
  refine GD.N "wait" [] te ⟨by decide, by decide⟩ ?_ (by simp) ?_
  · intro p hp
    simp only [List.cons_append, List.nil_append, List.mem_cons, List.not_mem_nil, or_false] at hp
    rcases hp with rfl | rfl
    · show ("wait" : Str) ∈ wordsL; decide
    · exact h2
  · show (inB 0 1000000 (.int (te : Nat))) = true
    exact inB_n (by omega) (by omega)
theorem gd_unrule (h2 : te ≤ 1000000) : GD (.tup [.str "unrule", .int (te : Nat)]) := by
  refine GD.N "unrule" [] te ⟨by decide, by decide⟩ ?_ (by simp) ?_
  · intro p hp
    simp only [List.cons_append, List.nil_append, List.mem_cons, List.not_mem_nil, or_false] at hp
    rcases hp with rfl | rfl
    · show ("unrule" : Str) ∈ wordsL; decide
    · exact h2
  · show (inB 0 1000000 (.int (te : Nat))) = true
    exact inB_n (by omega) (by omega)
theorem gd_rule {x : D} (kw : KW kd wd) (h1 : h ≤ 99) (h2 : 1 ≤ dr) (h3 : dr ≤ 9999) (h5 : 1 ≤ nu) (h6 : nu ≤ 9999) (hx : x = .non ∨ ∃ q : Nat, q ≤ 1000000 ∧ x = .int (q : Nat)) : GD (.tup [.str "rule", .str kd, .int (nu : Nat), x, .int (h : Nat), .int (dr : Nat)]) := by
  obtain ⟨px, hp1, hp2, hp3⟩ : ∃ p : Pt, p.Ok ∧ p.d = x ∧ (isN x || inB 0 1000000 x) = true := by
    rcases hx with rfl | ⟨q, hq, rfl⟩
    · exact ⟨.any, trivial, rfl, rfl⟩
    · exact ⟨.n q, hq, rfl, by rw [inB_n (by omega) (by omega)]; rfl⟩
  subst hp2
  refine GD.N "rule" [.w kd, .n nu, px, .n h] dr ⟨by decide, by decide⟩ ?_ (by simp) ?_
  · intro p hp
    simp only [List.cons_append, List.nil_append, List.mem_cons, List.not_mem_nil, or_false] at hp
    rcases hp with rfl | rfl | rfl | rfl | rfl | rfl
    · show ("rule" : Str) ∈ wordsL; decide
    · exact kw.words.1
    · show nu ≤ 1000000; omega
    · exact hp1
    · show h ≤ 1000000; omega
    · show dr ≤ 1000000; omega
  · show (isK (.str kd) && (inB 1 9999 (.int (nu : Nat)) && ((isN px.d || inB 0 1000000 px.d) && (inB 0 99 (.int (h : Nat)) && inB 1 9999 (.int (dr : Nat)))))) = true
    rw [inB_n (by omega) (by omega), inB_n (by omega) (by omega), inB_n (by omega) (by omega), kw.isK, hp3]
    rfl
end
/-- the list of deeds made -/
def Ls (S : Sto) (a b k : Nat) (xs : List D) : Prop := S[a]? = some (.lst xs) ∧ a ≠ b ∧ BagK S b k
section
variable {S S' : Sto} {n a b k : Nat} {Q : D → Sto → Prop} {xs : List D} {d : D}
theorem Ls.fr {j : Nat} (h : Ls S a b k xs) (f : Fr S S' b j) : Ls S' a b j xs := ⟨(f.2.2 a h.2.1).trans h.1, h.2.1, f.1⟩
theorem Ls.app (h : Ls S a b k xs) (hl : xs.length < 1000) : recvOk S .append (.ref a) = true ∧ evalBm S .append (.ref a) [d] = some (.non, S.set a (.lst (xs ++ [d]))) ∧ Ls (S.set a (.lst (xs ++ [d]))) a b k (xs ++ [d]) := by
  obtain ⟨h1, h2⟩ := append_at (x := d) h.1 (by rw [sizeLine_eq]; omega)
  exact ⟨h1, h2, List.getElem?_set_self (lt_get h.1), h.2.1, h.2.2.keep (List.getElem?_set_ne h.2.1)⟩
theorem deed_mk (hb : BagK S b k) (hk : k < 100) (h : ∀ d S', GD d → BagK S' b (k + 60) → Q d S') : Wp (Z.run P (n + 4) ("_law_a_deed" : Str) [.ref b] S) Q := by
  refine wp_run lk9 rfl ?_
  simp only [c_law_a_deed]
  rw [ws_seq, ws_set]
  simp only [wp_ix, wp_lst, wp_str, wp_int, wp_call, wp_var, wps_cons, wps_nil, val, List.map_cons, List.map_nil, List.cons_append, List.nil_append, List.getElem?_cons_zero, List.getElem?_cons_succ, List.set_cons_zero, List.set_cons_succ, List.replicate_succ, List.replicate_zero, List.length_cons, List.length_nil, wo_some]
  refine ⟨szL (by decide), ?_⟩
  refine take_F hb (by omega) (by decide) (by decide) fun r1 S1 a1 a2 f1 => ?_
  rw [ix_lst]
  refine pickS (is := ["note", "line"]) a1 a2 fun kd hkd => ?_
  refine ⟨by simp, ?_⟩
  rw [ws_seq]
  refine ws_mono (N := fun e S' => ∃ wd tx, KW kd wd ∧ isT (.str tx) = true ∧ BagK S' b (k + 10) ∧ e = [Slot.val (.ref b), .val (.str kd), .val (.tup [.str wd, .str tx]), .no, .no, .no, .no, .no]) ?_ ?_ (fun _ _ h => h)
  · rw [ws_set]
    simp only [wp_tup, wp_ite, wp_cmp, wp_ix, wp_lst, wp_str, wp_int, wp_call, wp_var, wps_cons, wps_nil, val, List.map_cons, List.map_nil, List.cons_append, List.nil_append, List.getElem?_cons_zero, List.getElem?_cons_succ, List.set_cons_zero, List.set_cons_succ, List.replicate_succ, List.replicate_zero, List.length_cons, List.length_nil, wo_some, c_eqS']
    simp only [List.mem_cons, List.not_mem_nil, or_false] at hkd
    rcases hkd with rfl | rfl
    · rw [show (("note" : Str) == ("note" : Str)) = true from by kernel_rfl]
      simp only [tr_bl, wo_some, if_true]
      refine text_mk f1.1 (by omega) fun tx S2 ht f2 => ?_
      exact ⟨szL (by decide), by simp, "say", tx, .inl ⟨rfl, rfl⟩, ht, f2.1.le (by omega), rfl⟩
    · rw [show (("line" : Str) == ("note" : Str)) = false from by kernel_rfl]
      simp only [tr_bl, wo_some, Bool.false_eq_true, if_false]
      refine ⟨szL (by decide), ?_⟩
      refine take_F f1.1 (by omega) (by decide) (by decide) fun r2 S2 a3 a4 f2 => ?_
      rw [ix_lst]
      refine pickS (is := ["open", "say", "close", "break"]) a3 a4 fun wd hwd => ?_
      refine text_mk f2.1 (by omega) fun tx S3 ht f3 => ?_
      exact ⟨szL (by decide), by simp, wd, tx, .inr ⟨rfl, hwd⟩, ht, f3.1.le (by omega), rfl⟩
  · rintro e S2 ⟨wd, tx, kw, ht, b2, rfl⟩
    rw [ws_seq, ws_set]
    simp only [wp_tup, wp_call, wp_int, wp_var, wps_cons, wps_nil, val, List.map_cons, List.map_nil, List.cons_append, List.nil_append, List.getElem?_cons_zero, List.getElem?_cons_succ, List.set_cons_zero, List.set_cons_succ, List.replicate_succ, List.replicate_zero, List.length_cons, List.length_nil, wo_some]
    refine num_mk (n := n + 1) (lo := 0) (hi := 99) (by decide) (by decide) b2 (by omega) fun hs S3 q1 q2 f3 => ?_
    refine num_mk (n := n + 1) (lo := 1) (hi := 9999) (by decide) (by decide) f3.1 (by omega) fun dr S4 q3 q4 f4 => ?_
    refine ⟨szL (by decide), by simp, ?_⟩
    rw [ws_seq, ws_set]
    simp only [wp_call, wp_int, wp_var, wps_cons, wps_nil, val, List.map_cons, List.map_nil, List.cons_append, List.nil_append, List.getElem?_cons_zero, List.getElem?_cons_succ, List.set_cons_zero, List.set_cons_succ, List.replicate_succ, List.replicate_zero, List.length_cons, List.length_nil, wo_some]
    refine num_mk (n := n + 1) (lo := 1) (hi := 9999) (by decide) (by decide) f4.1 (by omega) fun nu S5 q5 q6 f5 => ?_
    refine ⟨by simp, ?_⟩
    rw [ws_seq, ws_set]
    simp only [wp_call, wp_int, wp_var, wps_cons, wps_nil, val, List.map_cons, List.map_nil, List.cons_append, List.nil_append, List.getElem?_cons_zero, List.getElem?_cons_succ, List.set_cons_zero, List.set_cons_succ, List.replicate_succ, List.replicate_zero, List.length_cons, List.length_nil, wo_some]
    refine num_mk (n := n + 1) (lo := 1) (hi := 1000000) (by decide) (by decide) f5.1 (by omega) fun pl S6 q7 q8 f6 => ?_
    refine ⟨by simp, ?_⟩
    rw [ws_seq, ws_set]
    simp only [wp_call, wp_int, wp_var, wps_cons, wps_nil, val, List.map_cons, List.map_nil, List.cons_append, List.nil_append, List.getElem?_cons_zero, List.getElem?_cons_succ, List.set_cons_zero, List.set_cons_succ, List.replicate_succ, List.replicate_zero, List.length_cons, List.length_nil, wo_some]
    refine num_mk (n := n + 1) (lo := 1) (hi := 9999) (by decide) (by decide) f6.1 (by omega) fun fa S7 q9 q10 f7 => ?_
    refine ⟨by simp, ?_⟩
    rw [ws_seq, ws_set]
    simp only [wp_lstR, wp_bin, wp_tup, wp_ix, wp_lst, wp_call, wp_str, wp_int, wp_var, wps_cons, wps_nil, val, List.map_cons, List.map_nil, List.cons_append, List.nil_append, List.getElem?_cons_zero, List.getElem?_cons_succ, List.set_cons_zero, List.set_cons_succ, List.replicate_succ, List.replicate_zero, List.length_cons, List.length_nil, wo_some]
    refine ⟨szL (by decide), ?_⟩
    rw [b_tup, wo_if]
    refine ⟨szL (by simp), szL (by decide), ?_⟩
    refine take_F f7.1 (by omega) (by decide) (by decide) fun r3 S8 a5 a6 f8 => ?_
    rw [ix_lst]
    refine pickI (is := [(pl : Nat), 0]) a5 a6 fun v hv => ?_
    obtain ⟨pv, hpv, rfl⟩ : ∃ p : Nat, p ≤ 1000000 ∧ v = (p : Nat) := by
      simp only [List.mem_cons, List.not_mem_nil, or_false] at hv
      rcases hv with rfl | rfl
      · exact ⟨pl, q8, rfl⟩
      · exact ⟨0, by decide, rfl⟩
    refine ⟨szL (by decide), ?_⟩
    rw [b_tup, wo_if]
    refine ⟨szL (by simp), ?_⟩
    rw [b_tup, wo_if]
    refine ⟨szL (by simp), szL (by simp), by simp, ?_⟩
    have L0 : Ls (S8 ++ [Ob.lst [D.tup ([D.str "out", .str kd] ++ [.int (hs : Nat), .int (dr : Nat)] ++ [.int (pv : Nat), .int (fa : Nat)] ++ [.str wd, .str tx])]]) S8.length b (k + 30) [D.tup ([D.str "out", .str kd] ++ [.int (hs : Nat), .int (dr : Nat)] ++ [.int (pv : Nat), .int (fa : Nat)] ++ [.str wd, .str tx])] := ⟨app_get, Nat.ne_of_gt f8.1.lt, (f8.1.app _).le (by omega)⟩
    have g0 : GD (D.tup ([D.str "out", .str kd] ++ [.int (hs : Nat), .int (dr : Nat)] ++ [.int (pv : Nat), .int (fa : Nat)] ++ [.str wd, .str tx])) := gd_out kw ht q2 q3 q4 hpv q9 q10
    generalize hx0 : D.tup ([D.str "out", .str kd] ++ [.int (hs : Nat), .int (dr : Nat)] ++ [.int (pv : Nat), .int (fa : Nat)] ++ [.str wd, .str tx]) = x0 at L0 g0
    try simp only [List.cons_append, List.nil_append] at hx0
    try simp only [val, List.map_cons, List.map_nil, List.cons_append, List.nil_append, List.getElem?_cons_zero, List.getElem?_cons_succ, List.set_cons_zero, List.set_cons_succ, List.replicate_succ, List.replicate_zero, List.length_cons, List.length_nil, wo_some, hx0]
    generalize S8.length = a at L0
    generalize S8 ++ [Ob.lst [x0]] = S9 at L0
    rw [ws_seq, ws_ex]
    simp only [wp_bm, wp_bin, wp_tup, wp_str, wp_var, wps_cons, wps_nil, val, List.map_cons, List.map_nil, List.cons_append, List.nil_append, List.getElem?_cons_zero, List.getElem?_cons_succ, List.set_cons_zero, List.set_cons_succ, List.replicate_succ, List.replicate_zero, List.length_cons, List.length_nil, wo_some]
    obtain ⟨u1, u2, L1⟩ := L0.app (d := D.tup ([D.str "come", .str kd, .int (pl : Nat), .int (fa : Nat), .int (nu : Nat)] ++ [.str wd, .str tx])) (by simp)
    refine ⟨u1, szL (by decide), ?_⟩
    rw [b_tup, wo_if]
    refine ⟨szL (by simp), ?_⟩
    rw [u2, wo_some]
    try dsimp only
    have g1 : GD (D.tup ([D.str "come", .str kd, .int (pl : Nat), .int (fa : Nat), .int (nu : Nat)] ++ [.str wd, .str tx])) := gd_come kw ht q7 q8 q9 q10 q5 q6
    generalize D.tup ([D.str "come", .str kd, .int (pl : Nat), .int (fa : Nat), .int (nu : Nat)] ++ [.str wd, .str tx]) = x1 at L1 g1
    generalize S9.set a (Ob.lst ([x0] ++ [x1])) = S10 at L1
    rw [ws_seq, ws_ex]
    simp only [wp_bm, wp_tup, wp_call, wp_str, wp_int, wp_var, wps_cons, wps_nil, val, List.map_cons, List.map_nil, List.cons_append, List.nil_append, List.getElem?_cons_zero, List.getElem?_cons_succ, List.set_cons_zero, List.set_cons_succ, List.replicate_succ, List.replicate_zero, List.length_cons, List.length_nil, wo_some]
    refine ⟨(L1.app (d := .non) (by simp)).1, ?_⟩
    refine num_mk (n := n + 1) (lo := 1) (hi := 1000000) (by decide) (by decide) L1.2.2 (by omega) fun te S11 q11 q12 f11 => ?_
    have L1 := L1.fr f11
    obtain ⟨u1, u2, L2⟩ := L1.app (d := D.tup [D.str "lost", .int (te : Nat), .str kd, .int (nu : Nat), .int (pl : Nat), .int (fa : Nat)]) (by simp)
    refine ⟨szL (by decide), ?_⟩
    rw [u2, wo_some]
    try dsimp only
    have g2 : GD (D.tup [D.str "lost", .int (te : Nat), .str kd, .int (nu : Nat), .int (pl : Nat), .int (fa : Nat)]) := gd_lost kw q11 q12 q7 q8 q9 q10 q5 q6
    generalize D.tup [D.str "lost", .int (te : Nat), .str kd, .int (nu : Nat), .int (pl : Nat), .int (fa : Nat)] = x2 at L2 g2
    generalize S11.set a (Ob.lst ([x0] ++ [x1] ++ [x2])) = S12 at L2
    rw [ws_seq, ws_ex]
    simp only [wp_bm, wp_tup, wp_call, wp_str, wp_int, wp_var, wps_cons, wps_nil, val, List.map_cons, List.map_nil, List.cons_append, List.nil_append, List.getElem?_cons_zero, List.getElem?_cons_succ, List.set_cons_zero, List.set_cons_succ, List.replicate_succ, List.replicate_zero, List.length_cons, List.length_nil, wo_some]
    refine ⟨(L2.app (d := .non) (by simp)).1, ?_⟩
    refine num_mk (n := n + 1) (lo := 0) (hi := 1000000) (by decide) (by decide) L2.2.2 (by omega) fun wt S13 q13 q14 f13 => ?_
    have L2 := L2.fr f13
    obtain ⟨u1, u2, L3⟩ := L2.app (d := D.tup [D.str "wait", .int (wt : Nat)]) (by simp)
    refine ⟨szL (by decide), ?_⟩
    rw [u2, wo_some]
    try dsimp only
    have g3 : GD (D.tup [D.str "wait", .int (wt : Nat)]) := gd_wait q14
    generalize D.tup [D.str "wait", .int (wt : Nat)] = x3 at L3 g3
    generalize S13.set a (Ob.lst ([x0] ++ [x1] ++ [x2] ++ [x3])) = S14 at L3
    rw [ws_seq, ws_ex]
    simp only [wp_bm, wp_bin, wp_tup, wp_ix, wp_lst, wp_call, wp_non, wp_str, wp_int, wp_var, wps_cons, wps_nil, val, List.map_cons, List.map_nil, List.cons_append, List.nil_append, List.getElem?_cons_zero, List.getElem?_cons_succ, List.set_cons_zero, List.set_cons_succ, List.replicate_succ, List.replicate_zero, List.length_cons, List.length_nil, wo_some]
    refine ⟨(L3.app (d := .non) (by simp)).1, szL (by decide), ?_⟩
    refine take_F L3.2.2 (by omega) (by decide) (by decide) fun r4 S15 a7 a8 f15 => ?_
    rw [ix_lst]
    refine pickD a7 a8 fun x hx => ?_
    have hx2 : x = .non ∨ ∃ q : Nat, q ≤ 1000000 ∧ x = .int (q : Nat) := by
      simp only [List.mem_cons, List.not_mem_nil, or_false] at hx
      rcases hx with rfl | rfl | rfl
      · exact .inl rfl
      · exact .inr ⟨0, by decide, rfl⟩
      · exact .inr ⟨pl, q8, rfl⟩
    have L3 := L3.fr f15
    obtain ⟨u1, u2, L4⟩ := L3.app (d := D.tup ([D.str "rule", .str kd, .int (nu : Nat), x] ++ [.int (hs : Nat), .int (dr : Nat)])) (by simp)
    refine ⟨szL (by decide), ?_⟩
    rw [b_tup, wo_if]
    refine ⟨szL (by simp), ?_⟩
    rw [u2, wo_some]
    try dsimp only
    have g4 : GD (D.tup ([D.str "rule", .str kd, .int (nu : Nat), x] ++ [.int (hs : Nat), .int (dr : Nat)])) := gd_rule kw q2 q3 q4 q5 q6 hx2
    generalize D.tup ([D.str "rule", .str kd, .int (nu : Nat), x] ++ [.int (hs : Nat), .int (dr : Nat)]) = x4 at L4 g4
    generalize S15.set a (Ob.lst ([x0] ++ [x1] ++ [x2] ++ [x3] ++ [x4])) = S16 at L4
    rw [ws_seq, ws_ex]
    simp only [wp_bm, wp_tup, wp_call, wp_str, wp_int, wp_var, wps_cons, wps_nil, val, List.map_cons, List.map_nil, List.cons_append, List.nil_append, List.getElem?_cons_zero, List.getElem?_cons_succ, List.set_cons_zero, List.set_cons_succ, List.replicate_succ, List.replicate_zero, List.length_cons, List.length_nil, wo_some]
    refine ⟨(L4.app (d := .non) (by simp)).1, ?_⟩
    refine num_mk (n := n + 1) (lo := 0) (hi := 1000000) (by decide) (by decide) L4.2.2 (by omega) fun ur S17 q15 q16 f17 => ?_
    have L4 := L4.fr f17
    obtain ⟨u1, u2, L5⟩ := L4.app (d := D.tup [D.str "unrule", .int (ur : Nat)]) (by simp)
    refine ⟨szL (by decide), ?_⟩
    rw [u2, wo_some]
    try dsimp only
    have g5 : GD (D.tup [D.str "unrule", .int (ur : Nat)]) := gd_unrule q16
    generalize D.tup [D.str "unrule", .int (ur : Nat)] = x5 at L5 g5
    generalize S17.set a (Ob.lst ([x0] ++ [x1] ++ [x2] ++ [x3] ++ [x4] ++ [x5])) = S18 at L5
    rw [ws_seq, ws_ret]
    simp only [wp_ix, wp_call, wp_int, wp_var, wps_cons, wps_nil, val, List.map_cons, List.map_nil, List.cons_append, List.nil_append, List.getElem?_cons_zero, List.getElem?_cons_succ, List.set_cons_zero, List.set_cons_succ, List.replicate_succ, List.replicate_zero, List.length_cons, List.length_nil, wo_some]
    refine take_F L5.2.2 (by omega) (by decide) (by decide) fun r5 S19 a9 a10 f19 => ?_
    have L5 := L5.fr f19
    rw [ix_ref L5.1]
    refine pickD a9 (by simpa using a10) fun v hv => ?_
    refine h v S19 ?_ (L5.2.2.le (by omega))
    simp only [List.cons_append, List.nil_append, List.mem_cons, List.not_mem_nil, or_false] at hv
    rcases hv with rfl | rfl | rfl | rfl | rfl | rfl <;> assumption
/-- an answer -/
def GA (d : D) : Prop := ∃ a : An, a.Ok ∧ d = a.d
theorem ans_mk (hb : BagK S b k) (hk : k < 1000) (h : ∀ d S', GA d → BagK S' b (k + 20) → Q d S') : Wp (Z.run P (n + 3) ("_law_an_answer" : Str) [.ref b] S) Q := by
  refine wp_run lk11 rfl ?_
  simp only [c_law_an_answer]
  rw [ws_seq, ws_set]
  simp only [wp_call, wp_int, wp_var, wps_cons, wps_nil, val, List.map_cons, List.map_nil, List.cons_append, List.nil_append, List.getElem?_cons_zero, List.getElem?_cons_succ, List.set_cons_zero, List.set_cons_succ, List.replicate_succ, List.replicate_zero, List.length_cons, List.length_nil, wo_some]
  refine num_mk (n := n) (lo := 1) (hi := 9999) (by decide) (by decide) hb (by omega) fun nu S1 q1 q2 f1 => ?_
  refine ⟨by simp, ?_⟩
  rw [ws_seq, ws_set]
  simp only [wp_tup, wp_call, wp_str, wp_int, wp_var, wps_cons, wps_nil, val, List.map_cons, List.map_nil, List.cons_append, List.nil_append, List.getElem?_cons_zero, List.getElem?_cons_succ, List.set_cons_zero, List.set_cons_succ, List.replicate_succ, List.replicate_zero, List.length_cons, List.length_nil, wo_some]
  refine num_mk (n := n) (lo := 0) (hi := 99) (by decide) (by decide) f1.1 (by omega) fun hs S2 q3 q4 f2 => ?_
  refine num_mk (n := n) (lo := 1) (hi := 9999) (by decide) (by decide) f2.1 (by omega) fun dr S3 q5 q6 f3 => ?_
  refine ⟨szL (by decide), by simp, ?_⟩
  rw [ws_seq, ws_set]
  simp only [wp_tup, wp_ix, wp_lst, wp_call, wp_str, wp_int, wp_var, wps_cons, wps_nil, val, List.map_cons, List.map_nil, List.cons_append, List.nil_append, List.getElem?_cons_zero, List.getElem?_cons_succ, List.set_cons_zero, List.set_cons_succ, List.replicate_succ, List.replicate_zero, List.length_cons, List.length_nil, wo_some]
  refine ⟨szL (by decide), ?_⟩
  refine take_F f3.1 (by omega) (by decide) (by decide) fun r1 S4 a1 a2 f4 => ?_
  rw [ix_lst]
  refine pickS (is := ["astray", "most", "full", "nobody", "sieve", "clash"]) a1 a2 fun why hwhy => ?_
  have hwl : why.length ≤ 100 := by
    simp only [List.mem_cons, List.not_mem_nil, or_false] at hwhy
    rcases hwhy with rfl | rfl | rfl | rfl | rfl | rfl <;> decide
  refine ⟨szL (by decide), by simp, ?_⟩
  rw [ws_seq, ws_set]
  simp only [wp_tup, wp_ix, wp_lst, wp_call, wp_str, wp_int, wp_var, wps_cons, wps_nil, val, List.map_cons, List.map_nil, List.cons_append, List.nil_append, List.getElem?_cons_zero, List.getElem?_cons_succ, List.set_cons_zero, List.set_cons_succ, List.replicate_succ, List.replicate_zero, List.length_cons, List.length_nil, wo_some]
  refine ⟨szL (by decide), szL (by decide), ?_⟩
  refine take_F f4.1 (by omega) (by decide) (by decide) fun r2 S5 a3 a4 f5 => ?_
  rw [ix_lst]
  have okin : RowOk [.w "in", .n hs, .n dr] := by
    refine ⟨⟨_, _, rfl, by decide⟩, fun p hp => ?_, by simp⟩
    simp only [List.mem_cons, List.not_mem_nil, or_false] at hp
    rcases hp with rfl | rfl | rfl
    · exact ⟨show ("in" : Str).length ≤ 100 by decide, fun e => by cases e⟩
    · exact ⟨by show hs ≤ 1000000; omega, fun e => by cases e⟩
    · exact ⟨by show dr ≤ 1000000; omega, fun e => by cases e⟩
  have oktold : RowOk [.w "told", .n hs, .n dr] := by
    refine ⟨⟨_, _, rfl, by decide⟩, fun p hp => ?_, by simp⟩
    simp only [List.mem_cons, List.not_mem_nil, or_false] at hp
    rcases hp with rfl | rfl | rfl
    · exact ⟨show ("told" : Str).length ≤ 100 by decide, fun e => by cases e⟩
    · exact ⟨by show hs ≤ 1000000; omega, fun e => by cases e⟩
    · exact ⟨by show dr ≤ 1000000; omega, fun e => by cases e⟩
  have okwhy : RowOk [.w "kept", .w why] := by
    refine ⟨⟨_, _, rfl, by decide⟩, fun p hp => ?_, by simp⟩
    simp only [List.mem_cons, List.not_mem_nil, or_false] at hp
    rcases hp with rfl | rfl
    · exact ⟨show ("kept" : Str).length ≤ 100 by decide, fun e => by cases e⟩
    · exact ⟨hwl, fun e => by cases e⟩
  have okled : RowOk [.w "led", .n nu] := by
    refine ⟨⟨_, _, rfl, by decide⟩, fun p hp => ?_, by simp⟩
    simp only [List.mem_cons, List.not_mem_nil, or_false] at hp
    rcases hp with rfl | rfl
    · exact ⟨show ("led" : Str).length ≤ 100 by decide, fun e => by cases e⟩
    · exact ⟨by show nu ≤ 1000000; omega, fun e => by cases e⟩
  refine pickD a3 a4 fun inn hin => ?_
  have hin2 : ∃ ps, RowOk ps ∧ inn = .tup (ps.map Pt.d) := by
    simp only [List.mem_cons, List.not_mem_nil, or_false] at hin
    rcases hin with rfl | rfl
    · exact ⟨_, okin, rfl⟩
    · exact ⟨_, okwhy, rfl⟩
  obtain ⟨ps, hps, rfl⟩ := hin2
  refine ⟨szL (by decide), szL (by decide), by simp, ?_⟩
  rw [ws_seq, ws_ret]
  simp only [wp_ix, wp_bin, wp_lst, wp_tup, wp_slFr, wp_call, wp_non, wp_str, wp_int, wp_var, wps_cons, wps_nil, val, List.map_cons, List.map_nil, List.cons_append, List.nil_append, List.getElem?_cons_zero, List.getElem?_cons_succ, List.set_cons_zero, List.set_cons_succ, List.replicate_succ, List.replicate_zero, List.length_cons, List.length_nil, wo_some]
  refine ⟨szL (by decide), ?_⟩
  rw [show evalSl S5 (.tup [.str "in", .int (hs : Nat), .int (dr : Nat)]) (some 1) none = some (.tup [.int (hs : Nat), .int (dr : Nat)]) from rfl, wo_some, b_tup, wo_if]
  refine ⟨szL (by simp), ?_⟩
  refine take_F f5.1 (by omega) (by decide) (by decide) fun r3 S6 a5 a6 f6 => ?_
  refine ⟨szL (by decide), ?_⟩
  rw [b_lst, wo_if]
  refine ⟨szL (by simp), ?_⟩
  refine take_F f6.1 (by omega) (by decide) (by decide) fun r4 S7 a7 a8 f7 => ?_
  rw [ix_lst]
  refine pickD a7 (by simpa using a8) fun v hv => ?_
  refine h v S7 ?_ (f7.1.le (by omega))
  simp only [List.cons_append, List.nil_append, List.mem_cons, List.not_mem_nil, or_false] at hv
  rcases hv with rfl | rfl | rfl | rfl | rfl | rfl | rfl
  · exact ⟨.row _, okled, rfl⟩
  · exact ⟨.row _, okin, rfl⟩
  · exact ⟨.row _, okwhy, rfl⟩
  · exact ⟨.turn nu ps, ⟨by omega, hps⟩, rfl⟩
  · exact ⟨.row _, oktold, rfl⟩
  · exact ⟨.none, trivial, rfl⟩
  · exact ⟨.num r3.toNat, by show r3.toNat ≤ 1000000; omega, by show D.int r3 = .int ((r3.toNat : Nat) : Int); congr 1; omega⟩
end
end K25


namespace K25
open PySem Z Z.Ends
section
variable {S : Sto} {n b k : Nat} {Q : D → Sto → Prop} {R : Str → List D → Sto → Out D}
theorem deed_R (hR : R = Z.run P 8) (hb : BagK S b k) (hk : k < 100) (h : ∀ d S', GD d → BagK S' b (k + 60) → Q d S') : Wp (R ("_law_a_deed" : Str) [.ref b] S) Q := by
  subst hR
  exact deed_mk (n := 4) hb hk h
theorem ans_R (hR : R = Z.run P 8) (hb : BagK S b k) (hk : k < 1000) (h : ∀ d S', GA d → BagK S' b (k + 20) → Q d S') : Wp (R ("_law_an_answer" : Str) [.ref b] S) Q := by
  subst hR
  exact ans_mk (n := 5) hb hk h
/-- what becomes of a deed: its text, by both; read back; the same -/
theorem gd_R {d : D} (hR : R = Z.run P 8) (g : GD d) : ∃ t : Str, (∀ (S : Sto) (Q : D → Sto → Prop), (∀ o, Q (.str t) (S ++ [o])) → Wp (R ("_law_shown" : Str) [d] S) Q) ∧ (∀ S, R ("show_deed" : Str) [d] S = .ok (.str t) S) ∧
    (∀ (S : Sto) (Q : D → Sto → Prop), (∀ S', (∃ o, S' = S ++ [o]) → Q d S') → Wp (R ("read_deed" : Str) [.str t] S) Q) ∧ ∀ S, R ("_law_is" : Str) [d, d] S = .ok (.bl true) S := by
  subst hR
  cases g with
  | L nm r t hn ok hl ht hd =>
    have sh : ∀ p ∈ Pt.w nm :: r, p.Sh := fun p hp => (ok p hp).sh
    refine ⟨textL (.w nm :: r) t, fun S Q q => lshownL (m := 7) hn sh hl (by omega) q, fun S => showL_eq (m := 6) hn sh hl (by omega), fun S Q q => readL (m := 1) hn ok hl ht hd q, fun S => is_tup (m := 6) (fun x hx => ?_) ?_⟩
    · rcases List.mem_append.mp hx with hx | hx
      · obtain ⟨p, hp, rfl⟩ := List.mem_map.mp hx
        exact flatP p
      · rw [List.mem_singleton.mp hx]
        trivial
    · rw [List.length_append, List.length_map, List.length_cons, List.length_singleton]
      omega
  | N nm r k hn ok hl hd =>
    have sh : ∀ p ∈ Pt.w nm :: (r ++ [.n k]), p.Sh := fun p hp => (ok p hp).sh
    refine ⟨headS (.w nm :: (r ++ [.n k])), fun S Q q => lshownN (m := 7) hn sh (by omega) q, fun S => showN_eq (m := 6) hn sh ?_, fun S Q q => readN (m := 1) hn ok ?_ hd q, fun S => is_tup (m := 6) (fun x hx => ?_) ?_⟩
    all_goals first
      | (obtain ⟨p, hp, rfl⟩ := List.mem_map.mp hx
         exact flatP p)
      | (simp; omega)
theorem ga_R {d : D} (hR : R = Z.run P 8) (g : GA d) : ∃ t : Str, (∀ S, R ("show_answer" : Str) [d] S = .ok (.str t) S) ∧ ∀ S, R ("_law_answered" : Str) [d] S = .ok (.str t) S := by
  subst hR
  obtain ⟨a, ok, rfl⟩ := g
  exact ⟨a.s, fun S => show_an (m := 5) ok, fun S => ans_an (m := 6) ok⟩
theorem c_neS' {s u : Str} : evalC S .ne (.str s) (.str u) = some (!(s == u)) := rfl
end
theorem law_true (ns : List Int) (hn : ns.length ≤ 63) : ∃ S, Z.run P 9 ("law" : Str) [.lst (ns.map D.int)] [] = .ok (.bl true) S := by
  refine true_of lkL rfl fun R hR => ?_
  simp only [claw, val, List.map_cons, List.map_nil, List.cons_append, List.nil_append, List.getElem?_cons_zero, List.getElem?_cons_succ, List.set_cons_zero, List.set_cons_succ, List.replicate_succ, List.replicate_zero, List.length_cons, List.length_nil, wo_some]
  rw [ws_seq, ws_for]
  refine cells_R (n := 7) hR lkC rfl hn fun cs _ _ => ?_
  refine ws_loop (fun _ e _ => ∃ s1 s2 s3 s4 s5 s6 s7, e = [Slot.val (.lst (ns.map D.int)), s1, s2, s3, s4, s5, s6, s7]) ⟨_, _, _, _, _, _, _, rfl⟩ ?_ ?_
  · rintro i x e S hx ⟨s1, s2, s3, s4, s5, s6, s7, rfl⟩
    obtain ⟨c, rfl⟩ : ∃ c : Int, x = .int c := by
      obtain ⟨y, _, hy⟩ := List.mem_map.mp (List.mem_of_getElem? hx)
      exact ⟨y, hy.symm⟩
    rw [bt_one, wo_if]
    refine ⟨by simp, ?_⟩
    rw [ws_seq, ws_set]
    simp only [wp_call, wp_int, wp_var, wps_cons, wps_nil, val, List.map_cons, List.map_nil, List.cons_append, List.nil_append, List.getElem?_cons_zero, List.getElem?_cons_succ, List.set_cons_zero, List.set_cons_succ, List.replicate_succ, List.replicate_zero, List.length_cons, List.length_nil, wo_some]
    refine well_R (n := 7) hR lkW fun S1 b b1 => ?_
    refine ⟨by simp, ?_⟩
    rw [ws_seq, ws_set]
    simp only [wp_call, wp_var, wps_cons, wps_nil, val, List.map_cons, List.map_nil, List.cons_append, List.nil_append, List.getElem?_cons_zero, List.getElem?_cons_succ, List.set_cons_zero, List.set_cons_succ, List.replicate_succ, List.replicate_zero, List.length_cons, List.length_nil, wo_some]
    refine deed_R hR b1 (by decide) fun d S2 gd b2 => ?_
    refine ⟨by simp, ?_⟩
    obtain ⟨t, g1, g2, g3, g4⟩ := gd_R hR gd
    rw [ws_seq, ws_set]
    simp only [wp_call, wp_var, wps_cons, wps_nil, val, List.map_cons, List.map_nil, List.cons_append, List.nil_append, List.getElem?_cons_zero, List.getElem?_cons_succ, List.set_cons_zero, List.set_cons_succ, List.replicate_succ, List.replicate_zero, List.length_cons, List.length_nil, wo_some]
    refine g1 S2 _ fun o => ?_
    refine ⟨by simp, ?_⟩
    have b3 := b2.app [o]
    generalize S2 ++ [o] = S3 at b3
    rw [ws_seq, ws_ite]
    simp only [wp_or, wp_not, wp_cmp, wp_call, wp_var, wps_cons, wps_nil, val, List.map_cons, List.map_nil, List.cons_append, List.nil_append, List.getElem?_cons_zero, List.getElem?_cons_succ, List.set_cons_zero, List.set_cons_succ, List.replicate_succ, List.replicate_zero, List.length_cons, List.length_nil, wo_some]
    rw [g2, wp_ok, c_neS', beq_self_eq_true, wo_some]
    simp only [wo_some, tr_bl, Bool.not_true, Bool.false_eq_true, if_false]
    refine g3 S3 _ fun S4 hS4 => ?_
    obtain ⟨o2, rfl⟩ := hS4
    have b4 := b3.app [o2]
    generalize S3 ++ [o2] = S4 at b4
    rw [g4, wp_ok]
    simp only [wo_some, tr_bl, Bool.not_true, Bool.false_eq_true, if_false]
    rw [ws_skip, ws_seq, ws_for]
    simp only [wi_r1, wp_int]
    rw [wo_if]
    refine ⟨by decide, ?_⟩
    refine ws_loop (fun i e S' => ∃ s5 s6 s7, e = [Slot.val (.lst (ns.map D.int)), .val (.int c), .val (.ref b), .val d, .val (.str t), s5, s6, s7] ∧ BagK S' b (60 + 20 * i)) ⟨_, _, _, rfl, b4.le (by omega)⟩ ?_ ?_
    · rintro i x e S' hx ⟨s5, s6, s7, rfl, hb⟩
      have hi : i < 3 := (List.getElem?_eq_some_iff.mp hx).1
      rw [bt_one, wo_if]
      refine ⟨by simp, ?_⟩
      rw [ws_seq, ws_set]
      simp only [wp_call, wp_var, wps_cons, wps_nil, val, List.map_cons, List.map_nil, List.cons_append, List.nil_append, List.getElem?_cons_zero, List.getElem?_cons_succ, List.set_cons_zero, List.set_cons_succ, List.replicate_succ, List.replicate_zero, List.length_cons, List.length_nil, wo_some]
      refine ans_R hR hb (by omega) fun an S5 ga b5 => ?_
      refine ⟨by simp, ?_⟩
      obtain ⟨u, h1, h2⟩ := ga_R hR ga
      rw [ws_seq, ws_set]
      simp only [wp_call, wp_var, wps_cons, wps_nil, val, List.map_cons, List.map_nil, List.cons_append, List.nil_append, List.getElem?_cons_zero, List.getElem?_cons_succ, List.set_cons_zero, List.set_cons_succ, List.replicate_succ, List.replicate_zero, List.length_cons, List.length_nil, wo_some]
      rw [h1, wp_ok]
      refine ⟨by simp, ?_⟩
      rw [ws_seq, ws_ite]
      simp only [wp_or, wp_not, wp_isi, wp_cmp, wp_call, wp_var, wps_cons, wps_nil, val, List.map_cons, List.map_nil, List.cons_append, List.nil_append, List.getElem?_cons_zero, List.getElem?_cons_succ, List.set_cons_zero, List.set_cons_succ, List.replicate_succ, List.replicate_zero, List.length_cons, List.length_nil, wo_some]
      rw [show isTy (.str u) S5 .str = some true from rfl, wo_some]
      simp only [tr_bl, wo_some, Bool.not_true, Bool.false_eq_true, if_false]
      rw [h2, wp_ok, c_neS', beq_self_eq_true, wo_some]
      simp only [tr_bl, wo_some, Bool.not_true, Bool.false_eq_true, if_false]
      rw [ws_skip, ws_skip]
      exact ⟨_, _, _, rfl, b5.le (by omega)⟩
    · rintro e S' ⟨s5, s6, s7, rfl, hb⟩
      rw [ws_skip]
      exact ⟨_, _, _, _, _, _, _, rfl⟩
  · rintro e S ⟨s1, s2, s3, s4, s5, s6, s7, rfl⟩
    rw [ws_seq, ws_ret, wp_bl]
end K25


open PySem PySem.W PySem.Calls PyProof.Rows
theorem PySem.Challenge.cw_lentgate_k25_deeds_written_and_read_holds : PySem.Challenge.rw_lentgate_k25_deeds_written_and_read.Holds := by
  w_on; o_law
  refine HandSHeadRun.head_any (r := OpenLaw.row PySem.Challenge.rw_lentgate_k25_deeds_written_and_read) (q := view (OpenLaw.row PySem.Challenge.rw_lentgate_k25_deeds_written_and_read).prog [38]) (H := K25.hk) (ob := K25.ob) (M := 1959) (loose := K25.loose) (d := HandSHeadRun.topDef (OpenLaw.row PySem.Challenge.rw_lentgate_k25_deeds_written_and_read).prog 38) (kwd := []) K25.ob_eq
    (by kernel_rfl) (fun s => by kernel_rfl) K25.run (by kernel_rfl) (by kernel_rfl) (by kernel_rfl) (by rfl) (by first | assumption | decide +kernel) (by decide +kernel) ⟨rfl, rfl, rfl, rfl, rfl, by decide +kernel⟩ ?hw ?hc
  case hw => w_witness2
  case hc =>
    refine L2.walk_ofE (l := PySem.Challenge.rw_lentgate_k25_deeds_written_and_read) (n := 63) (k := 2 * 9) (x := "script") (CX := Z.CXW PySem.Challenge.rw_lentgate_k25_deeds_written_and_read.prog) rfl (by decide) (by kernel_rfl) ⟨rfl, by decide, by decide⟩ ?F Z.cxw_no
    intro w mg fa h Y G hmg0
    have hmg : mg ("law" : PySem.Str) = some (.ref fa) := by
      have e : (HandSHeadRun.topDef (OpenLaw.row PySem.Challenge.rw_lentgate_k25_deeds_written_and_read).prog 38).name = ("law" : PySem.Str) := by kernel_rfl
      rw [← e]
      exact hmg0
    obtain ⟨K, fd, sp, a1, a2, a3, a4⟩ := Z.end_of (P := K25.P) (L := K25.wh) (prog := PySem.Challenge.rw_lentgate_k25_deeds_written_and_read.prog) (n := 9) (m := 63) K25.fits rfl K25.okL K25.okPL K25.okT rfl rfl rfl K25.law_true w Y G hmg
    exact ⟨K, fd, sp, a1, a2, fun H a ns hl _ hq => a3 H a ns hl hq, a4⟩

