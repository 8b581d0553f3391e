import PyProof.Rows.All
import Wide.All
import OpenK.AllK
import Wide.FinOn
import HandS.ForMost
import HandS.Deep
import HandS.Style
import HandS.TupAny
import HandS.TupMul
import HandS.Conv
import HandS.Zip
import HandS.Flow
import HandS.Dict
import HandS.More
import HandS.Iter
import KE.SortData
import KE.DataMinMax
import KE.DataEq
import KE.DataFind
import KE.DataAny
import KE.DataIsa
import KE.KTupSum
import KE.GoesMore
import KE.GoesRev
import HandS.SetFor
import HandS.Strs
import HandS.Flt
import KE.KDictZip
import HandS.Keys
import PySem.Challenge.RW_loadwarrant_k11_storms_of_tries
set_option Elab.async false
set_option linter.all false
set_option maxRecDepth 100000
set_option maxHeartbeats 4000000
/-! A small evaluator of the programs' own language, over trees of data. -/
namespace Q
open PySem

abbrev D := PyData
/-- how a value is held: for ever the same | a new list or dict | a list or dict of a name of the def's own | read only -/
inductive Kd where | sh | fr | pk | ro
  deriving DecidableEq
structure R where
  kd : Kd
  d : D
abbrev M (α : Type) := Nat → Option (α × Nat)
@[reducible] def ret {α : Type} (a : α) : M α := fun t => some (a, t)
@[reducible] def fail {α : Type} : M α := fun _ => none
def bnd {α β : Type} (m : M α) (f : α → M β) : M β := fun t => match m t with
  | none => none
  | some (a, t') => f a t'
def opt {α : Type} (o : Option α) : M α := fun t => match o with
  | none => none
  | some a => some (a, t)
inductive Sl where
  | un | sh (d : D) | ow (d : D) | ro (d : D)
abbrev Env := List Sl
abbrev lim : Nat := 16777216
def shd (d : D) : R := ⟨.sh, d⟩
def getS (ρ : Env) (i : Nat) : Option R := match ρ[i]? with
  | some (.sh d) => some ⟨.sh, d⟩
  | some (.ow d) => some ⟨.pk, d⟩
  | some (.ro d) => some ⟨.ro, d⟩
  | _ => none
/-- as a part of something: nothing of one's own goes in -/
def shared (r : R) : Option D := match r.kd with
  | .sh => some r.d
  | .fr => some r.d
  | _ => none
def isSc : D → Bool
  | .list _ => false
  | .tuple _ => false
  | .dict _ => false
  | _ => true
/-- the list of draws as one token -/
def tapeD : D := .dict [(.none, .none)]

inductive Op where | add | sub | mul | fdiv | mod | pow
  deriving DecidableEq
inductive Cp where | eq | ne | lt | le | gt | ge | inn | nin | iss | isn
  deriving DecidableEq
inductive B where | len | abs | int | max2 | min2 | min3 | max1 | min1 | sum | all | any | tuple | list | sorted | range1 | range2 | dict
  deriving DecidableEq
inductive Ty where | int | bool | str | tuple | list | dict
  deriving DecidableEq

/-- by natAbs: the kernel can look at it with no end of steps -/
def intB (i : Int) : Bool := decide (i.natAbs < 18446744073709551616)
theorem intB_iff {i : Int} : intB i = true ↔ (-18446744073709551616 < i ∧ i < 18446744073709551616) := by
  unfold intB
  rw [decide_eq_true_eq]
  omega
def okD (d : D) : Bool := d.plain && decide (d.depth ≤ 60)
def opD (op : Op) (x y : R) : Option R := match op, x.d, y.d with
  | .add, .int a, .int b => some (shd (.int (a + b)))
  | .add, .str a, .str b => if a.length + b.length ≤ lim then some (shd (.str (a ++ b))) else none
  | .add, .list a, .list b => if x.kd ≠ .ro ∧ y.kd ≠ .ro ∧ a.length + b.length ≤ lim then some ⟨.fr, .list (a ++ b)⟩ else none
  | .add, .tuple a, .tuple b => if a.length + b.length ≤ lim then some (shd (.tuple (a ++ b))) else none
  | .sub, .int a, .int b => some (shd (.int (a - b)))
  | .mul, .int a, .int b => if intB a || intB b then some (shd (.int (a * b))) else none
  | .mul, .list a, .int b => if x.kd ≠ .ro ∧ b.natAbs < 9223372036854775808 ∧ a.length * b.toNat ≤ lim then some ⟨.fr, .list (List.replicate b.toNat a).flatten⟩ else none
  | .mul, .tuple a, .int b => if a.length ≤ 1000 ∧ b.natAbs ≤ 1000 then some (shd (.tuple (List.replicate b.toNat a).flatten)) else none
  | .fdiv, .int a, .int b => if 0 < b ∧ b.natAbs < 1073741824 then some (shd (.int (a / b))) else none
  | .mod, .int a, .int b => if 0 < b then some (shd (.int (a % b))) else none
  | .pow, .int a, .int b => if 0 ≤ b ∧ b.natAbs ≤ 1000000 ∧ a.natAbs < 18446744073709551616 then some (shd (.int (a ^ b.toNat))) else none
  | _, _, _ => none
/-! dicts: their keys are ints and texts -/
abbrev DK := Int ⊕ Str
def kOf : D → Option DK
  | .int i => some (.inl i)
  | .str x => some (.inr x)
  | _ => none
def kTo : DK → D
  | .inl i => .int i
  | .inr x => .str x
def dVal {κ : Type} [DecidableEq κ] (kvs : List (κ × D)) (k : κ) : Option D := (kvs.find? fun p => decide (p.1 = k)).map (·.2)
def dPut {κ : Type} [DecidableEq κ] (kvs : List (κ × D)) (k : κ) (v : D) : List (κ × D) :=
  if (kvs.any fun p => decide (p.1 = k)) = true then kvs.map (fun p => if p.1 = k then (p.1, v) else p) else kvs ++ [(k, v)]
def dMerge (kvs more : List (DK × D)) : List (DK × D) := more.foldl (fun acc p => dPut acc p.1 p.2) kvs
/-- a dict's entries -/
def entries : List (D × D) → Option (List (DK × D))
  | [] => some []
  | (k, v) :: r => (kOf k).bind fun k => (entries r).map ((k, v) :: ·)
def unent (kvs : List (DK × D)) : List (D × D) := kvs.map fun p => (kTo p.1, p.2)
/-! dicts keyed by tuples of ints and texts: marked by a first entry -/
def kOfs : List D → Option (List DK)
  | [] => some []
  | d :: r => (kOf d).bind fun k => (kOfs r).map (k :: ·)
def kOfT : D → Option (List DK)
  | .tuple ds => kOfs ds
  | _ => none
def entsT : List (D × D) → Option (List (List DK × D))
  | [] => some []
  | (k, v) :: r => (kOfT k).bind fun k => (entsT r).map ((k, v) :: ·)
def uEnts : List (D × D) → Option (List (List DK × D))
  | (.none, .bool true) :: r => entsT r
  | _ => none
def unU (es : List (List DK × D)) : List (D × D) := (.none, .bool true) :: es.map fun p => (.tuple (p.1.map kTo), p.2)
/-- by a flat key, or else -/
def kOr {α : Type} (o : Option DK) (f : DK → Option α) (g : Option α) : Option α := match o with
  | some k => f k
  | none => g
/-- a list of pairs -/
def pairsD : List D → Option (List (DK × D))
  | [] => some []
  | .tuple [k, v] :: r => (kOf k).bind fun k => (pairsD r).map ((k, v) :: ·)
  | _ :: _ => none
def intKeys : List (DK × D) → Option (List Int)
  | [] => some []
  | (.inl i, _) :: r => (intKeys r).map (i :: ·)
  | (.inr _, _) :: _ => none
def strKeys : List (DK × D) → Option (List Str)
  | [] => some []
  | (.inr i, _) :: r => (strKeys r).map (i :: ·)
  | (.inl _, _) :: _ => none
def ssort (ns : List Str) : List Str := ns.mergeSort fun a b => !decide (b.cps.toList < a.cps.toList)
def isort (ns : List Int) : List Int := ns.mergeSort fun a b => decide (a ≤ b)
def isD (x y : D) : Option Bool := match x, y with
  | .none, .none => some true
  | _, .none => some false
  | .bool a, .bool b => some (decide (a = b))
  | _, _ => none
def inD (x y : D) : Option Bool := match y with
  | .list ys => if okD x ∧ okD (.list ys) then some (ys.any fun z => PyData.eqv z x) else none
  | .tuple ys => if okD x ∧ okD (.list ys) then some (ys.any fun z => PyData.eqv z x) else none
  | .dict kds => kOr (kOf x) (fun k => (entries kds).map fun es => (dVal es k).isSome) ((kOfT x).bind fun k => (uEnts kds).map fun es => (dVal es k).isSome)
  | _ => none
/-- two that the order tells apart as one kind -/
def ordOk (x y : D) : Bool := PySem.W.alike x y && okD x && okD y && (match x with | .none => false | _ => true)
def cpD (op : Cp) (x y : D) : Option Bool := match op with
  | .eq => if okD x ∧ okD y then some (PyData.eqv x y) else none
  | .ne => if okD x ∧ okD y then some (!PyData.eqv x y) else none
  | .lt => match x, y with
    | .int a, .int b => some (decide (a < b))
    | x, y => if ordOk x y then some (PySem.W.dataLt x y) else none
  | .le => match x, y with
    | .int a, .int b => some (decide (a ≤ b))
    | x, y => if ordOk x y then some (!PySem.W.dataLt y x) else none
  | .gt => match x, y with
    | .int a, .int b => some (decide (b < a))
    | x, y => if ordOk x y then some (PySem.W.dataLt y x) else none
  | .ge => match x, y with
    | .int a, .int b => some (decide (b ≤ a))
    | x, y => if ordOk x y then some (!PySem.W.dataLt x y) else none
  | .inn => inD x y
  | .nin => (inD x y).map (!·)
  | .iss => isD x y
  | .isn => (isD x y).map (!·)
def tru (d : D) : Option Bool := match d with
  | .bool b => some b
  | _ => none
def ixD (x y : D) : Option D := match x, y with
  | .list xs, .int i => L2.atI xs i
  | .tuple xs, .int i => L2.atI xs i
  | .dict kds, k => kOr (kOf k) (fun k => (entries kds).bind fun es => dVal es k) ((kOfT k).bind fun k => (uEnts kds).bind fun es => dVal es k)
  | _, _ => none
def cut {α : Type} (xs : List α) (lo hi : Option Int) : List α := (xs.drop (HT.sIx xs.length 0 lo)).take (HT.sIx xs.length xs.length hi - HT.sIx xs.length 0 lo)
def slD (x : D) (lo hi : Option Int) : Option R := match x with
  | .list xs => some ⟨.fr, .list (cut xs lo hi)⟩
  | .tuple xs => some (shd (.tuple (cut xs lo hi)))
  | _ => none
def intOf : D → Option Int
  | .int i => some i
  | _ => none
def intsOf : List D → Option (List Int)
  | [] => some []
  | .int i :: r => (intsOf r).map (i :: ·)
  | _ :: _ => none
def boolsOf : List D → Option (List Bool)
  | [] => some []
  | .bool i :: r => (boolsOf r).map (i :: ·)
  | _ :: _ => none
def seqOf : D → Option (List D)
  | .list xs => some xs
  | .tuple xs => some xs
  | _ => none
def isaD (t : Ty) (x : D) : Bool := match t, x with
  | .int, .int _ => true
  | .int, .bool _ => true
  | .bool, .bool _ => true
  | .str, .str _ => true
  | .tuple, .tuple _ => true
  | .list, .list _ => true
  | .dict, .dict _ => true
  | _, _ => false
/-- data of one kind that can be ordered -/
def alk (xs : List D) : Bool := (xs.all fun x => xs.all fun y => PySem.W.alike x y) && PyData.plainAll xs && decide (PyData.depthAll xs ≤ 50)
def nnoD : D → Bool
  | .none => false
  | _ => true
def neT : D → Bool
  | .tuple (_ :: _) => true
  | _ => false
def ntD : D → Bool
  | .none => false
  | .tuple _ => false
  | _ => true
def ordD (xs : List D) : Bool := alk xs && xs.all nnoD
def srtOk (xs : List D) : Bool := alk xs && (xs.all neT || xs.all ntD) && decide (xs.length ≤ lim)
def leD (a b : D) : Bool := !PySem.W.dataLt b a
def sortD (xs : List D) : List D := xs.mergeSort leD
/-- a set of ints, ascending -/
def insI (x : Int) : List Int → List Int
  | [] => [x]
  | y :: r => if x < y then x :: y :: r else if x = y then y :: r else y :: insI x r
def setI (ns : List Int) : List Int := ns.foldr insI []
/-- sorted(set(x)) and len(set(x)), of ints -/
def ssetD (ln : Bool) (x : D) : Option R := (seqOf x).bind fun xs => (intsOf xs).bind fun ns => if ns.length ≤ 4000 ∧ (setI ns).length < 64 then some (if ln then shd (.int ((setI ns).length : Nat)) else ⟨.fr, .list ((setI ns).map .int)⟩) else none
def rangeL (a b : Int) : List D := (List.range (b - a).toNat).map fun (k : Nat) => PyData.int (a + k)
def rngB (a : Int) : Bool := decide (a.natAbs < 4611686018427387904)
def min3I (i j k : Int) : Int := if k < (if j < i then j else i) then k else if j < i then j else i
def bltD (f : B) (xs : List R) : Option R := match f, xs with
  | .len, [⟨_, .dict kds⟩] => (entries kds).map fun kvs => shd (.int (kvs.length : Nat))
  | .dict, [⟨_, .list ps⟩] => (pairsD ps).bind fun kvs => if kvs.length ≤ 1000000 then some ⟨.fr, .dict (unent (dMerge [] kvs))⟩ else none
  | .dict, [⟨_, .dict kds⟩] => (entries kds).map fun kvs => ⟨.fr, .dict (unent kvs)⟩
  | .sorted, [⟨_, .dict kds⟩] => (entries kds).bind fun kvs => match intKeys kvs, strKeys kvs with
    | some ks, _ => if ks.length < 64 then some ⟨.fr, .list ((isort ks).map .int)⟩ else none
    | none, some ks => if ks.length < 64 then some ⟨.fr, .list ((ssort ks).map .str)⟩ else none
    | none, none => none
  | .len, [⟨_, .list a⟩] => some (shd (.int (a.length : Nat)))
  | .len, [⟨_, .tuple a⟩] => some (shd (.int (a.length : Nat)))
  | .abs, [⟨_, .int i⟩] => some (shd (.int (if i < 0 then -i else i)))
  | .int, [⟨_, .int i⟩] => some (shd (.int i))
  | .int, [⟨_, .bool b⟩] => some (shd (.int (if b then 1 else 0)))
  | .max2, [⟨_, .int i⟩, ⟨_, .int j⟩] => some (shd (.int (if j > i then j else i)))
  | .min2, [⟨_, .int i⟩, ⟨_, .int j⟩] => some (shd (.int (if j < i then j else i)))
  | .min3, [⟨_, .int i⟩, ⟨_, .int j⟩, ⟨_, .int k⟩] => some (shd (.int (min3I i j k)))
  | .max1, [⟨_, .list (a :: r)⟩] => if ordD (a :: r) then some (shd (PySem.W.maxD a r)) else none
  | .max1, [⟨_, .tuple (a :: r)⟩] => if ordD (a :: r) then some (shd (PySem.W.maxD a r)) else none
  | .min1, [⟨_, .list (a :: r)⟩] => if ordD (a :: r) then some (shd (PySem.W.minD a r)) else none
  | .min1, [⟨_, .tuple (a :: r)⟩] => if ordD (a :: r) then some (shd (PySem.W.minD a r)) else none
  | .sum, [⟨_, .list a⟩] => (intsOf a).map fun ns => shd (.int ns.sum)
  | .sum, [⟨_, .tuple a⟩] => (intsOf a).map fun ns => shd (.int ns.sum)
  | .all, [⟨_, .list a⟩] => (boolsOf a).map fun bs => shd (.bool (bs.all id))
  | .any, [⟨_, .list a⟩] => (boolsOf a).map fun bs => shd (.bool (bs.any id))
  | .tuple, [⟨_, .list a⟩] => some (shd (.tuple a))
  | .tuple, [⟨k, .tuple a⟩] => some (shd (.tuple a))
  | .list, [⟨_, .list a⟩] => some ⟨.fr, .list a⟩
  | .list, [⟨_, .tuple a⟩] => some ⟨.fr, .list a⟩
  | .sorted, [⟨_, .list a⟩] => if srtOk a then some ⟨.fr, .list (sortD a)⟩ else none
  | .sorted, [⟨_, .tuple a⟩] => if srtOk a then some ⟨.fr, .list (sortD a)⟩ else none
  | _, _ => none

/-- what a method tells of a row -/
inductive Me where | index | count
  deriving DecidableEq
def mthD (m : Me) (x y : D) : Option R := match x with
  | .list xs => if okD y ∧ PyData.plainAll xs = true then (match m with
    | .index => (xs.findIdx? fun z => PyData.eqv z y).map fun j => shd (.int (j : Nat))
    | .count => some (shd (.int ((xs.countP fun z => PyData.eqv z y : Nat) : Int)))) else none
  | _ => none

/-- a place that is stored to -/
inductive Tg where
  | nm (i : Nat) | tp (ts : List Tg)
mutual
inductive E where
  | var (i : Nat)
  | cst (d : D)
  | neg (a : E)
  | bin (op : Op) (a b : E)
  | cmp (op : Cp) (a b : E)
  | chn (op op' : Cp) (a b c : E)
  | land (es : EL)
  | lor (es : EL)
  | lnot (a : E)
  | ite (t : T) (a b : E)
  | tup (es : EL)
  | lst (es : EL)
  | call (f : Nat) (es : EL)
  | nxt (w : Nat) (e : E)
  | blt (f : B) (es : EL)
  | isa (t : Ty) (e : E)
  | mth (m : Me) (o e : E)
  | lrg (tp : Bool) (a : E)
  | dnew
  /-- {}, to be keyed by tuples -/
  | unew
  /-- {k: v, ..}: keys and values by turns -/
  | dsp (kvs : EL)
  | dget (a k : E)
  | dget2 (a k x : E)
  | lrg2 (tp : Bool) (a b : E)
  /-- sorted(set(a)), len(set(a)) -/
  | sset (ln : Bool) (a : E)
  | lzip (a b : E)
  /-- a, shared from here on -/
  | shr (a : E)
  /-- a in range(b, d) -/
  | inr (a b d : E)
  /-- a[::-1] -/
  | rev (a : E)
  | ix (a b : E)
  | sl (a : E) (lo hi : EO)
  | lc (vs : List Nat) (elt : E) (tg : Tg) (it : It) (cond : TO)
  /-- [elt for tg in d if cond], d the dict of a name -/
  | lcd (vs : List Nat) (elt : E) (tg : Tg) (i : Nat) (cond : TO)
  | lc2 (vs vs1 : List Nat) (elt : E) (tg : Tg) (it : It) (cond : TO) (tg1 : Tg) (it1 : It) (cond1 : TO)
inductive EL where
  | nil | cons (e : E) (es : EL)
inductive EO where
  | no | so (e : E)
inductive T where
  | cmp (op : Cp) (a b : E)
  | chn (op op' : Cp) (a b c : E)
  | inr (a b d : E)
  | and (ts : TL)
  | or (ts : TL)
  | not (a : T)
  | val (e : E)
inductive TL where
  | nil | cons (t : T) (ts : TL)
inductive TO where
  | no | so (t : T)
inductive It where
  | seq (e : E)
  | rng1 (a : E)
  | rng2 (a b : E)
  | rng3 (a b c : E)
  | enm (a : E)
  | zip (a b : E)
end
/-- a place in a row of targets -/
inductive Tt where
  | tg (t : Tg) | put (i : Nat) (k : E)
mutual
inductive S where
  | asg (tg : Tg) (e : E)
  | par (ts : List Tt) (es : EL)
  | aug (i : Nat) (op : Op) (e : E)
  | augp (i : Nat) (op : Op) (k e : E)
  | app (i : Nat) (e : E)
  | ext (i : Nat) (e : E)
  | put (i : Nat) (k e : E)
  | popl (tg : Tg) (i : Nat)
  | popat (tg : Tg) (i : Nat) (k : E)
  | exp (e : E)
  | ret (e : E)
  | retv (i : Nat)
  | retn
  | ite (t : T) (a b : SS)
  | whl (t : T) (b : SS)
  | frr (tg : Tg) (it : It) (b : SS)
  /-- for tg in d, d the dict of a name -/
  | frd (tg : Tg) (i : Nat) (b : SS)
  | brk
  | cnt
  | pss
inductive SS where
  | nil | cons (s : S) (r : SS)
  /-- the list in slot i is never changed again -/
  | frz (i : Nat) (r : SS)
  /-- these slots are not asked for again -/
  | kil (bs : List Bool) (r : SS)
end
structure Fn where
  np : Nat
  sl : Nat
  body : SS

/-! ### the evaluator -/
mutual
def bind1 : Tg → D → Env → Option Env
  | .nm i, d, ρ => some (ρ.set i (.sh d))
  | .tp ts, .tuple ds, ρ => bindL ts ds ρ
  | .tp _, _, _ => none
def bindL : List Tg → List D → Env → Option Env
  | [], [], ρ => some ρ
  | t :: ts, d :: ds, ρ => (bind1 t d ρ).bind fun ρ' => bindL ts ds ρ'
  | _, _, _ => none
end
/-- a target takes a result: a new list becomes a name's own -/
def store : Tg → R → Env → Option Env
  | .nm i, ⟨.fr, d⟩, ρ => some (ρ.set i (.ow d))
  | tg, r, ρ => (shared r).bind fun d => bind1 tg d ρ
def wipeE : Env → List Nat → Env
  | ρ, [] => ρ
  | ρ, v :: vs => (wipeE ρ vs).set v .un
mutual
/-- no list or dict lies within -/
def noL : D → Bool
  | .list _ => false
  | .dict _ => false
  | .tuple ds => noLs ds
  | .none => true
  | .bool _ => true
  | .int _ => true
  | .str _ => true
def noLs : List D → Bool
  | [] => true
  | d :: ds => noL d && noLs ds
end
/-- a result that holds nothing of what was lent -/
def noLR (r : R) : Bool := match r.kd, r.d with
  | .sh, d => noL d
  | .fr, .list ds => noLs ds
  | _, _ => false
/-- the result of a call: what it may hold of its arguments -/
def callKd (args : List R) (r : R) : Option R :=
  if args.all (fun a => decide (a.kd = .sh) || decide (a.kd = .fr)) then some r
  else if args.all (fun a => decide (a.kd ≠ .ro)) && noLR r then some r else none
structure Gl where
  /-- the draws -/
  ds : List Int
  call : Nat → List D → M R
def nextD (ds : List Int) (many : Int) : M Int := fun t =>
  if 0 < many then (if t + 1 > ds.length then some (0, t + 1) else (ds[t]?).map fun x => (x % many, t + 1)) else none
def compM (xs : List D) (f : D → M (Option D)) : M (List D) := match xs with
  | [] => ret []
  | x :: r => bnd (f x) fun o => bnd (compM r f) fun ys => ret (match o with | none => ys | some y => y :: ys)
def catM (xs : List D) (f : D → M (List D)) : M (List D) := match xs with
  | [] => ret []
  | x :: r => bnd (f x) fun o => bnd (catM r f) fun ys => ret (o ++ ys)
def isTape : Option R → Bool
  | some ⟨.sh, .dict [(.none, .none)]⟩ => true
  | _ => false
def dgetD (x k : D) (z : D) : Option D := match x with
  | .dict kds => (kOf k).bind fun k => (entries kds).map fun es => (dVal es k).getD z
  | _ => none
/-- the keys and values of a display -/
def pairR : List R → Option (List (DK × D))
  | [] => some []
  | k :: v :: r => (kOf k.d).bind fun k => (shared v).bind fun v => (pairR r).map ((k, v) :: ·)
  | _ => none
def lstR (xs : List D) : M R := fun t => if xs.length ≤ lim then some (⟨.fr, .list xs⟩, t) else none
def tupR (xs : List D) : M R := fun t => if xs.length ≤ lim then some (⟨.sh, .tuple xs⟩, t) else none
def bol (o : Option Bool) : M R := fun t => match o with
  | none => none
  | some b => some (⟨.sh, .bool b⟩, t)
def zipD : List D → List D → List D
  | a :: as, b :: bs => .tuple [a, b] :: zipD as bs
  | _, _ => []
def safe (k : Kd) : Bool := match k with
  | .sh => true
  | .fr => true
  | _ => false
/-- list(zip(xs, ys)) of tuples -/
def lzD (x y : D) : Option R := match x, y with
  | .tuple xs, .tuple ys => some ⟨.fr, .list (zipD xs ys)⟩
  | _, _ => none
def seqI (r : R) : Option (Bool × List D) := match r.d with
  | .list xs => some (safe r.kd, xs)
  | .tuple xs => some (true, xs)
  | .str x => some (true, x.cps.toList.map fun c => .str ⟨#[c]⟩)
  | _ => none
def zipI (x y : R) : Option (Bool × List D) := match x.d, y.d with
  | .list xs, .list ys => some (safe x.kd && safe y.kd, zipD xs ys)
  | .tuple xs, .tuple ys => some (true, zipD xs ys)
  | _, _ => none
def smlB (a : Int) : Bool := decide (a.natAbs ≤ 8000000)
def lrgM (tp : Bool) (a b : Int) : M R := fun t => if smlB a && smlB b then some (if tp then shd (.tuple (rangeL a b)) else ⟨.fr, .list (rangeL a b)⟩, t) else none
/-- range(a, b, c) -/
def rangeC (a b c : Int) : List D := (List.range (Builtin.Range.rangeSize a b c).toNat).map fun (k : Nat) => PyData.int (a + k * c)
def rngC (a b c : Int) : Bool := Builtin.Range.small a b c && decide (c ≠ 0) && decide (c.natAbs < 1073741824) && decide (0 ≤ Builtin.Range.rangeSize a b c)
def enmD : Nat → List D → List D
  | _, [] => []
  | n, d :: ds => .tuple [.int (n : Nat), d] :: enmD (n + 1) ds
def enmI (r : R) : Option (Bool × List D) := match r.d with
  | .list xs => some (safe r.kd, enmD 0 xs)
  | .tuple xs => some (true, enmD 0 xs)
  | _ => none
/-- the keys of the dict of a name -/
def keysI (ρ : Env) (i : Nat) : Option (Bool × List D) := match ρ[i]? with
  | some (.sh (.dict kds)) => (entries kds).map fun _ => (true, kds.map (·.1))
  | _ => none
def inrD (x y z : D) : Option Bool := match x, y, z with
  | .int k, .int a, .int b => some (decide (a ≤ k ∧ k < b))
  | _, _, _ => none
def revD (x : D) : Option R := match x with
  | .list xs => some ⟨.fr, .list xs.reverse⟩
  | _ => none
mutual
def ev (g : Gl) : E → Env → M R
  | .dnew, _ => ret ⟨.fr, .dict []⟩
  | .unew, _ => ret ⟨.fr, .dict (unU [])⟩
  | .dsp kvs, ρ => bnd (evL g kvs ρ) fun rs => bnd (opt (pairR rs)) fun es => if es.length ≤ 15 then ret ⟨.fr, .dict (unent (dMerge [] es))⟩ else fail
  | .dget a k, ρ => bnd (ev g a ρ) fun x => bnd (ev g k ρ) fun y => opt ((dgetD x.d y.d .none).map shd)
  | .dget2 a k z, ρ => bnd (ev g a ρ) fun x => bnd (ev g k ρ) fun y => bnd (ev g z ρ) fun w => bnd (opt (shared w)) fun w => opt ((dgetD x.d y.d w).map shd)
  | .lrg tp a, ρ => bnd (ev g a ρ) fun x => bnd (opt (intOf x.d)) fun i => lrgM tp 0 i
  | .lrg2 tp a b, ρ => bnd (ev g a ρ) fun x => bnd (ev g b ρ) fun y => bnd (opt (intOf x.d)) fun i => bnd (opt (intOf y.d)) fun j => lrgM tp i j
  | .var i, ρ => opt (getS ρ i)
  | .cst d, ρ => ret (shd d)
  | .neg a, ρ => bnd (ev g a ρ) fun x => opt ((intOf x.d).map fun i => shd (.int (-i)))
  | .bin op a b, ρ => bnd (ev g a ρ) fun x => bnd (ev g b ρ) fun y => opt (opD op x y)
  | .cmp op a b, ρ => bnd (ev g a ρ) fun x => bnd (ev g b ρ) fun y => bol (cpD op x.d y.d)
  | .chn op op' a b c, ρ => bnd (ev g a ρ) fun x => bnd (ev g b ρ) fun y => bnd (opt (cpD op x.d y.d)) fun k =>
      if k then bnd (ev g c ρ) fun z => bol (cpD op' y.d z.d) else ret (shd (.bool false))
  | .land es, ρ => evAnd g es ρ
  | .lor es, ρ => evOr g es ρ
  | .lnot a, ρ => bnd (ev g a ρ) fun x => bnd (opt (tru x.d)) fun k => ret (shd (.bool (!k)))
  | .ite t a b, ρ => bnd (evT g t ρ) fun k => if k then ev g a ρ else ev g b ρ
  | .tup es, ρ => bnd (evL g es ρ) fun rs => bnd (opt (rs.mapM shared)) fun ds => tupR ds
  | .lst es, ρ => bnd (evL g es ρ) fun rs => bnd (opt (rs.mapM shared)) fun ds => lstR ds
  | .call f es, ρ => bnd (evL g es ρ) fun rs => bnd (g.call f (rs.map (·.d))) fun r => opt (callKd rs r)
  | .nxt w e, ρ => bnd (ev g e ρ) fun x => bnd (opt (intOf x.d)) fun m => if isTape (getS ρ w) then bnd (nextD g.ds m) fun i => ret (shd (.int i)) else fail
  | .blt f es, ρ => bnd (evL g es ρ) fun rs => opt (bltD f rs)
  | .isa t e, ρ => bnd (ev g e ρ) fun x => ret (shd (.bool (isaD t x.d)))
  | .mth m a b, ρ => bnd (ev g a ρ) fun x => bnd (ev g b ρ) fun y => opt (mthD m x.d y.d)
  | .shr a, ρ => bnd (ev g a ρ) fun x => bnd (opt (shared x)) fun d => ret (shd d)
  | .sset ln a, ρ => bnd (ev g a ρ) fun x => opt (ssetD ln x.d)
  | .lzip a b, ρ => bnd (ev g a ρ) fun x => bnd (ev g b ρ) fun y => opt (lzD x.d y.d)
  | .inr a b d, ρ => bnd (ev g a ρ) fun x => bnd (ev g b ρ) fun y => bnd (ev g d ρ) fun z => bol (inrD x.d y.d z.d)
  | .rev a, ρ => bnd (ev g a ρ) fun x => opt (revD x.d)
  | .ix a b, ρ => bnd (ev g a ρ) fun x => bnd (ev g b ρ) fun y => opt ((ixD x.d y.d).map shd)
  | .sl a lo hi, ρ => bnd (ev g a ρ) fun x => bnd (evO g lo ρ) fun l => bnd (evO g hi ρ) fun h => opt (slD x.d l h)
  | .lc vs elt tg it cond, ρ => bnd (evI g it ρ) fun xs => bnd (compM xs.2 fun d => bnd (opt (bind1 tg d (wipeE ρ vs))) fun ρ2 => bnd (evTO g cond ρ2) fun k =>
      if k then bnd (ev g elt ρ2) fun r => bnd (opt (shared r)) fun y => ret (some y) else ret none) lstR
  | .lcd vs elt tg i cond, ρ => bnd (opt (keysI ρ i)) fun xs => bnd (compM xs.2 fun d => bnd (opt (bind1 tg d (wipeE ρ vs))) fun ρ2 => bnd (evTO g cond ρ2) fun k =>
      if k then bnd (ev g elt ρ2) fun r => bnd (opt (shared r)) fun y => ret (some y) else ret none) lstR
  | .lc2 vs vs1 elt tg it cond tg1 it1 cond1, ρ => bnd (evI g it ρ) fun xs => bnd (catM xs.2 fun d => bnd (opt (bind1 tg d (wipeE ρ vs))) fun ρ2 => bnd (evTO g cond ρ2) fun k =>
      if k then bnd (evI g it1 ρ2) fun ys => if ys.1 = false then fail else compM ys.2 fun d1 => bnd (opt (bind1 tg1 d1 (wipeE ρ2 vs1))) fun ρ3 => bnd (evTO g cond1 ρ3) fun k1 =>
        if k1 then bnd (ev g elt ρ3) fun r => bnd (opt (shared r)) fun y => ret (some y) else ret none
      else ret []) lstR
def evL (g : Gl) : EL → Env → M (List R)
  | .nil, _ => ret []
  | .cons e es, ρ => bnd (ev g e ρ) fun r => bnd (evL g es ρ) fun rs => ret (r :: rs)
def evAnd (g : Gl) : EL → Env → M R
  | .nil, _ => fail
  | .cons e .nil, ρ => ev g e ρ
  | .cons e es, ρ => bnd (ev g e ρ) fun x => bnd (opt (tru x.d)) fun k => if k then evAnd g es ρ else ret (shd (.bool false))
def evOr (g : Gl) : EL → Env → M R
  | .nil, _ => fail
  | .cons e .nil, ρ => ev g e ρ
  | .cons e es, ρ => bnd (ev g e ρ) fun x => bnd (opt (tru x.d)) fun k => if k then ret (shd (.bool true)) else evOr g es ρ
def evO (g : Gl) : EO → Env → M (Option Int)
  | .no, _ => ret none
  | .so e, ρ => bnd (ev g e ρ) fun r => bnd (opt (intOf r.d)) fun i => ret (some i)
def evT (g : Gl) : T → Env → M Bool
  | .cmp op a b, ρ => bnd (ev g a ρ) fun x => bnd (ev g b ρ) fun y => opt (cpD op x.d y.d)
  | .chn op op' a b c, ρ => bnd (ev g a ρ) fun x => bnd (ev g b ρ) fun y => bnd (opt (cpD op x.d y.d)) fun k =>
      if k then bnd (ev g c ρ) fun z => opt (cpD op' y.d z.d) else ret false
  | .inr a b d, ρ => bnd (ev g a ρ) fun x => bnd (ev g b ρ) fun y => bnd (ev g d ρ) fun z => opt (inrD x.d y.d z.d)
  | .and ts, ρ => evTA g ts ρ
  | .or ts, ρ => evTR g ts ρ
  | .not a, ρ => bnd (evT g a ρ) fun k => ret (!k)
  | .val e, ρ => bnd (ev g e ρ) fun r => opt (tru r.d)
def evTA (g : Gl) : TL → Env → M Bool
  | .nil, _ => fail
  | .cons t .nil, ρ => evT g t ρ
  | .cons t ts, ρ => bnd (evT g t ρ) fun k => if k then evTA g ts ρ else ret false
def evTR (g : Gl) : TL → Env → M Bool
  | .nil, _ => fail
  | .cons t .nil, ρ => evT g t ρ
  | .cons t ts, ρ => bnd (evT g t ρ) fun k => if k then ret true else evTR g ts ρ
def evTO (g : Gl) : TO → Env → M Bool
  | .no, _ => ret true
  | .so t, ρ => evT g t ρ
def evI (g : Gl) : It → Env → M (Bool × List D)
  | .seq e, ρ => bnd (ev g e ρ) fun r => opt (seqI r)
  | .rng1 a, ρ => bnd (ev g a ρ) fun x => bnd (opt (intOf x.d)) fun i => if rngB i then ret (true, rangeL 0 i) else fail
  | .rng2 a b, ρ => bnd (ev g a ρ) fun x => bnd (ev g b ρ) fun y => bnd (opt (intOf x.d)) fun i => bnd (opt (intOf y.d)) fun j => if rngB i && rngB j then ret (true, rangeL i j) else fail
  | .rng3 a b d, ρ => bnd (ev g a ρ) fun x => bnd (ev g b ρ) fun y => bnd (ev g d ρ) fun z => bnd (opt (intOf x.d)) fun i => bnd (opt (intOf y.d)) fun j => bnd (opt (intOf z.d)) fun k => if rngC i j k then ret (true, rangeC i j k) else fail
  | .enm a, ρ => bnd (ev g a ρ) fun x => opt (enmI x)
  | .zip a b, ρ => bnd (ev g a ρ) fun x => bnd (ev g b ρ) fun y => opt (zipI x y)
end
inductive Fl where
  | nx (ρ : Env) | rt (r : R) | bk (ρ : Env) | ct (ρ : Env)
def forM (xs : List D) (body : D → Env → M Fl) (ρ : Env) : M Fl := match xs with
  | [] => ret (.nx ρ)
  | x :: r => bnd (body x ρ) fun fl => match fl with
    | .nx ρ' => forM r body ρ'
    | .ct ρ' => forM r body ρ'
    | .bk ρ' => ret (.nx ρ')
    | .rt v => ret (.rt v)
def whileM (n : Nat) (test : Env → M Bool) (body : Env → M Fl) (ρ : Env) : M Fl := match n with
  | 0 => fail
  | n + 1 => bnd (test ρ) fun k => if k then bnd (body ρ) fun fl => match fl with
    | .nx ρ' => whileM n test body ρ'
    | .ct ρ' => whileM n test body ρ'
    | .bk ρ' => ret (.nx ρ')
    | .rt v => ret (.rt v)
    else ret (.nx ρ)
def frzE (ρ : Env) (i : Nat) : Env := match ρ[i]? with
  | some (.ow d) => ρ.set i (.sh d)
  | _ => ρ
def big : Nat := 1000000000
/-- only what is marked is kept -/
def keepE : Env → List Bool → Env
  | ρ, [] => ρ
  | [], _ => []
  | s :: ρ, true :: bs => s :: keepE ρ bs
  | _ :: ρ, false :: bs => .un :: keepE ρ bs
def augD (op : Op) (x y : R) : Option R := match op, x.d, y.d with
  | .add, .int a, .int b => some (shd (.int (a + b)))
  | .sub, .int a, .int b => some (shd (.int (a - b)))
  | .mul, .int a, .int b => if intB a || intB b then some (shd (.int (a * b))) else none
  | .fdiv, .int a, .int b => if 0 < b ∧ b.natAbs < 1073741824 then some (shd (.int (a / b))) else none
  | .mod, .int a, .int b => if 0 < b then some (shd (.int (a % b))) else none
  | _, _, _ => none
def appD (ρ : Env) (i : Nat) (y : D) : Option Env := match ρ[i]? with
  | some (.ow (.list xs)) => if xs.length < lim then some (ρ.set i (.ow (.list (xs ++ [y])))) else none
  | _ => none
def extD (ρ : Env) (i : Nat) (y : R) : Option Env := match ρ[i]?, y.kd, y.d with
  | some (.ow (.list xs)), .sh, .list ys => if xs.length + ys.length ≤ lim then some (ρ.set i (.ow (.list (xs ++ ys)))) else none
  | some (.ow (.list xs)), .fr, .list ys => if xs.length + ys.length ≤ lim then some (ρ.set i (.ow (.list (xs ++ ys)))) else none
  | _, _, _ => none
def putD (ρ : Env) (i : Nat) (k : D) (y : D) : Option Env := match ρ[i]?, k with
  | some (.ow (.list xs)), .int j => (L2.ixN xs.length j).map fun n => ρ.set i (.ow (.list (xs.set n y)))
  | some (.ow (.dict kds)), k => kOr (kOf k) (fun k => (entries kds).bind fun es => if es.length < lim then some (ρ.set i (.ow (.dict (unent (dPut es k y))))) else none) ((kOfT k).bind fun k => (uEnts kds).bind fun es => if es.length < lim then some (ρ.set i (.ow (.dict (unU (dPut es k y))))) else none)
  | _, _ => none
def popD (ρ : Env) (i : Nat) : Option (D × Env) := match ρ[i]? with
  | some (.ow (.list xs)) => xs[xs.length - 1]?.map fun y => (y, ρ.set i (.ow (.list xs.dropLast)))
  | _ => none
def popAtD (ρ : Env) (i : Nat) (k : D) : Option (D × Env) := match ρ[i]?, k with
  | some (.ow (.list xs)), .int j => if rngB j then (L2.ixN xs.length j).bind fun n => xs[n]?.map fun y => (y, ρ.set i (.ow (.list (xs.eraseIdx n)))) else none
  | _, _ => none
def getP (ρ : Env) (i : Nat) (k : D) : Option R := match ρ[i]?, k with
  | some (.ow (.list xs)), .int j => (L2.atI xs j).map shd
  | some (.ow (.dict kds)), k => (kOf k).bind fun k => (entries kds).bind fun es => (dVal es k).map shd
  | _, _ => none
def storesM (g : Gl) : List Tt → List R → Env → M Env
  | [], [], ρ => ret ρ
  | .tg t :: ts, r :: rs, ρ => bnd (opt (store t r ρ)) fun ρ' => storesM g ts rs ρ'
  | .put i k :: ts, r :: rs, ρ => bnd (opt (shared r)) fun y => bnd (ev g k ρ) fun x => bnd (opt (putD ρ i x.d y)) fun ρ' => storesM g ts rs ρ'
  | _, _, _ => fail
def retS : Option Sl → Option R
  | some (.sh d) => some ⟨.sh, d⟩
  | some (.ow d) => some ⟨.fr, d⟩
  | _ => none
/-- the result as the caller has it -/
def backR (r : R) : Option R := match r.kd with
  | .sh => some r
  | .fr => some r
  | _ => none
mutual
def exec (g : Gl) : S → Env → M Fl
  | .asg tg e, ρ => bnd (ev g e ρ) fun r => bnd (opt (store tg r ρ)) fun ρ' => ret (.nx ρ')
  | .par ts es, ρ => bnd (evL g es ρ) fun rs => if (rs.all fun r => (shared r).isSome) = false then fail else bnd (storesM g ts rs ρ) fun ρ' => ret (.nx ρ')
  | .aug i op e, ρ => bnd (opt (getS ρ i)) fun x => bnd (ev g e ρ) fun r => bnd (opt (augD op x r)) fun z => ret (.nx (ρ.set i (.sh z.d)))
  | .augp i op k e, ρ => bnd (ev g k ρ) fun j => bnd (opt (getP ρ i j.d)) fun x => bnd (ev g e ρ) fun r => bnd (opt (augD op x r)) fun z => bnd (opt (putD ρ i j.d z.d)) fun ρ' => ret (.nx ρ')
  | .app i e, ρ => bnd (ev g e ρ) fun r => bnd (opt (shared r)) fun y => bnd (opt (appD ρ i y)) fun ρ' => ret (.nx ρ')
  | .ext i e, ρ => bnd (ev g e ρ) fun r => bnd (opt (extD ρ i r)) fun ρ' => ret (.nx ρ')
  | .put i k e, ρ => bnd (ev g e ρ) fun r => bnd (opt (shared r)) fun y => bnd (ev g k ρ) fun x => bnd (opt (putD ρ i x.d y)) fun ρ' => ret (.nx ρ')
  | .popl tg i, ρ => bnd (opt (popD ρ i)) fun p => bnd (opt (bind1 tg p.1 p.2)) fun ρ' => ret (.nx ρ')
  | .popat tg i k, ρ => bnd (ev g k ρ) fun x => bnd (opt (popAtD ρ i x.d)) fun p => bnd (opt (bind1 tg p.1 p.2)) fun ρ' => ret (.nx ρ')
  | .exp e, ρ => bnd (ev g e ρ) fun _ => ret (.nx ρ)
  | .ret e, ρ => bnd (ev g e ρ) fun r => bnd (opt (backR r)) fun r => ret (.rt r)
  | .retv i, ρ => bnd (opt (retS ρ[i]?)) fun r => ret (.rt r)
  | .retn, ρ => ret (.rt (shd .none))
  | .ite t a b, ρ => bnd (evT g t ρ) fun k => if k then execs g a ρ else execs g b ρ
  | .whl t b, ρ => whileM big (fun ρ => evT g t ρ) (fun ρ => execs g b ρ) ρ
  | .frr tg it b, ρ => bnd (evI g it ρ) fun xs => if xs.1 = false then fail else forM xs.2 (fun d ρ => bnd (opt (bind1 tg d ρ)) fun ρ' => execs g b ρ') ρ
  | .frd tg i b, ρ => bnd (opt (keysI ρ i)) fun xs => if xs.1 = false then fail else forM xs.2 (fun d ρ => bnd (opt (bind1 tg d ρ)) fun ρ' => execs g b ρ') ρ
  | .brk, ρ => ret (.bk ρ)
  | .cnt, ρ => ret (.ct ρ)
  | .pss, ρ => ret (.nx ρ)
def execs (g : Gl) : SS → Env → M Fl
  | .nil, ρ => ret (.nx ρ)
  | .cons s r, ρ => bnd (exec g s ρ) fun fl => match fl with
    | .nx ρ' => execs g r ρ'
    | .rt v => ret (.rt v)
    | .bk ρ' => ret (.bk ρ')
    | .ct ρ' => ret (.ct ρ')
  | .frz i r, ρ => execs g r (frzE ρ i)
  | .kil bs r, ρ => execs g r (keepE ρ bs)
end
def endR : Fl → Option R
  | .rt r => some r
  | .nx _ => some (shd .none)
  | _ => none
def entry (fn : Fn) (args : List D) : Env := args.map .sh ++ List.replicate (fn.sl - fn.np) .un
def runF (g : Gl) (fn : Fn) (args : List D) : M R := if args.length = fn.np then bnd (execs g fn.body (entry fn args)) fun fl => opt (endR fl) else fail
def callF (fns : Nat → Option Fn) (ds : List Int) : Nat → Nat → List D → M R
  | 0, _, _ => fail
  | k + 1, f, args => match fns f with
    | none => fail
    | some fn => runF ⟨ds, callF fns ds k⟩ fn args
end Q
namespace Q
open PySem L2
def vis (sc : Scope) (x : Str) : Bool := match sc.names.lookup x with
  | some .local => true
  | some .cell => true
  | some .free => true
  | _ => false
def locl (sc : Scope) (x : Str) : Bool := decide (sc.names.lookup x = some .local)
def celd (sc : Scope) (x : Str) : Bool := decide (sc.names.lookup x = some .cell)
def gl (sc : Scope) (x : Str) : Bool := decide (sc.names.lookup x = some .globalImplicit)
def chkN (N : List Str) (sc : Scope) (i : Nat) : PySem.Expr → Bool
  | .Name x _ => decide (N[i]? = some x) && vis sc x && !(x == ("__debug__" : Str)) && !(x == ("__classdict__" : Str))
  | _ => false
def opM (op : Op) (p : Operator) : Bool := match op, p with
  | .add, .Add => true
  | .sub, .Sub => true
  | .mul, .Mult => true
  | .fdiv, .FloorDiv => true
  | .mod, .Mod => true
  | .pow, .Pow => true
  | _, _ => false
def cpM (op : Cp) (p : CmpOp) : Bool := match op, p with
  | .eq, .Eq => true
  | .ne, .NotEq => true
  | .lt, .Lt => true
  | .le, .LtE => true
  | .gt, .Gt => true
  | .ge, .GtE => true
  | .inn, .In => true
  | .nin, .NotIn => true
  | .iss, .Is => true
  | .isn, .IsNot => true
  | _, _ => false
def cstM (d : D) (k : Const) : Bool := match d, k with
  | .none, .none => true
  | .bool a, .bool b => a == b
  | .int a, .int b => a == b
  | .str a, .str b => decide (a = b)
  | _, _ => false
def bnm : B → Str
  | .len => "len"
  | .abs => "abs"
  | .int => "int"
  | .max2 => "max"
  | .min2 => "min"
  | .min3 => "min"
  | .max1 => "max"
  | .min1 => "min"
  | .sum => "sum"
  | .all => "all"
  | .any => "any"
  | .tuple => "tuple"
  | .list => "list"
  | .sorted => "sorted"
  | .range1 => "range"
  | .range2 => "range"
  | .dict => "dict"
def tynm : Ty → Str
  | .int => "int"
  | .bool => "bool"
  | .str => "str"
  | .tuple => "tuple"
  | .list => "list"
  | .dict => "dict"
def noStar : PySem.Expr → Bool
  | .Starred _ _ => false
  | _ => true
def noSet : PySem.Expr → Bool
  | .Set _ _ _ => false
  | _ => true
def noSlice : PySem.Expr → Bool
  | .Slice _ _ _ _ => false
  | _ => true
def noComp : PySem.Expr → Bool
  | .ListComp _ _ _ _ => false
  | .SetComp _ _ _ _ => false
  | .DictComp _ _ _ _ _ => false
  | _ => true
/-- what a test of it asks: its value's truth -/
def plainT : PySem.Expr → Bool
  | .UnaryOp .Not _ _ => false
  | .BoolOp _ _ _ => false
  | .IfExp _ _ _ _ => false
  | .Compare _ _ _ _ => false
  | _ => true
mutual
/-- names to store to; f: the names whose cells are the block's own -/
def chkG (N : List Str) (sc : Scope) (f : Str → Bool) : Tg → PySem.Expr → Bool
  | .nm i, .Name x _ => decide (N[i]? = some x) && (locl sc x || (celd sc x && f x))
  | .tp ts, .Tuple es _ _ => chkGs N sc f ts es
  | _, _ => false
def chkGs (N : List Str) (sc : Scope) (f : Str → Bool) : List Tg → List PySem.Expr → Bool
  | [], [] => true
  | t :: ts, e :: es => chkG N sc f t e && noStar e && chkGs N sc f ts es
  | _, _ => false
end
def ownOf (N : List Str) (vs : List Nat) : List (Str × Nat) := vs.map fun i => (N.getD i "", i)
def fnOf (sc : Scope) : Str → Bool := fun x => sc.names.lookup x == some .cell
mutual
def slotsT : Tg → List Nat
  | .nm i => [i]
  | .tp ts => slotsTs ts
def slotsTs : List Tg → List Nat
  | [] => []
  | t :: ts => slotsT t ++ slotsTs ts
end
def subL (a b : List Nat) : Bool := a.all fun x => b.contains x
def meNm : Me → Str
  | .index => "index"
  | .count => "count"
/-- whose attributes are looked up in the plain way -/
def baseOk : PySem.Expr → Bool
  | .Call (.Name _ _) [] [] _ => false
  | _ => true
mutual
def chkE (fs N : List Str) : Scope → E → PySem.Expr → Bool
  | sc, .var i, e => chkN N sc i e
  | _, .cst d, .Constant k _ _ => cstM d k
  | sc, .neg a, .UnaryOp .USub x _ => chkE fs N sc a x
  | sc, .bin op a b, .BinOp x p y _ => opM op p && chkE fs N sc a x && chkE fs N sc b y
  | sc, .cmp op a b, .Compare x [p] [y] _ => cpM op p && chkE fs N sc a x && chkE fs N sc b y && noSet y
  | sc, .chn op op' a b c, .Compare x [p, q] [y, z] _ => cpM op p && cpM op' q && chkE fs N sc a x && chkE fs N sc b y && chkE fs N sc c z && noSet y && noSet z
  | sc, .land es, .BoolOp .And xs _ => chkB fs N sc es xs
  | sc, .lor es, .BoolOp .Or xs _ => chkB fs N sc es xs
  | sc, .lnot a, .UnaryOp .Not x _ => chkE fs N sc a x
  | sc, .ite t a b, .IfExp x y z _ => chkT fs N sc t x && chkE fs N sc a y && chkE fs N sc b z
  | sc, .tup es, .Tuple xs _ _ => chkL fs N sc es xs
  | sc, .lst es, .List xs _ => chkL fs N sc es xs
  | sc, .call f es, .Call (.Name x _) (y :: ys) [] _ => decide (fs[f]? = some x) && gl sc x && chkL fs N sc es (y :: ys)
  | sc, .nxt w e, .Call (.Name x _) [y, z] [] _ => decide (x = ("_law_next" : Str)) && gl sc x && chkN N sc w y && chkE fs N sc e z && noStar z
  | sc, .blt f es, .Call (.Name x _) (y :: ys) [] _ => decide (x = bnm f) && gl sc x && chkL fs N sc es (y :: ys)
  | sc, .isa t e, .Call (.Name x _) [y, .Name z _] [] _ => decide (x = ("isinstance" : Str)) && gl sc x && chkE fs N sc e y && noStar y && decide (z = tynm t) && gl sc z
  | sc, .mth m a b, .Call (.Attribute x nm ap) [y] [] p => decide (nm = meNm m) && baseOk x && chkE fs N sc a x && chkE fs N sc b y && noStar y && (ap.endLine == p.line)
  | sc, .lrg tp a, .Call (.Name x _) [.Call (.Name y _) [z] [] _] [] _ => decide (x = (if tp then "tuple" else "list" : Str)) && gl sc x && decide (y = ("range" : Str)) && gl sc y && chkE fs N sc a z && noStar z
  | sc, .lrg2 tp a b, .Call (.Name x _) [.Call (.Name y _) [z, w] [] _] [] _ => decide (x = (if tp then "tuple" else "list" : Str)) && gl sc x && decide (y = ("range" : Str)) && gl sc y && chkE fs N sc a z && noStar z && chkE fs N sc b w && noStar w
  | sc, .shr a, e => noComp e && chkE fs N sc a e
  | sc, .lzip a b, .Call (.Name x _) [.Call (.Name y _) [z, u] [] _] [] _ => decide (x = ("list" : Str)) && gl sc x && decide (y = ("zip" : Str)) && gl sc y && chkE fs N sc a z && noStar z && chkE fs N sc b u && noStar u
  | sc, .sset ln a, .Call (.Name x _) [.Call (.Name y _) [z] [] _] [] _ => decide (x = (if ln then "len" else "sorted" : Str)) && gl sc x && decide (y = ("set" : Str)) && gl sc y && chkE fs N sc a z && noStar z
  | sc, .inr a b d, .Compare x [.In] [.Call (.Name y _) [z, u] [] _] _ => decide (y = ("range" : Str)) && gl sc y && chkE fs N sc a x && chkE fs N sc b z && noStar z && chkE fs N sc d u && noStar u
  | sc, .rev a, .Subscript x (.Slice none none (some (.UnaryOp .USub (.Constant (.int 1) _ _) _)) _) _ => chkE fs N sc a x
  | _, .dnew, .Dict [] [] _ => true
  | _, .unew, .Dict [] [] _ => true
  | sc, .dsp kvs, .Dict ks vs _ => chkP fs N sc kvs ks vs && decide (ks.length ≤ 15) && decide (ks ≠ [])
  | sc, .dget a k, .Call (.Attribute x nm ap) [y] [] p => decide (nm = ("get" : Str)) && baseOk x && chkE fs N sc a x && chkE fs N sc k y && noStar y && (ap.endLine == p.line)
  | sc, .dget2 a k z, .Call (.Attribute x nm ap) [y, w] [] p => decide (nm = ("get" : Str)) && baseOk x && chkE fs N sc a x && chkE fs N sc k y && noStar y && chkE fs N sc z w && noStar w && (ap.endLine == p.line)
  | sc, .ix a b, .Subscript x y _ => chkE fs N sc a x && chkE fs N sc b y && noSlice y
  | sc, .sl a lo hi, .Subscript x (.Slice l h .none _) _ => chkE fs N sc a x && chkO fs N sc lo l && chkO fs N sc hi h
  | sc, .lc vs elt tg it cond, .ListComp x [⟨g, i, ifs, 0⟩] sc2 _ => blkC N sc sc2 (ownOf N vs) && chkI fs N sc it g i && noSet i && chkG N (relS sc2 sc) (fnOf sc2) tg g && subL (slotsT tg) vs && chkTO fs N (relS sc2 sc) cond ifs && chkE fs N (relS sc2 sc) elt x
  | sc, .lcd vs elt tg j cond, .ListComp x [⟨g, i, ifs, 0⟩] sc2 _ => blkC N sc sc2 (ownOf N vs) && chkN N sc j i && noSet i && chkG N (relS sc2 sc) (fnOf sc2) tg g && subL (slotsT tg) vs && chkTO fs N (relS sc2 sc) cond ifs && chkE fs N (relS sc2 sc) elt x
  | sc, .lc2 vs vs1 elt tg it cond tg1 it1 cond1, .ListComp x [⟨g, i, ifs, 0⟩, ⟨g1, i1, ifs1, 0⟩] sc2 _ => blkC N sc sc2 (ownOf N vs) && chkI fs N sc it g i && noSet i && chkG N (relS sc2 sc) (fnOf sc2) tg g && subL (slotsT tg) vs &&
      chkTO fs N (relS sc2 sc) cond ifs && chkI fs N (relS sc2 sc) it1 g1 i1 && noSet i1 && chkG N (relS sc2 sc) (fnOf sc2) tg1 g1 && subL (slotsT tg1) vs1 && subL vs1 vs && chkTO fs N (relS sc2 sc) cond1 ifs1 && chkE fs N (relS sc2 sc) elt x
  | _, _, _ => false
def chkL (fs N : List Str) : Scope → EL → List PySem.Expr → Bool
  | _, .nil, [] => true
  | sc, .cons e es, x :: xs => chkE fs N sc e x && noStar x && chkL fs N sc es xs
  | _, _, _ => false
def chkP (fs N : List Str) : Scope → EL → List (Option PySem.Expr) → List PySem.Expr → Bool
  | _, .nil, [], [] => true
  | sc, .cons k (.cons v es), some x :: xs, y :: ys => chkE fs N sc k x && chkE fs N sc v y && chkP fs N sc es xs ys
  | _, _, _, _ => false
def chkB (fs N : List Str) : Scope → EL → List PySem.Expr → Bool
  | sc, .cons e .nil, [x] => chkE fs N sc e x
  | sc, .cons e (.cons e2 es), x :: y :: xs => chkE fs N sc e x && chkB fs N sc (.cons e2 es) (y :: xs)
  | _, _, _ => false
def chkO (fs N : List Str) : Scope → EO → Option PySem.Expr → Bool
  | _, .no, none => true
  | sc, .so e, some x => chkE fs N sc e x
  | _, _, _ => false
def chkT (fs N : List Str) : Scope → T → PySem.Expr → Bool
  | sc, .cmp op a b, .Compare x [p] [y] _ => cpM op p && chkE fs N sc a x && chkE fs N sc b y && noSet y
  | sc, .chn op op' a b c, .Compare x [p, q] [y, z] _ => cpM op p && cpM op' q && chkE fs N sc a x && chkE fs N sc b y && chkE fs N sc c z && noSet y && noSet z
  | sc, .inr a b d, .Compare x [.In] [.Call (.Name y _) [z, u] [] _] _ => decide (y = ("range" : Str)) && gl sc y && chkE fs N sc a x && chkE fs N sc b z && noStar z && chkE fs N sc d u && noStar u
  | sc, .and ts, .BoolOp .And xs _ => chkTL fs N sc ts xs
  | sc, .or ts, .BoolOp .Or xs _ => chkTL fs N sc ts xs
  | sc, .not t, .UnaryOp .Not x _ => chkT fs N sc t x
  | sc, .val e, x => plainT x && chkE fs N sc e x
  | _, _, _ => false
def chkTL (fs N : List Str) : Scope → TL → List PySem.Expr → Bool
  | sc, .cons t .nil, [x] => chkT fs N sc t x
  | sc, .cons t (.cons t2 ts), x :: y :: xs => chkT fs N sc t x && chkTL fs N sc (.cons t2 ts) (y :: xs)
  | _, _, _ => false
def chkTO (fs N : List Str) : Scope → TO → List PySem.Expr → Bool
  | _, .no, [] => true
  | sc, .so t, [x] => chkT fs N sc t x
  | _, _, _ => false
/-- g: the target -/
def chkI (fs N : List Str) : Scope → It → PySem.Expr → PySem.Expr → Bool
  | sc, .seq e, _, x => chkE fs N sc e x
  | sc, .rng1 a, _, .Call (.Name x _) [y] [] _ => decide (x = ("range" : Str)) && gl sc x && chkE fs N sc a y && noStar y
  | sc, .rng2 a b, _, .Call (.Name x _) [y, z] [] _ => decide (x = ("range" : Str)) && gl sc x && chkE fs N sc a y && noStar y && chkE fs N sc b z && noStar z
  | sc, .rng3 a b c, _, .Call (.Name x _) [y, z, w] [] _ => decide (x = ("range" : Str)) && gl sc x && chkE fs N sc a y && noStar y && chkE fs N sc b z && noStar z && chkE fs N sc c w && noStar w
  | sc, .enm a, .Tuple _ _ _, .Call (.Name x _) [y] [] _ => decide (x = ("enumerate" : Str)) && gl sc x && chkE fs N sc a y && noStar y
  | sc, .zip a b, .Tuple _ _ _, .Call (.Name x _) [y, z] [] _ => decide (x = ("zip" : Str)) && gl sc x && chkE fs N sc a y && noStar y && chkE fs N sc b z && noStar z
  | _, _, _, _ => false
end
/-- a comprehension that is made by the statement's own road: a name on the same line -/
def lcOwn (sc : Scope) : PySem.Expr → PySem.Expr → Bool
  | .Name x p, .ListComp _ _ sc2 q => locl sc x && (p.line == q.line) && !(sc2.names.any fun (n, k) => n == x && (k == .local || k == .cell))
  | _, _ => false
def isLc : PySem.Expr → Bool
  | .ListComp _ _ _ _ => true
  | _ => false
def isTup : PySem.Expr → Bool
  | .Tuple _ _ _ => true
  | .List _ _ => true
  | _ => false
def isNm : PySem.Expr → Bool
  | .Name _ _ => true
  | _ => false
def nmsOf (sc : Scope) (ts : List PySem.Expr) : List Str := ts.filterMap fun
  | .Name id pos => if sc.names.lookup id == some .local && pos.line == (ts.head?.map (·.pos.line)).getD 0 then some id else none
  | _ => none
/-- are the stores of a row swapped: by the model's own look -/
def swpN (sc : Scope) (ts vs : List PySem.Expr) : Option (List Str) :=
  if !(ts.length == 2 || ts.length == 3) || vs.length != ts.length then none
  else if (nmsOf sc ts).length != ts.length || (nmsOf sc ts).eraseDups.length != (nmsOf sc ts).length then none
  else if vs.all (foldedForSure 8) then none
  else some (nmsOf sc ts)
def parN (sc : Scope) (ts vs : List PySem.Expr) : Bool := match swpN sc ts vs with
  | none => true
  | some ns => !(vs.all (constantsAlone 8)) && decide ns.Nodup
def fewT (ts : List PySem.Expr) : Bool := decide (ts.length ≤ 100)
def chkTt (fs N : List Str) (sc : Scope) : List Tt → List PySem.Expr → Bool
  | [], [] => true
  | .tg t :: ts, e :: es => chkG N sc (fun _ => true) t e && noStar e && chkTt fs N sc ts es
  | .put i k :: ts, .Subscript x y _ :: es => chkN N sc i x && chkE fs N sc k y && noSlice y && chkTt fs N sc ts es
  | _, _ => false
def ipM (op : Op) (p : Operator) : Bool := match op, p with
  | .add, .Add => true
  | .sub, .Sub => true
  | .mul, .Mult => true
  | .fdiv, .FloorDiv => true
  | .mod, .Mod => true
  | _, _ => false
def notLcd : E → Bool
  | .lcd _ _ _ _ _ => false
  | _ => true
mutual
def chkS (fs N : List Str) (sc : Scope) : S → Stmt → Bool
  | .augp i op k e, .AugAssign (.Subscript x y _) q z _ => chkN N sc i x && chkE fs N sc k y && noSlice y && ipM op q && chkE fs N sc e z
  | .asg tg e, .Assign [g] x _ => chkG N sc (fun _ => true) tg g && chkE fs N sc e x && (isNm g || (!isTup x)) && (notLcd e || !lcOwn sc g x)
  | .par ts es, .Assign [.Tuple gs _ _] (.Tuple xs _ _) _ => chkTt fs N sc ts gs && chkL fs N sc es xs && parN sc gs xs && fewT gs
  | .aug i op e, .AugAssign (.Name x p) q y _ => chkG N sc (fun _ => true) (.nm i) (.Name x p) && ipM op q && chkE fs N sc e y
  | .app i e, .Expr (.Call (.Attribute x m ap) [y] [] p) _ => decide (m = ("append" : Str)) && chkN N sc i x && chkE fs N sc e y && noStar y && (ap.endLine == p.line)
  | .ext i e, .Expr (.Call (.Attribute x m ap) [y] [] p) _ => decide (m = ("extend" : Str)) && chkN N sc i x && chkE fs N sc e y && noStar y && (ap.endLine == p.line)
  | .put i k e, .Assign [.Subscript x y _] z _ => chkN N sc i x && chkE fs N sc k y && noSlice y && chkE fs N sc e z
  | .popl tg i, .Assign [g] (.Call (.Attribute x m ap) [] [] p) _ => decide (m = ("pop" : Str)) && chkN N sc i x && chkG N sc (fun _ => true) tg g && (ap.endLine == p.line)
  | .popat tg i k, .Assign [g] (.Call (.Attribute x m ap) [y] [] p) _ => decide (m = ("pop" : Str)) && chkN N sc i x && chkE fs N sc k y && noStar y && chkG N sc (fun _ => true) tg g && (ap.endLine == p.line)
  | .exp e, .Expr x _ => chkE fs N sc e x && noComp x
  | .ret e, .Return (some x) _ => chkE fs N sc e x
  | .retv i, .Return (some x) _ => chkN N sc i x
  | .retn, .Return none _ => true
  | .ite t a b, .If x y z _ => chkT fs N sc t x && chkSs fs N sc a y && chkSs fs N sc b z
  | .whl t b, .While x y [] _ => chkT fs N sc t x && chkSs fs N sc b y
  | .frr tg it b, .For g i y [] _ => chkG N sc (fun _ => true) tg g && chkI fs N sc it g i && noSet i && chkSs fs N sc b y
  | .frd tg j b, .For g i y [] _ => chkG N sc (fun _ => true) tg g && chkN N sc j i && noSet i && chkSs fs N sc b y
  | .brk, .Break _ => true
  | .cnt, .Continue _ => true
  | .pss, .Pass _ => true
  | _, _ => false
def chkSs (fs N : List Str) (sc : Scope) : SS → List Stmt → Bool
  | .nil, [] => true
  | .cons s r, x :: xs => chkS fs N sc s x && chkSs fs N sc r xs
  | .frz _ r, xs => chkSs fs N sc r xs
  | .kil _ r, xs => chkSs fs N sc r xs
  | _, _ => false
end
end Q
namespace Q
open PySem PySem.Spec PyProof.Rows L2
/-! ### set(xs) of a list of ints, as HandS has it of a tuple -/
section
variable {P : Program} {w : World} {A : Around} {E : Value → Shared → Prop} {s : Shared}
/-- a set without members -/
abbrev set0 (w : World) : Obj := { cls := .type "set", dict := none, data := .set #[] 0 (.fresh 0 0 (!w.params.followText "set-order")) }
abbrev hp0 (w : World) (h : Heap) : Heap := h.push (set0 w)
/-- what stands at the end of the filling -/
def Filled (w : World) (s : Shared) (ns : List Int) (r : Value) (t : Shared) : Prop := r = .none ∧ ∃ h' k c, t = { s with heap := h', toks := k } ∧ SetR w h' s.heap.objs.size (fun j => decide (j ∈ ns)) c ∧ c ≤ ns.length ∧ (∀ b o, s.heap.get? b = some o → h'.get? b = some o)
theorem fill_list {l : Addr} {xs : Array Value} {ns : List Int} {B : Around} (hh : B.in1.handled = none) (hl : s.heap.IsList l xs) (hi : IntsAre xs.toList ns) (hb : ns.length + 1 < scanBound) :
    codeAny (model P w) B (.builtin "set.update.loop" ⟨[.ref s.heap.objs.size, .ref (hp0 w s.heap).objs.size], []⟩) (fun r t => ∃ v, r = .ok (.ret v) ∧ Filled w s ns v t) { s with heap := (hp0 w s.heap).push { cls := .type "list_iterator", data := .fields #[.ref l, .int 0 0] } } := by
  have hsz : xs.size = ns.length := by
    have := IntsAre.length hi
    rwa [Array.length_toList] at this
  have ll : l < s.heap.objs.size := by obtain ⟨_, q, _⟩ := hl; exact Heap.lt_size q
  have h1 : (hp0 w s.heap).IsList l xs := hl.push _
  have z1 : (hp0 w s.heap).objs.size = s.heap.objs.size + 1 := Heap.size_push ..
  have hval : ∀ (i : Nat) (v : Value), xs[i]? = some v → ∃ k t, ns[i]? = some k ∧ v = .int k t := fun i v hv => by
    have h2 : i < ns.length := by rw [← hsz]; exact (Array.getElem?_eq_some_iff.mp hv).1
    obtain ⟨t, e⟩ := IntsAre.int_at hi i v (by rw [Array.getElem?_toList]; exact hv)
    exact ⟨ns[i], t, List.getElem?_eq_getElem h2, by rw [e, List.getD_eq_getElem?_getD, List.getElem?_eq_getElem h2]; rfl⟩
  have hne : l ≠ (hp0 w s.heap).objs.size := by rw [z1]; exact Nat.ne_of_lt (Nat.lt_succ_of_lt ll)
  have hnS : s.heap.objs.size ≠ (hp0 w s.heap).objs.size := by rw [z1]; exact Nat.ne_of_lt (Nat.lt_succ_self _)
  have hout : s.heap.objs.size ∉ [(hp0 w s.heap).objs.size, l] := by
    intro q
    rcases List.mem_cons.mp q with q | q
    · exact hnS q
    · exact Nat.ne_of_gt ll (List.mem_singleton.mp q)
  have hset : ((hp0 w s.heap).push { cls := .type "list_iterator", data := .fields #[.ref l, .int 0 0] }).get? s.heap.objs.size = some (set0 w) := Heap.get?_push_of_some _ (Heap.get?_push_size _ rfl)
  refine set_update_ints ((Walks.list hh _ l hne xs).toS) s.heap.objs.size hout ns hsz hb hval (xs.size - 0) 0 { s with heap := (hp0 w s.heap).push { cls := .type "list_iterator", data := .fields #[.ref l, .int 0 0] } } (by omega) (Nat.zero_le _) ⟨⟨_, Heap.get?_push_size _ rfl, rfl, rfl⟩, h1.push _⟩ ⟨0, Nat.le_refl 0, setR_new_at hset⟩ fun s' c hm hc hS => ?_
  obtain ⟨h', g2, d', tk', os'⟩ := s'
  have e1 : g2 = s.gens := hm.gens
  have e2 : d' = s.drawn := hm.drawn
  have e3 : os' = s.os := hm.os
  subst e1 e2 e3
  refine ⟨_, rfl, rfl, h', tk', c, rfl, hS, by omega, fun b o e => hm.heap b o (fun q => ?_) (Heap.get?_push_of_some _ (Heap.get?_push_of_some _ e))⟩
  have := Heap.lt_size e
  rcases List.mem_cons.mp q with q | q
  · exact Nat.ne_of_lt this q
  · have q := List.mem_singleton.mp q
    rw [q, z1] at this
    exact Nat.lt_irrefl _ (Nat.lt_of_succ_lt this)
theorem set_of_list {l : Addr} {xs : Array Value} (ns : List Int) {Q : Value → Shared → Prop} (hh : A.handled = none) (hl : s.heap.IsList l xs) (hi : IntsAre xs.toList ns) (hb : ns.length + 1 < scanBound)
    (h : ∀ (h' : Heap) (tk c : Nat), SetR w h' s.heap.objs.size (fun j => decide (j ∈ ns)) c → c ≤ ns.length → (∀ b o, s.heap.get? b = some o → h'.get? b = some o) → Q (.ref s.heap.objs.size) { s with heap := h', toks := tk }) :
    wpAny (model P w) A (call (.type "set") [.ref l]) Q E s := by
  obtain ⟨c, tl, hmro⟩ := F.called_set.mro
  have made := F.called_set.made
  have sub := F.called_set.sub
  refine wpAny_call (codeAny_of_tree ?_)
  show wpAny _ _ (callAny (.type "set") ⟨[.ref l], []⟩) _ _ s
  refine wpAny_pure ⟨Code.quiet_builtin _ (by decide +kernel), codeAny_builtin F.entry_type_call ?_⟩
  rw [Around.under_plain (weight_type_call_type "set" [.ref l] []) rfl]
  have q1 := F.called_set.notType
  have q2 := F.called_set.canCreate
  have q3 := F.typeCall_set_1 (.ref l)
  repeat (any_goals (first | assumption | wp_step))
  refine codeAny_mono (code_set_led1 (.ref l) (E := E) (Q₁ := fun v t => v = .ref s.heap.objs.size ∧ t = { s with heap := hp0 w s.heap }) ⟨rfl, rfl⟩) fun r t hr => ?_
  rcases r with e | fl
  · exact hr
  rcases fl with _ | _ | _ | v
  · exact hr.elim
  · exact hr.elim
  · exact hr.elim
  obtain ⟨rfl, rfl⟩ := hr
  have at0 : (hp0 w s.heap).get? s.heap.objs.size = some (set0 w) := Heap.get?_push_size _ rfl
  have ty : Shared.TypeIs { s with heap := hp0 w s.heap } (.ref s.heap.objs.size) "set" := ⟨_, at0, rfl⟩
  have q4 := F.called_set.init.lookup
  have q5 := F.called_set.init.bind (.ref s.heap.objs.size)
  repeat (any_goals (first | assumption | wp_step))
  refine codeAny_mono (codeAny_call_builtin (R := wants (Filled w s ns) E) F.called_set.init.plain F.entry_set_init (check_set_init_1 ty ?_)) fun r t hr => ?_
  · obtain ⟨⟨ocls, odict, odata, oslots⟩, ho, hcl, nl, hdl⟩ := hl
    simp only at hcl hdl
    subst hcl hdl
    have ho' : (hp0 w s.heap).get? l = some { cls := .type "list", dict := odict, data := .seq xs nl, slots := oslots } := Heap.get?_push_of_some _ ho
    have n1 := F.sub_list_set
    have n2 := F.sub_list_frozenset
    have n3 : (Value.type "list" == Value.type "dict") = false := by decide
    have hl1 : (hp0 w s.heap).IsList l xs := ⟨_, ho', rfl, nl, rfl⟩
    unfold Builtin.«set.__init__» noKeywords Builtin.Frozenset.updateFrom
    generalize hPI : pyIter = PI
    wp_walk
    subst hPI
    refine wpAny_pyIter_list hl1 (wpAny_bind (wpAny_runValue ?_))
    refine codeAny_mono (fill_list (by simp [hh]) ⟨_, ho, rfl, nl, rfl⟩ hi hb) fun r t hr => ?_
    obtain ⟨v, rfl, hf⟩ := hr
    obtain ⟨rfl, hf⟩ := hf
    refine wpAny_pure (wpAny_pure ?_)
    exact ⟨rfl, hf⟩
  · rcases r with e | fl
    · exact hr
    rcases fl with _ | _ | _ | v
    · exact hr.elim
    · exact hr.elim
    · exact hr.elim
    obtain ⟨rfl, h', tk, c', rfl, hS, hc', hk⟩ := hr
    repeat (any_goals (first | assumption | wp_step))
    exact h _ _ _ hS hc' hk
end
theorem mem_insI {x z : Int} : ∀ {ns : List Int}, z ∈ insI x ns ↔ z = x ∨ z ∈ ns
  | [] => by simp [insI]
  | y :: r => by
    unfold insI
    split
    · simp
    · split
      · rename_i h
        subst h
        simp
      · rw [List.mem_cons, mem_insI, List.mem_cons]
        exact ⟨fun h => by rcases h with h | h | h <;> simp [h], fun h => by rcases h with h | h | h <;> simp [h]⟩
theorem insI_asc {x : Int} : ∀ {ns : List Int}, ns.Pairwise (· < ·) → (insI x ns).Pairwise (· < ·)
  | [], _ => List.pairwise_singleton _ _
  | y :: r, h => by
    unfold insI
    split
    · rename_i q
      rw [List.pairwise_cons]
      refine ⟨fun z hz => ?_, h⟩
      rcases List.mem_cons.mp hz with rfl | hz
      · exact q
      · have := (List.pairwise_cons.mp h).1 z hz
        omega
    · split
      · exact h
      · rename_i q1 q2
        rw [List.pairwise_cons] at h ⊢
        refine ⟨fun z hz => ?_, insI_asc h.2⟩
        rcases mem_insI.mp hz with rfl | hz
        · omega
        · exact h.1 z hz
theorem setI_asc : ∀ (ns : List Int), (setI ns).Pairwise (· < ·)
  | [] => List.Pairwise.nil
  | _ :: r => insI_asc (setI_asc r)
theorem mem_setI {z : Int} : ∀ {ns : List Int}, z ∈ setI ns ↔ z ∈ ns
  | [] => by simp [setI]
  | x :: r => by
    show z ∈ insI x (setI r) ↔ _
    rw [mem_insI, mem_setI, List.mem_cons]
theorem ascI_ext : ∀ {xs ys : List Int}, xs.Pairwise (· < ·) → ys.Pairwise (· < ·) → (∀ x, x ∈ xs ↔ x ∈ ys) → xs = ys
  | [], [], _, _, _ => rfl
  | [], y :: ys, _, _, h => absurd ((h y).mpr List.mem_cons_self) (by simp)
  | x :: xs, [], _, _, h => absurd ((h x).mp List.mem_cons_self) (by simp)
  | x :: xs, y :: ys, hx, hy, h => by
    rw [List.pairwise_cons] at hx hy
    have e : x = y := by
      rcases List.mem_cons.mp ((h x).mp List.mem_cons_self) with e | e
      · exact e
      · rcases List.mem_cons.mp ((h y).mpr List.mem_cons_self) with e' | e'
        · exact e'.symm
        · have := hx.1 _ e'
          have := hy.1 _ e
          omega
    subst e
    congr 1
    refine ascI_ext hx.2 hy.2 fun z => ⟨fun hz => ?_, fun hz => ?_⟩
    · rcases List.mem_cons.mp ((h z).mp (List.mem_cons_of_mem _ hz)) with e | e
      · subst e
        exact absurd (hx.1 _ hz) (Int.lt_irrefl _)
      · exact e
    · rcases List.mem_cons.mp ((h z).mpr (List.mem_cons_of_mem _ hz)) with e | e
      · subst e
        exact absurd (hy.1 _ hz) (Int.lt_irrefl _)
      · exact e
theorem isort_perm0 (ns : List Int) : (isort ns).Perm ns := List.mergeSort_perm ..
theorem isort_asc0 (ns : List Int) : (isort ns).Pairwise (· ≤ ·) := by
  have := List.pairwise_mergeSort (le := fun a b : Int => decide (a ≤ b)) (fun a b c h1 h2 => by simp only [decide_eq_true_eq] at *; omega) (fun a b => by simp only [Bool.or_eq_true, decide_eq_true_eq]; omega) ns
  exact this.imp fun h => by simpa using h
theorem len_setI {ks ns : List Int} (nd : ks.Nodup) (h : ∀ k, k ∈ ks ↔ k ∈ ns) : ks.length = (setI ns).length := by
  have p := isort_perm0 ks
  have a : (isort ks).Pairwise (· < ·) := ((isort_asc0 ks).and (p.nodup_iff.mpr nd)).imp fun {x y} ⟨h1, h2⟩ => by
    have : x ≠ y := h2
    omega
  rw [← p.length_eq, ascI_ext a (setI_asc ns) fun x => by rw [p.mem_iff, h, mem_setI]]
section
variable {X : Cx}
def rSetI (K : PySem.W.Frag) (w : World) : List V → Hp → VK → Prop := fun vs H Q => ∃ p ns, vs = [V.ref p] ∧ (SqL K H p (ns.map V.int) ∨ SqT K H p (ns.map V.int)) ∧ ns.length ≤ 4000 ∧ ∀ q, H q = none → Q (.ref q) (upd H q (SetO w q (fun j => decide (j ∈ ns)) (setI ns).length))
theorem cr_setI (hc : X.calm = true) : CallR X (.type "set") (rSetI X.K X.w) := by
  intro pins s σ H vs us Q I r h
  obtain ⟨p, ns, rfl, hq, hl, q⟩ := h
  rw [Vals.ref1 r]
  have fin : ∀ (h' : Heap) (tk c : Nat), SetR X.w h' s.heap.objs.size (fun j => decide (j ∈ ns)) c → c ≤ ns.length → (∀ b o, s.heap.get? b = some o → h'.get? b = some o) → EP X pins σ Q (.ref s.heap.objs.size) { s with heap := h', toks := tk } := fun h' tk c R hcn k => by
    have e : c = (setI ns).length := by
      obtain ⟨o, es, ep, t, _, _, _, _, nd, mem, _, _, n, _⟩ := R
      rw [← n, ← Array.length_toList, ← List.length_map keyOf]
      refine len_setI nd fun j => ?_
      rw [← mem j, decide_eq_true_eq]
    rw [← e] at q
    exact ⟨.ref s.heap.objs.size, _, I.laid (t' := tk) (fun b o e => k b o e) (Nat.le_refl _) (setO_new R), rfl, q _ (I.hok.fresh (Nat.le_refl _))⟩
  rcases hq with hq | hq
  · obtain ⟨its, rv, pl, hz⟩ := I.list hq
    exact set_of_list ns (I.ok.hd hc) pl.isList (ints_of_vals rv) (by unfold scanBound; omega) fin
  · obtain ⟨its, rv, pl, hz⟩ := I.tuple hq
    exact call_set_tupI ns (I.ok.hd hc) pl (ints_of_vals rv) (by unfold scanBound; omega) fin
def rLenSet (w : World) : List V → Hp → VK → Prop := fun vs H Q => ∃ (a : Addr) (S : Int → Bool) (n : Nat), vs = [V.ref a] ∧ H a = some (SetO w a S n) ∧ n < 64 ∧ Q (.int (n : Nat)) H
theorem cr_lenSet : CallR X (.builtin "len") (rLenSet X.w) := by
  intro pins s σ H vs us Q I r h
  obtain ⟨a, S, n, rfl, ha, h64, q⟩ := h
  rw [Vals.ref1 r]
  obtain ⟨o, es, ep, t, ho, hex, hd, _, _, _, _, hf, hn, _⟩ := setO_get I ha
  exact call_len_set ho hex hd hf (by omega) ⟨.int n, H, I.tok _, ⟨_, by rw [← hn]⟩, q⟩
end
/-! ### x in range(a, b) -/
section
variable {P : Program} {w : World} {A : Around} {E : Value → Shared → Prop} {s : Shared}
theorem in_range {r : Addr} {a b k : Int} {t u v tk : Tok} {Q : Value → Shared → Prop} (hr : IsRange s.heap r a b 1 t u v) (h : Q (.bool (decide (a ≤ k ∧ k < b))) s) : wpAny (model P w) A (compareOp .In (.int k tk) (.ref r)) Q E s := by
  show wpAny _ _ (do return .bool (← contains (.ref r) (.int k tk))) Q E s
  have hT : s.TypeIs (.ref r) "range" := ⟨_, hr, rfl⟩
  refine wpAny_bind (wpAny_contains_slot hT F.slot_range_contains ?_)
  refine wpAny_call_entry F.slot_range_contains hT F.entry_range_contains ?_ (F.args_range_contains_2 _ _)
  have he : (Builtin.Range.rangePlace? a b 1 k).isSome = decide (a ≤ k ∧ k < b) := by
    unfold Builtin.Range.rangePlace?
    have h0 : (1 : Int) > 0 := by decide
    simp only [h0, if_true, Int.emod_one]
    by_cases h1 : a ≤ k <;> by_cases h2 : k < b <;> simp [h1, h2]
  show wpAny _ _ (Builtin.«range.__contains__» ⟨[.ref r, .int k tk], []⟩) _ _ s
  unfold Builtin.«range.__contains__»
  refine wpAny_bind (wpAny_of_eq (a := (Value.ref r, [Value.int k tk])) rfl ?_)
  refine wpAny_bind (wpAny_rule ?_)
  refine wpAny_bind (wpAny_rangeFields hr ?_)
  show wpAny _ _ (PySem.ret (Value.bool (Builtin.Range.rangePlace? a b 1 k).isSome)) _ _ s
  rw [he]
  exact wpAny_pure ⟨_, rfl, wpAny_pure (wpAny_pure h)⟩
end
/-- a range a .. b - 1 at p -/
def RngO (p : Addr) (a b : Int) : HO := .ext fun h => ∃ t u v, IsRange h p a b 1 t u v
theorem rngO_new {P : Program} {w : World} {H : Hp} {h : Heap} {p : Addr} {a b : Int} {t u v : Tok} (r : IsRange h p a b 1 t u v) : ObjOk P w H h p (RngO p a b) := ⟨⟨t, u, v, r⟩, ⟨_, r⟩, fun h1 h2 ⟨t, u, v, q⟩ k => ⟨t, u, v, k _ q⟩⟩
section
variable {X : Cx} {a b e : PySem.Expr} {ta tb te : TE}
def tRgV (ta tb : TE) : TE := fun σ H Q => ta σ H fun x H1 => tb σ H1 fun y H2 => ∃ i j, x = .int i ∧ y = .int j ∧ ∀ q, H2 q = none → Q (.ref q) (upd H2 q (RngO q i j))
theorem pe_rng {p pos : Pos} (hg : L2.Gl X "range") (hm : X.mg "range" = none) (ha : PE X a ta) (hb : PE X b tb) (na : starEach [a, b] X.env = (false, eval a X.env) :: starEach [b] X.env) (nb : starEach [b] X.env = (false, eval b X.env) :: starEach [] X.env)
    (hp : (backTo pos (starEach [b] X.env)).any (·.1) = false) : PE X (.Call (.Name "range" p) [a, b] [] pos) (tRgV ta tb) := by
  refine ⟨fun pins s σ H Q I h => Call_ (ld_blt I hg hm boot_range (callWith_type1 (args_cons (thn (ha.run pins s σ H _ I h) fun v s1 ⟨x, H1, I1, r1, q1⟩ => one_arg hb I1 q1 (fun u s2 y H2 I2 r2 q => ?_) nb) na) na hp))⟩
  obtain ⟨i, j, rfl, rfl, q⟩ := q
  obtain ⟨t, rfl⟩ := r1
  obtain ⟨t', rfl⟩ := r2
  exact call_range_2 ⟨.ref s2.heap.objs.size, _, I2.laid (t' := s2.toks + 1) (fun b u e => Heap.get?_push_of_some _ e) (Nat.le_refl _) (rngO_new (IsRange.new _ _ _ _ _ _ _)), rfl, q _ (I2.hok.fresh (Nat.le_refl _))⟩
def rInRng : R2 := fun x y H Q => ∃ k p i j, x = V.int k ∧ y = V.ref p ∧ H p = some (RngO p i j) ∧ Q (.bl (decide (i ≤ k ∧ k < j))) H
theorem or_inRng : OpR X (compareOp .In) rInRng := by
  intro pins s σ H x y v u Q I rx ry h
  obtain ⟨k, p, i, j, rfl, rfl, hp, q⟩ := h
  obtain ⟨tk, rfl⟩ := rx
  cases ry
  obtain ⟨⟨t, u, v, r⟩, _⟩ := I.hok p _ hp
  exact in_range r ⟨.bl _, H, I, rfl, q⟩
end
/-! ### enumerate(t), t a tuple -/
section
variable {P : Program} {w : World} {A : Around} {E : Value → Shared → Prop} {s : Shared}
abbrev enumO (it : Addr) : Obj := { cls := .type "enumerate", data := .fields #[.none, .bool false, .ref it, rawInt 0, .none, .none] }
theorem enum_newB {v : Value} {o : Obj} {H : Heap → Prop} (B : Begins v o H) :
    Meets (Builtin.«enumerate.__new__» ⟨[.type "enumerate", v], []⟩) (fun _ R s => H s.heap ∧ R (.ok (.ret (.ref (s.heap.push o).objs.size))) { s with heap := (s.heap.push o).push (enumO s.heap.objs.size) }) :=
  .of_wp fun prog w A R s h => by
    obtain ⟨hp, g, d, tk, os⟩ := s
    obtain ⟨h1, h⟩ := h
    have hsub := sub_enumerate
    have q1 : ∀ {A' : Around} {E : Value → Shared → Prop} {Q : Value → Shared → Prop}, Q (.ref hp.objs.size) ⟨hp.push o, g, d, tk, os⟩ → wpAny (model prog w) A' (pyIter v) Q E ⟨hp, g, d, tk, os⟩ :=
      fun q => B.iter prog w _ _ ⟨hp, g, d, tk, os⟩ _ h1 q
    wp_walk using q1
    refine wpAny_stack_any fun st => wpAny_pure ?_
    split
    · rename_i c _ _ _ _ _
      cases (c == Value.type "enumerate") <;> (wp_walk using q1; exact ⟨_, rfl, h⟩)
    · wp_walk using q1
      exact ⟨_, rfl, h⟩
theorem call_enumB {v : Value} {o : Obj} {H : Heap → Prop} {Q : Value → Shared → Prop} (B : Begins v o H) (h1 : H s.heap)
    (h : ∀ h', IsEnum h' (s.heap.objs.size + 1) s.heap.objs.size 0 .none → h'.get? s.heap.objs.size = some o → (∀ b u, s.heap.get? b = some u → h'.get? b = some u) → Q (.ref (s.heap.objs.size + 1)) { s with heap := h' }) :
    wpAny (model P w) A (call (.type "enumerate") [v]) Q E s := by
  refine callType_new F.called_enumerate (by decide) (F.typeCall_enumerate_1 _) (F.newCall_enumerate_1 _) (fun obj => F.args_object_init_2 obj _) F.entry_enumerate_new (enum_newB B) ⟨h1, ?_⟩
  have hz : (s.heap.push o).objs.size = s.heap.objs.size + 1 := Heap.size_push ..
  have he : IsEnum ((s.heap.push o).push (enumO s.heap.objs.size)) (s.heap.objs.size + 1) s.heap.objs.size 0 .none := by
    have := Heap.get?_push_size (s.heap.push o) (o := enumO s.heap.objs.size) rfl
    rw [hz] at this
    exact this
  show _ ∧ _
  rw [hz]
  exact ⟨⟨_, he, rfl⟩, h _ he (Heap.get?_push_of_some _ (Heap.get?_push_size _ B.free)) fun b u x => Heap.get?_push_of_some _ (Heap.get?_push_of_some _ x)⟩
end
/-- the tuple at a, each item in a new pair -/
def IteT (K : PySem.W.Frag) (a : Addr) : L2.It :=
  ⟨fun i H => ∃ (xs : List V) (x : V), SqT K H a xs ∧ xs[i]? = some x, fun i H v H' => ∃ T x, v = .ref T ∧ H T = none ∧ H' = upd H T (.tup [.int (i : Nat), x]) ∧ ∀ xs, SqT K H a xs → xs[i]? = some x, fun i H => ∃ xs : List V, SqT K H a xs ∧ xs.length ≤ i⟩
/-- a tuple's iterator that is at its end -/
theorem Draws.tupleEnd {prog : Program} {w : World} {A : Around} (hh : A.handled = none) (it t : Addr) (xs : Array Value) (k : Nat) (hk : xs[k]? = none) :
    Draws prog w A it [it, t] k (fun _ _ => True) (fun i h => i = k ∧ h.IsTupleIter it t k ∧ h.IsTuple t xs) where
  live := fun _ _ st => let ⟨o, ho, _⟩ := st.2.1; ⟨o, ho⟩
  frame := fun _ _ _ st hk => ⟨st.1, st.2.1.at fun o e => hk it (by simp) o e, st.2.2.at fun o e => hk t (by simp) o e⟩
  item := fun i s Q E hi st => absurd st.1 (Nat.ne_of_lt hi)
  done := fun s Q E st hE => wpAny_nextOf_tuple_end hh st.2.1 st.2.2 hk hE
theorem turn_enumT {P : Program} {w : World} {K : PySem.W.Frag} {elts : List PySem.Expr} {kk : Nat} {tpos : Pos} (a e it : Addr) :
    Turn P w K (.Tuple elts kk tpos) (IteT K a) [e, it] e (fun i h => (∃ old, IsEnum h e it ((i : Nat) : Int) old) ∧ h.IsTupleIter it a i ∧ e ≠ it ∧ a ≠ it ∧ e ≠ a) where
  mem := by simp
  obj := fun i h ⟨⟨old, he⟩, ⟨o, ho, _, hd⟩, _⟩ b hb => by
    rcases List.mem_cons.mp hb with z | z
    · subst z
      exact ⟨_, he, fun v q => nomatch q⟩
    · exact ⟨o, by rw [List.mem_singleton.mp z]; exact ho, fun v q => by rw [hd] at q; cases q⟩
  keep := fun i h h' ⟨⟨old, he⟩, hi, hne⟩ k => ⟨⟨old, k e (by simp) _ he⟩, hi.at fun o q => k it (by simp) o q, hne⟩
  item := by
    intro X hP hw hK hc i pins s σ H E I hf ⟨⟨old, he⟩, hit, hne, han, hea⟩ ⟨xs, x, hq, hx⟩
    subst hP hw hK
    obtain ⟨its, rv, p, hz⟩ := I.tuple hq
    obtain ⟨u, hu, ru⟩ := rv.get hx
    have lt : i < its.toArray.size := by rw [List.size_toArray]; exact (List.getElem?_eq_some_iff.mp hu).1
    have l1 : e < s.heap.objs.size := Heap.lt_size he
    have l2 : it < s.heap.objs.size := by obtain ⟨_, q, _⟩ := hit; exact Heap.lt_size q
    have D := Draws.tuple (prog := X.prog) (w := X.w) (A := X.A.in1) (by simp [I.ok.hd hc]) it a han its.toArray
    refine wpAny_pyNext_enum_itemD D he ⟨hit, p⟩ lt hne (by simp [hne, hea]) fun y h1 tk hy ho st1 hT hsz hk => ?_
    have ey : y = u := by
      have : some u = some y := by rw [← hu, ← hy]; simp
      injection this with this
      exact this.symm
    subst ey
    refine ⟨_, rfl, wpAny_letOwnedTupleGo_enum (s := { s with heap := h1, toks := tk + 1 }) ho fun h2 he2 sb => ?_⟩
    have hT2 : h2.get? s.heap.objs.size = some { cls := .type "tuple", data := .seq #[.int i tk, y] } := (sb.2 _ (Nat.ne_of_gt l1)).trans hT
    have new : ObjOk X.prog X.w (upd H s.heap.objs.size (.tup [.int (i : Nat), x])) h2 s.heap.objs.size (.tup [.int (i : Nat), x]) :=
      ⟨by show 2 ≤ sizeLine; decide, [.int i tk, y], .cons ⟨_, rfl⟩ (.cons ru .nil), ⟨_, hT2, rfl, _, rfl⟩⟩
    have I1 : Inv X pins σ (upd H s.heap.objs.size (.tup [.int (i : Nat), x])) { s with heap := h2, toks := tk + 1 } :=
      I.turnedNew (ch := [e, it]) (fun b ob hb q => (sb.2 b (fun z => hb (by simp [z]))).trans (hk b ob (fun z => hb (by simp [z])) (fun z => hb (by simp [z])) q)) hf (Nat.le_refl _) new
    refine ⟨.ref s.heap.objs.size, _, I1, rfl, ⟨_, x, rfl, I.hok.fresh (Nat.le_refl _), rfl, fun ys hy => ?_⟩, ⟨⟨y, ?_⟩, st1.1.at fun o q => (sb.2 it (Ne.symm hne)).trans q, hne, han, hea⟩, fun b hb => ?_⟩
    · rw [I.tuple_inj hy hq]; exact hx
    · rw [show ((i + 1 : Nat) : Int) = (i : Int) + 1 by omega]; exact he2
    · have lb : b < s.heap.objs.size := by
        rcases List.mem_cons.mp hb with z | z
        · rw [z]; exact l1
        · rw [List.mem_singleton.mp z]; exact l2
      rw [upd_ne (Nat.ne_of_lt lb)]
      exact (hf b hb).1
  done := by
    intro X hP hw hK hc i pins s σ H E I hf ⟨⟨old, he⟩, hit, hne, han, hea⟩ ⟨xs, hq, hx⟩
    subst hP hw hK
    obtain ⟨its, rv, p, hz⟩ := I.tuple hq
    obtain ⟨f0, f1, f2, f3, f4, f5⟩ := hf it (by simp)
    have e : its.toArray[i]? = none := by
      have := rv.length
      simp
      omega
    have D := Draws.tupleEnd (prog := X.prog) (w := X.w) (A := X.A.in1) (by simp [I.ok.hd hc]) it a its.toArray i e
    exact wpAny_pyNext_enum_endD D he ⟨rfl, hit, p⟩ fun h' eb => ⟨rfl, I.turned (t' := s.toks) (fun b o hb q => eb b o hb q) f0 f1 f3 f4 f5⟩
  self := fun A i s Q E ⟨⟨_, he⟩, _⟩ h => wpAny_pyIter_enum he h
/-- enumerate of a list or of a tuple -/
def iEnumA (K : PySem.W.Frag) (ta : TA) : TI := fun σ H R => ta σ H fun vs H1 => ∃ a, vs = [.ref a] ∧ ((∃ xs, SqL K H1 a xs ∧ R (Ite K a) H1) ∨ ∃ xs, SqT K H1 a xs ∧ R (IteT K a) H1)
theorem pi_enumA {X : Cx} {e : PySem.Expr} {ta : TA} {p pos tpos : Pos} {elts : List PySem.Expr} {kk : Nat} (hg : L2.Gl X "enumerate") (hm : X.mg "enumerate" = none) (ha : PA X [e] ta) (hs : starEach [e] X.env = [(false, eval e X.env)]) :
    PI X (.Tuple elts kk tpos) (.Call (.Name "enumerate" p) [e] [] pos) (iEnumA X.K ta) := by
  refine ⟨fun pins s σ H R I h => Call_ (ld_blt I hg hm boot_enumerate (callWith_type1 (thn (ha.run pos pins s σ H _ I h) fun us s1 ⟨vs, H1, I1, r1, q1⟩ => ?_) hs rfl))⟩
  obtain ⟨a, rfl, q⟩ := q1
  rw [Vals.ref1 r1]
  have near : ∀ b ∈ [s1.heap.objs.size + 1, s1.heap.objs.size], FpOk X pins H1 b := fun b hb => by
    have hle : s1.heap.objs.size ≤ b := by
      rcases List.mem_cons.mp hb with z | z
      · rw [z]; exact Nat.le_succ _
      · rw [List.mem_singleton.mp z]; exact Nat.le_refl _
    exact I1.fpOk hle (I1.hok.fresh hle)
  rcases q with ⟨xs, hq, q⟩ | ⟨xs, hq, q⟩
  · obtain ⟨its, rv, p', hz⟩ := I1.list hq
    refine call_enumerate_list p'.isList fun h' he hit hsz hk => wpAny_pyIter_enum he ?_
    exact ⟨s1.heap.objs.size + 1, [s1.heap.objs.size + 1, s1.heap.objs.size], _, _, H1, rfl, I1.kept (t' := s1.toks) hk, turn_enum a _ _, ⟨⟨.none, he⟩, hit, Nat.succ_ne_self _⟩, near, q⟩
  · obtain ⟨its, rv, p', hz⟩ := I1.tuple hq
    have la : a < s1.heap.objs.size := by obtain ⟨_, q, _⟩ := id p'; exact Heap.lt_size q
    refine call_enumB (begins_tuple a its.toArray) p' fun h' he hit hk => wpAny_pyIter_enum he ?_
    exact ⟨s1.heap.objs.size + 1, [s1.heap.objs.size + 1, s1.heap.objs.size], _, _, H1, rfl, I1.kept (t' := s1.toks) hk, turn_enumT a _ _, ⟨⟨.none, he⟩, ⟨_, hit, rfl, rfl⟩, Nat.succ_ne_self _, Nat.ne_of_lt la, Nat.ne_of_gt (Nat.lt_succ_of_lt la)⟩, near, q⟩
end Q
namespace Q
open PySem PySem.Spec PyProof.Rows L2 RZ
/-! ### list(zip(xs, ys)) of two tuples -/
section
variable {P : Program} {w : World} {A : Around} {E : Value → Shared → Prop} {s : Shared}
theorem zipNoLen : typeLookup (.type "zip") "__len__" = pure none := by rw [typeLookup_type, builtinLookup_eq_fast]; kernel_rfl
theorem zipNoHint : typeLookup (.type "zip") "__length_hint__" = pure none := by rw [typeLookup_type, builtinLookup_eq_fast]; kernel_rfl
variable {z TI TO T i1 i2 l1 l2 : Addr} {f : Bool} {oT : Obj} {k : Nat} {xs ys : Array Value} {x y : Value}
/-- a turn of a zip that knows that its first tuple is out -/
theorem held_item {Q : Option Value → Shared → Prop} (D : ZipApart z TI TO i1 i2 l1 l2) (hz : IsZipHeld s.heap z TI TO T f) (hT : s.heap.get? T = some oT) (hTI : IsPair s.heap TI (.ref i1) (.ref i2))
    (h1 : s.heap.IsTupleIter i1 l1 k) (h2 : s.heap.IsTupleIter i2 l2 k) (t1 : s.heap.IsTuple l1 xs) (t2 : s.heap.IsTuple l2 ys) (hx : xs[k]? = some x) (hy : ys[k]? = some y)
    (hQ : ∀ h', IsZipHeld h' z TI TO T true → h'.IsTupleIter i1 l1 (k + 1) → h'.IsTupleIter i2 l2 (k + 1) → IsPair h' s.heap.objs.size x y →
      (∀ c o, c ≠ z → c ≠ i1 → c ≠ i2 → s.heap.get? c = some o → h'.get? c = some o) → Q (some (.ref s.heap.objs.size)) { s with heap := h' }) : wpAny (model P w) A (pyNext (.ref z)) Q E s := by
  have ty : s.TypeIs (.ref z) "zip" := ⟨_, hz, rfl⟩
  unfold pyNext
  refine wpAny_bind (wpAny_attempt (wpAny_callSpecial?_slot (name := Str.ofString "__next__") ty F.slot_zip_next (wpAny_call_entry F.slot_zip_next ty F.entry_zip_next ?_ (F.args_zip_next_1 _))))
  show wpAny _ _ (field (.ref z) 2 >>= _) _ _ _
  refine wpAny_bind (wpAny_field hz rfl (x := .bool false) rfl ?_)
  show wpAny _ _ (field (.ref z) 3 >>= _) _ _ _
  refine wpAny_bind (wpAny_field hz rfl (x := .ref TI) rfl ?_)
  refine wpAny_bind (wpAny_seqItems hTI rfl ?_)
  show wpAny _ _ (Builtin.SmallTypes.ownedTupleIsFree (.ref z) >>= _) _ _ _
  refine wpAny_bind (wpAny_tupleHeld_zip hz hT fun ha za sa => ?_)
  simp only [Bool.false_eq_true, if_false]
  refine wpAny_bind ?_
  rw [← Array.forIn_toList]
  simp only [List.forIn_cons, List.forIn_nil]
  refine wpAny_bind (wpAny_bind (wpAny_holding ?_))
  show wpAny _ _ (Builtin.SmallTypes.nextOf (.ref i1) >>= _) _ _ _
  refine wpAny_bind (nextOf_tuple_item (s := { s with heap := ha }) (h1.extBut sa.extBut D.i1z) (t1.extBut sa.extBut D.l1z) hx fun hb b1 sb => wpAny_pure (wpAny_pure ?_))
  refine wpAny_bind (wpAny_bind (wpAny_holding ?_))
  show wpAny _ _ (Builtin.SmallTypes.nextOf (.ref i2) >>= _) _ _ _
  refine wpAny_bind (nextOf_tuple_item (s := { s with heap := hb }) ((h2.extBut sa.extBut D.i2z).extBut sb.extBut D.i12.symm) ((t2.extBut sa.extBut D.l2z).extBut sb.extBut D.l2i1) hy fun hc c2 sc => wpAny_pure (wpAny_pure (wpAny_pure ?_)))
  show wpAny _ _ (newTuple [x, y] >>= _) _ _ _
  refine wpAny_bind (wpAny_newTuple (wpAny_pure ⟨_, rfl, wpAny_pure ?_⟩))
  have e : hc.objs.size = s.heap.objs.size := by rw [sc.1, sb.1, sa.1]
  have zc : IsZipHeld hc z TI TO T true := sc.extBut _ _ D.i2z.symm (sb.extBut _ _ D.i1z.symm za)
  have up : ∀ {c o}, hc.get? c = some o → (hc.push { cls := .type "tuple", data := .seq #[x, y] }).get? c = some o := fun q => Heap.get?_push_of_some _ q
  have new : IsPair (hc.push { cls := .type "tuple", data := .seq #[x, y] }) hc.objs.size x y := Heap.get?_push_size _ rfl
  show Q (some (.ref hc.objs.size)) _
  rw [e] at new ⊢
  exact hQ _ (up zc) ((b1.extBut sc.extBut D.i12).at fun o q => up q) (c2.at fun o q => up q) new fun c o n1 n2 n3 q => up (sc.extBut _ _ n3 (sb.extBut _ _ n2 (sa.extBut _ _ n1 q)))
/-- .. and its end -/
theorem held_end {Q : Option Value → Shared → Prop} (hh : A.handled = none) (D : ZipApart z TI TO i1 i2 l1 l2) (hz : IsZipHeld s.heap z TI TO T f) (hT : s.heap.get? T = some oT) (hTI : IsPair s.heap TI (.ref i1) (.ref i2))
    (h1 : s.heap.IsTupleIter i1 l1 k) (h2 : s.heap.IsTupleIter i2 l2 k) (t1 : s.heap.IsTuple l1 xs) (t2 : s.heap.IsTuple l2 ys) (he : xs[k]? = none ∨ ys[k]? = none)
    (hQ : ∀ h', (∀ c o, c ≠ z → c ≠ i1 → c ≠ i2 → s.heap.get? c = some o → h'.get? c = some o) → Q none { s with heap := h' }) : wpAny (model P w) A (pyNext (.ref z)) Q E s := by
  have ty : s.TypeIs (.ref z) "zip" := ⟨_, hz, rfl⟩
  have stop : ∀ h' e, (∀ c o, c ≠ z → c ≠ i1 → c ≠ i2 → s.heap.get? c = some o → h'.get? c = some o) → (∃ o, h'.get? e = some o ∧ o.cls = .type "StopIteration") →
      wpAny (model P w) A (isInstance (.ref e) (.type "StopIteration") >>= fun b => if b = true then pure none else throw (.ref e)) Q E { s with heap := h' } := fun h' e q ho => by
    obtain ⟨o, ho, hc⟩ := ho
    refine wpAny_bind (wpAny_isInstance (T := "StopIteration") (b := true) ⟨o, ho, hc⟩ isSubtype_stop ?_)
    exact wpAny_pure (hQ _ q)
  unfold pyNext
  refine wpAny_bind (wpAny_attempt (wpAny_callSpecial?_slot (name := Str.ofString "__next__") ty F.slot_zip_next (wpAny_call_entry F.slot_zip_next ty F.entry_zip_next ?_ (F.args_zip_next_1 _))))
  show wpAny _ _ (field (.ref z) 2 >>= _) _ _ _
  refine wpAny_bind (wpAny_field hz rfl (x := .bool false) rfl ?_)
  show wpAny _ _ (field (.ref z) 3 >>= _) _ _ _
  refine wpAny_bind (wpAny_field hz rfl (x := .ref TI) rfl ?_)
  refine wpAny_bind (wpAny_seqItems hTI rfl ?_)
  show wpAny _ _ (Builtin.SmallTypes.ownedTupleIsFree (.ref z) >>= _) _ _ _
  refine wpAny_bind (wpAny_tupleHeld_zip hz hT fun ha za sa => ?_)
  simp only [Bool.false_eq_true, if_false]
  refine wpAny_bind ?_
  rw [← Array.forIn_toList]
  simp only [List.forIn_cons, List.forIn_nil]
  refine wpAny_bind (wpAny_bind (wpAny_holding ?_))
  show wpAny _ _ (Builtin.SmallTypes.nextOf (.ref i1) >>= _) _ _ _
  cases hx : xs[k]? with
  | none => exact wpAny_bind (nextOf_tuple_end (s := { s with heap := ha }) hh (h1.extBut sa.extBut D.i1z) (t1.extBut sa.extBut D.l1z) hx fun hb e sb ho => stop hb e (fun c o n1 n2 _ q => sb _ _ n2 (sa.extBut _ _ n1 q)) ho)
  | some x =>
    have hy : ys[k]? = none := by
      rcases he with h | h
      · rw [hx] at h; cases h
      · exact h
    refine wpAny_bind (nextOf_tuple_item (s := { s with heap := ha }) (h1.extBut sa.extBut D.i1z) (t1.extBut sa.extBut D.l1z) hx fun hb b1 sb => wpAny_pure (wpAny_pure ?_))
    refine wpAny_bind (wpAny_bind (wpAny_holding ?_))
    show wpAny _ _ (Builtin.SmallTypes.nextOf (.ref i2) >>= _) _ _ _
    exact wpAny_bind (nextOf_tuple_end (s := { s with heap := hb }) hh ((h2.extBut sa.extBut D.i2z).extBut sb.extBut D.i12.symm) ((t2.extBut sa.extBut D.l2z).extBut sb.extBut D.l2i1) hy fun hc e sc ho => stop hc e (fun c o n1 n2 n3 q => sc _ _ n3 (sb.extBut _ _ n2 (sa.extBut _ _ n1 q))) ho)
end
abbrev lso (acc : Array Value) (c : Nat) : Obj := { cls := .type "list", data := .seq acc c }
/-- new pairs, one behind the other -/
inductive Zd : Hp → List (V × V) → List V → Hp → Prop
  | nil (H : Hp) : Zd H [] [] H
  | snoc {H H' : Hp} {ps : List (V × V)} {Ts : List V} {T : Addr} {x y : V} : Zd H ps Ts H' → H' T = none → Zd H (ps ++ [(x, y)]) (Ts ++ [.ref T]) (upd H' T (.tup [x, y]))
/-- a zip of two tuples, at a turn -/
structure ZSt (H : Hp) (h : Heap) (z TI TO i1 i2 a b : Addr) (i : Nat) : Prop where
  zip : IsZip h z TI TO .none ∨ ∃ T f x y, IsZipHeld h z TI TO T f ∧ H T = some (.tup [x, y])
  ti : IsPair h TI (.ref i1) (.ref i2)
  to : ∃ p q, IsPair h TO p q
  one : h.IsTupleIter i1 a i
  two : h.IsTupleIter i2 b i
section
variable {P : Program} {w : World} {A : Around} {E : Value → Shared → Prop} {s : Shared} {H : Hp}
variable {z TI TO i1 i2 a b : Addr} {i : Nat} {us ws : Array Value} {u v : Value}
theorem zst_item {Q : Option Value → Shared → Prop} (D : ZipApart z TI TO i1 i2 a b) (st : ZSt H s.heap z TI TO i1 i2 a b i) (al : ∀ T x y, H T = some (.tup [x, y]) → ∃ o, s.heap.get? T = some o)
    (t1 : s.heap.IsTuple a us) (t2 : s.heap.IsTuple b ws) (hx : us[i]? = some u) (hy : ws[i]? = some v)
    (hQ : ∀ h', (∃ T f, IsZipHeld h' z TI TO T f ∧ (T = s.heap.objs.size ∨ ∃ x y, H T = some (.tup [x, y]))) → (∃ p q, IsPair h' TO p q) → h'.IsTupleIter i1 a (i + 1) → h'.IsTupleIter i2 b (i + 1) → IsPair h' s.heap.objs.size u v →
      (∀ c o, c ≠ z → c ≠ TO → c ≠ i1 → c ≠ i2 → s.heap.get? c = some o → h'.get? c = some o) → Q (some (.ref s.heap.objs.size)) { s with heap := h' }) : wpAny (model P w) A (pyNext (.ref z)) Q E s := by
  obtain ⟨hz, hTI, ⟨p, q, hTO⟩, h1, h2⟩ := st
  rcases hz with hz | ⟨T, f, x, y, hz, hT⟩
  · exact pyNext_zipT_item D hz hTI hTO h1 h2 t1 t2 hx hy fun h' b1 b2 b3 b4 b5 _ hk => hQ h' ⟨_, false, b1, .inl rfl⟩ ⟨_, _, b2⟩ b3 b4 b5 hk
  · obtain ⟨o, ho⟩ := al T x y hT
    exact held_item D hz ho hTI h1 h2 t1 t2 hx hy fun h' b1 b3 b4 b5 hk => hQ h' ⟨T, true, b1, .inr ⟨x, y, hT⟩⟩ ⟨p, q, hk _ _ D.TOz D.TOi1 D.TOi2 hTO⟩ b3 b4 b5 fun c o n1 _ n3 n4 e => hk c o n1 n3 n4 e
theorem zst_end {Q : Option Value → Shared → Prop} (hh : A.handled = none) (D : ZipApart z TI TO i1 i2 a b) (st : ZSt H s.heap z TI TO i1 i2 a b i) (al : ∀ T x y, H T = some (.tup [x, y]) → ∃ o, s.heap.get? T = some o)
    (t1 : s.heap.IsTuple a us) (t2 : s.heap.IsTuple b ws) (he : us[i]? = none ∨ ws[i]? = none)
    (hQ : ∀ h', (∀ c o, c ≠ z → c ≠ TO → c ≠ i1 → c ≠ i2 → s.heap.get? c = some o → h'.get? c = some o) → Q none { s with heap := h' }) : wpAny (model P w) A (pyNext (.ref z)) Q E s := by
  obtain ⟨hz, hTI, ⟨p, q, hTO⟩, h1, h2⟩ := st
  rcases hz with hz | ⟨T, f, x, y, hz, hT⟩
  · exact pyNext_zipT_end hh D hz hTI hTO h1 h2 t1 t2 he fun h' hk => hQ h' hk
  · obtain ⟨o, ho⟩ := al T x y hT
    exact held_end hh D hz ho hTI h1 h2 t1 t2 he fun h' hk => hQ h' fun c o n1 _ n3 n4 e => hk c o n1 n3 n4 e
end
theorem sqt_upd {K : PySem.W.Frag} {H : Hp} {a T : Addr} {xs : List V} {o : HO} (hT : H T = none) (h : SqT K H a xs) : SqT K (upd H T o) a xs := by
  rcases h with (h | ⟨ob, h⟩) | h
  · exact .inl (.inl (by rw [upd_ne (ne_of_none h hT)]; exact h))
  · exact .inl (.inr ⟨ob, by rw [upd_ne (ne_of_none h hT)]; exact h⟩)
  · exact .inr h
theorem zloop {X : Cx} {A : Around} {pins : List (Addr × Obj)} {σ : L2.St} {S z TI TO i1 i2 a b : Addr} {xs ys : List V} {H0 : Hp} {res : Value} {R : Result → Shared → Prop} (hh : A.handled = none) (D : ZipApart z TI TO i1 i2 a b) (nS : S ≠ z ∧ S ≠ TI ∧ S ≠ TO ∧ S ≠ i1 ∧ S ≠ i2)
    (hend : ∀ s' H' acc c Ts, Zd H0 (xs.zip ys) Ts H' → Inv X pins σ H' s' → FpOk X pins H' S → s'.heap.get? S = some (lso acc c) → Vals Ts acc.toList → acc.size ≤ sizeLine → R (.ok (.ret res)) s') :
    ∀ (m i : Nat) (s : Shared) (H : Hp) (acc : Array Value) (c : Nat) (Ts : List V), min xs.length ys.length - i = m → i ≤ min xs.length ys.length → Zd H0 ((xs.zip ys).take i) Ts H → Inv X pins σ H s → SqT X.K H a xs → SqT X.K H b ys →
      (∀ q, q ∈ [S, z, TI, TO, i1, i2] → FpOk X pins H q) → ZSt H s.heap z TI TO i1 i2 a b i → s.heap.get? S = some (lso acc c) → Vals Ts acc.toList → acc.size = i →
      codeAny (model X.prog X.w) A (.builtin "list.extend.loop" ⟨[.ref S, .ref z, res], []⟩) R s := by
  intro m
  induction m with
  | zero =>
    intro i s H acc c Ts hm hi hZ I qx qy hf st hS hv hsz
    obtain ⟨its, rv, p, lx⟩ := I.tuple qx
    obtain ⟨its2, rv2, p2, ly⟩ := I.tuple qy
    have l1 := rv.length
    have l2 := rv2.length
    have al : ∀ T x y, H T = some (.tup [x, y]) → ∃ o, s.heap.get? T = some o := fun T x y e => by
      obtain ⟨_, _, q, _⟩ := I.tuple (.inl (.inl e))
      obtain ⟨o, ho, _⟩ := id q
      exact ⟨o, ho⟩
    refine codeAny_builtin F.entry_extend_loop ?_
    rw [Around.under_plainId F.plain_extend_loop _]
    show wpAny _ A.in1 (pyNext (.ref z) >>= _) _ _ s
    have he : its.toArray[i]? = none ∨ its2.toArray[i]? = none := by
      by_cases q : xs.length ≤ i
      · exact .inl (by simp; omega)
      · exact .inr (by simp; omega)
    refine wpAny_bind (zst_end (A := A.in1) hh D st al p p2 he fun h' hk => ?_)
    have hk' : ∀ c o, c ∉ [S, z, TI, TO, i1, i2] → s.heap.get? c = some o → h'.get? c = some o := fun c o hc e => hk c o (fun q => hc (by simp [q])) (fun q => hc (by simp [q])) (fun q => hc (by simp [q])) (fun q => hc (by simp [q])) e
    have e : (xs.zip ys).take i = xs.zip ys := List.take_of_length_le (by rw [List.length_zip]; omega)
    rw [e] at hZ
    exact wpAny_pure (hend { s with heap := h' } H acc c Ts hZ (I.turnedL (t' := s.toks) hk' hf) (hf S (by simp)) (hk _ _ nS.1 nS.2.2.1 nS.2.2.2.1 nS.2.2.2.2 hS) hv (by omega))
  | succ m ih =>
    intro i s H acc c Ts hm hi hZ I qx qy hf st hS hv hsz
    obtain ⟨its, rv, p, lx⟩ := I.tuple qx
    obtain ⟨its2, rv2, p2, ly⟩ := I.tuple qy
    have hi1 : i < xs.length := by omega
    have hi2 : i < ys.length := by omega
    have ex : xs[i]? = some xs[i] := List.getElem?_eq_getElem hi1
    have ey : ys[i]? = some ys[i] := List.getElem?_eq_getElem hi2
    obtain ⟨u, hu, ru⟩ := rv.get ex
    obtain ⟨u2, hu2, ru2⟩ := rv2.get ey
    have al : ∀ T x y, H T = some (.tup [x, y]) → ∃ o, s.heap.get? T = some o := fun T x y e => by
      obtain ⟨_, _, q, _⟩ := I.tuple (.inl (.inl e))
      obtain ⟨o, ho, _⟩ := id q
      exact ⟨o, ho⟩
    refine codeAny_builtin F.entry_extend_loop ?_
    rw [Around.under_plainId F.plain_extend_loop _]
    show wpAny _ A.in1 (pyNext (.ref z) >>= _) _ _ s
    refine wpAny_bind (zst_item (A := A.in1) D st al p p2 (by simpa using hu) (by simpa using hu2) fun h' hz' hTO' one' two' new hk => ?_)
    have hS1 := hk _ _ nS.1 nS.2.2.1 nS.2.2.2.1 nS.2.2.2.2 hS
    show wpAny _ A.in1 (updateSeq S (·.push (.ref s.heap.objs.size)) >>= _) _ _ _
    refine wpAny_bind ?_
    have hacc : acc.size < sizeLine := by omega
    refine wpAny_updateSeq hS1 rfl (wpAny_pure ⟨plainId_quiet F.plain_extend_loop _, ?_⟩) (Nat.le_of_lt hacc) (by show (acc.push _).size ≤ sizeLine + 1; rw [Array.size_push]; omega)
    have hT : H s.heap.objs.size = none := I.hok.fresh (Nat.le_refl _)
    have lt : ∀ q, q ∈ [S, z, TI, TO, i1, i2] → s.heap.objs.size ≠ q := fun q hq => by
      obtain ⟨zz, hTI, ⟨pp, qq, hTO⟩, ⟨o1, e1, _⟩, ⟨o2, e2, _⟩⟩ := st
      simp only [List.mem_cons, List.not_mem_nil, or_false] at hq
      rcases hq with rfl | rfl | rfl | rfl | rfl | rfl
      · exact Nat.ne_of_gt (Heap.lt_size hS)
      · rcases zz with zz | ⟨_, _, _, _, zz, _⟩
        · exact Nat.ne_of_gt (Heap.lt_size zz)
        · exact Nat.ne_of_gt (Heap.lt_size zz)
      · exact Nat.ne_of_gt (Heap.lt_size hTI)
      · exact Nat.ne_of_gt (Heap.lt_size hTO)
      · exact Nat.ne_of_gt (Heap.lt_size e1)
      · exact Nat.ne_of_gt (Heap.lt_size e2)
    have up : ∀ c o, c ≠ S → h'.get? c = some o → (h'.update S (Obj.mapSeq (·.push (.ref s.heap.objs.size)))).get? c = some o := fun c o hc e => (Heap.get?_update_other _ _ (Ne.symm hc)).trans e
    have new2 := up _ _ (lt S (by simp)) new
    have I1 : Inv X pins σ (upd H s.heap.objs.size (.tup [xs[i], ys[i]])) { s with heap := h'.update S (Obj.mapSeq (·.push (.ref s.heap.objs.size))) } :=
      I.turnedNew (t' := s.toks) (ch := [S, z, TI, TO, i1, i2]) (fun c o hc e => up c o (fun q => hc (by simp [q])) (hk c o (fun q => hc (by simp [q])) (fun q => hc (by simp [q])) (fun q => hc (by simp [q])) (fun q => hc (by simp [q])) e)) hf (Nat.le_refl _)
        ⟨by show 2 ≤ sizeLine; decide, [u, u2], .cons ru (.cons ru2 .nil), ⟨_, new2, rfl, _, rfl⟩⟩
    have hZ1 : Zd H0 ((xs.zip ys).take (i + 1)) (Ts ++ [.ref s.heap.objs.size]) (upd H s.heap.objs.size (.tup [xs[i], ys[i]])) := by
      rw [List.take_add_one, List.getElem?_eq_getElem (by rw [List.length_zip]; omega)]
      rw [List.getElem_zip]
      exact .snoc hZ hT
    refine ih (i + 1) _ _ (acc.push (.ref s.heap.objs.size)) _ _ (by omega) (by omega) hZ1 I1 (sqt_upd hT qx) (sqt_upd hT qy) (fun q hq => ?_) ⟨?_, ?_, ?_, ?_, ?_⟩ (Heap.get?_update_self _ hS1 rfl) ?_ (by rw [Array.size_push]; omega)
    · obtain ⟨f1, f2⟩ := hf q hq
      exact ⟨by rw [upd_ne (Ne.symm (lt q hq))]; exact f1, f2⟩
    · obtain ⟨T, f, b1, b2⟩ := hz'
      refine .inr ⟨T, f, ?_⟩
      rcases b2 with rfl | ⟨x, y, b2⟩
      · exact ⟨_, _, up _ _ (Ne.symm nS.1) b1, upd_same⟩
      · exact ⟨x, y, up _ _ (Ne.symm nS.1) b1, by rw [upd_ne (ne_of_none b2 hT)]; exact b2⟩
    · exact up _ _ (Ne.symm nS.2.1) (hk _ _ D.TIz D.TITO D.TIi1 D.TIi2 st.ti)
    · obtain ⟨x, y, b⟩ := hTO'
      exact ⟨x, y, up _ _ (Ne.symm nS.2.2.1) b⟩
    · exact one'.at fun o e => up _ _ (Ne.symm nS.2.2.2.1) e
    · exact two'.at fun o e => up _ _ (Ne.symm nS.2.2.2.2) e
    · rw [Array.toList_push]
      exact hv.append (.cons rfl .nil)
theorem call_list_zip {X : Cx} {A : Around} {pins : List (Addr × Obj)} {σ : L2.St} {z TI TO i1 i2 a b : Addr} {xs ys : List V} {H : Hp} {s : Shared} {Q E : Value → Shared → Prop} (hh : A.handled = none) (D : ZipApart z TI TO i1 i2 a b)
    (I : Inv X pins σ H s) (qx : SqT X.K H a xs) (qy : SqT X.K H b ys) (hf : ∀ q, q ∈ [z, TI, TO, i1, i2] → FpOk X pins H q) (st : ZSt H s.heap z TI TO i1 i2 a b 0)
    (hz : IsZip s.heap z TI TO .none)
    (h : ∀ S s' H' Ts, Zd H (xs.zip ys) Ts H' → H' S = none → Inv X pins σ (upd H' S (.lst Ts)) s' → Q (.ref S) s') : wpAny (model X.prog X.w) A (call (.type "list") [.ref z]) Q E s := by
  have lz : s.heap.objs.size ≠ z := Nat.ne_of_gt (Heap.lt_size hz)
  refine callType_codes (Q₁ := fun obj s₁ => obj = .ref s.heap.objs.size ∧ s₁ = { s with heap := s.heap.push { cls := .type "list", data := .seq #[] } }) F.called_list (F.typeCall_list_1 _) F.entry_list_init
    (code_list_new _ ⟨rfl, rfl⟩) fun obj s₁ h₁ => ?_
  obtain ⟨rfl, rfl⟩ := h₁
  have hS : (s.heap.push { cls := .type "list", data := .seq #[] }).get? s.heap.objs.size = some { cls := .type "list", data := .seq #[] } := Heap.get?_push_size _ rfl
  refine ⟨⟨_, hS, rfl⟩, F.args_list_init_2 _ _, ?_⟩
  show wpAny _ A.in1.in1 (do let old ← Builtin.List.listItems (.ref s.heap.objs.size); Builtin.List.listUpdate (.ref s.heap.objs.size) (fun _ => #[]); letGo old.toList.reverse; Builtin.List.listExtendWith (.ref s.heap.objs.size) (.ref z) .none) _ _ _
  refine wpAny_bind ?_
  unfold Builtin.List.listItems
  refine wpAny_bind (wpAny_seqItems hS rfl (wpAny_pure ?_))
  show wpAny _ A.in1.in1 (updateSeq s.heap.objs.size (fun _ => #[]) >>= fun _ => letGo (#[] : Array Value).toList.reverse >>= fun _ => Builtin.List.listExtendWith (.ref s.heap.objs.size) (.ref z) .none) _ _ _
  refine wpAny_bind (wpAny_updateSeq hS rfl ?_)
  have hS2 := Heap.get?_update_self (Obj.mapSeq (fun _ => (#[] : Array Value))) hS rfl
  refine wpAny_bind (wpAny_letGo ?_)
  unfold Builtin.List.listExtendWith
  have up : ∀ (h : Heap) (f : Obj → Obj), (∀ b o, s.heap.get? b = some o → h.get? b = some o) → ∀ b o, s.heap.get? b = some o → (h.update s.heap.objs.size f).get? b = some o := fun h f q b o e =>
    (Heap.get?_update_other _ _ (Ne.symm (Nat.ne_of_lt (Heap.lt_size e)))).trans (q b o e)
  have k1 : ∀ b o, s.heap.get? b = some o → (s.heap.push { cls := .type "list", data := .seq #[] }).get? b = some o := fun b o e => Heap.get?_push_of_some _ e
  have k2 := up _ (Obj.mapSeq (fun _ => (#[] : Array Value))) k1
  have zty : ∀ {h : Heap}, (∀ b o, s.heap.get? b = some o → h.get? b = some o) → Shared.TypeIs { s with heap := h } (.ref z) "zip" := fun {h} q => ⟨_, q _ _ hz, rfl⟩
  refine wpAny_bind (wpAny_typeOf (zty k2) ?_)
  have h1 : Builtin.List.listSameRef (.ref s.heap.objs.size) (.ref z) = false := by simp [Builtin.List.listSameRef, lz]
  have h2 : (Value.type "zip" == Value.type "list") = false := by decide
  have h3 : (Value.type "zip" == Value.type "tuple") = false := by decide
  simp only [h1, h2, h3, Bool.or_false, Bool.false_eq_true, if_false]
  refine wpAny_bind (wpAny_pyIter_zip (k2 _ _ hz) ?_)
  refine wpAny_bind (wpAny_holding ?_)
  unfold Builtin.List.listLengthHint
  refine wpAny_bind (wpAny_specialOf (zty k2) zipNoLen ?_)
  show wpAny _ A.in1.in1 (specialOf (Value.ref z) (Str.ofString "__length_hint__") >>= _) _ _ _
  refine wpAny_bind (wpAny_specialOf (zty k2) zipNoHint ?_)
  refine wpAny_pure ?_
  show wpAny _ A.in1.in1 (rule "list.extend.makes-room" >>= fun _ => Builtin.List.listTouch (.ref s.heap.objs.size) >>= fun _ =>
    again (.builtin "list.extend.loop" ⟨[.ref s.heap.objs.size, .ref z, .none], []⟩)) _ _ _
  refine wpAny_bind (wpAny_rule ?_)
  refine wpAny_bind ?_
  show wpAny _ A.in1.in1 (updateSeq s.heap.objs.size (·.push .none) >>= fun _ => updateSeq s.heap.objs.size (·.pop)) _ _ _
  refine wpAny_bind (wpAny_updateSeq hS2 rfl ?_)
  have hS3 := Heap.get?_update_self (Obj.mapSeq (·.push Value.none)) hS2 rfl
  refine wpAny_updateSeq (hz := by seq_fits) hS3 rfl ?_
  have hS4 := Heap.get?_update_self (Obj.mapSeq (·.pop)) hS3 rfl
  have k4 := up _ (Obj.mapSeq (·.pop)) (up _ (Obj.mapSeq (·.push Value.none)) k2)
  refine wpAny_pure ⟨plainId_quiet F.plain_extend_loop _, ?_⟩
  have nS : s.heap.objs.size ≠ z ∧ s.heap.objs.size ≠ TI ∧ s.heap.objs.size ≠ TO ∧ s.heap.objs.size ≠ i1 ∧ s.heap.objs.size ≠ i2 := by
    obtain ⟨_, hTI, ⟨pp, qq, hTO⟩, ⟨o1, e1, _⟩, ⟨o2, e2, _⟩⟩ := st
    exact ⟨lz, Nat.ne_of_gt (Heap.lt_size hTI), Nat.ne_of_gt (Heap.lt_size hTO), Nat.ne_of_gt (Heap.lt_size e1), Nat.ne_of_gt (Heap.lt_size e2)⟩
  have hSn : H s.heap.objs.size = none := I.hok.fresh (Nat.le_refl _)
  refine zloop (X := X) (pins := pins) (σ := σ) (H0 := H) (xs := xs) (ys := ys) (TI := TI) (TO := TO) (i1 := i1) (i2 := i2) (a := a) (b := b) (A := A.in1) (R := wants (fun r s₂ => r = .none ∧ Q (.ref s.heap.objs.size) s₂) E) hh D nS (fun s' H' acc c Ts q1 q2 q3 q4 q5 q6 => ⟨rfl, ?_⟩) _ 0 _ H #[] _ [] rfl (Nat.zero_le _) (by rw [List.take_zero]; exact .nil H) (I.kept (t' := s.toks) k4) qx qy (fun q hq => ?_)
    ⟨.inl (k4 _ _ hz), k4 _ _ st.ti, let ⟨p, q, e⟩ := st.to; ⟨p, q, k4 _ _ e⟩, st.one.at fun o e => k4 _ o e, st.two.at fun o e => k4 _ o e⟩ hS4 .nil rfl
  · refine h _ s' H' Ts q1 q3.1 ?_
    have := q2.take (h' := s'.heap) (t' := s'.toks) (o := .lst Ts) (fun b ob _ e => e) q3 ⟨by rw [q5.length]; simpa using q6, acc.toList, c, q5, by rw [q4]⟩
    exact this
  · rcases List.mem_cons.mp hq with rfl | hq
    · exact I.fpOk (Nat.le_refl _) hSn
    · exact hf q hq
def tLz (K : PySem.W.Frag) (ta : TA) : TE := fun σ H Q => ta σ H fun vs H1 => ∃ a b xs ys, vs = [.ref a, .ref b] ∧ SqT K H1 a xs ∧ SqT K H1 b ys ∧ ∀ S H' Ts, Zd H1 (xs.zip ys) Ts H' → H' S = none → Q (.ref S) (upd H' S (.lst Ts))
theorem pe_lz {X : Cx} {e e2 : Expr} {ta : TA} {p p2 q pos : Pos} (hg : L2.Gl X "list") (hm : X.mg "list" = none) (hg2 : L2.Gl X "zip") (hm2 : X.mg "zip" = none) (ha : PA X [e, e2] ta) (hc : X.calm = true := by rfl)
    (hs : starEach [e, e2] X.env = (false, eval e X.env) :: starEach [e2] X.env := by rfl) (hpl : (backTo q (starEach [e2] X.env)).any (·.1) = false := by rfl)
    (na : starEach [.Call (.Name "zip" p2) [e, e2] [] q] X.env = (false, eval (.Call (.Name "zip" p2) [e, e2] [] q) X.env) :: starEach [] X.env := by rfl) :
    PE X (.Call (.Name "list" p) [.Call (.Name "zip" p2) [e, e2] [] q] [] pos) (tLz X.K ta) := by
  refine ⟨fun pins s σ H Q I h => ?_⟩
  refine Call_ (ld_blt I hg hm boot_list ?_)
  refine PyProof.Rows.callWith_type1 (PyProof.Rows.args_cons ?_ rfl) na rfl
  refine Call_ (ld_blt I hg2 hm2 PyProof.Rows.boot_zip (PyProof.Rows.callWith_type1 (thn (ha.run q pins s σ H _ I h) fun us s1 ⟨vs, H1, I1, r1, q1⟩ => ?_) hs hpl))
  obtain ⟨a, b, xs, ys, ex, hqx, hqy, q1⟩ := q1
  subst ex
  cases r1 with
  | cons r rr =>
    cases rr with
    | cons r' rr =>
      cases rr
      cases r
      cases r'
      obtain ⟨its, rv, p1, _⟩ := I1.tuple hqx
      obtain ⟨its2, rv2, p2, _⟩ := I1.tuple hqy
      obtain ⟨o1, ho1, _⟩ := id p1
      obtain ⟨o2, ho2, _⟩ := id p2
      refine call_zipT (show s1.heap.IsTuple a its.toArray from p1) (show s1.heap.IsTuple b its2.toArray from p2) fun h' hz hTI hTO h1 h2 hsz hk => PyProof.Rows.args_nil ?_
      have I2 : Inv X pins σ H1 { s1 with heap := h' } := I1.kept (t' := s1.toks) hk
      refine call_list_zip (X := X) (pins := pins) (σ := σ) (H := H1) (I1.ok.hd hc) (PySem.W.ktu_apart s1.heap.objs.size a b (Heap.lt_size ho1) (Heap.lt_size ho2)) I2 hqx hqy (fun c hcm => ?_) ⟨.inl hz, hTI, ⟨_, _, hTO⟩, h1, h2⟩ hz fun S s' H' Ts k1 k2 k3 => ?_
      · have hle : s1.heap.objs.size ≤ c := by
          simp only [List.mem_cons, List.not_mem_nil, or_false] at hcm
          rcases hcm with e | e | e | e | e <;> rw [e] <;> first | exact Nat.le_refl _ | exact Nat.le_add_right _ _
        exact I1.fpOk hle (I1.hok.fresh hle)
      · exact ⟨.ref S, _, k3, rfl, q1 S H' Ts k1 k2⟩
end Q
namespace Q
open PySem PySem.Spec PyProof.Rows L2

/-! ### what a value means -/
structure Pm where
  K : PySem.W.Frag
  aw : Option Addr
  ad : Addr
  ds : List Int
def kD : Key → D
  | .inl i => .int i
  | .inr x => .str x
mutual
inductive Rep (c : Pm) (F : Hp) : V → D → Prop
  | non : Rep c F .non .none
  | bl (b : Bool) : Rep c F (.bl b) (.bool b)
  | int (i : Int) : Rep c F (.int i) (.int i)
  | str (x : Str) : Rep c F (.str x) (.str x)
  | lst {a : Addr} {vs : List V} {ds : List D} : F a = some (.lst vs) → RepL c F vs ds → Rep c F (.ref a) (.list ds)
  | tup {a : Addr} {vs : List V} {ds : List D} : F a = some (.tup vs) → RepL c F vs ds → Rep c F (.ref a) (.tuple ds)
  | dic {a : Addr} {kvs : List (Key × V)} {kds : List (D × D)} : Rd F a (.dK kvs) → RepK c F kvs kds → Rep c F (.ref a) (.dict kds)
  | tape {a : Addr} : c.aw = some a → Rep c F (.ref a) tapeD
  | dit {a : Addr} {kvs : List (List Key × V)} {kds : List (D × D)} : Rd F a (.dT kvs) → RepT c F kvs kds → Rep c F (.ref a) (.dict ((.none, .bool true) :: kds))
inductive RepL (c : Pm) (F : Hp) : List V → List D → Prop
  | nil : RepL c F [] []
  | cons {v : V} {vs : List V} {d : D} {ds : List D} : Rep c F v d → RepL c F vs ds → RepL c F (v :: vs) (d :: ds)
inductive RepK (c : Pm) (F : Hp) : List (Key × V) → List (D × D) → Prop
  | nil : RepK c F [] []
  | cons {k : Key} {v : V} {kvs : List (Key × V)} {d : D} {kds : List (D × D)} : Rep c F v d → RepK c F kvs kds → RepK c F ((k, v) :: kvs) ((kD k, d) :: kds)
inductive RepT (c : Pm) (F : Hp) : List (List Key × V) → List (D × D) → Prop
  | nil : RepT c F [] []
  | cons {k : List Key} {v : V} {kvs : List (List Key × V)} {d : D} {kds : List (D × D)} : Rep c F v d → RepT c F kvs kds → RepT c F ((k, v) :: kvs) ((.tuple (k.map kD), d) :: kds)
end
def Ext (F F' : Hp) : Prop := ∀ a o, F a = some o → F' a = some o
theorem Ext.refl (F : Hp) : Ext F F := fun _ _ h => h
theorem Ext.trans {F G H : Hp} (a : Ext F G) (b : Ext G H) : Ext F H := fun x o h => b x o (a x o h)
theorem Ext.sqt {K : PySem.W.Frag} {F F' : Hp} {a : Addr} {vs : List V} (e : Ext F F') (h : SqT K F a vs) : SqT K F' a vs := by
  rcases h with (h | ⟨o, h⟩) | h
  · exact .inl (.inl (e _ _ h))
  · exact .inl (.inr ⟨o, e _ _ h⟩)
  · exact .inr h
theorem Ext.rd {F F' : Hp} {a : Addr} {u : HO} (e : Ext F F') (h : Rd F a u) : Rd F' a u := by
  rcases h with h | ⟨o, h⟩
  · exact .inl (e _ _ h)
  · exact .inr ⟨o, e _ _ h⟩
theorem Ext.sql {K : PySem.W.Frag} {F F' : Hp} {a : Addr} {vs : List V} (e : Ext F F') (h : SqL K F a vs) : SqL K F' a vs := by
  rcases h with (h | ⟨o, h⟩) | h
  · exact .inl (.inl (e _ _ h))
  · exact .inl (.inr ⟨o, e _ _ h⟩)
  · exact .inr h
mutual
theorem Rep.mono {c : Pm} {F F' : Hp} (e : Ext F F') : ∀ {v : V} {d : D}, Rep c F v d → Rep c F' v d
  | _, _, .non => .non
  | _, _, .bl b => .bl b
  | _, _, .int i => .int i
  | _, _, .str x => .str x
  | _, _, .lst h r => .lst (e _ _ h) (RepL.mono e r)
  | _, _, .tup h r => .tup (e _ _ h) (RepL.mono e r)
  | _, _, .dic h r => .dic (e.rd h) (RepK.mono e r)
  | _, _, .tape h => .tape h
  | _, _, .dit h r => .dit (e.rd h) (RepT.mono e r)
theorem RepL.mono {c : Pm} {F F' : Hp} (e : Ext F F') : ∀ {v : List V} {d : List D}, RepL c F v d → RepL c F' v d
  | _, _, .nil => .nil
  | _, _, .cons h r => .cons (Rep.mono e h) (RepL.mono e r)
theorem RepK.mono {c : Pm} {F F' : Hp} (e : Ext F F') : ∀ {v : List (Key × V)} {d : List (D × D)}, RepK c F v d → RepK c F' v d
  | _, _, .nil => .nil
  | _, _, .cons h r => .cons (Rep.mono e h) (RepK.mono e r)
theorem RepT.mono {c : Pm} {F F' : Hp} (e : Ext F F') : ∀ {v : List (List Key × V)} {d : List (D × D)}, RepT c F v d → RepT c F' v d
  | _, _, .nil => .nil
  | _, _, .cons h r => .cons (Rep.mono e h) (RepT.mono e r)
end
section
variable {c : Pm} {F F' : Hp}
theorem RepL.length : ∀ {vs : List V} {ds : List D}, RepL c F vs ds → vs.length = ds.length
  | _, _, .nil => rfl
  | _, _, .cons _ r => by rw [List.length_cons, List.length_cons, RepL.length r]
theorem RepL.app : ∀ {vs : List V} {ds : List D} {ws : List V} {es : List D}, RepL c F vs ds → RepL c F ws es → RepL c F (vs ++ ws) (ds ++ es)
  | _, _, _, _, .nil, s => s
  | _, _, _, _, .cons h r, s => .cons h (RepL.app r s)
theorem RepL.reverse : ∀ {vs : List V} {ds : List D}, RepL c F vs ds → RepL c F vs.reverse ds.reverse
  | _, _, .nil => .nil
  | _, _, .cons h r => by
    rw [List.reverse_cons, List.reverse_cons]
    exact RepL.app (RepL.reverse r) (.cons h .nil)
theorem RepL.one {v : V} {d : D} (h : Rep c F v d) : RepL c F [v] [d] := .cons h .nil
theorem RepL.get : ∀ {vs : List V} {ds : List D} {i : Nat} {d : D}, RepL c F vs ds → ds[i]? = some d → ∃ v, vs[i]? = some v ∧ Rep c F v d
  | _, _, _, _, .nil, e => by simp at e
  | _, _, 0, _, .cons h r, e => by
    simp at e
    subst e
    exact ⟨_, rfl, h⟩
  | _, _, i + 1, d, .cons h r, e => by
    obtain ⟨v, h1, h2⟩ := RepL.get (i := i) (d := d) r (by simpa using e)
    exact ⟨v, by simpa using h1, h2⟩
theorem RepL.get' : ∀ {vs : List V} {ds : List D} {i : Nat} {v : V}, RepL c F vs ds → vs[i]? = some v → ∃ d, ds[i]? = some d ∧ Rep c F v d
  | _, _, _, _, .nil, e => by simp at e
  | _, _, 0, _, .cons h r, e => by
    simp at e
    subst e
    exact ⟨_, rfl, h⟩
  | _, _, i + 1, d, .cons h r, e => by
    obtain ⟨v, h1, h2⟩ := RepL.get' (i := i) (v := d) r (by simpa using e)
    exact ⟨v, by simpa using h1, h2⟩
theorem RepL.take : ∀ {vs : List V} {ds : List D} (n : Nat), RepL c F vs ds → RepL c F (vs.take n) (ds.take n)
  | _, _, 0, _ => .nil
  | _, _, _ + 1, .nil => .nil
  | _, _, n + 1, .cons r t => .cons r (RepL.take n t)
theorem RepL.drop : ∀ {vs : List V} {ds : List D} (n : Nat), RepL c F vs ds → RepL c F (vs.drop n) (ds.drop n)
  | _, _, 0, r => r
  | _, _, _ + 1, .nil => .nil
  | _, _, n + 1, .cons _ t => RepL.drop n t
theorem RepL.set {v : V} {d : D} (r : Rep c F v d) : ∀ {xs : List V} {us : List D} (i : Nat), RepL c F xs us → RepL c F (xs.set i v) (us.set i d)
  | _, _, _, .nil => .nil
  | _, _, 0, .cons _ t => .cons r t
  | _, _, i + 1, .cons q t => .cons q (RepL.set r i t)
theorem RepL.rep {xs : List V} {us : List D} (h : RepL c F xs us) : ∀ k : Nat, RepL c F (List.replicate k xs).flatten (List.replicate k us).flatten
  | 0 => .nil
  | k + 1 => by
    rw [List.replicate_succ, List.replicate_succ, List.flatten_cons, List.flatten_cons]
    exact h.app (RepL.rep h k)
theorem RepL.nil_iff {vs : List V} {ds : List D} (h : RepL c F vs ds) : vs = [] ↔ ds = [] := by
  cases h <;> simp
mutual
theorem Rep.sc : ∀ {v : V} {d : D}, isSc d = true → Rep c F v d → Rep c F' v d
  | _, _, _, .non => .non
  | _, _, _, .bl b => .bl b
  | _, _, _, .int i => .int i
  | _, _, _, .str x => .str x
  | _, _, e, .lst _ _ => by simp [isSc] at e
  | _, _, e, .tup _ _ => by simp [isSc] at e
  | _, _, e, .dic _ _ => by simp [isSc] at e
  | _, _, e, .tape _ => by simp [isSc, tapeD] at e
  | _, _, e, .dit _ _ => by simp [isSc] at e
end
/-- the top of a list or dict, wherever it stands -/
def Top (c : Pm) (F H : Hp) (a : Addr) (d : D) : Prop := match d with
  | .list ds => ∃ vs, H a = some (.lst vs) ∧ RepL c F vs ds
  | .dict kds => c.aw ≠ some a ∧ ((∃ kvs, H a = some (.dK kvs) ∧ RepK c F kvs kds) ∨ ∃ kvs xs, kds = (.none, .bool true) :: xs ∧ H a = some (.dT kvs) ∧ RepT c F kvs xs)
  | _ => False
def TopR (c : Pm) (F H : Hp) (a : Addr) (d : D) : Prop := match d with
  | .list ds => ∃ vs, SqL c.K H a vs ∧ RepL c F vs ds
  | _ => False
/-- a result: H0 the heap ahead of it -/
def RR (c : Pm) (H0 F H : Hp) (v : V) (r : R) : Prop := match r.kd with
  | .sh => Rep c F v r.d
  | .fr => ∃ a, v = .ref a ∧ H0 a = none ∧ F a = none ∧ Top c F H a r.d
  | .pk => ∃ a, v = .ref a ∧ F a = none ∧ Top c F H a r.d
  | .ro => ∃ a, v = .ref a ∧ TopR c F H a r.d
def Tape (c : Pm) (F H : Hp) (t : Nat) : Prop := match c.aw with
  | none => True
  | some a => H a = some (.dK [(.inr "draws", .ref c.ad), (.inr "at", .int (t : Int))]) ∧ F a = none ∧ F c.ad = some (.lst (c.ds.map V.int))
structure Grow (c : Pm) (F H F' H' : Hp) : Prop where
  ex : Ext F F'
  hx : ∀ a o, c.aw ≠ some a → H a = some o → H' a = some o
  nw : ∀ a, F a = none → F' a ≠ none → H a = none
  sub : Ext F' H'
  aw : ∀ a, c.aw = some a → H a ≠ none
  aw' : ∀ a, c.aw = some a → H' a ≠ none
theorem Grow.refl {H : Hp} (s : Ext F H) (w : ∀ a, c.aw = some a → H a ≠ none) : Grow c F H F H := ⟨Ext.refl _, fun _ _ _ h => h, fun a h h' => absurd h h', s, w, w⟩
theorem Tape.som {H : Hp} {t : Nat} {a : Addr} (h : Tape c F H t) (e : c.aw = some a) : H a = some (.dK [(.inr "draws", .ref c.ad), (.inr "at", .int (t : Int))]) ∧ F a = none ∧ F c.ad = some (.lst (c.ds.map V.int)) := by
  unfold Tape at h
  rw [e] at h
  exact h
theorem Tape.there {H : Hp} {t : Nat} (h : Tape c F H t) : ∀ a, c.aw = some a → H a ≠ none := fun a e => by
  rw [(h.som e).1]
  simp
theorem Grow.trans {H H' F'' H'' : Hp} (g : Grow c F H F' H') (k : Grow c F' H' F'' H'') : Grow c F H F'' H'' := by
  refine ⟨g.ex.trans k.ex, fun a o n h => k.hx a o n (g.hx a o n h), fun a h h' => ?_, k.sub, g.aw, k.aw'⟩
  by_cases e : F' a = none
  · have q := k.nw a e h'
    cases hq : H a with
    | none => rfl
    | some o =>
      by_cases n : c.aw = some a
      · exact absurd q (k.aw a n)
      · rw [g.hx a o n hq] at q
        cases q
  · exact g.nw a h e
/-- what is not caught stays so -/
theorem Grow.free {H H' : Hp} {a : Addr} {o : HO} (g : Grow c F H F' H') (h : F a = none) (hH : H a = some o) : F' a = none := by
  cases q : F' a with
  | none => rfl
  | some u =>
    have := g.nw a h (by rw [q]; simp)
    rw [this] at hH
    cases hH
theorem Tape.of {H H' : Hp} {t t' : Nat} (g : Grow c F H F' H') (h : Tape c F H t) (h' : ∀ a, c.aw = some a → H' a = some (.dK [(.inr "draws", .ref c.ad), (.inr "at", .int (t' : Int))])) : Tape c F' H' t' := by
  unfold Tape at h ⊢
  cases e : c.aw with
  | none => trivial
  | some a =>
    rw [e] at h
    have h : H a = some (.dK [(.inr "draws", .ref c.ad), (.inr "at", .int (t : Int))]) ∧ F a = none ∧ F c.ad = some (.lst (c.ds.map V.int)) := h
    exact ⟨h' a e, g.free h.2.1 h.1, g.ex _ _ h.2.2⟩
theorem Top.ne {H : Hp} {a : Addr} {d : D} {t : Nat} (h : Top c F H a d) (tp : Tape c F H t) : c.aw ≠ some a := fun e => by
  have tp := tp.som e
  unfold Top at h
  split at h
  · obtain ⟨vs, h, _⟩ := h
    rw [h] at tp
    cases tp.1
  · exact h.1 e
  · exact h
theorem Top.at {H : Hp} {a : Addr} {d : D} (h : Top c F H a d) : ∃ o, H a = some o := by
  unfold Top at h
  split at h
  · obtain ⟨vs, h, _⟩ := h
    exact ⟨_, h⟩
  · obtain ⟨_, ⟨vs, h, _⟩ | ⟨vs, _, _, h, _⟩⟩ := h
    · exact ⟨_, h⟩
    · exact ⟨_, h⟩
  · exact h.elim
theorem Top.grow {H H' : Hp} {a : Addr} {d : D} (g : Grow c F H F' H') (h : Top c F H a d) (n : c.aw ≠ some a) : Top c F' H' a d := by
  unfold Top at h ⊢
  split
  · obtain ⟨vs, h, r⟩ := h
    exact ⟨vs, g.hx _ _ n h, r.mono g.ex⟩
  · obtain ⟨_, ⟨vs, h, r⟩ | ⟨vs, xs, e, h, r⟩⟩ := h
    · exact ⟨n, .inl ⟨vs, g.hx _ _ n h, r.mono g.ex⟩⟩
    · exact ⟨n, .inr ⟨vs, xs, e, g.hx _ _ n h, r.mono g.ex⟩⟩
  · rename_i h1 h2
    cases d <;> first | exact h | (exact absurd rfl (h1 _)) | (exact absurd rfl (h2 _))
theorem TopR.grow {H H' : Hp} {a : Addr} {d : D} {t : Nat} (g : Grow c F H F' H') (tp : Tape c F H t) (h : TopR c F H a d) : TopR c F' H' a d := by
  unfold TopR at h ⊢
  split
  · obtain ⟨vs, h, r⟩ := h
    refine ⟨vs, ?_, r.mono g.ex⟩
    have ne : ∀ u, H a = some u → (∀ kvs, u ≠ .dK kvs) → c.aw ≠ some a := fun u hu hd e => by
      have tp := tp.som e
      rw [tp.1] at hu
      cases hu
      exact hd _ rfl
    rcases h with (h | ⟨o, h⟩) | h
    · exact .inl (.inl (g.hx _ _ (ne _ h (by intro _ z; cases z)) h))
    · exact .inl (.inr ⟨o, g.hx _ _ (ne _ h (by intro _ z; cases z)) h⟩)
    · exact .inr h
  · rename_i h1
    cases d <;> first | exact h | (exact absurd rfl (h1 _))
theorem RR.grow {H0 H H' : Hp} {v : V} {r : R} {t : Nat} (g : Grow c F H F' H') (tp : Tape c F H t) (h : RR c H0 F H v r) : RR c H0 F' H' v r := by
  unfold RR at h ⊢
  split
  · rename_i e
    rw [e] at h
    exact Rep.mono g.ex h
  · rename_i e
    rw [e] at h
    obtain ⟨a, e1, e2, e3, h⟩ := h
    obtain ⟨o, ho⟩ := h.at
    exact ⟨a, e1, e2, g.free e3 ho, h.grow g (h.ne tp)⟩
  · rename_i e
    rw [e] at h
    obtain ⟨a, e1, e3, h⟩ := h
    obtain ⟨o, ho⟩ := h.at
    exact ⟨a, e1, g.free e3 ho, h.grow g (h.ne tp)⟩
  · rename_i e
    rw [e] at h
    obtain ⟨a, e1, h⟩ := h
    exact ⟨a, e1, h.grow g tp⟩
/-- from a heap further back -/
theorem RR.back {H1 H0 H : Hp} {v : V} {r : R} (h : RR c H1 F H v r) (b : ∀ a, H1 a = none → H0 a = none) : RR c H0 F H v r := by
  unfold RR at h ⊢
  split
  · rename_i e
    rw [e] at h
    exact h
  · rename_i e
    rw [e] at h
    obtain ⟨a, e1, e2, e3, h⟩ := h
    exact ⟨a, e1, b a e2, e3, h⟩
  · rename_i e
    rw [e] at h
    exact h
  · rename_i e
    rw [e] at h
    exact h
theorem Grow.back {H H' : Hp} (g : Grow c F H F' H') : ∀ a, H' a = none → H a = none := fun a h => by
  cases q : H a with
  | none => rfl
  | some o =>
    by_cases n : c.aw = some a
    · exact absurd h (g.aw' a n)
    · rw [g.hx a o n q] at h
      cases h
end
end Q
namespace Q
open PySem PySem.Spec PyProof.Rows L2

/-! ### the state of a def's body -/
def SlOk (c : Pm) (H0 F H : Hp) (o : Option (Option V)) : Sl → Prop
  | .un => True
  | .sh d => ∃ v, o = some (some v) ∧ Rep c F v d
  | .ow d => ∃ a, o = some (some (.ref a)) ∧ H0 a = none ∧ F a = none ∧ Top c F H a d
  | .ro d => ∃ a vs ds, o = some (some (.ref a)) ∧ d = .list ds ∧ ((∃ ob, H a = some (.frz ob (.lst vs))) ∨ SqL c.K (fun _ => none) a vs) ∧ RepL c F vs ds
structure SR (c : Pm) (F0 H0 F H : Hp) (σ : L2.St) (ρ : Env) (t : Nat) : Prop where
  g : Grow c F0 H0 F H
  tp : Tape c F H t
  len : ρ.length = σ.length
  sl : ∀ (i : Nat) (s : Sl), ρ[i]? = some s → SlOk c H0 F H σ[i]? s
  ap : ∀ (i j : Nat) (d d' : D), i ≠ j → ρ[i]? = some (.ow d) → ρ[j]? = some (.ow d') → σ[i]? ≠ σ[j]?
section
variable {c : Pm} {F0 H0 F H F' H' : Hp} {σ : L2.St} {ρ : Env} {t t' : Nat}
theorem SlOk.grow {o : Option (Option V)} {s : Sl} (g : Grow c F H F' H') (tp : Tape c F H t) (h : SlOk c H0 F H o s) : SlOk c H0 F' H' o s := by
  cases s with
  | un => trivial
  | sh d =>
    obtain ⟨v, e, r⟩ := h
    exact ⟨v, e, r.mono g.ex⟩
  | ow d =>
    obtain ⟨a, e, n, f, r⟩ := h
    obtain ⟨o, ho⟩ := r.at
    exact ⟨a, e, n, g.free f ho, r.grow g (r.ne tp)⟩
  | ro d =>
    obtain ⟨a, vs, ds, e, e2, q, r⟩ := h
    refine ⟨a, vs, ds, e, e2, ?_, r.mono g.ex⟩
    rcases q with ⟨ob, q⟩ | q
    · refine .inl ⟨ob, g.hx _ _ (fun z => ?_) q⟩
      rw [(tp.som z).1] at q
      cases q
    · exact .inr q
theorem SR.grow (S : SR c F0 H0 F H σ ρ t) (g : Grow c F H F' H') (tp : Tape c F' H' t') : SR c F0 H0 F' H' σ ρ t' :=
  ⟨S.g.trans g, tp, S.len, fun i s e => (S.sl i s e).grow g S.tp, S.ap⟩
theorem SR.refl (S : SR c F0 H0 F H σ ρ t) : Grow c F H F H := Grow.refl S.g.sub S.tp.there
/-- reading a slot -/
theorem SR.get {i : Nat} {r : R} (S : SR c F0 H0 F H σ ρ t) (e : getS ρ i = some r) : ∃ v, σ[i]? = some (some v) ∧ RR c H F H v r := by
  unfold getS at e
  cases q : ρ[i]? with
  | none => rw [q] at e; cases e
  | some s =>
    rw [q] at e
    have h := S.sl i s q
    cases s with
    | un => cases e
    | sh d =>
      cases e
      obtain ⟨v, e1, r1⟩ := h
      exact ⟨v, e1, r1⟩
    | ow d =>
      cases e
      obtain ⟨a, e1, _, f, r1⟩ := h
      exact ⟨_, e1, a, rfl, f, r1⟩
    | ro d =>
      cases e
      obtain ⟨a, vs, ds, e1, rfl, q, r1⟩ := h
      refine ⟨_, e1, a, rfl, vs, ?_, r1⟩
      rcases q with ⟨ob, q⟩ | q | q
      · exact .inl (.inr ⟨ob, q⟩)
      · rcases q with q | ⟨_, q⟩ <;> cases q
      · exact .inr q

/-! ### what is new becomes a part of what stays -/
def frz1 (F H : Hp) (a : Addr) : Hp := fun b => if b = a then H a else F b
theorem frz1_ext {a : Addr} (h : F a = none) : Ext F (frz1 F H a) := fun b o e => by
  have n : b ≠ a := fun z => by rw [z, h] at e; cases e
  unfold frz1
  rw [if_neg n]
  exact e
theorem frz1_sub {a : Addr} (s : Ext F H) : Ext (frz1 F H a) H := fun b o e => by
  unfold frz1 at e
  by_cases n : b = a
  · rw [if_pos n] at e
    rw [n]
    exact e
  · rw [if_neg n] at e
    exact s b o e
theorem Top.rep {a : Addr} {d : D} (h : Top c F H a d) (f : F a = none) : Rep c (frz1 F H a) (.ref a) d := by
  unfold Top at h
  split at h
  · obtain ⟨vs, h, r⟩ := h
    exact .lst (by unfold frz1; rw [if_pos rfl]; exact h) (r.mono (frz1_ext f))
  · obtain ⟨_, ⟨vs, h, r⟩ | ⟨vs, xs, rfl, h, r⟩⟩ := h
    · exact .dic (.inl (by unfold frz1; rw [if_pos rfl]; exact h)) (r.mono (frz1_ext f))
    · exact .dit (.inl (by unfold frz1; rw [if_pos rfl]; exact h)) (r.mono (frz1_ext f))
  · exact h.elim
theorem Tape.frz {a : Addr} (tp : Tape c F H t) (f : F a = none) (n : c.aw ≠ some a) : Tape c (frz1 F H a) H t := by
  unfold Tape
  cases e : c.aw with
  | none => trivial
  | some b =>
    obtain ⟨h1, h2, h3⟩ := tp.som e
    refine ⟨h1, ?_, frz1_ext f _ _ h3⟩
    unfold frz1
    rw [if_neg (fun z => n (by rw [e, z]))]
    exact h2
theorem Grow.frz {a : Addr} (g : Grow c F H F' H') (f : F' a = none) (n : H a = none) : Grow c F H (frz1 F' H' a) H' :=
  ⟨g.ex.trans (frz1_ext f), g.hx, fun b h h' => by
    by_cases e : b = a
    · rw [e]; exact n
    · unfold frz1 at h'
      rw [if_neg e] at h'
      exact g.nw b h h', frz1_sub g.sub, g.aw, g.aw'⟩
theorem shared_sh {r : R} {d : D} (e : shared r = some d) : r.d = d ∧ (r.kd = .sh ∨ r.kd = .fr) := by
  unfold shared at e
  split at e <;> first | (cases e; exact ⟨rfl, by first | exact .inl (by assumption) | exact .inr (by assumption)⟩) | cases e
/-- one result becomes shared -/
theorem RR.share {v : V} {r : R} {d : D} (h : RR c H F' H' v r) (e : shared r = some d) (g : Grow c F H F' H') (tp : Tape c F' H' t) :
    ∃ F2, Grow c F H F2 H' ∧ Tape c F2 H' t ∧ Rep c F2 v d ∧ Ext F' F2 ∧ Grow c F' H' F' H' ∧ (∀ b, F' b = none → F2 b ≠ none → H b = none) := by
  obtain ⟨ed, k⟩ := shared_sh e
  subst ed
  have gg : Grow c F' H' F' H' := Grow.refl g.sub tp.there
  unfold RR at h
  rcases k with k | k <;> rw [k] at h
  · exact ⟨F', g, tp, h, Ext.refl _, gg, fun b q q' => absurd q q'⟩
  · obtain ⟨a, rfl, e1, e2, h⟩ := h
    exact ⟨frz1 F' H' a, g.frz e2 e1, tp.frz e2 (h.ne tp), h.rep e2, frz1_ext e2, gg, fun b q q' => by
      by_cases z : b = a
      · rw [z]; exact e1
      · unfold frz1 at q'
        rw [if_neg z] at q'
        exact absurd q q'⟩
end
/-! ### results one behind another -/
inductive RRL (c : Pm) (H0 F H : Hp) : List V → List R → Prop
  | nil : RRL c H0 F H [] []
  | cons {v : V} {vs : List V} {r : R} {rs : List R} : RR c H0 F H v r → RRL c H0 F H vs rs → (r.kd = .fr → ∀ (i : Nat) (u : V) (q : R), vs[i]? = some u → rs[i]? = some q → q.kd = .fr → u ≠ v) → RRL c H0 F H (v :: vs) (r :: rs)
section
variable {c : Pm} {F0 H0 F H F' H' : Hp} {σ : L2.St} {ρ : Env} {t t' : Nat}
theorem Top.monoF {a : Addr} {d : D} {F2 : Hp} (h : Top c F H a d) (e : Ext F F2) : Top c F2 H a d := by
  cases d <;> first | exact h | skip
  · obtain ⟨vs, h, r⟩ := h
    exact ⟨vs, h, r.mono e⟩
  · obtain ⟨n, ⟨vs, h, r⟩ | ⟨vs, xs, z, h, r⟩⟩ := h
    · exact ⟨n, .inl ⟨vs, h, r.mono e⟩⟩
    · exact ⟨n, .inr ⟨vs, xs, z, h, r.mono e⟩⟩
/-- the top stands in the part that stays -/
theorem Top.rep' {a : Addr} {d : D} {F2 : Hp} (h : Top c F2 H a d) (f : F2 a = H a) : Rep c F2 (.ref a) d := by
  unfold Top at h
  split at h
  · obtain ⟨vs, h, r⟩ := h
    exact .lst (by rw [f]; exact h) r
  · obtain ⟨_, ⟨vs, h, r⟩ | ⟨vs, xs, rfl, h, r⟩⟩ := h
    · exact .dic (.inl (by rw [f]; exact h)) r
    · exact .dit (.inl (by rw [f]; exact h)) r
  · exact h.elim
/-- all of a row become shared -/
theorem RRL.share {t : Nat} : ∀ {vs : List V} {rs : List R} {ds : List D} {F' : Hp}, RRL c H F' H' vs rs → rs.mapM shared = some ds → Grow c F H F' H' → Tape c F' H' t →
    ∃ F2, Grow c F H F2 H' ∧ Tape c F2 H' t ∧ RepL c F2 vs ds ∧ Ext F' F2 ∧ (∀ a, F2 a = F' a ∨ (F' a = none ∧ H a = none ∧ F2 a = H' a))
  | _, _, ds, F', .nil, e, g, tp => by
    have e : some [] = some ds := e
    cases e
    exact ⟨F', g, tp, .nil, Ext.refl _, fun a => .inl rfl⟩
  | _, _, ds, F', .cons (v := v) (r := r) (rs := rs) h hs _, e, g, tp => by
    rw [List.mapM_cons] at e
    cases e1 : shared r with
    | none => rw [e1] at e; cases e
    | some d =>
      rw [e1] at e
      cases e2 : rs.mapM shared with
      | none => rw [e2] at e; cases e
      | some ds' =>
        rw [e2] at e
        have e : some (d :: ds') = some ds := e
        cases e
        obtain ⟨F2, g2, tp2, r2, x2, k2⟩ := RRL.share hs e2 g tp
        obtain ⟨ed, k⟩ := shared_sh e1
        subst ed
        unfold RR at h
        rcases k with k | k <;> rw [k] at h
        · exact ⟨F2, g2, tp2, .cons (Rep.mono x2 h) r2, x2, k2⟩
        · obtain ⟨a, rfl, q1, q2, h⟩ := h
          have hT : Top c F2 H' a r.d := h.monoF x2
          have ne := hT.ne tp2
          by_cases q3 : F2 a = none
          · refine ⟨frz1 F2 H' a, g2.frz q3 q1, tp2.frz q3 ne, .cons (hT.rep q3) (r2.mono (frz1_ext q3)), x2.trans (frz1_ext q3), fun b => ?_⟩
            by_cases z : b = a
            · subst z
              exact .inr ⟨q2, q1, by unfold frz1; rw [if_pos rfl]⟩
            · rcases k2 b with w | w
              · exact .inl (by unfold frz1; rw [if_neg z]; exact w)
              · exact .inr ⟨w.1, w.2.1, by unfold frz1; rw [if_neg z]; exact w.2.2⟩
          · have q4 : F2 a = H' a := by
              rcases k2 a with w | w
              · rw [w] at q3
                exact absurd q2 q3
              · exact w.2.2
            exact ⟨F2, g2, tp2, .cons (hT.rep' q4) r2, x2, k2⟩
theorem RRL.grow {H0 : Hp} {t : Nat} (g : Grow c F H F' H') (tp : Tape c F H t) : ∀ {vs : List V} {rs : List R}, RRL c H0 F H vs rs → RRL c H0 F' H' vs rs
  | _, _, .nil => .nil
  | _, _, .cons h r d => .cons (h.grow g tp) (RRL.grow g tp r) d
theorem RRL.back {H1 H0 H : Hp} (b : ∀ a, H1 a = none → H0 a = none) : ∀ {vs : List V} {rs : List R}, RRL c H1 F H vs rs → RRL c H0 F H vs rs
  | _, _, .nil => .nil
  | _, _, .cons h r d => .cons (h.back b) (RRL.back b r) d
theorem RRL.get {H0 : Hp} : ∀ {vs : List V} {rs : List R} {i : Nat} {u : V} {q : R}, RRL c H0 F H vs rs → vs[i]? = some u → rs[i]? = some q → RR c H0 F H u q
  | _, _, _, _, _, .nil, e, _ => by simp at e
  | _, _, 0, _, _, .cons h r _, e, e2 => by
    simp at e e2
    subst e e2
    exact h
  | _, _, i + 1, _, _, .cons h r _, e, e2 => RRL.get (i := i) r (by simpa using e) (by simpa using e2)
theorem RRL.length {H0 : Hp} : ∀ {vs : List V} {rs : List R}, RRL c H0 F H vs rs → vs.length = rs.length
  | _, _, .nil => rfl
  | _, _, .cons h r _ => by rw [List.length_cons, List.length_cons, RRL.length r]
end

/-! ### readings -/
/-- what is wanted behind an expression -/
def Post (c : Pm) (F H : Hp) (r : R) (t : Nat) (Q : VK) : Prop := ∀ v F' H', Grow c F H F' H' → Tape c F' H' t → RR c H F' H' v r → Q v H'
def PostL (c : Pm) (F H : Hp) (rs : List R) (t : Nat) (Q : List V → Hp → Prop) : Prop := ∀ vs F' H', Grow c F H F' H' → Tape c F' H' t → RRL c H F' H' vs rs → Q vs H'
def PostT (c : Pm) (F H : Hp) (t : Nat) (Q : Hp → Prop) : Prop := ∀ F' H', Grow c F H F' H' → Tape c F' H' t → Q H'
def mE (c : Pm) (m : Env → M R) : TE := fun σ H Q => ∃ F0 H0 F ρ t r t', SR c F0 H0 F H σ ρ t ∧ m ρ t = some (r, t') ∧ Post c F H r t' Q
def mL (c : Pm) (m : Env → M (List R)) : TA := fun σ H Q => ∃ F0 H0 F ρ t r t', SR c F0 H0 F H σ ρ t ∧ m ρ t = some (r, t') ∧ PostL c F H r t' Q
def mT (c : Pm) (m : Env → M Bool) : TT := fun σ H Q => ∃ F0 H0 F ρ t b t', SR c F0 H0 F H σ ρ t ∧ m ρ t = some (b, t') ∧ PostT c F H t' (Q b)
def mO (c : Pm) (m : Env → M (Option Int)) : L2.TO := fun σ H Q => ∃ F0 H0 F ρ t b t', SR c F0 H0 F H σ ρ t ∧ m ρ t = some (b, t') ∧ PostT c F H t' (Q b)
theorem PE.weak {X : Cx} {e : Expr} {te te' : TE} (h : PE X e te) (w : ∀ σ H Q, te' σ H Q → te σ H Q) : PE X e te' := ⟨fun pins s σ H Q I q => h.run pins s σ H Q I (w σ H Q q)⟩
theorem PT.weak {X : Cx} {e : Expr} {te te' : TT} (h : PT X e te) (w : ∀ σ H Q, te' σ H Q → te σ H Q) : PT X e te' := ⟨fun pins s σ H Q I q => h.run pins s σ H Q I (w σ H Q q)⟩
theorem PW.weak {X : Cx} {e : Expr} {te te' : TT} (h : PW X e te) (w : ∀ σ H Q, te' σ H Q → te σ H Q) : PW X e te' := ⟨fun wh pins s σ H Q I q => h.run wh pins s σ H Q I (w σ H Q q)⟩
theorem PA.weak {X : Cx} {e : List Expr} {te te' : TA} (h : PA X e te) (w : ∀ σ H Q, te' σ H Q → te σ H Q) : PA X e te' := ⟨fun p pins s σ H Q I q => h.run p pins s σ H Q I (w σ H Q q)⟩
theorem PS.weak {X : Cx} {e : Stmt} {te te' : TS} (h : PS X e te) (w : ∀ Dn σ H, te' Dn σ H → te Dn σ H) : PS X e te' := ⟨fun pins s σ H Dn I q => h.run pins s σ H Dn I (w Dn σ H q)⟩
theorem PSs.weak {X : Cx} {e : List Stmt} {te te' : TS} (h : PSs X e te) (w : ∀ Dn σ H, te' Dn σ H → te Dn σ H) : PSs X e te' := ⟨fun pins s σ H Dn I q => h.run pins s σ H Dn I (w Dn σ H q)⟩
theorem bnd_some {α β : Type} {m : M α} {f : α → M β} {t : Nat} {r : β × Nat} (h : bnd m f t = some r) : ∃ a t', m t = some (a, t') ∧ f a t' = some r := by
  unfold bnd at h
  cases q : m t with
  | none => rw [q] at h; cases h
  | some p =>
    obtain ⟨a, t'⟩ := p
    rw [q] at h
    exact ⟨a, t', rfl, h⟩
theorem opt_some {α : Type} {o : Option α} {t : Nat} {a : α} {t' : Nat} (h : opt o t = some (a, t')) : o = some a ∧ t' = t := by
  unfold opt at h
  cases o with
  | none => cases h
  | some b =>
    cases h
    exact ⟨rfl, rfl⟩
section
variable {c : Pm} {F0 H0 F H F' H' : Hp} {σ : L2.St} {ρ : Env} {t t1 t2 t' : Nat}
/-- one operand, then K -/
theorem one {m : Env → M R} {x : R} {Q : VK} (S : SR c F0 H0 F H σ ρ t) (e : m ρ t = some (x, t1))
    (k : ∀ v F1 H1, Grow c F H F1 H1 → Tape c F1 H1 t1 → SR c F0 H0 F1 H1 σ ρ t1 → RR c H F1 H1 v x → Q v H1) : mE c m σ H Q :=
  ⟨F0, H0, F, ρ, t, x, t1, S, e, fun v F1 H1 g tp r => k v F1 H1 g tp (S.grow g tp) r⟩
theorem two {m n : Env → M R} {x y : R} {Q : V → V → Hp → Prop} (S : SR c F0 H0 F H σ ρ t) (e : m ρ t = some (x, t1)) (e2 : n ρ t1 = some (y, t2))
    (k : ∀ v u F1 H1, Grow c F H F1 H1 → Tape c F1 H1 t2 → SR c F0 H0 F1 H1 σ ρ t2 → RR c H F1 H1 v x → RR c H F1 H1 u y → Q v u H1) : mE c m σ H (fun v H1 => mE c n σ H1 fun u H2 => Q v u H2) :=
  one S e fun v F1 H1 g tp S1 r => one S1 e2 fun u F2 H2 g2 tp2 S2 r2 => k v u F2 H2 (g.trans g2) tp2 S2 (r.grow g2 tp) (r2.back g.back)
theorem oneT {m : Env → M Bool} {b : Bool} {Q : Bool → Hp → Prop} (S : SR c F0 H0 F H σ ρ t) (e : m ρ t = some (b, t1))
    (k : ∀ F1 H1, Grow c F H F1 H1 → Tape c F1 H1 t1 → SR c F0 H0 F1 H1 σ ρ t1 → Q b H1) : mT c m σ H Q :=
  ⟨F0, H0, F, ρ, t, b, t1, S, e, fun F1 H1 g tp => k F1 H1 g tp (S.grow g tp)⟩
/-- what is wanted, from further on -/
theorem Post.on {r : R} {Q : VK} (p : Post c F H r t Q) (g : Grow c F H F' H') : Post c F' H' r t Q := fun v F2 H2 g2 tp2 r2 => p v F2 H2 (g.trans g2) tp2 (r2.back g.back)
theorem Post.sh {d : D} {Q : VK} {v : V} (p : Post c F H ⟨.sh, d⟩ t Q) (g : Grow c F H F' H') (tp : Tape c F' H' t) (r : Rep c F' v d) : Q v H' := p v F' H' g tp r
/-- a new object is laid -/
theorem Grow.laid {a : Addr} {o : HO} (g : Grow c F H F' H') (n : H' a = none) : Grow c F H F' (upd H' a o) := by
  have hH := g.back a n
  refine ⟨g.ex, fun b u q h => ?_, g.nw, fun b u q => ?_, g.aw, fun b e => ?_⟩
  · have h' := g.hx b u q h
    rw [upd_ne (ne_of_none h' n)]
    exact h'
  · have h' := g.sub b u q
    rw [upd_ne (ne_of_none h' n)]
    exact h'
  · by_cases z : b = a
    · rw [z, upd_same]; simp
    · rw [upd_ne z]; exact g.aw' b e
theorem Tape.laid {a : Addr} {o : HO} (tp : Tape c F H t) (n : H a = none) : Tape c F (upd H a o) t := by
  unfold Tape
  cases e : c.aw with
  | none => trivial
  | some b =>
    obtain ⟨h1, h2, h3⟩ := tp.som e
    refine ⟨?_, h2, h3⟩
    rw [upd_ne (ne_of_none h1 n)]
    exact h1
theorem Grow.noF {a : Addr} (g : Grow c F H F' H') (n : H' a = none) : F' a = none := by
  cases q : F' a with
  | none => rfl
  | some o =>
    have := g.sub a o q
    rw [n] at this
    cases this
/-- a new tuple is laid, and stays -/
theorem Post.tup {ds : List D} {vs : List V} {Q : VK} (p : Post c F H ⟨.sh, .tuple ds⟩ t Q) (g : Grow c F H F' H') (tp : Tape c F' H' t) (r : RepL c F' vs ds) : ∀ a, H' a = none → Q (.ref a) (upd H' a (.tup vs)) := fun a n => by
  have f := g.noF n
  have g' : Grow c F H (frz1 F' (upd H' a (.tup vs)) a) (upd H' a (.tup vs)) := (g.laid n).frz f (g.back a n)
  have ne : c.aw ≠ some a := fun e => absurd n (g.aw' a e)
  refine p _ _ _ g' ((tp.laid n).frz f ne) (Rep.tup ?_ (r.mono (frz1_ext f)))
  unfold frz1
  rw [if_pos rfl, upd_same]
/-- a new list is laid -/
theorem Post.lst {ds : List D} {vs : List V} {Q : VK} (p : Post c F H ⟨.fr, .list ds⟩ t Q) (g : Grow c F H F' H') (tp : Tape c F' H' t) (r : RepL c F' vs ds) : ∀ a, H' a = none → Q (.ref a) (upd H' a (.lst vs)) := fun a n =>
  p _ _ _ (g.laid n) (tp.laid n) ⟨a, rfl, g.back a n, g.noF n, vs, upd_same, r⟩
end
end Q
namespace Q
open PySem PySem.Spec PyProof.Rows L2
theorem lim_eq : lim = sizeLine := by decide
/-! ### tuple * int -/
theorem tuple_mulS (l : Addr) (items : Array Value) (n : Nat) (dd : Option Addr) (sl : Array (Option Value)) (x : Int) (u : Tok) (c0 : (decide (x < -(2 ^ 63)) || decide (x ≥ 2 ^ 63)) = false) (c1 : (items.isEmpty || x == 1) = true) :
    Meets (Builtin.«tuple.__mul__» ⟨[.ref l, .int x u], []⟩) (fun _ R s => s.heap.get? l = some { cls := .type "tuple", dict := dd, data := .seq items n, slots := sl } ∧
      R (.ok (.ret (Value.ref l))) s) :=
  .of_wp fun prog w A R s h => by
    obtain ⟨hp, g, d, tk, os⟩ := s
    obtain ⟨hl, h⟩ := h
    have f1 := AutoSeq1.idx_int
    wp_walk using wpAny_loadPart' hl
    repeat (first
      | (refine wpAny_ite_false (decide_eq_false (by rw [c0]; exact Bool.false_ne_true)) ?_; wp_walk using wpAny_loadPart' hl)
      | (refine wpAny_ite_true (decide_eq_true (by rw [c1])) ?_; wp_walk using wpAny_loadPart' hl))
    exact ⟨_, rfl, h⟩
theorem tuple_mul0 (l : Addr) (items : Array Value) (n : Nat) (dd : Option Addr) (sl : Array (Option Value)) (x : Int) (u : Tok) (c0 : (decide (x < -(2 ^ 63)) || decide (x ≥ 2 ^ 63)) = false) (c1 : (items.isEmpty || x == 1) = false) (c2 : (decide (x ≤ 0) || items.isEmpty) = true) :
    Meets (Builtin.«tuple.__mul__» ⟨[.ref l, .int x u], []⟩) (fun _ R s => s.heap.get? l = some { cls := .type "tuple", dict := dd, data := .seq items n, slots := sl } ∧
      R (.ok (.ret (Value.ref s.heap.objs.size))) { s with heap := s.heap.push { cls := Value.type "tuple", data := Data.seq #[] }, toks := s.toks }) :=
  .of_wp fun prog w A R s h => by
    obtain ⟨hp, g, d, tk, os⟩ := s
    obtain ⟨hl, h⟩ := h
    have f1 := AutoSeq1.idx_int
    wp_walk using wpAny_loadPart' hl
    repeat (first
      | (refine wpAny_ite_false (decide_eq_false (by rw [c0]; exact Bool.false_ne_true)) ?_; wp_walk using wpAny_loadPart' hl)
      | (refine wpAny_ite_false (decide_eq_false (by rw [c1]; exact Bool.false_ne_true)) ?_; wp_walk using wpAny_loadPart' hl)
      | (refine wpAny_ite_true (decide_eq_true (by rw [c2])) ?_; wp_walk using wpAny_loadPart' hl))
    exact ⟨_, rfl, h⟩
def rRepTA (K : PySem.W.Frag) : R2 := fun x y H Q => ∃ l k xs, x = .ref l ∧ y = .int k ∧ SqT K H l xs ∧ xs.length ≤ 1000 ∧ k.natAbs ≤ 1000 ∧ ((xs = [] ∨ k = 1) → Q (.ref l) H) ∧ ∀ p, H p = none → Q (.ref p) (upd H p (.tup (List.replicate k.toNat xs).flatten))
theorem op_repTA {X : Cx} : OpR X (binaryOp .Mult) (rRepTA X.K) := by
  intro pins s σ H x y v u Q I rx ry h
  obtain ⟨l, k, xs, rfl, rfl, hT, hz, hk, q1, q⟩ := h
  by_cases hbig : xs ≠ [] ∧ 2 ≤ k
  · exact op_repT pins s σ H _ _ v u Q I rx ry ⟨l, k, xs, rfl, rfl, hT, hbig.1, hbig.2, by omega, hz, q⟩
  cases rx
  obtain ⟨t, rfl⟩ := ry
  obtain ⟨its, r, ⟨⟨cls, dd, data, sl⟩, ho, hc, n, hd⟩, hs⟩ := I.tuple hT
  simp only at hc hd
  subst hc hd
  have hle : its.length = xs.length := r.length.symm
  have c0 : (decide (k < -(2 ^ 63)) || decide (k ≥ 2 ^ 63)) = false := by
    rw [decide_eq_false (by omega), decide_eq_false (by omega)] <;> rfl
  have hem : its.toArray.isEmpty = decide (xs = []) := by
    cases its with
    | nil =>
      have : xs = [] := List.eq_nil_of_length_eq_zero hle.symm
      rw [this]
      rfl
    | cons a b =>
      have : xs ≠ [] := fun e => by
        rw [e] at hle
        cases hle
      rw [decide_eq_false this]
      rfl
  by_cases h1 : xs = [] ∨ k = 1
  · have c1 : (its.toArray.isEmpty || k == 1) = true := by
      rw [hem]
      rcases h1 with h1 | h1
      · rw [h1]; rfl
      · rw [h1]; exact Bool.or_true _
    refine wpAny_binaryOp_repeat_ref (T := "tuple") (U := "int") (by decide) ⟨_, ho, rfl⟩ (fun s' => typeIs_int s' k t) noFill_tuple_mul F.fills_int_mul F.slot_int_rmul repeat_tuple F.slot_int_index.lookup
      (call_meets F.slot_int_rmul (typeIs_int s k t) F.entry_int_rmul (F.args_int_rmul_2 _ _) (int_rmul_tuple k t l its.toArray n dd sl)
        ⟨ho, rfl, ⟨_, ho, rfl⟩, call_meets F.slot_tuple_mul ⟨_, ho, rfl⟩ F.entry_tuple_mul (F.args_tuple_mul_2 _ _) (tuple_mulS l its.toArray n dd sl k t c0 c1) ⟨ho, ?_⟩⟩)
    exact ⟨.ref l, H, I, rfl, q1 h1⟩
  · have hx : xs ≠ [] := fun z => h1 (.inl z)
    have hk1 : k ≠ 1 := fun z => h1 (.inr z)
    have hk0 : k ≤ 0 := by
      by_cases z : 2 ≤ k
      · exact absurd ⟨hx, z⟩ hbig
      · omega
    have c1 : (its.toArray.isEmpty || k == 1) = false := by
      rw [hem, decide_eq_false hx, Bool.false_or]
      exact beq_eq_false_iff_ne.mpr hk1
    have c2 : (decide (k ≤ 0) || its.toArray.isEmpty) = true := by
      rw [decide_eq_true hk0, Bool.true_or]
    refine wpAny_binaryOp_repeat_ref (T := "tuple") (U := "int") (by decide) ⟨_, ho, rfl⟩ (fun s' => typeIs_int s' k t) noFill_tuple_mul F.fills_int_mul F.slot_int_rmul repeat_tuple F.slot_int_index.lookup
      (call_meets F.slot_int_rmul (typeIs_int s k t) F.entry_int_rmul (F.args_int_rmul_2 _ _) (int_rmul_tuple k t l its.toArray n dd sl)
        ⟨ho, rfl, ⟨_, ho, rfl⟩, call_meets F.slot_tuple_mul ⟨_, ho, rfl⟩ F.entry_tuple_mul (F.args_tuple_mul_2 _ _) (tuple_mul0 l its.toArray n dd sl k t c0 c1 c2) ⟨ho, ?_⟩⟩)
    have hq := q s.heap.objs.size (I.hok.fresh (Nat.le_refl _))
    rw [show k.toNat = 0 by omega] at hq
    refine ⟨.ref s.heap.objs.size, _, I.laid (t' := s.toks) (o := .tup []) (fun b ob q => Heap.get?_push_of_some _ q) (Nat.le_refl _) ?_, rfl, hq⟩
    exact ⟨by decide, _, .nil, IsTup.new _ _⟩
section
variable {c : Pm} {F0 H0 F H F' H' : Hp} {σ : L2.St} {ρ : Env} {t t' : Nat} {v : V} {x : R}
theorem RR.scal (h : RR c H0 F H v x) (e : isSc x.d = true) : Rep c F v x.d := by
  unfold RR at h
  split at h
  · exact h
  · obtain ⟨a, _, _, _, h⟩ := h
    cases q : x.d <;> rw [q] at h e <;> first | exact h.elim | cases e
  · obtain ⟨a, _, _, h⟩ := h
    cases q : x.d <;> rw [q] at h e <;> first | exact h.elim | cases e
  · obtain ⟨a, _, h⟩ := h
    cases q : x.d <;> rw [q] at h e <;> first | exact h.elim | cases e
theorem RR.int {i : Int} (h : RR c H0 F H v x) (e : x.d = .int i) : v = .int i := by
  have q := h.scal (by rw [e]; rfl)
  rw [e] at q
  cases q
  rfl
theorem RR.str {i : Str} (h : RR c H0 F H v x) (e : x.d = .str i) : v = .str i := by
  have q := h.scal (by rw [e]; rfl)
  rw [e] at q
  cases q
  rfl
theorem RR.bool {i : Bool} (h : RR c H0 F H v x) (e : x.d = .bool i) : v = .bl i := by
  have q := h.scal (by rw [e]; rfl)
  rw [e] at q
  cases q
  rfl
theorem RR.tup {ds : List D} (h : RR c H0 F H v x) (e : x.d = .tuple ds) : Rep c F v (.tuple ds) := by
  unfold RR at h
  rw [e] at h
  split at h
  · exact h
  · obtain ⟨a, _, _, _, h⟩ := h; exact h.elim
  · obtain ⟨a, _, _, h⟩ := h; exact h.elim
  · obtain ⟨a, _, h⟩ := h; exact h.elim
theorem Rep.tupE {ds : List D} (h : Rep c F v (.tuple ds)) : ∃ a vs, v = .ref a ∧ SqT c.K F a vs ∧ RepL c F vs ds := by
  cases h with
  | tup h r => exact ⟨_, _, rfl, .inl (.inl h), r⟩
theorem Rep.tupO {ds : List D} (h : Rep c F v (.tuple ds)) : ∃ a vs, v = .ref a ∧ F a = some (.tup vs) ∧ RepL c F vs ds := by
  cases h with
  | tup h r => exact ⟨_, _, rfl, h, r⟩
theorem Rep.lstE {ds : List D} (h : Rep c F v (.list ds)) : ∃ a vs, v = .ref a ∧ F a = some (.lst vs) ∧ RepL c F vs ds := by
  cases h with
  | lst h r => exact ⟨_, _, rfl, h, r⟩
theorem RR.tupH {ds : List D} (h : RR c H0 F H v x) (e : x.d = .tuple ds) (s : Ext F H) : ∃ a vs, v = .ref a ∧ SqT c.K H a vs ∧ RepL c F vs ds := by
  obtain ⟨a, vs, e1, q, r⟩ := (h.tup e).tupE
  exact ⟨a, vs, e1, s.sqt q, r⟩
theorem RR.lstR {ds : List D} (h : RR c H0 F H v x) (e : x.d = .list ds) (s : Ext F H) : ∃ a vs, v = .ref a ∧ SqL c.K H a vs ∧ RepL c F vs ds := by
  unfold RR at h
  rw [e] at h
  split at h
  · obtain ⟨a, vs, e1, q, r⟩ := Rep.lstE h
    exact ⟨a, vs, e1, .inl (.inl (s _ _ q)), r⟩
  · obtain ⟨a, e1, _, _, vs, q, r⟩ := h
    exact ⟨a, vs, e1, .inl (.inl q), r⟩
  · obtain ⟨a, e1, _, vs, q, r⟩ := h
    exact ⟨a, vs, e1, .inl (.inl q), r⟩
  · obtain ⟨a, e1, vs, q, r⟩ := h
    exact ⟨a, vs, e1, q, r⟩
theorem RR.lst {ds : List D} (h : RR c H0 F H v x) (e : x.d = .list ds) (k : x.kd ≠ .ro) (s : Ext F H) : ∃ a vs, v = .ref a ∧ H a = some (.lst vs) ∧ RepL c F vs ds := by
  unfold RR at h
  rw [e] at h
  split at h
  · obtain ⟨a, vs, e1, q, r⟩ := Rep.lstE h
    exact ⟨a, vs, e1, s _ _ q, r⟩
  · obtain ⟨a, e1, _, _, vs, q, r⟩ := h
    exact ⟨a, vs, e1, q, r⟩
  · obtain ⟨a, e1, _, vs, q, r⟩ := h
    exact ⟨a, vs, e1, q, r⟩
  · rename_i z
    exact absurd z k
/-- all that an operation knows of one operand -/
structure Kn (c : Pm) (Hs F H : Hp) (t : Nat) : Prop where
  g : Grow c F H F H
  back : ∀ a, H a = none → Hs a = none
  tp : Tape c F H t
/-- what an operation gives -/
def rOp (c : Pm) (f : R → R → Option R) : R2 := fun v u H Q => ∃ Hs F x y r t, Kn c Hs F H t ∧ RR c Hs F H v x ∧ RR c Hs F H u y ∧ f x y = some r ∧ Post c F H r t Q
theorem Post.sc {r : R} {Q : VK} (p : Post c F H r t Q) (g : Grow c F H F H) (tp : Tape c F H t) (e : r = ⟨.sh, x.d⟩) (h : Rep c F v x.d) : Q v H := by
  subst e
  exact p v F H g tp h
theorem op_all {X : Cx} (hK : X.K = c.K) (op : Op) {pop : Operator}
    (hp : opM op pop = true) : OpR X (binaryOp pop) (rOp c (opD op)) := by
  intro pins s σ H v u vv uu Q I rv ru h
  obtain ⟨Hs, F, x, y, r, t, kn, rx, ry, e, p⟩ := h
  have sub := kn.g.sub
  unfold opD at e
  split at e
  · rename_i a b ea eb
    cases pop <;> first | cases hp | skip
    cases e
    exact op_add pins s σ H v u vv uu Q I rv ru ⟨a, b, rx.int ea, ry.int eb, p _ F H kn.g kn.tp (Rep.int _)⟩
  · rename_i a b ea eb
    cases pop <;> first | cases hp | skip
    split at e
    · cases e
      exact op_add_str pins s σ H v u vv uu Q I rv ru ⟨a, b, rx.str ea, ry.str eb, by rw [← lim_eq]; assumption, p _ F H kn.g kn.tp (Rep.str _)⟩
    · cases e
  · rename_i a b ea eb
    cases pop <;> first | cases hp | skip
    split at e
    · rename_i q
      cases e
      obtain ⟨l, xs, e1, h1, r1⟩ := rx.lst ea q.1 sub
      obtain ⟨l2, ys, e2, h2, r2⟩ := ry.lst eb q.2.1 sub
      exact op_cat pins s σ H v u vv uu Q I rv ru ⟨l, l2, xs, ys, e1, e2, h1, h2, by rw [r1.length, r2.length, ← lim_eq]; exact q.2.2, p.lst kn.g kn.tp (r1.app r2)⟩
    · cases e
  · rename_i a b ea eb
    cases pop <;> first | cases hp | skip
    split at e
    · rename_i q
      cases e
      obtain ⟨l, xs, e1, h1, r1⟩ := rx.tupH ea sub
      obtain ⟨l2, ys, e2, h2, r2⟩ := ry.tupH eb sub
      refine op_catA pins s σ H v u vv uu Q I rv ru ⟨l, l2, xs, ys, e1, e2, by rw [hK]; exact h1, by rw [hK]; exact h2, by rw [r1.length, r2.length, ← lim_eq]; exact q, fun z => ?_, fun z z2 => ?_, fun z z2 => p.tup kn.g kn.tp (r1.app r2)⟩
      · have za := r1.nil_iff.mp z
        subst za
        have := ry.tup eb
        rw [e2] at this
        exact p _ F H kn.g kn.tp (by show Rep c F _ (.tuple ([] ++ b)); rw [List.nil_append]; exact this)
      · have za := r2.nil_iff.mp z2
        subst za
        have := rx.tup ea
        rw [e1] at this
        exact p _ F H kn.g kn.tp (by show Rep c F _ (.tuple (a ++ [])); rw [List.append_nil]; exact this)
    · cases e
  · rename_i a b ea eb
    cases pop <;> first | cases hp | skip
    cases e
    exact op_sub pins s σ H v u vv uu Q I rv ru ⟨a, b, rx.int ea, ry.int eb, p _ F H kn.g kn.tp (Rep.int _)⟩
  · rename_i a b ea eb
    cases pop <;> first | cases hp | skip
    split at e
    · rename_i q
      cases e
      refine op_mul pins s σ H v u vv uu Q I rv ru ⟨a, b, rx.int ea, ry.int eb, ?_, p _ F H kn.g kn.tp (Rep.int _)⟩
      simp only [Bool.or_eq_true, intB_iff] at q
      exact q
    · cases e
  · rename_i a b ea eb
    cases pop <;> first | cases hp | skip
    split at e
    · rename_i q
      cases e
      obtain ⟨l, xs, e1, h1, r1⟩ := rx.lst ea q.1 sub
      exact op_rep pins s σ H v u vv uu Q I rv ru ⟨l, b, xs, e1, ry.int eb, h1, by have := q.2.1; omega, by have := q.2.1; omega, by rw [r1.length, ← lim_eq]; exact q.2.2, p.lst kn.g kn.tp (r1.rep _)⟩
    · cases e
  · rename_i a b ea eb
    cases pop <;> first | cases hp | skip
    split at e
    · rename_i q
      cases e
      obtain ⟨l, xs, e1, h1, r1⟩ := rx.tupH ea sub
      refine op_repTA pins s σ H v u vv uu Q I rv ru ⟨l, b, xs, e1, ry.int eb, by rw [hK]; exact h1, by rw [r1.length]; exact q.1, q.2, fun hs => ?_, p.tup kn.g kn.tp (r1.rep _)⟩
      have ea2 : (List.replicate b.toNat a).flatten = a := by
        rcases hs with hs | hs
        · have : a = [] := r1.nil_iff.mp hs
          subst this
          clear p
          induction b.toNat with
          | zero => rfl
          | succ n ih => rw [List.replicate_succ, List.flatten_cons, ih]; rfl
        · subst hs
          simp
      have := rx.tup ea
      rw [e1] at this
      exact p _ F H kn.g kn.tp (by show Rep c F _ (.tuple _); rw [ea2]; exact this)
    · cases e
  · rename_i a b ea eb
    cases pop <;> first | cases hp | skip
    split at e
    · rename_i q
      cases e
      exact op_fdiv pins s σ H v u vv uu Q I rv ru ⟨a, b, rx.int ea, ry.int eb, ⟨q.1, by have := q.2; omega⟩, p _ F H kn.g kn.tp (Rep.int _)⟩
    · cases e
  · rename_i a b ea eb
    cases pop <;> first | cases hp | skip
    split at e
    · rename_i q
      cases e
      exact op_mod pins s σ H v u vv uu Q I rv ru ⟨a, b, rx.int ea, ry.int eb, q, p _ F H kn.g kn.tp (Rep.int _)⟩
    · cases e
  · rename_i a b ea eb
    cases pop <;> first | cases hp | skip
    split at e
    · rename_i q
      cases e
      exact op_pow pins s σ H v u vv uu Q I rv ru ⟨a, b, rx.int ea, ry.int eb, ⟨q.1, by have := q.2.1; omega, q.2.2⟩, p _ F H kn.g kn.tp (Rep.int _)⟩
    · cases e
  · cases e
end
/-! ### dicts -/
theorem kTo_kD (k : Key) : kTo k = kD k := by cases k <;> rfl
theorem kOf_kD (k : Key) : kOf (kD k) = some k := by cases k <;> rfl
inductive RepE (c : Pm) (F : Hp) {κ : Type} : List (κ × V) → List (κ × D) → Prop
  | nil : RepE c F [] []
  | cons {k : κ} {v : V} {d : D} {kvs : List (κ × V)} {es : List (κ × D)} : Rep c F v d → RepE c F kvs es → RepE c F ((k, v) :: kvs) ((k, d) :: es)
section
variable {c : Pm} {F F' H H0 Hs : Hp} {v : V} {x : R} {t : Nat} {κ : Type}
theorem RepE.of : ∀ {kvs : List (Key × V)} {kds : List (D × D)} {es : List (DK × D)}, RepK c F kvs kds → entries kds = some es → RepE c F kvs es
  | _, _, es, .nil, e => by
    cases e
    exact .nil
  | _, _, es, .cons (k := k) h r, e => by
    rw [entries, kOf_kD] at e
    obtain ⟨es', e1, e2⟩ := Option.map_eq_some_iff.mp e
    subst e2
    exact .cons h (RepE.of r e1)
theorem RepE.back : ∀ {kvs : List (Key × V)} {es : List (DK × D)}, RepE c F kvs es → RepK c F kvs (unent es)
  | _, _, .nil => .nil
  | _, _, .cons (k := k) h r => by
    show RepK c F _ ((kTo k, _) :: unent _)
    rw [kTo_kD]
    exact .cons h (RepE.back r)
theorem RepE.length : ∀ {kvs : List (κ × V)} {es : List (κ × D)}, RepE c F kvs es → kvs.length = es.length
  | _, _, .nil => rfl
  | _, _, .cons _ r => by rw [List.length_cons, List.length_cons, RepE.length r]
theorem RepE.mono (x : Ext F F') : ∀ {kvs : List (κ × V)} {es : List (κ × D)}, RepE c F kvs es → RepE c F' kvs es
  | _, _, .nil => .nil
  | _, _, .cons h r => .cons (h.mono x) (RepE.mono x r)
theorem RepE.keys : ∀ {kvs : List (κ × V)} {es : List (κ × D)}, RepE c F kvs es → kvs.map (·.1) = es.map (·.1)
  | _, _, .nil => rfl
  | _, _, .cons _ r => by rw [List.map_cons, List.map_cons, RepE.keys r]
theorem RepE.any [DecidableEq κ] (k : κ) : ∀ {kvs : List (κ × V)} {es : List (κ × D)}, RepE c F kvs es → (kvs.any fun p => decide (p.1 = k)) = es.any fun p => decide (p.1 = k)
  | _, _, .nil => rfl
  | _, _, .cons _ r => by rw [List.any_cons, List.any_cons, RepE.any k r]
theorem RepE.repl [DecidableEq κ] (k : κ) {d : D} (h : Rep c F v d) : ∀ {kvs : List (κ × V)} {es : List (κ × D)}, RepE c F kvs es → RepE c F (kvs.map fun p => if p.1 = k then (p.1, v) else p) (es.map fun p => if p.1 = k then (p.1, d) else p)
  | _, _, .nil => .nil
  | _, _, .cons (k := j) h1 r => by
    rw [List.map_cons, List.map_cons]
    by_cases z : j = k
    · rw [if_pos z, if_pos z]
      exact .cons h (RepE.repl k h r)
    · rw [if_neg z, if_neg z]
      exact .cons h1 (RepE.repl k h r)
theorem RepE.app : ∀ {kvs : List (κ × V)} {es : List (κ × D)} {kvs' : List (κ × V)} {es' : List (κ × D)}, RepE c F kvs es → RepE c F kvs' es' → RepE c F (kvs ++ kvs') (es ++ es')
  | _, _, _, _, .nil, s => s
  | _, _, _, _, .cons h r, s => .cons h (RepE.app r s)
theorem RepE.put [DecidableEq κ] {kvs : List (κ × V)} {es : List (κ × D)} (k : κ) {d : D} (h : RepE c F kvs es) (hv : Rep c F v d) : RepE c F (putK kvs k v) (dPut es k d) := by
  unfold putK dPut
  rw [h.any k]
  split
  · exact h.repl k hv
  · exact h.app (.cons hv .nil)
theorem RepE.merge {more : List (Key × V)} {ms : List (DK × D)} (h : RepE c F more ms) : ∀ {kvs : List (Key × V)} {es : List (DK × D)}, RepE c F kvs es → RepE c F (mergeK kvs more) (dMerge es ms) := by
  induction h with
  | nil => intro kvs es s; exact s
  | cons h r ih => intro kvs es s; exact ih (s.put _ h)
theorem RepE.val [DecidableEq κ] (k : κ) : ∀ {kvs : List (κ × V)} {es : List (κ × D)}, RepE c F kvs es → (∀ d, dVal es k = some d → ∃ v, valV kvs k = some v ∧ Rep c F v d) ∧ (dVal es k = none → valV kvs k = none)
  | _, _, .nil => ⟨(fun _ h => by cases h), fun _ => rfl⟩
  | _, _, .cons (k := j) (kvs := kvs) (es := es) h r => by
    obtain ⟨i1, i2⟩ := RepE.val k r
    unfold dVal valV at *
    rw [List.find?_cons, List.find?_cons]
    by_cases z : j = k
    · simp only [z, decide_true, Option.map_some]
      exact ⟨fun d e => ⟨_, rfl, by cases e; exact h⟩, fun e => by cases e⟩
    · simp only [z, decide_false]
      exact ⟨i1, i2⟩
theorem dgetR {a : Addr} {kvs : List (Key × V)} {k : Key} (e : Rd H a (.dK kvs)) : DGet H a (kV k) (valV kvs k) := .inl ⟨kvs, k, e, rfl, rfl⟩
theorem ent_mark {xs : List (D × D)} : entries (((PyData.none : D), (PyData.bool true : D)) :: xs) = none := rfl
theorem ent_tape : entries [((PyData.none : D), (PyData.none : D))] = none := rfl
theorem RR.dicR {kds : List (D × D)} {es : List (DK × D)} (h : RR c H0 F H v x) (e : x.d = .dict kds) (ee : entries kds = some es) (s : Ext F H) : ∃ a kvs, v = .ref a ∧ Rd H a (.dK kvs) ∧ RepE c F kvs es := by
  unfold RR at h
  rw [e] at h
  split at h
  · cases h with
    | dic h r => exact ⟨_, _, rfl, s.rd h, .of r ee⟩
    | tape h =>
      rw [ent_tape] at ee
      cases ee
    | dit h r =>
      rw [ent_mark] at ee
      cases ee
  · obtain ⟨a, e1, _, _, _, ⟨kvs, q, r⟩ | ⟨kvs, xs, rfl, q, r⟩⟩ := h
    · exact ⟨a, kvs, e1, .inl q, .of r ee⟩
    · rw [ent_mark] at ee
      cases ee
  · obtain ⟨a, e1, _, _, ⟨kvs, q, r⟩ | ⟨kvs, xs, rfl, q, r⟩⟩ := h
    · exact ⟨a, kvs, e1, .inl q, .of r ee⟩
    · rw [ent_mark] at ee
      cases ee
  · obtain ⟨a, e1, q⟩ := h
    exact q.elim
/-- a new dict is laid -/
theorem Post.dict {es : List (DK × D)} {kvs : List (Key × V)} {Q : VK} (p : Post c F H ⟨.fr, .dict (unent es)⟩ t Q) (g : Grow c F H F' H0) (tp : Tape c F' H0 t) (r : RepE c F' kvs es) : ∀ a, H0 a = none → Q (.ref a) (upd H0 a (.dK kvs)) := fun a n =>
  p _ _ _ (g.laid n) (tp.laid n) ⟨a, rfl, g.back a n, g.noF n, fun e => absurd n (g.aw' a e), .inl ⟨kvs, upd_same, r.back⟩⟩
theorem pairs_rep {vs : List V} {ds : List D} {es : List (DK × D)} (sub : Ext F H) : RepL c F vs ds → pairsD ds = some es → ∃ (ps : List Addr) (kvs : List (Key × V)), vs = ps.map V.ref ∧ Paired (fun p kv => SqT c.K H p [kV kv.1, kv.2]) ps kvs ∧ RepE c F kvs es := by
  intro h
  induction ds generalizing vs es with
  | nil =>
    intro e
    cases h
    cases e
    exact ⟨[], [], rfl, .nil, .nil⟩
  | cons d ds ih =>
    intro e
    cases h with
    | cons h1 h2 =>
      unfold pairsD at e
      split at e
      · rename_i hq
        cases hq
      · rename_i k0 v0 r0 hq
        cases hq
        obtain ⟨k, ek, e⟩ := Option.bind_eq_some_iff.mp e
        obtain ⟨es', e1, e2⟩ := Option.map_eq_some_iff.mp e
        subst e2
        obtain ⟨ps, kvs, q1, q2, q3⟩ := ih h2 e1
        obtain ⟨a, ws, rfl, w1, w2⟩ := Rep.tupE h1
        cases w2 with
        | cons wk w2 =>
          cases w2 with
          | cons wv w2 =>
            cases w2
            have hk : ∀ {u : V} {dk : D}, Rep c F u dk → kOf dk = some k → u = kV k := by
              intro u dk hr hk
              cases hr <;> cases hk <;> rfl
            have := hk wk ek
            subst this
            exact ⟨a :: ps, (k, _) :: kvs, by rw [q1]; rfl, .cons (sub.sqt w1) q2, .cons wv q3⟩
      · cases e
theorem intKeys_of : ∀ {es : List (DK × D)} {ks : List Int}, intKeys es = some ks → es.map (·.1) = ks.map Sum.inl
  | [], ks, e => by
    cases e
    rfl
  | (.inl i, d) :: es, ks, e => by
    rw [intKeys] at e
    obtain ⟨ks', e1, rfl⟩ := Option.map_eq_some_iff.mp e
    rw [List.map_cons, List.map_cons, intKeys_of e1]
  | (.inr i, d) :: es, ks, e => by cases e
theorem isort_perm (ns : List Int) : (isort ns).Perm ns := List.mergeSort_perm ..
theorem isort_asc (ns : List Int) : (isort ns).Pairwise (· ≤ ·) := by
  have := List.pairwise_mergeSort (le := fun a b : Int => decide (a ≤ b)) (fun a b c h1 h2 => by simp only [decide_eq_true_eq] at *; omega) (fun a b => by simp only [Bool.or_eq_true, decide_eq_true_eq]; omega) ns
  exact this.imp fun h => by simpa using h
theorem asc_uniq {xs ys : List Int} (p : xs.Perm ys) (hx : xs.Pairwise (· ≤ ·)) (hy : ys.Pairwise (· ≤ ·)) : xs = ys := p.eq_of_pairwise (fun a b _ _ h1 h2 => by omega) hx hy
end
theorem strKeys_of : ∀ {es : List (DK × D)} {ks : List Str}, strKeys es = some ks → es.map (·.1) = ks.map Sum.inr
  | [], ks, e => by
    cases e
    rfl
  | (.inr i, d) :: es, ks, e => by
    rw [strKeys] at e
    obtain ⟨ks', e1, rfl⟩ := Option.map_eq_some_iff.mp e
    rw [List.map_cons, List.map_cons, strKeys_of e1]
  | (.inl i, d) :: es, ks, e => by cases e
section
variable {c : Pm} {F0 H0 F H : Hp} {v : V} {x : R}
theorem RR.key {k : DK} (h : RR c H0 F H v x) (e : kOf x.d = some k) : v = kV k := by
  cases hd : x.d <;> rw [hd] at e <;> cases e
  · exact h.int hd
  · exact h.str hd
theorem RepE.some_eq {κ : Type} [DecidableEq κ] {kvs : List (κ × V)} {es : List (κ × D)} (h : RepE c F kvs es) (k : κ) : (valV kvs k).isSome = (dVal es k).isSome := by
  obtain ⟨h1, h2⟩ := h.val k
  cases q : dVal es k with
  | none => rw [h2 q]; rfl
  | some d =>
    obtain ⟨w, e, _⟩ := h1 d q
    rw [e]
    rfl
/-! ### dicts keyed by tuples -/
theorem kOf_eq : ∀ {d : D} {k : DK}, kOf d = some k → d = kD k
  | .int _, _, e => by cases e; rfl
  | .str _, _, e => by cases e; rfl
  | .none, _, e => by cases e
  | .bool _, _, e => by cases e
  | .list _, _, e => by cases e
  | .tuple _, _, e => by cases e
  | .dict _, _, e => by cases e
theorem kOfs_kD : ∀ ks : List Key, kOfs (ks.map kD) = some ks
  | [] => rfl
  | k :: ks => by rw [List.map_cons, kOfs, kOf_kD, kOfs_kD ks]; rfl
theorem kOfs_rep : ∀ {ds : List D} {ks : List DK} {vs : List V}, kOfs ds = some ks → RepL c F vs ds → vs = ks.map kV
  | [], _, _, e, .nil => by cases e; rfl
  | d :: ds, _, _, e, .cons h r => by
    rw [kOfs] at e
    obtain ⟨k, ek, e⟩ := Option.bind_eq_some_iff.mp e
    obtain ⟨ks, e1, rfl⟩ := Option.map_eq_some_iff.mp e
    rw [List.map_cons, ← kOfs_rep e1 r]
    have := kOf_eq ek
    subst this
    cases k <;> cases h <;> rfl
theorem RR.keyT {k : List DK} (h : RR c H0 F H v x) (e : kOfT x.d = some k) (s : Ext F H) : ∃ b, v = .ref b ∧ H b = some (.tup (k.map kV)) := by
  cases hd : x.d <;> rw [hd] at e <;> try cases e
  obtain ⟨b, vs, rfl, hF, r⟩ := (h.tup hd).tupO
  have e : kOfs _ = some k := e
  rw [kOfs_rep e r] at hF
  exact ⟨b, rfl, s _ _ hF⟩
theorem kOr_some {α : Type} {o : Option DK} {f : DK → Option α} {g : Option α} {a : α} (e : kOr o f g = some a) : (∃ k, o = some k ∧ f k = some a) ∨ g = some a := by
  cases o with
  | none => exact .inr e
  | some k => exact .inl ⟨k, rfl, e⟩
theorem RepE.ofT : ∀ {kvs : List (List Key × V)} {kds : List (D × D)} {es : List (List DK × D)}, RepT c F kvs kds → entsT kds = some es → RepE c F kvs es
  | _, _, es, .nil, e => by
    cases e
    exact .nil
  | _, _, es, .cons (k := k) h r, e => by
    rw [entsT, kOfT, kOfs_kD] at e
    obtain ⟨es', e1, e2⟩ := Option.map_eq_some_iff.mp e
    subst e2
    exact .cons h (RepE.ofT r e1)
theorem kTos_kD (k : List Key) : k.map kTo = k.map kD := List.map_congr_left fun a _ => kTo_kD a
theorem RepE.backT : ∀ {kvs : List (List Key × V)} {es : List (List DK × D)}, RepE c F kvs es → RepT c F kvs (es.map fun p => (.tuple (p.1.map kTo), p.2))
  | _, _, .nil => .nil
  | _, _, .cons (k := k) h r => by
    show RepT c F _ ((.tuple (k.map kTo), _) :: _)
    rw [kTos_kD]
    exact .cons h (RepE.backT r)
theorem uEnts_some {kds : List (D × D)} {es : List (List DK × D)} (e : uEnts kds = some es) : ∃ xs, kds = (.none, .bool true) :: xs ∧ entsT xs = some es := by
  unfold uEnts at e
  split at e
  · exact ⟨_, rfl, e⟩
  · cases e
theorem RepK.ents : ∀ {kvs : List (Key × V)} {kds : List (D × D)}, RepK c F kvs kds → ∃ es, entries kds = some es
  | _, _, .nil => ⟨[], rfl⟩
  | _, _, .cons (k := k) h r => by
    obtain ⟨es, e⟩ := RepK.ents r
    exact ⟨_, by rw [entries, kOf_kD, Option.bind_some, e]; rfl⟩
theorem RepK.nomark {kvs : List (Key × V)} {xs : List (D × D)} (h : RepK c F kvs ((.none, .bool true) :: xs)) : False := by
  obtain ⟨es, e⟩ := h.ents
  rw [ent_mark] at e
  cases e
theorem RR.ditR {kds : List (D × D)} {es : List (List DK × D)} (h : RR c H0 F H v x) (e : x.d = .dict kds) (ee : uEnts kds = some es) (s : Ext F H) : ∃ a kvs, v = .ref a ∧ Rd H a (.dT kvs) ∧ RepE c F kvs es := by
  obtain ⟨xs, rfl, ee⟩ := uEnts_some ee
  unfold RR at h
  rw [e] at h
  split at h
  · cases h with
    | dic h r => exact r.nomark.elim
    | dit h r => exact ⟨_, _, rfl, s.rd h, .ofT r ee⟩
  · obtain ⟨a, e1, _, _, _, ⟨kvs, q, r⟩ | ⟨kvs, xs, z, q, r⟩⟩ := h
    · exact r.nomark.elim
    · cases z
      exact ⟨a, kvs, e1, .inl q, .ofT r ee⟩
  · obtain ⟨a, e1, _, _, ⟨kvs, q, r⟩ | ⟨kvs, xs, z, q, r⟩⟩ := h
    · exact r.nomark.elim
    · cases z
      exact ⟨a, kvs, e1, .inl q, .ofT r ee⟩
  · obtain ⟨a, e1, q⟩ := h
    exact q.elim
theorem dgetT {a b : Addr} {kvs : List (List Key × V)} {k : List Key} (e : Rd H a (.dT kvs)) (eb : H b = some (.tup (k.map kV))) : DGet H a (.ref b) (valV kvs k) := .inr ⟨kvs, k, b, e, rfl, eb, rfl⟩
end
end Q
namespace Q
open PySem PySem.Spec PyProof.Rows L2
section
variable {c : Pm} {F0 H0 F H F' H' : Hp} {σ : L2.St} {ρ : Env} {t t' : Nat} {v : V} {x : R}
mutual
theorem Rep.dp (e : Ext F H) : ∀ {d : D} {v : V}, d.plain = true → Rep c F v d → Dp c.K H v d
  | _, _, _, .non => .non
  | _, _, _, .bl b => .bl b
  | _, _, _, .int i => .int i
  | _, _, _, .str i => .str i
  | _, _, p, .lst h r => .lst (.inl (.inl (e _ _ h))) (RepL.dp e (by simpa only [PyData.plain] using p) r)
  | _, _, p, .tup h r => .tup (.inl (.inl (e _ _ h))) (RepL.dp e (by simpa only [PyData.plain] using p) r)
  | _, _, p, .dic h r => by simp [PyData.plain] at p
  | _, _, p, .tape h => by simp [PyData.plain, tapeD] at p
  | _, _, p, .dit h r => by simp [PyData.plain] at p
theorem RepL.dp (e : Ext F H) : ∀ {d : List D} {v : List V}, PyData.plainAll d = true → RepL c F v d → DpAll c.K H v d
  | _, _, _, .nil => .nil
  | _, _, p, .cons h r => by
    simp only [PyData.plainAll, Bool.and_eq_true] at p
    exact .cons (Rep.dp e p.1 h) (RepL.dp e p.2 r)
end
theorem RR.dp (h : RR c H0 F H v x) (p : x.d.plain = true) (e : Ext F H) : Dp c.K H v x.d := by
  cases q : x.d with
  | list ds =>
    obtain ⟨a, vs, e1, h1, r⟩ := h.lstR q e
    rw [q] at p
    rw [e1]
    exact .lst h1 (r.dp e (by simpa only [PyData.plain] using p))
  | tuple ds =>
    obtain ⟨a, vs, e1, h1, r⟩ := h.tupH q e
    rw [q] at p
    rw [e1]
    exact .tup h1 (r.dp e (by simpa only [PyData.plain] using p))
  | dict kvs => rw [q] at p; simp [PyData.plain] at p
  | _ =>
    have h1 := h.scal (by rw [q]; rfl)
    rw [q] at h1 p
    exact h1.dp e p
theorem RR.reads {X : Cx} {pins : List (Addr × Obj)} {s : Shared} {u : Value} (I : Inv X pins σ H s) (hK : X.K = c.K) (h : RR c H0 F H v x) (p : x.d.plain = true) (e : Ext F H) (r : RelV v u) : ∃ as, Reads s.heap u x.d as :=
  Dp.reads I x.d v u (by rw [hK]; exact h.dp p e) r
theorem okD_and {d : D} (h : okD d = true) : d.plain = true ∧ d.depth ≤ 60 := by
  simpa [okD] using h
theorem ordOk_and {x y : D} (h : ordOk x y = true) : PySem.W.alike x y = true ∧ okD x = true ∧ okD y = true ∧ x ≠ .none := by
  unfold ordOk at h
  simp only [Bool.and_eq_true] at h
  refine ⟨h.1.1.1, h.1.1.2, h.1.2, fun e => ?_⟩
  rw [e] at h
  cases h.2
/-- a comparison -/
def rCp (c : Pm) (op : Cp) : R2 := fun v u H Q => ∃ Hs F x y b t, Kn c Hs F H t ∧ RR c Hs F H v x ∧ RR c Hs F H u y ∧ cpD op x.d y.d = some b ∧ Q (.bl b) H
theorem RR.none (h : RR c H0 F H v x) (e : x.d = .none) : v = .non := by
  have q := h.scal (by rw [e]; rfl)
  rw [e] at q
  cases q
  rfl
theorem RR.nnone (h : RR c H0 F H v x) (e : x.d ≠ .none) : v ≠ .non := by
  intro z
  subst z
  by_cases q : isSc x.d = true
  · have r := h.scal q
    cases r' : x.d with
    | none => exact e r'
    | _ =>
      rw [r'] at r
      cases r
  · cases r' : x.d with
    | list ds =>
      unfold RR at h
      rw [r'] at h
      split at h
      · cases h
      · obtain ⟨_, z, _⟩ := h; cases z
      · obtain ⟨_, z, _⟩ := h; cases z
      · obtain ⟨_, z, _⟩ := h; cases z
    | tuple ds =>
      have r := h.tup r'
      cases r
    | dict ds =>
      unfold RR at h
      rw [r'] at h
      split at h
      · cases h
      · obtain ⟨_, z, _⟩ := h; cases z
      · obtain ⟨_, z, _⟩ := h; cases z
      · obtain ⟨_, z, _⟩ := h; cases z
    | _ => rw [r'] at q; exact absurd rfl q
theorem is_all {X : Cx} {Hs : Hp} {y : R} {u : V} {b : Bool} {t : Nat} (kn : Kn c Hs F H t) (rx : RR c Hs F H v x) (ry : RR c Hs F H u y) (e : isD x.d y.d = some b) {pins : List (Addr × Obj)} {s : Shared} {vv uu : Value} (Q : VK) (I : Inv X pins σ H s) (rv : RelV v vv) (ru : RelV u uu) :
    (Q (.bl b) H → wpAny (model X.prog X.w) X.A (compareOp .Is vv uu) (EP X pins σ Q) X.xe s) ∧ (Q (.bl (!b)) H → wpAny (model X.prog X.w) X.A (compareOp .IsNot vv uu) (EP X pins σ Q) X.xe s) := by
  unfold isD at e
  split at e
  · rename_i ea eb
    cases e
    have e1 := rx.none ea
    have e2 := ry.none eb
    subst e1 e2
    exact ⟨fun q => op_isN pins s σ H _ _ vv uu Q I rv ru ⟨rfl, by simpa using q⟩, fun q => op_notN pins s σ H _ _ vv uu Q I rv ru ⟨rfl, by simpa using q⟩⟩
  · rename_i eb hne
    cases e
    have e2 := ry.none eb
    subst e2
    have n : v ≠ .non := rx.nnone (fun z => hne z)
    exact ⟨fun q => op_isN pins s σ H _ _ vv uu Q I rv ru ⟨rfl, by rw [decide_eq_false n]; exact q⟩, fun q => op_notN pins s σ H _ _ vv uu Q I rv ru ⟨rfl, by rw [decide_eq_false n]; exact q⟩⟩
  · rename_i a b' ea eb
    cases e
    exact ⟨fun q => op_isBl pins s σ H _ _ vv uu Q I rv ru ⟨a, b', rx.bool ea, ry.bool eb, q⟩, fun q => op_notBl pins s σ H _ _ vv uu Q I rv ru ⟨a, b', rx.bool ea, ry.bool eb, q⟩⟩
  · cases e
theorem in_all {X : Cx} {Hs : Hp} {y : R} {u : V} {b : Bool} {t : Nat} (hK : X.K = c.K) (hu : X.A.units + 200 < cLine) (kn : Kn c Hs F H t) (rx : RR c Hs F H v x) (ry : RR c Hs F H u y) (e : inD x.d y.d = some b) {pins : List (Addr × Obj)} {s : Shared} {vv uu : Value} (Q : VK) (I : Inv X pins σ H s) (rv : RelV v vv) (ru : RelV u uu) :
    (Q (.bl b) H → wpAny (model X.prog X.w) X.A (compareOp .In vv uu) (EP X pins σ Q) X.xe s) ∧ (Q (.bl (!b)) H → wpAny (model X.prog X.w) X.A (compareOp .NotIn vv uu) (EP X pins σ Q) X.xe s) := by
  have sub := kn.g.sub
  unfold inD at e
  split at e
  · rename_i ys ey
    split at e
    · rename_i q
      cases e
      obtain ⟨p1, d1⟩ := okD_and q.1
      obtain ⟨p2, d2⟩ := okD_and q.2
      obtain ⟨as, r1⟩ := rx.reads I hK p1 sub rv
      obtain ⟨bs, r2⟩ := ry.reads I hK (by rw [ey]; exact p2) sub ru
      rw [ey] at r2
      have room : X.A.units + 1 + min (PyData.depthAll ys) x.d.depth < cLine := by
        have := Nat.min_le_right (PyData.depthAll ys) x.d.depth
        omega
      have pl : PyData.plainAll ys = true := by simpa only [PyData.plain] using p2
      exact ⟨fun q => SeqAt.in_list_data r2 r1 pl p1 room ⟨.bl _, H, I, rfl, q⟩, fun q => SeqAt.notIn_list_data r2 r1 pl p1 room ⟨.bl _, H, I, rfl, q⟩⟩
    · cases e
  · rename_i ys ey
    split at e
    · rename_i q
      cases e
      obtain ⟨p1, d1⟩ := okD_and q.1
      obtain ⟨p2, d2⟩ := okD_and q.2
      obtain ⟨as, r1⟩ := rx.reads I hK p1 sub rv
      have pl : PyData.plainAll ys = true := by simpa only [PyData.plain] using p2
      obtain ⟨bs, r2⟩ := ry.reads I hK (by rw [ey]; simpa only [PyData.plain] using pl) sub ru
      rw [ey] at r2
      have room : X.A.units + 1 + min (PyData.depthAll ys) x.d.depth < cLine := by
        have := Nat.min_le_right (PyData.depthAll ys) x.d.depth
        omega
      exact ⟨fun q => SeqAt.in_tuple_data r2 r1 pl p1 room ⟨.bl _, H, I, rfl, q⟩, fun q => SeqAt.notIn_tuple_data r2 r1 pl p1 room ⟨.bl _, H, I, rfl, q⟩⟩
    · cases e
  · rename_i kds ey
    rcases kOr_some e with ⟨k, ek, e⟩ | e
    · obtain ⟨es, ee, e⟩ := Option.map_eq_some_iff.mp e
      subst e
      obtain ⟨a, kvs, rfl, h1, r1⟩ := ry.dicR ey ee sub
      have g : DGet H a v (valV kvs k) := by
        rw [rx.key ek]
        exact dgetR h1
      have e2 := r1.some_eq k
      cases ru
      rw [← e2]
      exact ⟨fun q => d_in (by omega) I g rv fun s' I' => ⟨.bl _, H, I', rfl, q⟩, fun q => d_notIn (by omega) I g rv fun s' I' => ⟨.bl _, H, I', rfl, q⟩⟩
    · obtain ⟨k, ek, e⟩ := Option.bind_eq_some_iff.mp e
      obtain ⟨es, ee, e⟩ := Option.map_eq_some_iff.mp e
      subst e
      obtain ⟨a, kvs, rfl, h1, r1⟩ := ry.ditR ey ee sub
      obtain ⟨b', rfl, hb⟩ := rx.keyT ek sub
      have g : DGet H a (.ref b') (valV kvs k) := dgetT h1 hb
      have e2 := r1.some_eq k
      cases ru
      rw [← e2]
      exact ⟨fun q => d_in (by omega) I g rv fun s' I' => ⟨.bl _, H, I', rfl, q⟩, fun q => d_notIn (by omega) I g rv fun s' I' => ⟨.bl _, H, I', rfl, q⟩⟩
  · cases e
theorem map_not {o : Option Bool} {b : Bool} (h : o.map (!·) = some b) : o = some (!b) := by
  cases o with
  | none => cases h
  | some a =>
    cases h
    simp
theorem cp_all {X : Cx} (hK : X.K = c.K) (hu : X.A.units + 200 < cLine) (op : Cp) {p : CmpOp} (hp : cpM op p = true) : OpR X (compareOp p) (rCp c op) := by
  intro pins s σ H v u vv uu Q I rv ru h
  obtain ⟨Hs, F, x, y, b, t, kn, rx, ry, e, q⟩ := h
  have sub := kn.g.sub
  cases op <;> cases p <;> first | cases hp | skip
  · unfold cpD at e
    simp only at e
    split at e
    · rename_i k
      cases e
      obtain ⟨p1, d1⟩ := okD_and k.1
      obtain ⟨p2, d2⟩ := okD_and k.2
      obtain ⟨as, r1⟩ := rx.reads I hK p1 sub rv
      obtain ⟨bs, r2⟩ := ry.reads I hK p2 sub ru
      exact SeqAt.eq_plain r1 r2 p1 p2 (by have := Nat.min_le_right x.d.depth y.d.depth; omega) ⟨.bl _, H, I, rfl, q⟩
    · cases e
  · unfold cpD at e
    simp only at e
    split at e
    · rename_i k
      cases e
      obtain ⟨p1, d1⟩ := okD_and k.1
      obtain ⟨p2, d2⟩ := okD_and k.2
      obtain ⟨as, r1⟩ := rx.reads I hK p1 sub rv
      obtain ⟨bs, r2⟩ := ry.reads I hK p2 sub ru
      exact SeqAt.ne_plain r1 r2 p1 p2 (by have := Nat.min_le_right x.d.depth y.d.depth; omega) ⟨.bl _, H, I, rfl, q⟩
    · cases e
  · unfold cpD at e
    simp only at e
    split at e
    · rename_i a b ea eb
      cases e
      exact op_lt pins s σ H v u vv uu Q I rv ru ⟨a, b, rx.int ea, ry.int eb, q⟩
    · split at e
      · rename_i k
        cases e
        obtain ⟨k1, k2, k3, k4⟩ := ordOk_and k
        obtain ⟨p1, d1⟩ := okD_and k2
        obtain ⟨p2, d2⟩ := okD_and k3
        obtain ⟨as, r1⟩ := rx.reads I hK p1 sub rv
        obtain ⟨bs, r2⟩ := ry.reads I hK p2 sub ru
        exact PySem.W.lt_data r1 r2 k1 k4 (by have := Nat.min_le_right x.d.depth y.d.depth; omega) ⟨.bl _, H, I, rfl, q⟩
      · cases e
  · unfold cpD at e
    simp only at e
    split at e
    · rename_i a b ea eb
      cases e
      exact op_le pins s σ H v u vv uu Q I rv ru ⟨a, b, rx.int ea, ry.int eb, q⟩
    · split at e
      · rename_i k
        cases e
        obtain ⟨k1, k2, k3, k4⟩ := ordOk_and k
        obtain ⟨p1, d1⟩ := okD_and k2
        obtain ⟨p2, d2⟩ := okD_and k3
        obtain ⟨as, r1⟩ := rx.reads I hK p1 sub rv
        obtain ⟨bs, r2⟩ := ry.reads I hK p2 sub ru
        exact PySem.W.le_data r1 r2 k1 k4 (by have := Nat.min_le_right x.d.depth y.d.depth; omega) ⟨.bl _, H, I, rfl, q⟩
      · cases e
  · unfold cpD at e
    simp only at e
    split at e
    · rename_i a b ea eb
      cases e
      exact op_gt pins s σ H v u vv uu Q I rv ru ⟨a, b, rx.int ea, ry.int eb, q⟩
    · split at e
      · rename_i k
        cases e
        obtain ⟨k1, k2, k3, k4⟩ := ordOk_and k
        obtain ⟨p1, d1⟩ := okD_and k2
        obtain ⟨p2, d2⟩ := okD_and k3
        obtain ⟨as, r1⟩ := rx.reads I hK p1 sub rv
        obtain ⟨bs, r2⟩ := ry.reads I hK p2 sub ru
        exact PySem.W.gt_data r1 r2 k1 k4 (by have := Nat.min_le_right x.d.depth y.d.depth; omega) ⟨.bl _, H, I, rfl, q⟩
      · cases e
  · unfold cpD at e
    simp only at e
    split at e
    · rename_i a b ea eb
      cases e
      exact op_ge pins s σ H v u vv uu Q I rv ru ⟨a, b, rx.int ea, ry.int eb, q⟩
    · split at e
      · rename_i k
        cases e
        obtain ⟨k1, k2, k3, k4⟩ := ordOk_and k
        obtain ⟨p1, d1⟩ := okD_and k2
        obtain ⟨p2, d2⟩ := okD_and k3
        obtain ⟨as, r1⟩ := rx.reads I hK p1 sub rv
        obtain ⟨bs, r2⟩ := ry.reads I hK p2 sub ru
        exact PySem.W.ge_data r1 r2 k1 k4 (by have := Nat.min_le_right x.d.depth y.d.depth; omega) ⟨.bl _, H, I, rfl, q⟩
      · cases e
  · exact (in_all hK hu kn rx ry e Q I rv ru).1 q
  · exact (in_all hK hu kn rx ry (map_not e) Q I rv ru).2 (by simpa using q)
  · exact (is_all kn rx ry e Q I rv ru).1 q
  · exact (is_all kn rx ry (map_not e) Q I rv ru).2 (by simpa using q)
end
end Q
namespace Q
open PySem PySem.Spec PyProof.Rows L2
section
variable {c : Pm} {F0 H0 F H F' H' Hs : Hp} {σ : L2.St} {ρ : Env} {t t' : Nat} {v : V} {x : R}
def rBlt (c : Pm) (f : B) : List V → Hp → VK → Prop := fun vs H Q => ∃ Hs F rs r t, Kn c Hs F H t ∧ RRL c Hs F H vs rs ∧ bltD f rs = some r ∧ Post c F H r t Q
theorem RRL.one {vs : List V} {r : R} (h : RRL c Hs F H vs [r]) : ∃ v, vs = [v] ∧ RR c Hs F H v r := by
  cases h with
  | cons h q _ =>
    cases q
    exact ⟨_, rfl, h⟩
theorem RRL.two {vs : List V} {r r2 : R} (h : RRL c Hs F H vs [r, r2]) : ∃ v v2, vs = [v, v2] ∧ RR c Hs F H v r ∧ RR c Hs F H v2 r2 := by
  cases h with
  | cons h q _ =>
    obtain ⟨v2, e, q2⟩ := q.one
    subst e
    exact ⟨_, _, rfl, h, q2⟩
theorem RepL.ints : ∀ {vs : List V} {ds : List D} {ns : List Int}, RepL c F vs ds → intsOf ds = some ns → vs = ns.map V.int
  | _, _, ns, .nil, e => by
    cases e
    rfl
  | _, _, ns, .cons (d := d) (ds := ds) (vs := vs) h r, e => by
    cases d <;> first | (simp [intsOf] at e; done) | skip
    rename_i i
    simp only [intsOf] at e
    cases q : intsOf ds with
    | none => rw [q] at e; cases e
    | some ms =>
      rw [q] at e
      cases e
      cases h
      rw [RepL.ints r q]
      rfl
theorem RepL.bools : ∀ {vs : List V} {ds : List D} {ns : List Bool}, RepL c F vs ds → boolsOf ds = some ns → vs = ns.map V.bl
  | _, _, ns, .nil, e => by
    cases e
    rfl
  | _, _, ns, .cons (d := d) (ds := ds) (vs := vs) h r, e => by
    cases d <;> first | (simp [boolsOf] at e; done) | skip
    rename_i i
    simp only [boolsOf] at e
    cases q : boolsOf ds with
    | none => rw [q] at e; cases e
    | some ms =>
      rw [q] at e
      cases e
      cases h
      rw [RepL.bools r q]
      rfl
theorem alk_of {xs : List D} (h : alk xs = true) : (∀ x ∈ xs, ∀ y ∈ xs, PySem.W.alike x y = true) ∧ PyData.plainAll xs = true ∧ PyData.depthAll xs ≤ 50 := by
  simp only [alk, Bool.and_eq_true, List.all_eq_true, decide_eq_true_eq] at h
  exact ⟨h.1.1, h.1.2, h.2⟩
theorem ord_of {xs : List D} (h : ordD xs = true) : PySem.W.AlikeAll xs ∧ PyData.plainAll xs = true ∧ PyData.depthAll xs ≤ 50 := by
  simp only [ordD, Bool.and_eq_true] at h
  obtain ⟨h1, h2, h3⟩ := alk_of h.1
  exact ⟨⟨h1, fun x hx z => by
    have := List.all_eq_true.mp h.2 x hx
    rw [z] at this
    cases this⟩, h2, h3⟩
theorem plain_at : ∀ {xs : List D} {x : D}, PyData.plainAll xs = true → x ∈ xs → x.plain = true
  | y :: ys, x, h, hx => by
    simp only [PyData.plainAll, Bool.and_eq_true] at h
    rcases List.mem_cons.mp hx with rfl | hx
    · exact h.1
    · exact plain_at h.2 hx
theorem depth_at : ∀ {xs : List D} {x : D}, x ∈ xs → x.depth ≤ PyData.depthAll xs
  | y :: ys, x, hx => by
    simp only [PyData.depthAll]
    rcases List.mem_cons.mp hx with rfl | hx
    · exact Nat.le_max_left _ _
    · exact Nat.le_trans (depth_at hx) (Nat.le_max_right _ _)
/-- the item that reads as d -/
theorem item_is {X : Cx} {pins : List (Addr × Obj)} {s : Shared} (I : Inv X pins σ H s) (hK : X.K = c.K) (sub : Ext F H) {vs : List V} {ds : List D} {its : List Value} (rv : Vals vs its) (r : RepL c F vs ds) (pl : PyData.plainAll ds = true)
    {i : Nat} {u : Value} {d : D} {bs : List Addr} {h' : Heap} (hi : its[i]? = some u) (hr : Reads h' u d bs) (k : ∀ b o, s.heap.get? b = some o → h'.get? b = some o) : ∃ v, RelV v u ∧ Rep c F v d := by
  have hl := rv.length
  have hi2 := (List.getElem?_eq_some_iff.mp hi).1
  obtain ⟨v, hv⟩ : ∃ v, vs[i]? = some v := ⟨_, List.getElem?_eq_getElem (by omega)⟩
  obtain ⟨u', hu, ru⟩ := rv.get hv
  rw [hi] at hu
  cases hu
  obtain ⟨e, he, re⟩ := r.get' hv
  have pe : e.plain = true := plain_at pl (List.mem_of_getElem? he)
  obtain ⟨as, q⟩ := Dp.reads I e v u (by rw [hK]; exact re.dp sub pe) ru
  have := SeqAt.plain_unique e d u as bs pe (PyProof.Rows.Reads.keeps k q) hr
  subst this
  exact ⟨v, ru, re⟩
theorem Post.scal {d : D} {Q : VK} (p : Post c F H ⟨.sh, d⟩ t Q) (kn : Kn c Hs F H t) (r : Rep c F v d) : Q v H := p v F H kn.g kn.tp r
def fval : B → Value
  | .len => .builtin "len"
  | .abs => .builtin "abs"
  | .int => .type "int"
  | .max2 => .builtin "max"
  | .min2 => .builtin "min"
  | .min3 => .builtin "min"
  | .max1 => .builtin "max"
  | .min1 => .builtin "min"
  | .sum => .builtin "sum"
  | .all => .builtin "all"
  | .any => .builtin "any"
  | .tuple => .type "tuple"
  | .list => .type "list"
  | .sorted => .builtin "sorted"
  | .range1 => .type "range"
  | .range2 => .type "range"
  | .dict => .type "dict"
section
variable {X : Cx}
theorem rep_ints {c : Pm} {F : Hp} : ∀ ns : List Int, RepL c F (ns.map V.int) (ns.map PyData.int)
  | [] => .nil
  | n :: ns => .cons (.int n) (rep_ints ns)
theorem blt_len (hK : X.K = c.K) : CallR X (fval .len) (rBlt c .len) := by
  intro pins s σ H vs us Q I r h
  obtain ⟨Hs, F, rs, z, t, kn, rr, e, p⟩ := h
  have sub := kn.g.sub
  unfold bltD at e
  split at e <;> rename_i e1 <;> first | (cases e1; done) | skip
  · obtain ⟨es, ee, e⟩ := Option.map_eq_some_iff.mp e
    cases e
    obtain ⟨v, rfl, q⟩ := rr.one
    obtain ⟨a, kvs, rfl, h1, r1⟩ := q.dicR rfl ee sub
    rw [Vals.ref1 r]
    exact d_len I h1 fun t s' I' => ⟨.int kvs.length, H, I', ⟨t, rfl⟩, by rw [r1.length]; exact p.scal kn (.int _)⟩
  · cases e
    obtain ⟨v, rfl, q⟩ := rr.one
    obtain ⟨a, ws, rfl, h1, r1⟩ := q.lstR rfl sub
    exact call_len_seq pins s σ H _ us Q I r ⟨a, ws, rfl, .inl (by rw [hK]; exact h1), by rw [r1.length]; exact p.scal kn (.int _)⟩
  · cases e
    obtain ⟨v, rfl, q⟩ := rr.one
    obtain ⟨a, ws, rfl, h1, r1⟩ := q.tupH rfl sub
    exact call_len_seq pins s σ H _ us Q I r ⟨a, ws, rfl, .inr (by rw [hK]; exact h1), by rw [r1.length]; exact p.scal kn (.int _)⟩
  · cases e
theorem blt_abs : CallR X (fval .abs) (rBlt c .abs) := by
  intro pins s σ H vs us Q I r h
  obtain ⟨Hs, F, rs, z, t, kn, rr, e, p⟩ := h
  unfold bltD at e
  split at e <;> rename_i e1 <;> first | (cases e1; done) | skip
  · cases e
    obtain ⟨v, rfl, q⟩ := rr.one
    rw [q.int rfl] at r
    exact call_abs pins s σ H _ us Q I r ⟨_, rfl, p.scal kn (.int _)⟩
  · cases e
theorem blt_int : CallR X (fval .int) (rBlt c .int) := by
  intro pins s σ H vs us Q I r h
  obtain ⟨Hs, F, rs, z, t, kn, rr, e, p⟩ := h
  unfold bltD at e
  split at e <;> rename_i e1 <;> first | (cases e1; done) | skip
  · cases e
    obtain ⟨v, rfl, q⟩ := rr.one
    rw [q.int rfl] at r
    exact call_int1 pins s σ H _ us Q I r (.inl ⟨_, rfl, p.scal kn (.int _)⟩)
  · cases e
    obtain ⟨v, rfl, q⟩ := rr.one
    rw [q.bool rfl] at r
    exact call_int1 pins s σ H _ us Q I r (.inr ⟨_, rfl, p.scal kn (.int _)⟩)
  · cases e
theorem blt_max2 (hc : X.calm = true) : CallR X (fval .max2) (rBlt c .max2) := by
  intro pins s σ H vs us Q I r h
  obtain ⟨Hs, F, rs, z, t, kn, rr, e, p⟩ := h
  unfold bltD at e
  split at e <;> rename_i e1 <;> first | (cases e1; done) | skip
  · cases e
    obtain ⟨v, v2, rfl, q, q2⟩ := rr.two
    rw [q.int rfl, q2.int rfl] at r
    exact call_max2 hc pins s σ H _ us Q I r ⟨_, _, rfl, p.scal kn (.int _)⟩
  · cases e
theorem blt_min2 (hc : X.calm = true) : CallR X (fval .min2) (rBlt c .min2) := by
  intro pins s σ H vs us Q I r h
  obtain ⟨Hs, F, rs, z, t, kn, rr, e, p⟩ := h
  unfold bltD at e
  split at e <;> rename_i e1 <;> first | (cases e1; done) | skip
  · cases e
    obtain ⟨v, v2, rfl, q, q2⟩ := rr.two
    rw [q.int rfl, q2.int rfl] at r
    exact call_min2 hc pins s σ H _ us Q I r ⟨_, _, rfl, p.scal kn (.int _)⟩
  · cases e
theorem nuMin3_int (i j k : Int) : nuMin3 (.int i) (.int j) (.int k) = some (.int (min3I i j k)) := by
  unfold min3I
  by_cases h : j < i
  · have e : nuMin2 (.int i) (.int j) = some (.int j) := by
      show some (if decide (j < i) = true then V.int j else V.int i) = _
      rw [decide_eq_true h]
      rfl
    unfold nuMin3
    rw [e, if_pos h]
    show some (if decide (k < j) = true then V.int k else V.int j) = _
    by_cases h2 : k < j
    · rw [decide_eq_true h2, if_pos h2]; rfl
    · rw [decide_eq_false h2, if_neg h2]; rfl
  · have e : nuMin2 (.int i) (.int j) = some (.int i) := by
      show some (if decide (j < i) = true then V.int j else V.int i) = _
      rw [decide_eq_false h]
      rfl
    unfold nuMin3
    rw [e, if_neg h]
    show some (if decide (k < i) = true then V.int k else V.int i) = _
    by_cases h2 : k < i
    · rw [decide_eq_true h2, if_pos h2]; rfl
    · rw [decide_eq_false h2, if_neg h2]; rfl
theorem blt_min3 (hc : X.calm = true) : CallR X (fval .min3) (rBlt c .min3) := by
  intro pins s σ H vs us Q I r h
  obtain ⟨Hs, F, rs, z, t, kn, rr, e, p⟩ := h
  unfold bltD at e
  split at e <;> rename_i e1 <;> first | (cases e1; done) | skip
  · cases e
    cases rr with
    | cons q1 rr _ =>
      cases rr with
      | cons q2 rr _ =>
        cases rr with
        | cons q3 rr _ =>
          cases rr
          rw [q1.int rfl, q2.int rfl, q3.int rfl] at r
          exact call_min3Nu hc pins s σ H _ us Q I r ⟨_, _, _, _, rfl, nuMin3_int _ _ _, p.scal kn (.int _)⟩
  · cases e
theorem sum_tup {P : Program} {w : World} {A : Around} {E : Value → Shared → Prop} {s : Shared} {l : Addr} {its : List Value} {ns : List Int} {Q : Value → Shared → Prop} (hh : A.handled = none) (hl : s.heap.IsTuple l its.toArray) (hi : IntsAre its ns)
    (h : ∀ h' tk t', (∀ b o, s.heap.get? b = some o → h'.get? b = some o) → Q (.int ns.sum t') { s with heap := h', toks := tk }) : wpAny (model P w) A (call (.builtin "sum") [.ref l]) Q E s := by
  obtain ⟨xs, e⟩ := hi.allInts.items
  have hn : numsOf (intItems xs).toList = ns := by rw [← e]; exact hi.numsOf
  rw [nums_intItems] at hn
  rw [e] at hl
  refine PySem.W.ktm_sumG hh hl fun h' tk t' hk => ?_
  have := h h' tk t' hk
  rw [preSum_eq, List.take_of_length_le (by simp), hn]; exact this
theorem blt_sum (hc : X.calm = true) (hK : X.K = c.K) : CallR X (fval .sum) (rBlt c .sum) := by
  intro pins s σ H vs us Q I r h
  obtain ⟨Hs, F, rs, z, t, kn, rr, e, p⟩ := h
  have sub := kn.g.sub
  unfold bltD at e
  split at e <;> rename_i e1 <;> first | (cases e1; done) | skip
  · obtain ⟨v, rfl, q⟩ := rr.one
    obtain ⟨ns, hn, e⟩ := Option.map_eq_some_iff.mp e
    subst e
    obtain ⟨a, ws, rfl, h1, r1⟩ := q.lstR rfl sub
    rw [r1.ints hn] at h1
    exact cr_sum hc pins s σ H _ us Q I r ⟨a, ns, rfl, by rw [hK]; exact h1, p.scal kn (.int _)⟩
  · obtain ⟨v, rfl, q⟩ := rr.one
    obtain ⟨ns, hn, e⟩ := Option.map_eq_some_iff.mp e
    subst e
    obtain ⟨a, ws, rfl, h1, r1⟩ := q.tupH rfl sub
    rw [r1.ints hn] at h1
    obtain ⟨its, rv, hl, hz⟩ := I.tuple (by rw [hK]; exact h1)
    rw [Vals.ref1 r]
    exact sum_tup (I.ok.hd hc) hl rv.ints fun h' tk t' hk => ⟨.int _, H, I.kept hk, ⟨_, rfl⟩, p.scal kn (.int _)⟩
  · cases e
theorem blt_all (hc : X.calm = true) (hK : X.K = c.K) : CallR X (fval .all) (rBlt c .all) := by
  intro pins s σ H vs us Q I r h
  obtain ⟨Hs, F, rs, z, t, kn, rr, e, p⟩ := h
  have sub := kn.g.sub
  unfold bltD at e
  split at e <;> rename_i e1 <;> first | (cases e1; done) | skip
  · obtain ⟨v, rfl, q⟩ := rr.one
    obtain ⟨ns, hn, e⟩ := Option.map_eq_some_iff.mp e
    subst e
    obtain ⟨a, ws, rfl, h1, r1⟩ := q.lstR rfl sub
    rw [r1.bools hn] at h1
    exact cr_all hc pins s σ H _ us Q I r ⟨a, ns, rfl, by rw [hK]; exact h1, p.scal kn (.bl _)⟩
  · cases e
theorem blt_any (hc : X.calm = true) (hK : X.K = c.K) : CallR X (fval .any) (rBlt c .any) := by
  intro pins s σ H vs us Q I r h
  obtain ⟨Hs, F, rs, z, t, kn, rr, e, p⟩ := h
  have sub := kn.g.sub
  unfold bltD at e
  split at e <;> rename_i e1 <;> first | (cases e1; done) | skip
  · obtain ⟨v, rfl, q⟩ := rr.one
    obtain ⟨ns, hn, e⟩ := Option.map_eq_some_iff.mp e
    subst e
    obtain ⟨a, ws, rfl, h1, r1⟩ := q.lstR rfl sub
    rw [r1.bools hn] at h1
    exact cr_any hc pins s σ H _ us Q I r ⟨a, ns, rfl, by rw [hK]; exact h1, p.scal kn (.bl _)⟩
  · cases e
theorem blt_tuple (hK : X.K = c.K) : CallR X (fval .tuple) (rBlt c .tuple) := by
  intro pins s σ H vs us Q I r h
  obtain ⟨Hs, F, rs, z, t, kn, rr, e, p⟩ := h
  have sub := kn.g.sub
  unfold bltD at e
  split at e <;> rename_i e1 <;> first | (cases e1; done) | skip
  · cases e
    obtain ⟨v, rfl, q⟩ := rr.one
    obtain ⟨a, ws, rfl, h1, r1⟩ := q.lstR rfl sub
    exact call_tuple_of pins s σ H _ us Q I r ⟨a, ws, rfl, .inl ⟨by rw [hK]; exact h1, p.tup kn.g kn.tp r1⟩⟩
  · cases e
    obtain ⟨v, rfl, q⟩ := rr.one
    obtain ⟨a, ws, rfl, h1, r1⟩ := q.tupH rfl sub
    exact call_tuple_of pins s σ H _ us Q I r ⟨a, ws, rfl, .inr ⟨by rw [hK]; exact h1, p.scal kn (q.tup rfl)⟩⟩
  · cases e
theorem blt_list (hK : X.K = c.K) : CallR X (fval .list) (rBlt c .list) := by
  intro pins s σ H vs us Q I r h
  obtain ⟨Hs, F, rs, z, t, kn, rr, e, p⟩ := h
  have sub := kn.g.sub
  unfold bltD at e
  split at e <;> rename_i e1 <;> first | (cases e1; done) | skip
  · cases e
    obtain ⟨v, rfl, q⟩ := rr.one
    obtain ⟨a, ws, rfl, h1, r1⟩ := q.lstR rfl sub
    exact call_list_of pins s σ H _ us Q I r ⟨a, ws, rfl, .inl (by rw [hK]; exact h1), p.lst kn.g kn.tp r1⟩
  · cases e
    obtain ⟨v, rfl, q⟩ := rr.one
    obtain ⟨a, ws, rfl, h1, r1⟩ := q.tupH rfl sub
    exact call_list_of pins s σ H _ us Q I r ⟨a, ws, rfl, .inr (by rw [hK]; exact h1), p.lst kn.g kn.tp r1⟩
  · cases e
theorem readsAll_of {pins : List (Addr × Obj)} {s : Shared} (I : Inv X pins σ H s) (hK : X.K = c.K) (sub : Ext F H) {vs : List V} {ds : List D} {its : List Value} (rv : Vals vs its) (r : RepL c F vs ds) (pl : PyData.plainAll ds = true) : ∃ as, ReadsAll s.heap its ds as :=
  Dp.readsAll I ds vs its (by rw [hK]; exact r.dp sub pl) rv
theorem blt_min1 (hc : X.calm = true) (hK : X.K = c.K) (hu : X.A.units + 200 < cLine) : CallR X (fval .min1) (rBlt c .min1) := by
  intro pins s σ H vs us Q I r h
  obtain ⟨Hs, F, rs, z, t, kn, rr, e, p⟩ := h
  have sub := kn.g.sub
  unfold bltD at e
  split at e <;> rename_i e1 <;> first | (cases e1; done) | skip
  · obtain ⟨v, rfl, q⟩ := rr.one
    split at e
    · rename_i ok
      cases e
      obtain ⟨o1, o2, o3⟩ := ord_of ok
      obtain ⟨a, ws, rfl, h1, r1⟩ := q.lstR rfl sub
      obtain ⟨its, rv, hl, hz⟩ := I.list (by rw [hK]; exact h1)
      obtain ⟨as, ra⟩ := readsAll_of I hK sub rv r1 o2
      rw [Vals.ref1 r]
      refine PySem.W.min_list_data (I.ok.hd hc) hl.isList (by simpa using ra) o1 (by omega) fun i u h' tk bs hi hr k => ?_
      obtain ⟨w, rw1, rep⟩ := item_is I hK sub rv r1 o2 (by simpa using hi) hr k
      exact ⟨w, H, I.kept k, rw1, p.scal kn rep⟩
    · cases e
  · obtain ⟨v, rfl, q⟩ := rr.one
    split at e
    · rename_i ok
      cases e
      obtain ⟨o1, o2, o3⟩ := ord_of ok
      obtain ⟨a, ws, rfl, h1, r1⟩ := q.tupH rfl sub
      obtain ⟨its, rv, hl, hz⟩ := I.tuple (by rw [hK]; exact h1)
      obtain ⟨as, ra⟩ := readsAll_of I hK sub rv r1 o2
      rw [Vals.ref1 r]
      refine PySem.W.min_tuple_data (I.ok.hd hc) hl (by simpa using ra) o1 (by omega) fun i u h' tk bs hi hr k => ?_
      obtain ⟨w, rw1, rep⟩ := item_is I hK sub rv r1 o2 (by simpa using hi) hr k
      exact ⟨w, H, I.kept k, rw1, p.scal kn rep⟩
    · cases e
  · cases e
theorem blt_max1 (hc : X.calm = true) (hK : X.K = c.K) (hu : X.A.units + 200 < cLine) : CallR X (fval .max1) (rBlt c .max1) := by
  intro pins s σ H vs us Q I r h
  obtain ⟨Hs, F, rs, z, t, kn, rr, e, p⟩ := h
  have sub := kn.g.sub
  unfold bltD at e
  split at e <;> rename_i e1 <;> first | (cases e1; done) | skip
  · obtain ⟨v, rfl, q⟩ := rr.one
    split at e
    · rename_i ok
      cases e
      obtain ⟨o1, o2, o3⟩ := ord_of ok
      obtain ⟨a, ws, rfl, h1, r1⟩ := q.lstR rfl sub
      obtain ⟨its, rv, hl, hz⟩ := I.list (by rw [hK]; exact h1)
      obtain ⟨as, ra⟩ := readsAll_of I hK sub rv r1 o2
      rw [Vals.ref1 r]
      refine PySem.W.max_list_data (I.ok.hd hc) hl.isList (by simpa using ra) o1 (by omega) fun i u h' tk bs hi hr k => ?_
      obtain ⟨w, rw1, rep⟩ := item_is I hK sub rv r1 o2 (by simpa using hi) hr k
      exact ⟨w, H, I.kept k, rw1, p.scal kn rep⟩
    · cases e
  · obtain ⟨v, rfl, q⟩ := rr.one
    split at e
    · rename_i ok
      cases e
      obtain ⟨o1, o2, o3⟩ := ord_of ok
      obtain ⟨a, ws, rfl, h1, r1⟩ := q.tupH rfl sub
      obtain ⟨its, rv, hl, hz⟩ := I.tuple (by rw [hK]; exact h1)
      obtain ⟨as, ra⟩ := readsAll_of I hK sub rv r1 o2
      rw [Vals.ref1 r]
      refine PySem.W.max_tuple_data (I.ok.hd hc) hl (by simpa using ra) o1 (by omega) fun i u h' tk bs hi hr k => ?_
      obtain ⟨w, rw1, rep⟩ := item_is I hK sub rv r1 o2 (by simpa using hi) hr k
      exact ⟨w, H, I.kept k, rw1, p.scal kn rep⟩
    · cases e
  · cases e
open PySem.W in
theorem each_of : ∀ {vs : List V} {ds : List D} {its : List Value}, Vals vs its → RepL c F vs ds → EachIs (fun (u : Value) (b : V × D) => RelV b.1 u ∧ Rep c F b.1 b.2) its (vs.zip ds)
  | _, _, _, .nil, .nil => .nil
  | _, _, _, .cons r t, .cons h q => .cons ⟨r, h⟩ (each_of t q)
open PySem.W in
theorem of_each : ∀ {us : List Value} {bs : List (V × D)}, EachIs (fun (u : Value) (b : V × D) => RelV b.1 u ∧ Rep c F b.1 b.2) us bs → Vals (bs.map (·.1)) us ∧ RepL c F (bs.map (·.1)) (bs.map (·.2))
  | _, _, .nil => ⟨.nil, .nil⟩
  | _, _, .cons h t => ⟨.cons h.1 (of_each t).1, .cons h.2 (of_each t).2⟩
theorem zip_fst : ∀ {vs : List V} {ds : List D}, RepL c F vs ds → (vs.zip ds).map (·.2) = ds
  | _, _, .nil => rfl
  | _, _, .cons h r => by
    rw [List.zip_cons_cons, List.map_cons, zip_fst r]
section
open PySem.W
variable {P : Program} {w : World} {A : Around} {E : Value → Shared → Prop} {s : Shared}
theorem collect_tup {l : Addr} {vs : List Value} {Q : List Value → Shared → Prop} (hl : s.heap.IsTuple l vs.toArray)
    (h : Q vs { s with heap := (s.heap.push (seqObj "list" #[] 0)).update s.heap.objs.size (Obj.mapSeq (· ++ vs.toArray)) }) (hsz : vs.length ≤ sizeLine) :
    wpAny (model P w) A (collect (.ref l)) Q E s := by
  obtain ⟨o, ho, hc, n, hd⟩ := id hl
  unfold collect
  refine wpAny_bind (wpAny_runValue (codeAny_builtin entry_proto_collect' ?_))
  show wpAny _ _ (do again (.builtin "list.__iadd__" ⟨[← newList [], .ref l], []⟩)) _ _ s
  refine wpAny_bind (wpAny_newList (wpAny_pure ⟨Code.quiet_builtin _ (by decide +kernel), codeAny_builtin entry_list_iadd' ?_⟩))
  show wpAny _ _ (Builtin.List.listExtendWith (.ref s.heap.objs.size) (.ref l) (.ref s.heap.objs.size)) _ _ { s with heap := s.heap.push (seqObj "list" #[] 0) }
  unfold Builtin.List.listExtendWith
  have ho' : (s.heap.push (seqObj "list" #[] 0)).get? l = some o := Heap.get?_push_of_some _ ho
  refine wpAny_bind (wpAny_typeOf (T := "tuple") ⟨o, ho', hc⟩ ?_)
  have ht : (Value.type "tuple" == Value.type "tuple") = true := by rfl
  rw [if_pos (by rw [ht]; simp)]
  refine wpAny_bind (listItems_at ho' hd ?_)
  refine wpAny_bind (listItems_at (xs := #[]) (n := 0) (Heap.get?_push_size _ rfl) rfl ?_)
  rw [if_neg (by simp)]
  refine wpAny_bind (listUpdate_at (xs := #[]) (n := 0) (Heap.get?_push_size _ rfl) rfl ?_ (Nat.zero_le _) (by show (#[] ++ vs.toArray).size ≤ sizeLine + 1; simp only [Array.size_append, List.size_toArray, List.length_nil]; omega))
  refine wpAny_pure ?_
  show wpAny (model P w) A (do
      let o ← load s.heap.objs.size
      match o.data with
      | .seq xs _ => pure xs.toList
      | _ => unsupported "internal:collect") Q E { s with heap := (s.heap.push (seqObj "list" #[] 0)).update s.heap.objs.size (Obj.mapSeq (· ++ vs.toArray)) }
  refine wpAny_bind (wpAny_load (get?_update_seq (Heap.get?_push_size _ rfl) _) ?_)
  show wpAny _ _ (pure ((#[] : Array Value) ++ vs.toArray).toList) Q E _
  rw [show ((#[] : Array Value) ++ vs.toArray).toList = vs by simp]
  exact wpAny_pure h
theorem sorted_dataT {β : Type} {R : Value → β → Prop} {bs : List β} {enc : β → PyData} {vs : List Value} {l : Addr} {Q : Value → Shared → Prop} (hl : s.heap.IsTuple l vs.toArray) (e : EachIs R vs bs) (er : EachIs (fun v b => ∃ as, Reads s.heap v (enc b) as) vs bs) (hal : AllAlike (bs.map enc)) (hk : Sortable (bs.map enc)) (hL : bs.length ≤ sizeLine)
    (hu : ∀ b, b ∈ bs → A.units + 2 + (enc b).depth < cLine) (h : ∀ out, out.length = bs.length → EachIs R out (bs.mergeSort (dataLe false enc)) → Q (.ref (s.heap.objs.size + 1)) { s with heap := sortedAll s.heap vs (List.toArray out) }) :
    wpAny (model P w) A (call (.builtin "sorted") [.ref l]) Q E s := by
  have er' : EachIs (fun v b => ∃ as, Reads (sortingHeap (copyHeap s.heap vs) (s.heap.objs.size + 1) vs) v (enc b) as) vs bs := er.mono fun _ _ ⟨as, r⟩ => ⟨as, PyProof.Rows.Reads.keeps (fun _ _ => sorting_copy_old) r⟩
  have hL' : vs.length ≤ sizeLine := by rw [e.length]; exact hL
  refine call_function_entry_kw kind_sorted plain_sorted entry_sorted (args_sorted1 _) ?_
  unfold Builtin.«sorted»
  refine wpAny_bind (m := checkCount "sorted" 1 1 _) (wpAny_pure ?_)
  refine wpAny_bind (collect_tup hl ?_ hL')
  refine wpAny_bind (wpAny_newList ?_ hL')
  have hsz : ((s.heap.push (seqObj "list" #[] 0)).update s.heap.objs.size (Obj.mapSeq (· ++ vs.toArray))).objs.size = s.heap.objs.size + 1 := by
    rw [Heap.size_update, size_push']
  show wpAny _ _ _ _ _ { s with heap := copyHeap s.heap vs }
  rw [hsz]
  refine wpAny_bind (wpAny_holding (wpAny_call_entry_kw slot_list_sort ⟨_, copyHeap_at s.heap vs, rfl⟩ entry_list_sort ?body (args_list_sort _)))
  case body =>
    show wpAny (model P w) A.in1.in1 (Builtin.«list.sort» ⟨[.ref (s.heap.objs.size + 1)], []⟩) _ _ _
    refine list_sort_vals (s := { s with heap := copyHeap s.heap vs }) (copyHeap_at s.heap vs) (SortsAt.data (s := { s with heap := sortingHeap (copyHeap s.heap vs) (s.heap.objs.size + 1) vs }) (each_map (R := fun v d => ∃ as, Reads (sortingHeap (copyHeap s.heap vs) (s.heap.objs.size + 1) vs) v d as) enc er') hal hk (bound_map hu)) hL' ?_
    exact ⟨_, rfl, wpAny_pure ⟨_, rfl, h _ (by rw [sortVals_length false rfl]; exact e.length) (sortVals_data false e er' hal)⟩⟩
end
theorem rep_strs {c : Pm} {F : Hp} : ∀ ns : List Str, RepL c F (ns.map V.str) (ns.map PyData.str)
  | [] => .nil
  | n :: ns => .cons (.str n) (rep_strs ns)
theorem rising_pw : ∀ (p : Str) (l : List Str), risingS p l = true → (p :: l).Pairwise (fun a b : Str => ¬ b.cps.toList < a.cps.toList)
  | p, [], _ => List.pairwise_singleton _ _
  | p, x :: r, h => by
    simp only [risingS, Bool.and_eq_true, Bool.not_eq_true', ltCps_eq, decide_eq_false_iff_not] at h
    have ih := rising_pw x r h.2
    refine List.pairwise_cons.mpr ⟨fun y hy => ?_, ih⟩
    rcases List.mem_cons.mp hy with rfl | hy
    · exact h.1
    · have h2 := (List.pairwise_cons.mp ih).1 y hy
      have h1 := h.1
      rw [List.not_lt] at *
      exact List.le_trans h1 h2
theorem ssort_perm (ns : List Str) : (ssort ns).Perm ns := List.mergeSort_perm ..
theorem ssort_asc (ns : List Str) : (ssort ns).Pairwise (fun a b : Str => ¬ b.cps.toList < a.cps.toList) := by
  have := List.pairwise_mergeSort (le := fun a b : Str => !decide (b.cps.toList < a.cps.toList)) (fun a b c h1 h2 => by
    simp only [Bool.not_eq_true', decide_eq_false_iff_not] at *
    rw [List.not_lt] at *
    exact List.le_trans h1 h2) (fun a b => by
    simp only [Bool.or_eq_true, Bool.not_eq_true', decide_eq_false_iff_not]
    by_cases h : b.cps.toList < a.cps.toList
    · exact .inr (List.lt_asymm h)
    · exact .inl h) ns
  exact this.imp fun h => by simpa using h
theorem ssort_uniq {ys ks : List Str} (p : ys.Perm ks) (h : sortedS ys = true) : ys = ssort ks := by
  have hp : ys.Pairwise (fun a b : Str => ¬ b.cps.toList < a.cps.toList) := by
    cases ys with
    | nil => exact .nil
    | cons x r => exact rising_pw x r h
  refine (p.trans (ssort_perm ks).symm).eq_of_pairwise (fun a b _ _ h1 h2 => ?_) hp (ssort_asc ks)
  have e : a.cps.toList = b.cps.toList := List.le_antisymm (List.not_lt.mp h1) (List.not_lt.mp h2)
  cases a
  cases b
  congr 1
  exact Array.toList_inj.mp e
open PySem.W in
theorem blt_sorted (hc : X.calm = true) (hK : X.K = c.K) (hu : X.A.units + 200 < cLine) : CallR X (fval .sorted) (rBlt c .sorted) := by
  intro pins s σ H vs us Q I r h
  obtain ⟨Hs, F, rs, z, t, kn, rr, e, p⟩ := h
  have sub := kn.g.sub
  unfold bltD at e
  split at e <;> rename_i e1 <;> first | (cases e1; done) | skip
  · obtain ⟨es, ee, e⟩ := Option.bind_eq_some_iff.mp e
    split at e
    · rename_i ks ek
      split at e
      · rename_i hl
        cases e
        obtain ⟨v, rfl, q⟩ := rr.one
        obtain ⟨a, kvs, rfl, h1, r1⟩ := q.dicR rfl ee sub
        refine call_sortedDI hc pins s σ H _ us Q I r ⟨a, kvs, ks, rfl, h1, by rw [r1.keys, intKeys_of ek], hl, fun ys p' hp hs hn => ?_⟩
        have e2 : ys = isort ks := asc_uniq (hp.trans (isort_perm ks).symm) hs (isort_asc ks)
        subst e2
        exact p.lst kn.g kn.tp (rep_ints _) _ hn
      · cases e
    · rename_i ks ek0 ek
      split at e
      · rename_i hl
        cases e
        obtain ⟨v, rfl, q⟩ := rr.one
        obtain ⟨a, kvs, rfl, h1, r1⟩ := q.dicR rfl ee sub
        refine call_sortedD hc pins s σ H _ us Q I r ⟨a, kvs, ks, rfl, h1, by rw [r1.keys, strKeys_of ek], hl, fun ys p' hp hs hn => ?_⟩
        have e2 : ys = ssort ks := ssort_uniq hp hs
        subst e2
        exact p.lst kn.g kn.tp (rep_strs _) _ hn
      · cases e
    · cases e
  · rename_i kd0 ds0
    obtain ⟨v, rfl, q⟩ := rr.one
    split at e
    · rename_i ok
      cases e
      simp only [srtOk, Bool.and_eq_true, Bool.or_eq_true, List.all_eq_true, decide_eq_true_eq] at ok
      obtain ⟨⟨ok1, ok2⟩, ok3⟩ := ok
      obtain ⟨o1, o2, o3⟩ := alk_of ok1
      obtain ⟨a, ws, rfl, h1, r1⟩ := q.lstR rfl sub
      obtain ⟨its, rv, hl, hz⟩ := I.list (by rw [hK]; exact h1)
      rw [Vals.ref1 r]
      have zl := zip_fst r1
      have hlen : (ws.zip ds0).length = ds0.length := by
        have := congrArg List.length zl
        rw [List.length_map] at this
        exact this
      have eE := each_of rv r1
      have memz : ∀ b, b ∈ ws.zip ds0 → b.2 ∈ ds0 := fun b hb => by
        rw [← zl]
        exact List.mem_map.mpr ⟨b, hb, rfl⟩
      refine sorted_data (enc := fun b : V × D => b.2) hl.isList eE (?er) ?hal ?hk (by rw [hlen]; exact ok3) (fun b hb => ?_) fun out h1 h2 => ?_
      case er =>
        have : ∀ {us : List Value} {bs : List (V × D)}, EachIs (fun (u : Value) (b : V × D) => RelV b.1 u ∧ Rep c F b.1 b.2) us bs → PyData.plainAll (bs.map (·.2)) = true → EachIs (fun v b => ∃ as, Reads s.heap v b.2 as) us bs := by
          intro us bs h
          induction h with
          | nil => intro _; exact .nil
          | cons h t ih =>
            intro pl
            rw [List.map_cons] at pl
            simp only [PyData.plainAll, Bool.and_eq_true] at pl
            exact .cons (Dp.reads I _ _ _ (by rw [hK]; exact h.2.dp sub pl.1) h.1) (ih pl.2)
        exact this eE (by rw [zl]; exact o2)
      case hal =>
        rw [zl]
        exact o1
      case hk =>
        rw [zl]
        rcases ok2 with z | z
        · left
          intro d hd
          have := z d hd
          cases d <;> first | cases this | skip
          rename_i l
          cases l <;> first | exact ⟨_, _, rfl⟩ | cases this
        · right
          intro d hd
          have := z d hd
          refine ⟨fun e => ?_, fun xs e => ?_⟩
          · rw [e] at this; cases this
          · rw [e] at this; cases this
      · have := depth_at (memz b hb)
        show X.A.units + 2 + PyData.depth b.2 < cLine
        omega
      · obtain ⟨k1, k2⟩ := of_each h2
        have em : ((ws.zip ds0).mergeSort (dataLe false fun b : V × D => b.2)).map (·.2) = sortD ds0 := by
          have hd : (dataLe false fun b : V × D => b.2) = fun a b => leD a.2 b.2 := rfl
          rw [hd, List.map_mergeSort (r := fun a b : V × D => leD a.2 b.2) (s := leD) (f := fun x : V × D => x.2) (fun a _ b _ => rfl), zl]
          rfl
        rw [em] at k2
        obtain ⟨ep, he'⟩ := PyProof.Rows.sortedAll_at s.heap its out.toArray
        have hlen' : (((ws.zip ds0).mergeSort (dataLe false fun b : V × D => b.2)).map (·.1)).length ≤ sizeLine := by
          rw [List.length_map, List.length_mergeSort, hlen, ← lim_eq]
          exact ok3
        exact ⟨.ref _, upd H (s.heap.objs.size + 1) (.lst _), I.laid (t' := s.toks) (fun _ _ => PyProof.Rows.sortedAll_old) (Nat.le_succ _) ⟨hlen', out, ep, k1, he'⟩, rfl, p.lst kn.g kn.tp k2 _ (I.hok.fresh (Nat.le_succ _))⟩
    · cases e
  · rename_i kd0 ds0
    obtain ⟨v, rfl, q⟩ := rr.one
    split at e
    · rename_i ok
      cases e
      simp only [srtOk, Bool.and_eq_true, Bool.or_eq_true, List.all_eq_true, decide_eq_true_eq] at ok
      obtain ⟨⟨ok1, ok2⟩, ok3⟩ := ok
      obtain ⟨o1, o2, o3⟩ := alk_of ok1
      obtain ⟨a, ws, rfl, h1, r1⟩ := q.tupH rfl sub
      obtain ⟨its, rv, hl, hz⟩ := I.tuple (by rw [hK]; exact h1)
      rw [Vals.ref1 r]
      have zl := zip_fst r1
      have hlen : (ws.zip ds0).length = ds0.length := by
        have := congrArg List.length zl
        rw [List.length_map] at this
        exact this
      have eE := each_of rv r1
      have memz : ∀ b, b ∈ ws.zip ds0 → b.2 ∈ ds0 := fun b hb => by
        rw [← zl]
        exact List.mem_map.mpr ⟨b, hb, rfl⟩
      refine sorted_dataT (enc := fun b : V × D => b.2) hl eE (?er) ?hal ?hk (by rw [hlen]; exact ok3) (fun b hb => ?_) fun out h1 h2 => ?_
      case er =>
        have : ∀ {us : List Value} {bs : List (V × D)}, EachIs (fun (u : Value) (b : V × D) => RelV b.1 u ∧ Rep c F b.1 b.2) us bs → PyData.plainAll (bs.map (·.2)) = true → EachIs (fun v b => ∃ as, Reads s.heap v b.2 as) us bs := by
          intro us bs h
          induction h with
          | nil => intro _; exact .nil
          | cons h t ih =>
            intro pl
            rw [List.map_cons] at pl
            simp only [PyData.plainAll, Bool.and_eq_true] at pl
            exact .cons (Dp.reads I _ _ _ (by rw [hK]; exact h.2.dp sub pl.1) h.1) (ih pl.2)
        exact this eE (by rw [zl]; exact o2)
      case hal =>
        rw [zl]
        exact o1
      case hk =>
        rw [zl]
        rcases ok2 with z | z
        · left
          intro d hd
          have := z d hd
          cases d <;> first | cases this | skip
          rename_i l
          cases l <;> first | exact ⟨_, _, rfl⟩ | cases this
        · right
          intro d hd
          have := z d hd
          refine ⟨fun e => ?_, fun xs e => ?_⟩
          · rw [e] at this; cases this
          · rw [e] at this; cases this
      · have := depth_at (memz b hb)
        show X.A.units + 2 + PyData.depth b.2 < cLine
        omega
      · obtain ⟨k1, k2⟩ := of_each h2
        have em : ((ws.zip ds0).mergeSort (dataLe false fun b : V × D => b.2)).map (·.2) = sortD ds0 := by
          have hd : (dataLe false fun b : V × D => b.2) = fun a b => leD a.2 b.2 := rfl
          rw [hd, List.map_mergeSort (r := fun a b : V × D => leD a.2 b.2) (s := leD) (f := fun x : V × D => x.2) (fun a _ b _ => rfl), zl]
          rfl
        rw [em] at k2
        obtain ⟨ep, he'⟩ := PyProof.Rows.sortedAll_at s.heap its out.toArray
        have hlen' : (((ws.zip ds0).mergeSort (dataLe false fun b : V × D => b.2)).map (·.1)).length ≤ sizeLine := by
          rw [List.length_map, List.length_mergeSort, hlen, ← lim_eq]
          exact ok3
        exact ⟨.ref _, upd H (s.heap.objs.size + 1) (.lst _), I.laid (t' := s.toks) (fun _ _ => PyProof.Rows.sortedAll_old) (Nat.le_succ _) ⟨hlen', out, ep, k1, he'⟩, rfl, p.lst kn.g kn.tp k2 _ (I.hok.fresh (Nat.le_succ _))⟩
    · cases e
  · cases e
theorem blt_dict (hc : X.calm = true) (hK : X.K = c.K) : CallR X (fval .dict) (rBlt c .dict) := by
  intro pins s σ H vs us Q I r h
  obtain ⟨Hs, F, rs, z, t, kn, rr, e, p⟩ := h
  have sub := kn.g.sub
  unfold bltD at e
  split at e <;> rename_i e1 <;> first | (cases e1; done) | skip
  · obtain ⟨es, ee, e⟩ := Option.bind_eq_some_iff.mp e
    split at e
    · cases e
      obtain ⟨v, rfl, q⟩ := rr.one
      obtain ⟨a, ws, rfl, h1, r1⟩ := q.lstR rfl sub
      obtain ⟨ps, kvs, rfl, q2, q3⟩ := pairs_rep sub r1 ee
      exact call_dictP hc pins s σ H _ us Q I r ⟨a, ps, kvs, rfl, by rw [hK]; exact h1, by rw [hK]; exact q2, p.dict kn.g kn.tp (q3.merge .nil)⟩
    · cases e
  · obtain ⟨es, ee, e⟩ := Option.map_eq_some_iff.mp e
    subst e
    obtain ⟨v, rfl, q⟩ := rr.one
    obtain ⟨a, kvs, rfl, h1, r1⟩ := q.dicR rfl ee sub
    exact call_dictD pins s σ H _ us Q I r ⟨a, kvs, rfl, h1, p.dict kn.g kn.tp r1⟩
  · cases e
end
end
end Q
namespace Q
open PySem PySem.Spec PyProof.Rows L2

/-! ### where one stands -/
def bnames : List Str := ["len", "abs", "int", "max", "min", "sum", "all", "any", "tuple", "list", "sorted", "range", "zip", "isinstance", "bool", "str", "dict", "enumerate", "set"]
/-- a call of a def of the program -/
def spF (c : Pm) (m : List D → M R) : Sp := fun vs H Q _ => ∃ F t ds r t', Ext F H ∧ Tape c F H t ∧ RepL c F vs ds ∧ m ds t = some (r, t') ∧ Post c F H r t' Q
/-- the next draw -/
def spN (c : Pm) : Sp := fun vs H Q _ => ∃ F t a m i t', vs = [.ref a, .int m] ∧ c.aw = some a ∧ Ext F H ∧ Tape c F H t ∧ nextD c.ds m t = some (i, t') ∧ Post c F H (shd (.int i)) t' Q
structure Def (X : Cx) (k : Nat) (x : Str) (sp : Sp) : Prop where
  ex : ∃ a fd ps, X.mg x = some (.ref a) ∧ PySem.W.keepIn X.K (.ref a) = true ∧ Binds X.K fd ps [] ∧ FnOk X.prog X.w X.K X.mg X.base CX0 k a fd ps sp
structure Good (X : Cx) (c : Pm) (g : Gl) (fs : List Str) : Prop where
  calm : X.calm = true
  nd : X.N.Nodup
  hK : X.K = c.K
  xe : X.xe = fun _ _ => False
  hu : X.A.units + 200 < cLine
  ds : g.ds = c.ds
  bn : ∀ x, x ∈ bnames → X.mg x = none
  db : X.mg "__debug__" = none
  fn : ∃ k, Room k X.A ∧ (∀ f x, fs[f]? = some x → Def X k x (spF c (g.call f))) ∧ (c.aw ≠ none → Def X k "_law_next" (spN c))
end Q
namespace Q
open PySem PySem.Spec PyProof.Rows L2
theorem Good.blk {X : Cx} {c : Pm} {g : Gl} {fs : List Str} (G : Good X c g fs) (s : Shared) (H : Hp) (sc : Scope) (env : PySem.Env) (fp : List Addr) : Good (X.blk s H sc env fp) c g fs := by
  obtain ⟨k, hr, h1, h2⟩ := G.fn
  exact ⟨G.calm, G.nd, G.hK, rfl, G.hu, G.ds, G.bn, G.db, k, hr, fun f x e => ⟨(h1 f x e).ex⟩, fun n => ⟨(h2 n).ex⟩⟩

theorem star_cons {e : PySem.Expr} {es : List PySem.Expr} {env : PySem.Env} (h : noStar e = true) : starEach (e :: es) env = (false, eval e env) :: starEach es env := by
  cases e <;> first | rfl | cases h
theorem star_all : ∀ {es : List PySem.Expr} {env : PySem.Env}, es.all noStar = true → (starEach es env).any (·.1) = false
  | [], _, _ => rfl
  | e :: es, env, h => by
    simp only [List.all_cons, Bool.and_eq_true] at h
    rw [star_cons h.1, List.any_cons, star_all h.2]
    rfl
theorem back_any (pos : Pos) (l : List (Bool × Sem Value)) : (backTo pos l).any (·.1) = l.any (·.1) := by
  unfold backTo
  rw [List.any_map]
  rfl
theorem mark_no {op : CmpOp} {e : PySem.Expr} (h : noSet e = true) : behindInMarks op e = false := by
  cases e <;> first | rfl | cases h
theorem ix_plain {b : PySem.Expr} (h : noSlice b = true) : PlainIx b := by
  intro o i
  cases b <;> first | rfl | cases h
theorem set_plain {iter : PySem.Expr} (env : PySem.Env) (x : Value) (h : noSet iter = true) : foldedSetIterable iter env x = pure x := by
  cases iter <;> first | rfl | cases h
section
variable {X : Cx} {c : Pm} {g : Gl} {fs : List Str}
variable {F0 H0 F H F' H' Hs : Hp} {σ : L2.St} {ρ : Env} {t t' : Nat} {v : V} {x : R}
theorem SR.kn (S : SR c F0 H0 F H σ ρ t) (b : ∀ a, H a = none → Hs a = none) : Kn c Hs F H t := ⟨S.refl, b, S.tp⟩
theorem r_var {i : Nat} {e : PySem.Expr} (h : chkN X.N X.env.scope i e = true) : PE X e (mE c fun ρ => opt (getS ρ i)) := by
  cases e <;> first | cases h | skip
  rename_i x pos
  simp only [chkN, Bool.and_eq_true, decide_eq_true_eq, Bool.not_eq_true'] at h
  obtain ⟨⟨⟨h1, h2⟩, h3⟩, h4⟩ := h
  have hv : Vis X.env.scope x := by
    unfold vis at h2
    unfold Vis
    split at h2
    · rename_i q; exact .inl q
    · rename_i q; exact .inr (.inl q)
    · rename_i q; exact .inr (.inr q)
    · cases h2
  refine PE.weak (pe_var h1 hv h3 h4) fun σ H Q q => ?_
  obtain ⟨F0, H0, F, ρ, t, r, t', S, e, p⟩ := q
  obtain ⟨e', rfl⟩ := opt_some e
  obtain ⟨v, ev, rr⟩ := S.get e'
  exact ⟨v, ev, p v F H S.refl S.tp rr⟩
theorem r_cst {d : D} {k : Const} {j : Nat} {pos : Pos} (h : cstM d k = true) : PE X (.Constant k j pos) (mE c fun ρ => ret (shd d)) := by
  have fin : ∀ {σ : L2.St} {H : Hp} {Q : VK} {w : V}, (∀ F, Rep c F w d) → mE c (fun ρ => ret (shd d)) σ H Q → Q w H := fun {σ H Q w} hw q => by
    obtain ⟨F0, H0, F, ρ, t, r, t', S, e, p⟩ := q
    cases e
    exact p w F H S.refl S.tp (hw F)
  cases d <;> cases k <;> first | cases h | skip
  · exact PE.weak pe_non fun σ H Q q => fin (fun _ => .non) q
  · have e := beq_iff_eq.mp h
    subst e
    exact PE.weak pe_bl fun σ H Q q => fin (fun _ => .bl _) q
  · have e := beq_iff_eq.mp h
    subst e
    exact PE.weak pe_int fun σ H Q q => fin (fun _ => .int _) q
  · have e := of_decide_eq_true h
    subst e
    exact PE.weak pe_str fun σ H Q q => fin (fun _ => .str _) q
theorem intOf_some {d : D} {i : Int} (h : intOf d = some i) : d = .int i := by
  cases d <;> first | cases h | skip
  rfl
theorem tru_some {d : D} {i : Bool} (h : tru d = some i) : d = .bool i := by
  cases d <;> first | cases h | skip
  rfl
variable {a b e : PySem.Expr} {ma mb : Env → M R} {pos : Pos}
theorem r_neg (ha : PE X a (mE c ma)) : PE X (.UnaryOp .USub a pos) (mE c fun ρ => bnd (ma ρ) fun x => opt ((intOf x.d).map fun i => shd (.int (-i)))) := by
  refine PE.weak (pe_un un_neg ha) fun σ H Q q => ?_
  obtain ⟨F0, H0, F, ρ, t, r, t', S, e, p⟩ := q
  obtain ⟨x, t1, e1, e⟩ := bnd_some e
  obtain ⟨e', rfl⟩ := opt_some e
  obtain ⟨i, hi, rfl⟩ := Option.map_eq_some_iff.mp e'
  exact one S e1 fun v F1 H1 gr tp S1 rr => ⟨i, rr.int (intOf_some hi), p _ F1 H1 gr tp (Rep.int _)⟩
theorem r_bin (G : Good X c g fs) {op : Op} {pop : Operator} (ho : opM op pop = true) (ha : PE X a (mE c ma)) (hb : PE X b (mE c mb)) :
    PE X (.BinOp a pop b pos) (mE c fun ρ => bnd (ma ρ) fun x => bnd (mb ρ) fun y => opt (opD op x y)) := by
  refine PE.weak (pe_op (op_all G.hK op ho) ha hb) fun σ H Q q => ?_
  obtain ⟨F0, H0, F, ρ, t, r, t', S, e, p⟩ := q
  obtain ⟨x, t1, e1, e⟩ := bnd_some e
  obtain ⟨y, t2, e2, e⟩ := bnd_some e
  obtain ⟨e', rfl⟩ := opt_some e
  exact two S e1 e2 fun v u F1 H1 gr tp S1 r1 r2 => ⟨H, F1, x, y, r, _, S1.kn gr.back, r1, r2, e', p.on gr⟩
theorem bol_some {o : Option Bool} {t t' : Nat} {r : R} (h : bol o t = some (r, t')) : ∃ b, o = some b ∧ r = shd (.bool b) ∧ t' = t := by
  unfold bol at h
  cases o with
  | none => cases h
  | some b =>
    cases h
    exact ⟨b, rfl, rfl, rfl⟩
theorem r_cmp (G : Good X c g fs) {op : Cp} {pop : CmpOp} (ho : cpM op pop = true) (ha : PE X a (mE c ma)) (hb : PE X b (mE c mb)) (hs : noSet b = true) :
    PE X (.Compare a [pop] [b] pos) (mE c fun ρ => bnd (ma ρ) fun x => bnd (mb ρ) fun y => bol (cpD op x.d y.d)) := by
  refine PE.weak (pe_cmpR (cp_all G.hK G.hu op ho) ha hb (mark_no hs)) fun σ H Q q => ?_
  obtain ⟨F0, H0, F, ρ, t, r, t', S, e, p⟩ := q
  obtain ⟨x, t1, e1, e⟩ := bnd_some e
  obtain ⟨y, t2, e2, e⟩ := bnd_some e
  obtain ⟨k, e', rfl, rfl⟩ := bol_some e
  exact two S e1 e2 fun v u F1 H1 gr tp S1 r1 r2 => ⟨H, F1, x, y, k, _, S1.kn gr.back, r1, r2, e', p _ F1 H1 gr tp (Rep.bl _)⟩
theorem rt_cmp (G : Good X c g fs) {op : Cp} {pop : CmpOp} (ho : cpM op pop = true) (ha : PE X a (mE c ma)) (hb : PE X b (mE c mb)) (hs : noSet b = true) :
    PT X (.Compare a [pop] [b] pos) (mT c fun ρ => bnd (ma ρ) fun x => bnd (mb ρ) fun y => opt (cpD op x.d y.d)) := by
  refine PT.weak (pt_cmpR (cp_all G.hK G.hu op ho) ha hb (mark_no hs)) fun σ H Q q => ?_
  obtain ⟨F0, H0, F, ρ, t, r, t', S, e, p⟩ := q
  obtain ⟨x, t1, e1, e⟩ := bnd_some e
  obtain ⟨y, t2, e2, e⟩ := bnd_some e
  obtain ⟨e', rfl⟩ := opt_some e
  exact two (Q := fun v u H1 => rCp c op v u H1 fun z H2 => ∃ k, z = .bl k ∧ Q k H2) S e1 e2 fun v u F1 H1 gr tp S1 r1 r2 => ⟨H, F1, x, y, r, _, S1.kn gr.back, r1, r2, e', r, rfl, p F1 H1 gr tp⟩
theorem last_no {op op' : CmpOp} {b d : PySem.Expr} (h2 : noSet d = true) : lastMarks [op, op'] [b, d] = false := mark_no h2
variable {d : PySem.Expr} {md : Env → M R}
theorem r_chn (G : Good X c g fs) {op op' : Cp} {pop pop' : CmpOp} (ho : cpM op pop = true) (ho' : cpM op' pop' = true) (ha : PE X a (mE c ma)) (hb : PE X b (mE c mb)) (hd : PE X d (mE c md)) (hs : noSet d = true) :
    PE X (.Compare a [pop, pop'] [b, d] pos) (mE c fun ρ => bnd (ma ρ) fun x => bnd (mb ρ) fun y => bnd (opt (cpD op x.d y.d)) fun k => if k then bnd (md ρ) fun z => bol (cpD op' y.d z.d) else ret (shd (.bool false))) := by
  refine PE.weak (pe_chain (cp_all G.hK G.hu op ho) (cp_all G.hK G.hu op' ho') ha hb hd (last_no hs)) fun σ H Q q => ?_
  obtain ⟨F0, H0, F, ρ, t, r, t', S, e, p⟩ := q
  obtain ⟨x, t1, e1, e⟩ := bnd_some e
  obtain ⟨y, t2, e2, e⟩ := bnd_some e
  obtain ⟨k, t3, e3, e⟩ := bnd_some e
  obtain ⟨e3', rfl⟩ := opt_some e3
  refine two S e1 e2 fun v u F1 H1 gr tp S1 r1 r2 => ⟨H, F1, x, y, k, _, S1.kn gr.back, r1, r2, e3', k, rfl, ?_⟩
  cases k with
  | true =>
    rw [if_pos rfl] at e ⊢
    obtain ⟨z, t4, e4, e⟩ := bnd_some e
    obtain ⟨k', e', rfl, rfl⟩ := bol_some e
    exact one S1 e4 fun w F2 H2 gr2 tp2 S2 r3 => ⟨H, F2, y, z, k', _, S2.kn (gr.trans gr2).back, r2.grow gr2 tp, r3.back gr.back, e', p _ F2 H2 (gr.trans gr2) tp2 (Rep.bl _)⟩
  | false =>
    rw [if_neg (by decide)] at e ⊢
    cases e
    exact p _ F1 H1 gr tp (Rep.bl _)
end
end Q
namespace Q
open PySem PySem.Spec PyProof.Rows L2
theorem opt_bnd {α β : Type} {o : Option α} {f : α → M β} {t : Nat} {r : β × Nat} (h : bnd (opt o) f t = some r) : ∃ a, o = some a ∧ f a t = some r := by
  cases o with
  | none => cases h
  | some a => exact ⟨a, rfl, h⟩
section
variable {X : Cx} {c : Pm} {g : Gl} {fs : List Str}
variable {F0 H0 F H F' H' Hs : Hp} {σ : L2.St} {ρ : Env} {t t' t1 t2 : Nat} {v : V} {x : R}
variable {a b d : PySem.Expr} {ma mb md : Env → M R} {pos : Pos} {rest : List PySem.Expr}
theorem oneL {m : Env → M (List R)} {xs : List R} {Q : List V → Hp → Prop} (S : SR c F0 H0 F H σ ρ t) (e : m ρ t = some (xs, t1))
    (k : ∀ vs F1 H1, Grow c F H F1 H1 → Tape c F1 H1 t1 → SR c F0 H0 F1 H1 σ ρ t1 → RRL c H F1 H1 vs xs → Q vs H1) : mL c m σ H Q :=
  ⟨F0, H0, F, ρ, t, xs, t1, S, e, fun v F1 H1 g tp r => k v F1 H1 g tp (S.grow g tp) r⟩
theorem oneO {m : Env → M (Option Int)} {b : Option Int} {Q : Option Int → Hp → Prop} (S : SR c F0 H0 F H σ ρ t) (e : m ρ t = some (b, t1))
    (k : ∀ F1 H1, Grow c F H F1 H1 → Tape c F1 H1 t1 → SR c F0 H0 F1 H1 σ ρ t1 → Q b H1) : mO c m σ H Q :=
  ⟨F0, H0, F, ρ, t, b, t1, S, e, fun F1 H1 g tp => k F1 H1 g tp (S.grow g tp)⟩
theorem rt_chn (G : Good X c g fs) {op op' : Cp} {pop pop' : CmpOp} (ho : cpM op pop = true) (ho' : cpM op' pop' = true) (ha : PE X a (mE c ma)) (hb : PE X b (mE c mb)) (hd : PE X d (mE c md)) (hs : noSet d = true) :
    PT X (.Compare a [pop, pop'] [b, d] pos) (mT c fun ρ => bnd (ma ρ) fun x => bnd (mb ρ) fun y => bnd (opt (cpD op x.d y.d)) fun k => if k then bnd (md ρ) fun z => opt (cpD op' y.d z.d) else ret false) := by
  refine PT.weak (pt_chain (cp_all G.hK G.hu op ho) (cp_all G.hK G.hu op' ho') ha hb hd (last_no hs)) fun σ H Q q => ?_
  obtain ⟨F0, H0, F, ρ, t, r, t', S, e, p⟩ := q
  obtain ⟨x, t1, e1, e⟩ := bnd_some e
  obtain ⟨y, t2, e2, e⟩ := bnd_some e
  obtain ⟨k, e3', e⟩ := opt_bnd e
  refine two (Q := fun v u H1 => rCp c op v u H1 fun z H3 => ∃ k, z = .bl k ∧ (if k = true then mE c md σ H3 fun w' H4 => rCp c op' u w' H4 (fun z H5 => ∃ k, z = .bl k ∧ Q k H5) else ∃ k, V.bl false = .bl k ∧ Q k H3)) S e1 e2 fun v u F1 H1 gr tp S1 r1 r2 => ⟨H, F1, x, y, k, _, S1.kn gr.back, r1, r2, e3', k, rfl, ?_⟩
  cases k with
  | true =>
    rw [if_pos rfl] at e ⊢
    obtain ⟨z, t4, e4, e⟩ := bnd_some e
    obtain ⟨e', rfl⟩ := opt_some e
    exact one S1 e4 fun w F2 H2 gr2 tp2 S2 r3 => ⟨H, F2, y, z, r, _, S2.kn (gr.trans gr2).back, r2.grow gr2 tp, r3.back gr.back, e', r, rfl, p F2 H2 (gr.trans gr2) tp2⟩
  | false =>
    rw [if_neg (by decide)] at e ⊢
    cases e
    exact ⟨false, rfl, p F1 H1 gr tp⟩
theorem r_one {op : BoolOp} (ha : PE X a (mE c ma)) : PE X (.BoolOp op [a] pos) (mE c ma) := pe_one ha
theorem r_and (ha : PE X a (mE c ma)) (hb : PE X (.BoolOp .And (b :: rest) pos) (mE c mb)) : PE X (.BoolOp .And (a :: b :: rest) pos) (mE c fun ρ => bnd (ma ρ) fun x => bnd (opt (tru x.d)) fun k => if k then mb ρ else ret (shd (.bool false))) := by
  refine PE.weak (pe_and ha hb) fun σ H Q q => ?_
  obtain ⟨F0, H0, F, ρ, t, r, t', S, e, p⟩ := q
  obtain ⟨x, t1, e1, e⟩ := bnd_some e
  obtain ⟨k, e2', e⟩ := opt_bnd e
  refine one S e1 fun v F1 H1 gr tp S1 r1 => ⟨k, r1.bool (tru_some e2'), ?_⟩
  cases k with
  | true =>
    rw [if_pos rfl] at e ⊢
    exact ⟨F0, H0, F1, ρ, _, r, t', S1, e, p.on gr⟩
  | false =>
    rw [if_neg (by decide)] at e ⊢
    cases e
    exact p _ F1 H1 gr tp (Rep.bl _)
theorem r_or (ha : PE X a (mE c ma)) (hb : PE X (.BoolOp .Or (b :: rest) pos) (mE c mb)) : PE X (.BoolOp .Or (a :: b :: rest) pos) (mE c fun ρ => bnd (ma ρ) fun x => bnd (opt (tru x.d)) fun k => if k then ret (shd (.bool true)) else mb ρ) := by
  refine PE.weak (pe_or ha hb) fun σ H Q q => ?_
  obtain ⟨F0, H0, F, ρ, t, r, t', S, e, p⟩ := q
  obtain ⟨x, t1, e1, e⟩ := bnd_some e
  obtain ⟨k, e2', e⟩ := opt_bnd e
  refine one S e1 fun v F1 H1 gr tp S1 r1 => ⟨k, r1.bool (tru_some e2'), ?_⟩
  cases k with
  | true =>
    rw [if_pos rfl] at e ⊢
    cases e
    exact p _ F1 H1 gr tp (Rep.bl _)
  | false =>
    rw [if_neg (by decide)] at e ⊢
    exact ⟨F0, H0, F1, ρ, _, r, t', S1, e, p.on gr⟩
theorem r_not (ha : PE X a (mE c ma)) : PE X (.UnaryOp .Not a pos) (mE c fun ρ => bnd (ma ρ) fun x => bnd (opt (tru x.d)) fun k => ret (shd (.bool (!k)))) := by
  refine PE.weak (pe_not ha) fun σ H Q q => ?_
  obtain ⟨F0, H0, F, ρ, t, r, t', S, e, p⟩ := q
  obtain ⟨x, t1, e1, e⟩ := bnd_some e
  obtain ⟨k, e2', e⟩ := opt_bnd e
  cases e
  exact one S e1 fun v F1 H1 gr tp S1 r1 => ⟨k, r1.bool (tru_some e2'), p _ F1 H1 gr tp (Rep.bl _)⟩
theorem PostT.on {t : Nat} {Q : Hp → Prop} (p : PostT c F H t Q) (g : Grow c F H F' H') : PostT c F' H' t Q := fun F2 H2 g2 tp2 => p F2 H2 (g.trans g2) tp2
variable {mt ms : Env → M Bool}
theorem rt_one (ha : PT X a (mT c mt)) : PW X (.BoolOp .And [a] pos) (mT c mt) := pw_and1 ha
theorem rt_oneO (ha : PT X a (mT c mt)) : PW X (.BoolOp .Or [a] pos) (mT c mt) := pw_or1 ha
theorem rt_and (ha : PT X a (mT c mt)) (hb : PW X (.BoolOp .And (b :: rest) pos) (mT c ms)) : PW X (.BoolOp .And (a :: b :: rest) pos) (mT c fun ρ => bnd (mt ρ) fun k => if k then ms ρ else ret false) := by
  refine PW.weak (pw_and ha hb) fun σ H Q q => ?_
  obtain ⟨F0, H0, F, ρ, t, r, t', S, e, p⟩ := q
  obtain ⟨k, t1, e1, e⟩ := bnd_some e
  refine oneT S e1 fun F1 H1 gr tp S1 => ?_
  cases k with
  | true =>
    rw [if_pos rfl] at e ⊢
    exact ⟨F0, H0, F1, ρ, _, r, t', S1, e, p.on gr⟩
  | false =>
    rw [if_neg (by decide)] at e ⊢
    cases e
    exact p F1 H1 gr tp
theorem rt_or (ha : PT X a (mT c mt)) (hb : PW X (.BoolOp .Or (b :: rest) pos) (mT c ms)) : PW X (.BoolOp .Or (a :: b :: rest) pos) (mT c fun ρ => bnd (mt ρ) fun k => if k then ret true else ms ρ) := by
  refine PW.weak (pw_or ha hb) fun σ H Q q => ?_
  obtain ⟨F0, H0, F, ρ, t, r, t', S, e, p⟩ := q
  obtain ⟨k, t1, e1, e⟩ := bnd_some e
  refine oneT S e1 fun F1 H1 gr tp S1 => ?_
  cases k with
  | true =>
    rw [if_pos rfl] at e ⊢
    cases e
    exact p F1 H1 gr tp
  | false =>
    rw [if_neg (by decide)] at e ⊢
    exact ⟨F0, H0, F1, ρ, _, r, t', S1, e, p.on gr⟩
theorem rt_not (ha : PT X a (mT c mt)) : PT X (.UnaryOp .Not a pos) (mT c fun ρ => bnd (mt ρ) fun k => ret (!k)) := by
  refine PT.weak (pt_not ha) fun σ H Q q => ?_
  obtain ⟨F0, H0, F, ρ, t, r, t', S, e, p⟩ := q
  obtain ⟨k, t1, e1, e⟩ := bnd_some e
  cases e
  exact oneT S e1 fun F1 H1 gr tp S1 => p F1 H1 gr tp
theorem rt_val (ha : PE X a (mE c ma)) (h : plainT a = true) : PT X a (mT c fun ρ => bnd (ma ρ) fun r => opt (tru r.d)) := by
  refine PT.weak (pt_val ha ?_) fun σ H Q q => ?_
  · intro wh
    cases a <;> first | rfl | cases h | skip
    rename_i op x p
    cases op <;> first | rfl | cases h
  · obtain ⟨F0, H0, F, ρ, t, r, t', S, e, p⟩ := q
    obtain ⟨x, t1, e1, e⟩ := bnd_some e
    obtain ⟨e', rfl⟩ := opt_some e
    exact one S e1 fun v F1 H1 gr tp S1 r1 => ⟨r, r1.bool (tru_some e'), p F1 H1 gr tp⟩
theorem r_ite (ht : PT X d (mT c mt)) (ha : PE X a (mE c ma)) (hb : PE X b (mE c mb)) : PE X (.IfExp d a b pos) (mE c fun ρ => bnd (mt ρ) fun k => if k then ma ρ else mb ρ) := by
  refine PE.weak (pe_ifExp ht ha hb) fun σ H Q q => ?_
  obtain ⟨F0, H0, F, ρ, t, r, t', S, e, p⟩ := q
  obtain ⟨k, t1, e1, e⟩ := bnd_some e
  refine oneT S e1 fun F1 H1 gr tp S1 => ?_
  cases k with
  | true =>
    rw [if_pos rfl] at e ⊢
    exact ⟨F0, H0, F1, ρ, _, r, t', S1, e, p.on gr⟩
  | false =>
    rw [if_neg (by decide)] at e ⊢
    exact ⟨F0, H0, F1, ρ, _, r, t', S1, e, p.on gr⟩
variable {es : List PySem.Expr} {ml : Env → M (List R)}
theorem r_nil : PA X [] (mL c fun ρ => ret []) := by
  refine PA.weak pa_nil fun σ H Q q => ?_
  obtain ⟨F0, H0, F, ρ, t, r, t', S, e, p⟩ := q
  cases e
  exact p [] F H S.refl S.tp .nil
theorem r_consL (ha : PE X a (mE c ma)) (hr : PA X es (mL c ml)) (hs : noStar a = true) : PA X (a :: es) (mL c fun ρ => bnd (ma ρ) fun r => bnd (ml ρ) fun rs => ret (r :: rs)) := by
  refine PA.weak (pa_cons ha hr (star_cons hs)) fun σ H Q q => ?_
  obtain ⟨F0, H0, F, ρ, t, r, t', S, e, p⟩ := q
  obtain ⟨x, t1, e1, e⟩ := bnd_some e
  obtain ⟨xs, t2, e2, e⟩ := bnd_some e
  cases e
  exact one S e1 fun v F1 H1 gr tp S1 r1 => oneL S1 e2 fun vs F2 H2 gr2 tp2 S2 r2 => p _ F2 H2 (gr.trans gr2) tp2 (.cons (r1.grow gr2 tp) (r2.back gr.back) fun hk i u q e3 e4 hq z => by
    have r3 := r2.get e3 e4
    unfold RR at r1 r3
    rw [hk] at r1
    rw [hq] at r3
    obtain ⟨a1, z1, _, _, h1⟩ := r1
    obtain ⟨a2, z2, h2, _⟩ := r3
    obtain ⟨o, ho⟩ := h1.at
    have : a2 = a1 := by
      have z3 := z2.symm.trans (z.trans z1)
      cases z3
      rfl
    rw [this, ho] at h2
    cases h2)
theorem tupR_some {xs : List D} {t t' : Nat} {r : R} (h : tupR xs t = some (r, t')) : xs.length ≤ lim ∧ r = ⟨.sh, .tuple xs⟩ ∧ t' = t := by
  unfold tupR at h
  split at h
  · rename_i q
    cases h
    exact ⟨q, rfl, rfl⟩
  · cases h
theorem lstR_some {xs : List D} {t t' : Nat} {r : R} (h : lstR xs t = some (r, t')) : xs.length ≤ lim ∧ r = ⟨.fr, .list xs⟩ ∧ t' = t := by
  unfold lstR at h
  split at h
  · rename_i q
    cases h
    exact ⟨q, rfl, rfl⟩
  · cases h
theorem r_tup {k : Nat} (ha : PA X es (mL c ml)) : PE X (.Tuple es k pos) (mE c fun ρ => bnd (ml ρ) fun rs => bnd (opt (rs.mapM shared)) fun ds => tupR ds) := by
  refine PE.weak (pe_tup ha) fun σ H Q q => ?_
  obtain ⟨F0, H0, F, ρ, t, r, t', S, e, p⟩ := q
  obtain ⟨rs, t1, e1, e⟩ := bnd_some e
  obtain ⟨ds, e2', e⟩ := opt_bnd e
  obtain ⟨hl, rfl, rfl⟩ := tupR_some e
  refine oneL S e1 fun vs F1 H1 gr tp S1 r1 => ?_
  obtain ⟨F2, g2, tp2, r2, x2, k2⟩ := RRL.share r1 e2' gr tp
  exact ⟨by rw [r2.length, ← lim_eq]; exact hl, p.tup g2 tp2 r2⟩
theorem r_lst (ha : PA X es (mL c ml)) : PE X (.List es pos) (mE c fun ρ => bnd (ml ρ) fun rs => bnd (opt (rs.mapM shared)) fun ds => lstR ds) := by
  refine PE.weak (pe_lst ha) fun σ H Q q => ?_
  obtain ⟨F0, H0, F, ρ, t, r, t', S, e, p⟩ := q
  obtain ⟨rs, t1, e1, e⟩ := bnd_some e
  obtain ⟨ds, e2', e⟩ := opt_bnd e
  obtain ⟨hl, rfl, rfl⟩ := lstR_some e
  refine oneL S e1 fun vs F1 H1 gr tp S1 r1 => ?_
  obtain ⟨F2, g2, tp2, r2, x2, k2⟩ := RRL.share r1 e2' gr tp
  exact ⟨by rw [r2.length, ← lim_eq]; exact hl, p.lst g2 tp2 r2⟩
/-- no tuple stands there -/
def NoTup (o : Option HO) : Prop := (∀ u, o ≠ some (.tup u)) ∧ ∀ ob u, o ≠ some (.frz ob (.tup u))
theorem Top.noTup {a : Addr} {d : D} (h : Top c F H a d) : NoTup (H a) := by
  unfold Top at h
  split at h
  · obtain ⟨vs, h, _⟩ := h
    rw [h]
    exact ⟨(fun u z => by cases z), (fun ob u z => by cases z)⟩
  · obtain ⟨_, ⟨vs, h, _⟩ | ⟨vs, _, _, h, _⟩⟩ := h <;>
    · rw [h]
      exact ⟨(fun u z => by cases z), (fun ob u z => by cases z)⟩
  · exact h.elim
mutual
/-- what holds no list stays what it is where lists are gone -/
theorem Rep.noL {F F2 : Hp} (k : ∀ a, F2 a = F a ∨ NoTup (F a)) : ∀ {d : D} {v : V}, noL d = true → Rep c F v d → Rep c F2 v d
  | _, _, _, .non => .non
  | _, _, _, .bl b => .bl b
  | _, _, _, .int i => .int i
  | _, _, _, .str x => .str x
  | _, _, e, .lst _ _ => by simp [Q.noL] at e
  | _, _, e, .dic _ _ => by simp [Q.noL] at e
  | _, _, e, .dit _ _ => by simp [Q.noL] at e
  | _, _, e, .tape _ => by simp [Q.noL, tapeD] at e
  | _, _, e, .tup (a := a) h r => by
    refine .tup ?_ (RepL.noL k (by simpa [Q.noL] using e) r)
    rcases k a with q | q
    · rw [q]
      exact h
    · exact absurd h (q.1 _)
theorem RepL.noL {F F2 : Hp} (k : ∀ a, F2 a = F a ∨ NoTup (F a)) : ∀ {d : List D} {v : List V}, noLs d = true → RepL c F v d → RepL c F2 v d
  | _, _, _, .nil => .nil
  | _, _, e, .cons h r => by
    simp only [noLs, Bool.and_eq_true] at e
    exact .cons (Rep.noL k e.1 h) (RepL.noL k e.2 r)
end
/-- all that are not read only, made to stay: for a call that gives back a plain value -/
theorem RRL.lend {t : Nat} : ∀ {vs : List V} {rs : List R} {F' : Hp}, RRL c H F' H' vs rs → (rs.all fun a => decide (a.kd ≠ .ro)) = true → Ext F' H' → Tape c F' H' t →
    ∃ F2, Ext F' F2 ∧ Ext F2 H' ∧ Tape c F2 H' t ∧ RepL c F2 vs (rs.map (·.d)) ∧ ∀ a, F2 a = F' a ∨ (F' a = none ∧ F2 a = H' a ∧ NoTup (F2 a))
  | _, _, F', .nil, _, s, tp => ⟨F', Ext.refl _, s, tp, .nil, fun a => .inl rfl⟩
  | _, _, F', .cons (v := v) (r := r) (rs := rs) h hs _, e, s, tp => by
    simp only [List.all_cons, Bool.and_eq_true, decide_eq_true_eq] at e
    obtain ⟨F2, x2, s2, tp2, r2, k2⟩ := RRL.lend hs (by simpa using e.2) s tp
    have byTop : ∀ a, v = .ref a → F' a = none → Top c F' H' a r.d → ∃ F2, Ext F' F2 ∧ Ext F2 H' ∧ Tape c F2 H' t ∧ RepL c F2 (v :: _) ((r :: rs).map (·.d)) ∧ ∀ a, F2 a = F' a ∨ (F' a = none ∧ F2 a = H' a ∧ NoTup (F2 a)) := fun a e1 f hT => by
      have hT2 := hT.monoF x2
      have ne := hT.ne tp
      subst e1
      by_cases q3 : F2 a = none
      · refine ⟨frz1 F2 H' a, x2.trans (frz1_ext q3), frz1_sub s2, tp2.frz q3 ne, .cons (hT2.rep q3) (r2.mono (frz1_ext q3)), fun b => ?_⟩
        by_cases z : b = a
        · subst z
          have e : frz1 F2 H' b b = H' b := by unfold frz1; rw [if_pos rfl]
          exact .inr ⟨f, e, by rw [e]; exact hT.noTup⟩
        · rcases k2 b with w | w
          · exact .inl (by unfold frz1; rw [if_neg z]; exact w)
          · have e : frz1 F2 H' a b = F2 b := by unfold frz1; rw [if_neg z]
            exact .inr ⟨w.1, by rw [e]; exact w.2.1, by rw [e]; exact w.2.2⟩
      · have q4 : F2 a = H' a := by
          rcases k2 a with w | w
          · rw [w] at q3
            exact absurd f q3
          · exact w.2.1
        exact ⟨F2, x2, s2, tp2, .cons (hT2.rep' q4) r2, k2⟩
    unfold RR at h
    split at h
    · exact ⟨F2, x2, s2, tp2, .cons (Rep.mono x2 h) r2, k2⟩
    · obtain ⟨a, e1, _, f, hT⟩ := h
      exact byTop a e1 f hT
    · obtain ⟨a, e1, f, hT⟩ := h
      exact byTop a e1 f hT
    · rename_i z
      exact absurd z e.1
theorem mapM_shared : ∀ {rs : List R}, (rs.all fun a => decide (a.kd = .sh) || decide (a.kd = .fr)) = true → rs.mapM shared = some (rs.map (·.d))
  | [], _ => rfl
  | r :: rs, h => by
    simp only [List.all_cons, Bool.and_eq_true, Bool.or_eq_true, decide_eq_true_eq] at h
    have e1 : shared r = some r.d := by
      unfold shared
      rcases h.1 with q | q <;> rw [q]
    rw [List.mapM_cons, e1, mapM_shared (by simpa using h.2)]
    rfl
theorem gl_of {x : Str} (h : gl X.env.scope x = true) : L2.Gl X x := by
  simp only [gl, decide_eq_true_eq] at h
  exact h
theorem r_call (G : Good X c g fs) {f : Nat} {x : Str} {p : Pos} (hf : fs[f]? = some x) (hx : gl X.env.scope x = true) (ha : PA X (a :: es) (mL c ml)) (h1 : noStar a = true) (h2 : es.all noStar = true) (hdb : (x == ("__debug__" : Str)) = false) :
    PE X (.Call (.Name x p) (a :: es) [] pos) (mE c fun ρ => bnd (ml ρ) fun rs => bnd (g.call f (rs.map (·.d))) fun r => opt (callKd rs r)) := by
  obtain ⟨k, hr, hd, _⟩ := G.fn
  obtain ⟨fa, fd, ps, e1, e2, e3, e4⟩ := (hd f x hf).ex
  refine PE.weak (pe_call e4 hr (gl_of hx) e1 e2 e3 .nil pass0 ha hdb (star_cons h1) (by rw [back_any]; exact star_all h2)) fun σ H Q q => ?_
  obtain ⟨F0, H0, F, ρ, t, r, t', S, e, p⟩ := q
  obtain ⟨rs, t1, e1, e⟩ := bnd_some e
  obtain ⟨r0, t2, e2, e⟩ := bnd_some e
  obtain ⟨e', rfl⟩ := opt_some e
  refine oneL S e1 fun vs F1 H1 gr tp S1 r1 => ?_
  show spF c (g.call f) (vs ++ []) H1 Q E0
  rw [List.append_nil]
  unfold callKd at e'
  split at e'
  · rename_i hall
    have er := Option.some.inj e'
    subst er
    obtain ⟨F2, g2, tp2, r2, x2, k2⟩ := RRL.share r1 (mapM_shared hall) gr tp
    exact ⟨F2, t1, _, r0, _, g2.sub, tp2, r2, e2, p.on g2⟩
  · split at e'
    · rename_i hall
      have er := Option.some.inj e'
      subst er
      simp only [Bool.and_eq_true] at hall
      obtain ⟨F2, x2, s2, tp2, r2, k2⟩ := RRL.lend r1 hall.1 gr.sub tp
      refine ⟨F2, t1, _, r0, _, s2, tp2, r2, e2, fun v F3 H3 g3 tp3 r3 => ?_⟩
      -- what was lent is taken back
      let F4 : Hp := fun b => if F1 b = none ∧ F2 b ≠ none then none else F3 b
      have f4 : ∀ b, F4 b = F3 b ∨ (F4 b = none ∧ F1 b = none ∧ F2 b ≠ none) := fun b => by
        by_cases z : F1 b = none ∧ F2 b ≠ none
        · exact .inr ⟨if_pos z, z.1, z.2⟩
        · exact .inl (if_neg z)
      have g4 : Grow c F1 H1 F4 H3 := by
        refine ⟨fun b o q => ?_, g3.hx, fun b q q' => ?_, fun b o q => ?_, g3.aw, g3.aw'⟩
        · rcases f4 b with z | z
          · rw [z]
            exact g3.ex _ _ (x2 _ _ q)
          · rw [z.2.1] at q
            cases q
        · rcases f4 b with z | z
          · rw [z] at q'
            by_cases z2 : F2 b = none
            · exact g3.nw b z2 q'
            · have z3 : F4 b = none := if_pos ⟨q, z2⟩
              rw [z] at z3
              exact absurd z3 q'
          · exact absurd z.1 q'
        · rcases f4 b with z | z
          · rw [z] at q
            exact g3.sub _ _ q
          · rw [z.1] at q
            cases q
      have tp4 : Tape c F4 H3 _ := tp.of g4 fun a e => (tp3.som e).1
      have k4 : ∀ b, F4 b = F3 b ∨ NoTup (F3 b) := fun b => by
        rcases f4 b with z | z
        · exact .inl z
        · refine .inr ?_
          rcases k2 b with w | w
          · rw [w] at z
            exact absurd z.2.1 z.2.2
          · cases q2 : F2 b with
            | none => exact absurd q2 z.2.2
            | some o =>
              rw [g3.ex _ _ q2, ← q2]
              exact w.2.2
      refine p _ F4 H3 (gr.trans g4) tp4 ?_
      have hn := hall.2
      unfold noLR at hn
      unfold RR at r3 ⊢
      split at hn
      · rename_i e5
        rw [e5] at r3 ⊢
        exact Rep.noL k4 hn r3
      · rename_i ds' e5 e6
        rw [e5] at r3 ⊢
        obtain ⟨a, w1, w2, w3, w4⟩ := r3
        refine ⟨a, w1, gr.back a w2, ?_, ?_⟩
        · rcases f4 a with z | z
          · rw [z]; exact w3
          · exact z.1
        · rw [e6] at w4 ⊢
          obtain ⟨vs', w5, w6⟩ := w4
          exact ⟨vs', w5, RepL.noL k4 hn w6⟩
      · cases hn
    · cases e'
theorem no_tape {kvs : List (Key × V)} (h : RepK c F kvs [(.none, .none)]) : False := by
  generalize hq : [((PyData.none : D), (PyData.none : D))] = l at h
  cases h with
  | nil => cases hq
  | cons h r =>
    rename_i k _ _ _ _
    cases k <;> cases hq
theorem r_nxt (G : Good X c g fs) {w : Nat} {p : Pos} {y : PySem.Expr} (hx : gl X.env.scope "_law_next" = true) (hw : chkN X.N X.env.scope w y = true) (ha : PE X a (mE c ma)) (h1 : noStar a = true) :
    PE X (.Call (.Name "_law_next" p) [y, a] [] pos) (mE c fun ρ => bnd (ma ρ) fun x => bnd (opt (intOf x.d)) fun m => if isTape (getS ρ w) then bnd (nextD g.ds m) fun i => ret (shd (.int i)) else fail) := by
  by_cases haw : c.aw = none
  · refine ⟨fun pins s σ H Q I q => ?_⟩
    exfalso
    obtain ⟨F0, H0, F, ρ, t, r, t', S, e, p⟩ := q
    obtain ⟨x, t1, e1, e⟩ := bnd_some e
    obtain ⟨m, t2, e2, e⟩ := bnd_some e
    split at e
    · rename_i hT
      unfold isTape at hT
      split at hT
      · rename_i hg
        obtain ⟨v, _, rr⟩ := S.get hg
        cases rr with
        | dic h1 h2 => exact no_tape h2
        | tape h => rw [haw] at h; cases h
      · cases hT
    · cases e
  · obtain ⟨k, hr, _, hn⟩ := G.fn
    obtain ⟨fa, fd, ps, e1, e2, e3, e4⟩ := (hn haw).ex
    have hy : noStar y = true := by
      cases y <;> first | rfl | cases hw
    refine PE.weak (pe_call e4 hr (gl_of hx) e1 e2 e3 .nil pass0 (pa_cons (r_var (c := c) hw) (pa_cons ha pa_nil (star_cons h1)) (star_cons hy)) (by decide) (star_cons hy) (by rw [back_any]; exact star_all (by simp [h1]))) fun σ H Q q => ?_
    obtain ⟨F0, H0, F, ρ, t, r, t', S, e, p⟩ := q
    obtain ⟨x, t1, e1, e⟩ := bnd_some e
    obtain ⟨m, e2', e⟩ := opt_bnd e
    split at e
    · rename_i hT
      obtain ⟨i, t3, e3, e⟩ := bnd_some e
      cases e
      unfold isTape at hT
      split at hT
      · rename_i hg
        have ev : (fun ρ => opt (getS ρ w)) ρ t = some (⟨.sh, tapeD⟩, t) := by
          show opt (getS ρ w) t = _
          rw [hg]
          rfl
        refine one S ev fun v F1 H1 gr tp S1 rv => one S1 e1 fun u F2 H2 gr2 tp2 S2 r2 => ?_
        show spN c [v, u] H2 Q E0
        have rv : Rep c F1 v tapeD := rv
        obtain ⟨b, rfl, hb⟩ : ∃ b, v = .ref b ∧ c.aw = some b := by
          cases rv with
          | dic h1 h2 => exact (no_tape h2).elim
          | tape h => exact ⟨_, rfl, h⟩
        have := r2.int (intOf_some e2')
        subst this
        exact ⟨F2, _, b, m, i, _, rfl, hb, S2.g.sub, tp2, by rw [← G.ds]; exact e3, p.on (gr.trans gr2)⟩
      · cases hT
    · cases e
theorem r_ix (G : Good X c g fs) (ha : PE X a (mE c ma)) (hb : PE X b (mE c mb)) (hs : noSlice b = true) : PE X (.Subscript a b pos) (mE c fun ρ => bnd (ma ρ) fun x => bnd (mb ρ) fun y => opt ((ixD x.d y.d).map shd)) := by
  refine ⟨fun pins s σ H Q I q => ?_⟩
  obtain ⟨F0, H0, F, ρ, t, r, t', S, e, p⟩ := q
  obtain ⟨x, t1, e1, e⟩ := bnd_some e
  obtain ⟨y, t2, e2, e⟩ := bnd_some e
  obtain ⟨e', rfl⟩ := opt_some e
  obtain ⟨d, hd, rfl⟩ := Option.map_eq_some_iff.mp e'
  by_cases hdict : ∃ kds, x.d = .dict kds
  · obtain ⟨kds, ex⟩ := hdict
    refine (pe_dget (by have := G.hu; omega) ha hb (ix_plain hs)).run pins s σ H Q I ?_
    refine two (Q := fun v u H2 => ∃ a w, v = .ref a ∧ DGet H2 a u (some w) ∧ Q w H2) S e1 e2 fun v u F1 H1 gr tp S1 r1 r2 => ?_
    rw [ex] at hd
    have hd : kOr (kOf y.d) (fun k => (entries kds).bind fun es => dVal es k) ((kOfT y.d).bind fun k => (uEnts kds).bind fun es => dVal es k) = some d := hd
    rcases kOr_some hd with ⟨k, ek, hd⟩ | hd
    · obtain ⟨es, ee, hd⟩ := Option.bind_eq_some_iff.mp hd
      obtain ⟨a, kvs, rfl, h1, rE⟩ := r1.dicR ex ee S1.g.sub
      obtain ⟨w, hw, rw'⟩ := (rE.val k).1 d hd
      refine ⟨a, w, rfl, ?_, p _ F1 H1 gr tp rw'⟩
      rw [r2.key ek, ← hw]
      exact dgetR h1
    · obtain ⟨k, ek, hd⟩ := Option.bind_eq_some_iff.mp hd
      obtain ⟨es, ee, hd⟩ := Option.bind_eq_some_iff.mp hd
      obtain ⟨a, kvs, rfl, h1, rE⟩ := r1.ditR ex ee S1.g.sub
      obtain ⟨b', rfl, hb'⟩ := r2.keyT ek S1.g.sub
      obtain ⟨w, hw, rw'⟩ := (rE.val k).1 d hd
      refine ⟨a, w, rfl, ?_, p _ F1 H1 gr tp rw'⟩
      rw [← hw]
      exact dgetT h1 hb'
  refine (pe_ix ix_seq ha hb (ix_plain hs)).run pins s σ H Q I ?_
  refine two S e1 e2 fun v u F1 H1 gr tp S1 r1 r2 => ?_
  unfold ixD at hd
  split at hd
  · rename_i xs i ex ey
    obtain ⟨l, ws, rfl, h1, rl⟩ := r1.lstR ex S1.g.sub
    obtain ⟨j, q1, q2, q3, q4⟩ := atI_get hd
    obtain ⟨w, hw, rw'⟩ := rl.get q2
    refine .inl ⟨l, ws, i, w, rfl, r2.int ey, by rw [G.hK]; exact h1, ?_, p _ F1 H1 gr tp rw'⟩
    unfold atI at hd ⊢
    rw [rl.length]
    cases hq : ixN xs.length i with
    | none => rw [hq] at hd; cases hd
    | some j' =>
      rw [hq] at hd
      show ws[j']? = some w
      have hd : xs[j']? = some d := hd
      have : j' = j := by
        obtain ⟨z, _⟩ := ixN_seq hq
        rw [q1] at z
        cases z
        rfl
      rw [this]
      exact hw
  · rename_i xs i ex ey
    obtain ⟨l, ws, rfl, h1, rl⟩ := r1.tupH ex S1.g.sub
    obtain ⟨j, q1, q2, q3, q4⟩ := atI_get hd
    obtain ⟨w, hw, rw'⟩ := rl.get q2
    refine .inr (.inl ⟨l, ws, i, w, rfl, r2.int ey, by rw [G.hK]; exact h1, ?_, p _ F1 H1 gr tp rw'⟩)
    unfold atI at hd ⊢
    rw [rl.length]
    cases hq : ixN xs.length i with
    | none => rw [hq] at hd; cases hd
    | some j' =>
      rw [hq] at hd
      show ws[j']? = some w
      have : j' = j := by
        obtain ⟨z, _⟩ := ixN_seq hq
        rw [q1] at z
        cases z
        rfl
      rw [this]
      exact hw
  · rename_i kds ex
    exact absurd ⟨_, ex⟩ hdict
  · cases hd
theorem ro_no : PO X none (mO c fun ρ => ret none) := by
  refine ⟨fun pins s σ H Q I q => po_none.run pins s σ H Q I ?_⟩
  obtain ⟨F0, H0, F, ρ, t, r, t', S, e, p⟩ := q
  cases e
  exact p F H S.refl S.tp
theorem ro_so (ha : PE X a (mE c ma)) : PO X (some a) (mO c fun ρ => bnd (ma ρ) fun r => bnd (opt (intOf r.d)) fun i => ret (some i)) := by
  refine ⟨fun pins s σ H Q I q => (po_some ha).run pins s σ H Q I ?_⟩
  obtain ⟨F0, H0, F, ρ, t, r, t', S, e, p⟩ := q
  obtain ⟨x, t1, e1, e⟩ := bnd_some e
  obtain ⟨i, e2', e⟩ := opt_bnd e
  cases e
  exact one S e1 fun v F1 H1 gr tp S1 r1 => ⟨i, r1.int (intOf_some e2'), p F1 H1 gr tp⟩
variable {lo hi : Option PySem.Expr} {mlo mhi : Env → M (Option Int)}
theorem RepL.cut {vs : List V} {ds : List D} (h : RepL c F vs ds) (lo hi : Option Int) : RepL c F (cutV vs lo hi) (cut ds lo hi) := by
  unfold cutV Q.cut
  rw [h.length]
  exact (h.drop _).take _
theorem r_sl (G : Good X c g fs) {p2 : Pos} (ha : PE X a (mE c ma)) (hl : PO X lo (mO c mlo)) (hh : PO X hi (mO c mhi)) : PE X (.Subscript a (.Slice lo hi none p2) pos) (mE c fun ρ => bnd (ma ρ) fun x => bnd (mlo ρ) fun l => bnd (mhi ρ) fun h => opt (slD x.d l h)) := by
  refine PE.weak (pe_slice (sl_list.or sl_tupA) ha hl hh) fun σ H Q q => ?_
  obtain ⟨F0, H0, F, ρ, t, r, t', S, e, p⟩ := q
  obtain ⟨x, t1, e1, e⟩ := bnd_some e
  obtain ⟨l, t2, e2, e⟩ := bnd_some e
  obtain ⟨h, t3, e3, e⟩ := bnd_some e
  obtain ⟨e', rfl⟩ := opt_some e
  refine one S e1 fun v F1 H1 gr tp S1 r1 => oneO S1 e2 fun F2 H2 gr2 tp2 S2 => oneO S2 e3 fun F3 H3 gr3 tp3 S3 => ?_
  have g4 := gr2.trans gr3
  have r4 := r1.grow g4 tp
  unfold slD at e'
  split at e'
  · rename_i xs ex
    cases e'
    obtain ⟨a, ws, rfl, h1, rl⟩ := r4.lstR ex S3.g.sub
    exact .inl ⟨a, ws, rfl, by rw [G.hK]; exact h1, p.lst (gr.trans g4) tp3 (rl.cut l h)⟩
  · rename_i xs ex
    cases e'
    obtain ⟨a, ws, rfl, h1, rl⟩ := r4.tupH ex S3.g.sub
    refine .inr ⟨a, ws, rfl, by rw [G.hK]; exact h1, fun z => ?_, fun _ => p.tup (gr.trans g4) tp3 (rl.cut l h)⟩
    refine p _ F3 H3 (gr.trans g4) tp3 ?_
    have e5 : cut xs l h = xs := by
      unfold cut
      rw [← rl.length, z.1, z.2, List.drop_zero, Nat.sub_zero, rl.length, List.take_length]
    show Rep c F3 _ (.tuple (cut xs l h))
    rw [e5]
    exact r4.tup ex
  · cases e'
end
end Q
namespace Q
open PySem PySem.Spec PyProof.Rows L2
section
variable {X : Cx} {c : Pm} {g : Gl} {fs : List Str}
variable {F0 H0 F H F' H' Hs : Hp} {σ : L2.St} {ρ : Env} {t t' t1 t2 : Nat} {v : V} {x : R}
variable {a b d : PySem.Expr} {ma mb md : Env → M R} {pos : Pos} {es : List PySem.Expr} {ml : Env → M (List R)}
def isTyB : B → Bool
  | .int => true
  | .tuple => true
  | .list => true
  | .range1 => true
  | .range2 => true
  | .dict => true
  | _ => false
theorem blt_ok (G : Good X c g fs) (f : B) (h1 : f ≠ .range1) (h2 : f ≠ .range2) : CallR X (fval f) (rBlt c f) := by
  cases f
  · exact blt_len G.hK
  · exact blt_abs
  · exact blt_int
  · exact blt_max2 G.calm
  · exact blt_min2 G.calm
  · exact blt_min3 G.calm
  · exact blt_max1 G.calm G.hK G.hu
  · exact blt_min1 G.calm G.hK G.hu
  · exact blt_sum G.calm G.hK
  · exact blt_all G.calm G.hK
  · exact blt_any G.calm G.hK
  · exact blt_tuple G.hK
  · exact blt_list G.hK
  · exact blt_sorted G.calm G.hK G.hu
  · exact absurd rfl h1
  · exact absurd rfl h2
  · exact blt_dict G.calm G.hK
theorem blt_no {f : B} {rs : List R} (h : f = .range1 ∨ f = .range2) : bltD f rs = none := by
  rcases h with rfl | rfl <;> (unfold bltD; split <;> first | rfl | (rename_i q; cases q) | (rename_i q _; cases q))
theorem r_blt (G : Good X c g fs) {f : B} {p : Pos} (hx : gl X.env.scope (bnm f) = true) (ha : PA X (a :: es) (mL c ml)) (h1 : noStar a = true) (h2 : es.all noStar = true) :
    PE X (.Call (.Name (bnm f) p) (a :: es) [] pos) (mE c fun ρ => bnd (ml ρ) fun rs => opt (bltD f rs)) := by
  by_cases hr : f = .range1 ∨ f = .range2
  · refine ⟨fun pins s σ H Q I q => ?_⟩
    exfalso
    obtain ⟨F0, H0, F, ρ, t, r, t', S, e, p⟩ := q
    obtain ⟨rs, t1, e1, e⟩ := bnd_some e
    rw [blt_no hr] at e
    cases e
  · have hr1 : f ≠ .range1 := fun z => hr (.inl z)
    have hr2 : f ≠ .range2 := fun z => hr (.inr z)
    have wk : ∀ {σ : L2.St} {H : Hp} {Q : VK}, mE c (fun ρ => bnd (ml ρ) fun rs => opt (bltD f rs)) σ H Q → tCB (rBlt c f) (mL c ml) σ H Q := fun {σ H Q} q => by
      obtain ⟨F0, H0, F, ρ, t, r, t', S, e, p⟩ := q
      obtain ⟨rs, t1, e1, e⟩ := bnd_some e
      obtain ⟨e', rfl⟩ := opt_some e
      exact oneL S e1 fun vs F1 H1 gr tp S1 r1 => ⟨H, F1, rs, r, _, S1.kn gr.back, r1, e', p.on gr⟩
    have hc := blt_ok G f hr1 hr2
    have hst := star_cons (es := es) (env := X.env) h1
    have hpl : (backTo pos (starEach es X.env)).any (·.1) = false := by rw [back_any]; exact star_all h2
    have hg := gl_of hx
    have hm : X.mg (bnm f) = none := G.bn _ (by cases f <;> decide)
    cases f <;> first
      | exact absurd rfl hr1
      | exact absurd rfl hr2
      | exact PE.weak (pe_callB hc hg hm PySem.boot_len ha (by decide) (by decide) hst hpl) fun σ H Q q => wk q
      | exact PE.weak (pe_callB hc hg hm PyProof.Rows.boot_abs ha (by decide) (by decide) hst hpl) fun σ H Q q => wk q
      | exact PE.weak (pe_callTy hc hg hm PyProof.Rows.boot_int ha (by decide) (by decide) hst hpl) fun σ H Q q => wk q
      | exact PE.weak (pe_callB hc hg hm PyProof.Rows.boot_max ha (by decide) (by decide) hst hpl) fun σ H Q q => wk q
      | exact PE.weak (pe_callB hc hg hm PyProof.Rows.boot_min ha (by decide) (by decide) hst hpl) fun σ H Q q => wk q
      | exact PE.weak (pe_callB hc hg hm PyProof.Rows.boot_sum ha (by decide) (by decide) hst hpl) fun σ H Q q => wk q
      | exact PE.weak (pe_callB hc hg hm PyProof.Rows.boot_all ha (by decide) (by decide) hst hpl) fun σ H Q q => wk q
      | exact PE.weak (pe_callB hc hg hm PyProof.Rows.boot_any ha (by decide) (by decide) hst hpl) fun σ H Q q => wk q
      | exact PE.weak (pe_callTy hc hg hm PyProof.Rows.boot_tuple ha (by decide) (by decide) hst hpl) fun σ H Q q => wk q
      | exact PE.weak (pe_callTy hc hg hm PyProof.Rows.boot_list ha (by decide) (by decide) hst hpl) fun σ H Q q => wk q
      | exact PE.weak (pe_callTy hc hg hm PyProof.Rows.boot_dict ha (by decide) (by decide) hst hpl) fun σ H Q q => wk q
      | exact PE.weak (pe_callB hc hg hm PyProof.Rows.boot_sorted ha (by decide) (by decide) hst hpl) fun σ H Q q => wk q
/-! ### dicts -/
theorem r_dnew : PE X (.Dict [] [] pos) (mE c fun _ => ret ⟨.fr, .dict []⟩) := by
  refine PE.weak pe_dnewK fun σ H Q q => ?_
  obtain ⟨F0, H0, F, ρ, t, r, t', S, e, p⟩ := q
  cases e
  exact Post.dict (es := []) p S.refl S.tp .nil
theorem r_unew : PE X (.Dict [] [] pos) (mE c fun _ => ret ⟨.fr, .dict (unU [])⟩) := by
  refine PE.weak pe_dnewT fun σ H Q q => ?_
  obtain ⟨F0, H0, F, ρ, t, r, t', S, e, p⟩ := q
  cases e
  exact fun a n => p _ _ _ (S.refl.laid n) (S.tp.laid n) ⟨a, rfl, S.refl.back a n, S.refl.noF n, fun e => absurd n (S.refl.aw' a e), .inr ⟨[], [], rfl, upd_same, .nil⟩⟩
theorem Grow.over {pa : Addr} {o o' : HO} (n : H pa = none) (w : ∀ a, c.aw = some a → H a ≠ none) (g : Grow c F (upd H pa o') F' H') (f : F' pa = none) : Grow c F H F' (upd H' pa o) := by
  refine ⟨g.ex, fun b u q h => ?_, fun b h h' => ?_, fun b u h => ?_, w, fun b h => ?_⟩
  · have ne : b ≠ pa := ne_of_none h n
    rw [upd_ne ne]
    exact g.hx b u q (by rw [upd_ne ne]; exact h)
  · have := g.nw b h h'
    by_cases z : b = pa
    · rw [z]; exact n
    · rwa [upd_ne z] at this
  · have ne : b ≠ pa := fun z => by rw [z, f] at h; cases h
    rw [upd_ne ne]
    exact g.sub b u h
  · by_cases z : b = pa
    · rw [z, upd_same]; simp
    · rw [upd_ne z]; exact g.aw' b h
theorem Tape.over {pa : Addr} {o : HO} {t : Nat} (w : c.aw ≠ some pa) (tp : Tape c F' H' t) : Tape c F' (upd H' pa o) t := by
  unfold Tape
  cases e : c.aw with
  | none => trivial
  | some b =>
    obtain ⟨h1, h2, h3⟩ := tp.som e
    refine ⟨?_, h2, h3⟩
    rw [upd_ne (fun z => w (by rw [e, z]))]
    exact h1
theorem base_of {m : Str} (h0 : baseOk a = true) : attributeBase a m X.env (eval a X.env) = eval a X.env := by
  unfold baseOk at h0
  split at h0
  · cases h0
  · rename_i hn
    unfold attributeBase
    split
    · exact absurd rfl (hn _ _ _)
    · rfl
theorem dgetD_some {x k z d : D} (h : dgetD x k z = some d) : ∃ kds kk es, x = .dict kds ∧ kOf k = some kk ∧ entries kds = some es ∧ d = (dVal es kk).getD z := by
  unfold dgetD at h
  split at h
  · obtain ⟨kk, e1, h⟩ := Option.bind_eq_some_iff.mp h
    obtain ⟨es, e2, h⟩ := Option.map_eq_some_iff.mp h
    exact ⟨_, kk, es, rfl, e1, e2, h.symm⟩
  · cases h
theorem r_dget (G : Good X c g fs) {ap cp : Pos} (ha : PE X a (mE c ma)) (hb : PE X b (mE c mb)) (h0 : baseOk a = true) (hs : noStar b = true) (hl : (ap.endLine == cp.line) = true) :
    PE X (.Call (.Attribute a "get" ap) [b] [] cp) (mE c fun ρ => bnd (ma ρ) fun x => bnd (mb ρ) fun y => opt ((dgetD x.d y.d .none).map shd)) := by
  have m1 : M1 X a "get" ap b cp := ⟨base_of h0, by rw [star_cons hs]; rfl, hl, by rw [star_cons hs]; rfl⟩
  refine PE.weak (pe_dget1 (by have := G.hu; omega) ha hb m1) fun σ H Q q => ?_
  obtain ⟨F0, H0, F, ρ, t, r, t', S, e, p⟩ := q
  obtain ⟨x, t1, e1, e⟩ := bnd_some e
  obtain ⟨y, t2, e2, e⟩ := bnd_some e
  obtain ⟨e', rfl⟩ := opt_some e
  obtain ⟨d, hd, rfl⟩ := Option.map_eq_some_iff.mp e'
  obtain ⟨kds, k, es, ex, ek, ee, rfl⟩ := dgetD_some hd
  refine one S e1 fun v F1 H1 gr tp S1 r1 => ?_
  obtain ⟨l, kvs, rfl, h1, rE⟩ := r1.dicR ex ee S1.g.sub
  refine ⟨l, rfl, .inl ⟨kvs, h1⟩, one S1 e2 fun u F2 H2 gr2 tp2 S2 r2 => ?_⟩
  obtain ⟨l', kvs, el, h2, rE⟩ := (r1.grow gr2 S1.tp).dicR ex ee S2.g.sub
  cases el
  refine ⟨valV kvs k, by rw [r2.key ek]; exact dgetR h2, ?_⟩
  obtain ⟨g1, g2⟩ := rE.val k
  cases hq : dVal es k with
  | none =>
    rw [g2 hq]
    rw [hq] at p
    exact p _ F2 H2 (gr.trans gr2) tp2 Rep.non
  | some d =>
    obtain ⟨w, hw, rw'⟩ := g1 d hq
    rw [hw]
    rw [hq] at p
    exact p _ F2 H2 (gr.trans gr2) tp2 rw'
theorem r_dget2 (G : Good X c g fs) {ap cp : Pos} (ha : PE X a (mE c ma)) (hb : PE X b (mE c mb)) (hd : PE X d (mE c md)) (h0 : baseOk a = true) (hs : noStar b = true) (hs2 : noStar d = true) (hl : (ap.endLine == cp.line) = true) :
    PE X (.Call (.Attribute a "get" ap) [b, d] [] cp) (mE c fun ρ => bnd (ma ρ) fun x => bnd (mb ρ) fun y => bnd (md ρ) fun w => bnd (opt (shared w)) fun w => opt ((dgetD x.d y.d w).map shd)) := by
  have m2 : M2 X a "get" ap b d cp := ⟨base_of h0, by rw [star_cons hs, star_cons hs2]; rfl, hl, by rw [star_cons hs, star_cons hs2]; rfl⟩
  refine PE.weak (pe_dget2 (by have := G.hu; omega) ha hb hd m2) fun σ H Q q => ?_
  obtain ⟨F0, H0, F, ρ, t, r, t', S, e, p⟩ := q
  obtain ⟨x, t1, e1, e⟩ := bnd_some e
  obtain ⟨y, t2, e2, e⟩ := bnd_some e
  obtain ⟨z, t3, e3, e⟩ := bnd_some e
  obtain ⟨zd, ez, e⟩ := opt_bnd e
  obtain ⟨e', rfl⟩ := opt_some e
  obtain ⟨d, hd, rfl⟩ := Option.map_eq_some_iff.mp e'
  obtain ⟨kds, k, es, ex, ek, ee, rfl⟩ := dgetD_some hd
  refine one S e1 fun v F1 H1 gr tp S1 r1 => ?_
  obtain ⟨l, kvs, rfl, h1, rE⟩ := r1.dicR ex ee S1.g.sub
  refine ⟨l, rfl, .inl ⟨kvs, h1⟩, one S1 e2 fun u F2 H2 gr2 tp2 S2 r2 => one S2 e3 fun w F3 H3 gr3 tp3 S3 r3 => ?_⟩
  obtain ⟨F4, g4, tp4, rz, x4, _⟩ := r3.share ez gr3 tp3
  obtain ⟨l', kvs, el, h2, rE⟩ := (r1.grow (gr2.trans gr3) S1.tp).dicR ex ee S3.g.sub
  cases el
  refine ⟨valV kvs k, by rw [r2.key ek]; exact dgetR h2, ?_⟩
  have gg := (gr.trans gr2).trans g4
  obtain ⟨g1, g2⟩ := rE.val k
  cases hq : dVal es k with
  | none =>
    rw [g2 hq]
    rw [hq] at p
    exact p _ F4 H3 gg tp4 rz
  | some d =>
    obtain ⟨w, hw, rw'⟩ := g1 d hq
    rw [hw]
    rw [hq] at p
    exact p _ F4 H3 gg tp4 (rw'.mono x4)
/-- the readings of a display's keys and values -/
def trsOf (c : Pm) (g : Gl) : EL → List (TE × TE)
  | .cons k (.cons v es) => (mE c fun ρ => ev g k ρ, mE c fun ρ => ev g v ρ) :: trsOf c g es
  | _ => []
theorem pairs_run {g : Gl} : ∀ (kvs : EL) {ps : List (Option PySem.Expr)} {ys : List PySem.Expr} {sc : Scope} {fs N : List Str} {rs : List R} {es : List (DK × D)} {F H F0 H0 : Hp} {σ : L2.St} {ρ : Env} {t t' : Nat} {Q : List (V × V) → Hp → Prop},
    chkP fs N sc kvs ps ys = true → SR c F0 H0 F H σ ρ t → evL g kvs ρ t = some (rs, t') → pairR rs = some es →
    (∀ kv F' H', Grow c F H F' H' → Tape c F' H' t' → RepE c F' kv es → Q (kv.map fun p => (kV p.1, p.2)) H') → tPairs (trsOf c g kvs) σ H Q
  | .nil, ps, ys, sc, fs, N, rs, es, F, H, F0, H0, σ, ρ, t, t', Q, hc, S, e, ep, k => by
    rw [evL] at e
    cases e
    cases ep
    exact k [] F H S.refl S.tp .nil
  | .cons e1 .nil, ps, ys, sc, fs, N, rs, es, F, H, F0, H0, σ, ρ, t, t', Q, hc, S, e, ep, k => by
    unfold chkP at hc
    cases hc
  | .cons e1 (.cons e2 r), ps, ys, sc, fs, N, rs, es, F, H, F0, H0, σ, ρ, t, t', Q, hc, S, e, ep, k => by
    have hc' : ∃ ps' ys', chkP fs N sc r ps' ys' = true := by
      unfold chkP at hc
      split at hc <;> rename_i q <;> first | (cases hc; done) | (cases q; done) | skip
      injection q with q1 q2
      injection q2 with q2 q3
      subst q1 q2 q3
      simp only [Bool.and_eq_true] at hc
      exact ⟨_, _, hc.2⟩
    obtain ⟨ps', ys', hc'⟩ := hc'
    rw [evL] at e
    obtain ⟨x, t1, w1, e⟩ := bnd_some e
    obtain ⟨rs1, t2, w2, e⟩ := bnd_some e
    cases e
    rw [evL] at w2
    obtain ⟨y, t3, w3, w2⟩ := bnd_some w2
    obtain ⟨rs2, t4, w4, w2⟩ := bnd_some w2
    cases w2
    rw [pairR] at ep
    obtain ⟨kk, ek, ep⟩ := Option.bind_eq_some_iff.mp ep
    obtain ⟨yd, ey, ep⟩ := Option.bind_eq_some_iff.mp ep
    obtain ⟨es', e5, rfl⟩ := Option.map_eq_some_iff.mp ep
    show (mE c fun ρ => ev g e1 ρ) σ H fun x H1 => (mE c fun ρ => ev g e2 ρ) σ H1 fun y H2 => tPairs (trsOf c g r) σ H2 fun ps H3 => Q ((x, y) :: ps) H3
    refine one S w1 fun v1 F1 H1 gr tp S1 r1 => one S1 w3 fun u F2 H2 gr2 tp2 S2 r2 => ?_
    obtain ⟨F3, g3, tp3, rep, x3, _⟩ := r2.share ey gr2 tp2
    refine pairs_run r hc' (S1.grow g3 tp3) w4 e5 fun kv F' H' gr4 tp4 rE => ?_
    rw [r1.key ek]
    exact k ((kk, u) :: kv) F' H' ((gr.trans g3).trans gr4) tp4 (.cons (rep.mono gr4.ex) rE)
theorem chkP_all {fs N : List Str} {sc : Scope} : ∀ (kvs : EL) {ps : List (Option PySem.Expr)} {ys : List PySem.Expr}, chkP fs N sc kvs ps ys = true → ps.all (·.isSome) = true ∧ ps.length = ys.length
  | .nil, ps, ys, h => by
    unfold chkP at h
    split at h <;> rename_i q <;> first | (cases h; done) | (cases q; done) | exact ⟨rfl, rfl⟩
  | .cons e1 .nil, ps, ys, h => by
    unfold chkP at h
    cases h
  | .cons e1 (.cons e2 r), ps, ys, h => by
    unfold chkP at h
    split at h <;> rename_i q <;> first | (cases h; done) | (cases q; done) | skip
    injection q with q1 q2
    injection q2 with q2 q3
    subst q1 q2 q3
    simp only [Bool.and_eq_true] at h
    obtain ⟨h1, h2⟩ := chkP_all r h.2
    exact ⟨by rw [List.all_cons, h1]; rfl, by rw [List.length_cons, List.length_cons, h2]⟩
theorem r_dsp {kvs : EL} {ks : List (Option PySem.Expr)} {vs : List PySem.Expr} {sc : Scope} {N : List Str} (hp : PPs X pos ks vs (trsOf c g kvs)) (hc : chkP fs N sc kvs ks vs = true) (h15 : ks.length ≤ 15) (h0 : ks ≠ []) :
    PE X (.Dict ks vs pos) (mE c fun ρ => bnd (evL g kvs ρ) fun rs => bnd (opt (pairR rs)) fun es => if es.length ≤ 15 then ret ⟨.fr, .dict (unent (dMerge [] es))⟩ else fail) := by
  obtain ⟨c1, c2⟩ := chkP_all kvs hc
  refine PE.weak (pe_disp hp c1 c2 h0 h15) fun σ H Q q => ?_
  obtain ⟨F0, H0, F, ρ, t, r, t', S, e, p⟩ := q
  obtain ⟨rs, t1, e1, e⟩ := bnd_some e
  obtain ⟨es, ep, e⟩ := opt_bnd e
  split at e
  · rename_i hl
    cases e
    intro pa n
    have ne : c.aw ≠ some pa := fun z => S.tp.there pa z n
    have fn : F pa = none := S.refl.noF n
    have S' : SR c F0 H0 F (upd H pa (.dK [])) σ ρ t := S.grow (S.refl.laid n) (S.tp.laid n)
    refine pairs_run kvs hc S' e1 ep fun kv F' H' g' tp' rE => ⟨g'.hx pa _ ne upd_same, kv, rfl, by rw [rE.length]; exact hl, ?_⟩
    have f : F' pa = none := g'.free fn upd_same
    exact p _ F' _ (Grow.over n S.tp.there g' f) (Tape.over ne tp') ⟨pa, rfl, n, f, ne, .inl ⟨_, upd_same, (rE.merge .nil).back⟩⟩
  · cases e
/-! ### list(range(..)), tuple(range(..)) -/
theorem smlB_of {i : Int} (h : smlB i = true) : -8000000 ≤ i ∧ i ≤ 8000000 := by
  simp only [smlB, decide_eq_true_eq] at h
  omega
theorem lrgM_some {tp : Bool} {i j : Int} {t t' : Nat} {r : R} (h : lrgM tp i j t = some (r, t')) : smlB i = true ∧ smlB j = true ∧ r = (if tp then shd (.tuple (rangeL i j)) else ⟨.fr, .list (rangeL i j)⟩) ∧ t' = t := by
  unfold lrgM at h
  split at h
  · rename_i k
    cases h
    simp only [Bool.and_eq_true] at k
    exact ⟨k.1, k.2, rfl, rfl⟩
  · cases h
theorem rgV_rep {i j : Int} : RepL c F (rgV i j) (rangeL i j) := by
  unfold rgV rangeL
  generalize List.range (j - i).toNat = l
  induction l with
  | nil => exact .nil
  | cons k l ih => exact .cons (.int _) ih
theorem rgOk_of {i j : Int} (h1 : smlB i = true) (h2 : smlB j = true) : RgOk i j := by
  have h1 := smlB_of h1
  have h2 := smlB_of h2
  unfold RgOk
  omega
theorem intsV_rep {vs : List V} {ds : List D} {ns : List Int} (h : RepL c F vs ds) (e : intsOf ds = some ns) : vs = ns.map V.int := by
  induction ds generalizing vs ns with
  | nil => cases h; cases e; rfl
  | cons d ds ih =>
    cases h with
    | cons r t =>
      cases d with
      | int i =>
        obtain ⟨ms, e1, rfl⟩ := Option.map_eq_some_iff.mp e
        cases r
        rw [ih t e1]
        rfl
      | _ => cases e
theorem ssetD_some {ln : Bool} {x : D} {r : R} (h : ssetD ln x = some r) : ∃ xs ns, seqOf x = some xs ∧ intsOf xs = some ns ∧ ns.length ≤ 4000 ∧ (setI ns).length < 64 ∧ r = if ln then shd (.int ((setI ns).length : Nat)) else ⟨.fr, .list ((setI ns).map .int)⟩ := by
  unfold ssetD at h
  obtain ⟨xs, h1, h⟩ := Option.bind_eq_some_iff.mp h
  obtain ⟨ns, h2, h⟩ := Option.bind_eq_some_iff.mp h
  split at h
  · rename_i q
    cases h
    exact ⟨xs, ns, h1, h2, q.1, q.2, rfl⟩
  · cases h
theorem seq_read {x : R} {v : V} {xs : List D} {ns : List Int} (h : RR c Hs F H v x) (s : Ext F H) (e : seqOf x.d = some xs) (e2 : intsOf xs = some ns) : ∃ a, v = .ref a ∧ (SqL c.K H a (ns.map V.int) ∨ SqT c.K H a (ns.map V.int)) := by
  cases q : x.d with
  | list ds =>
    rw [q] at e
    cases e
    obtain ⟨a, ws, rfl, h1, rl⟩ := h.lstR q s
    rw [intsV_rep rl e2] at h1
    exact ⟨a, rfl, .inl h1⟩
  | tuple ds =>
    rw [q] at e
    cases e
    obtain ⟨a, ws, rfl, h1, rl⟩ := h.tupH q s
    rw [intsV_rep rl e2] at h1
    exact ⟨a, rfl, .inr h1⟩
  | _ => rw [q] at e; cases e
theorem r_sset (G : Good X c g fs) {ln : Bool} {p p2 pos2 : Pos} (hx : gl X.env.scope (if ln then "len" else "sorted") = true) (hy : gl X.env.scope "set" = true) (ha : PE X a (mE c ma)) (h1 : noStar a = true) :
    PE X (.Call (.Name (if ln then "len" else "sorted") p) [.Call (.Name "set" p2) [a] [] pos2] [] pos) (mE c fun ρ => bnd (ma ρ) fun x => opt (ssetD ln x.d)) := by
  have hs := pe_callTy (p := p2) (pos := pos2) (cr_setI G.calm) (gl_of hy) (G.bn "set" (by decide)) PyProof.Rows.boot_set (pa_cons ha pa_nil (star_cons h1)) (by decide) (by decide) (star_cons h1) rfl
  have go : ∀ {σ : L2.St} {H : Hp} {Q : VK}, mE c (fun ρ => bnd (ma ρ) fun x => opt (ssetD ln x.d)) σ H Q → tCB (rSetI X.K X.w) (tCons (mE c ma) tNil) σ H fun v H2 => ∃ (q : Addr) (ns : List Int), v = .ref q ∧ H2 q = some (SetO X.w q (fun j => decide (j ∈ ns)) (setI ns).length) ∧ (setI ns).length < 64 ∧ (ln = true → Q (.int ((setI ns).length : Nat)) H2) ∧ (ln = false → ∀ l, H2 l = none → Q (.ref l) (upd H2 l (.lst ((setI ns).map V.int)))) := fun {σ H Q} q => by
    obtain ⟨F0, H0, F, ρ, t, r, t', S, e, p⟩ := q
    obtain ⟨x, t1, e1, e⟩ := bnd_some e
    obtain ⟨e', rfl⟩ := opt_some e
    obtain ⟨xs, ns, e2, e3, k1, k2, rfl⟩ := ssetD_some e'
    refine one S e1 fun v F1 H1 gr tp S1 r1 => ?_
    obtain ⟨a, rfl, hq⟩ := seq_read r1 S1.g.sub e2 e3
    refine ⟨a, ns, rfl, by rw [G.hK]; exact hq, k1, fun q hn => ⟨q, ns, rfl, upd_same, k2, fun h => ?_, fun h l hl => ?_⟩⟩
    · subst h
      exact Post.sh p (gr.laid hn) (tp.laid hn) (.int _)
    · subst h
      exact p.lst (gr.laid hn) (tp.laid hn) (rep_ints _) _ hl
  cases ln
  · refine PE.weak (pe_callB (cr_sortedSet G.calm) (gl_of hx) (G.bn "sorted" (by decide)) PyProof.Rows.boot_sorted (pa_cons hs pa_nil rfl) (by decide) (by decide) rfl rfl) fun σ H Q q => ?_
    have ⟨F0, H0, F, ρ, t, r, t', h⟩ := go q
    refine ⟨F0, H0, F, ρ, t, r, t', h.1, h.2.1, fun v F' H' g1 g2 g3 => ?_⟩
    obtain ⟨p', ns, e1, e2, e3, k⟩ := h.2.2 v F' H' g1 g2 g3
    refine ⟨p', ns, e1, e2, e3, fun q hn => ?_⟩
    obtain ⟨q', ns', e4, e5, e6, _, e7⟩ := k q hn
    cases e4
    refine ⟨q, _, _, rfl, e5, e6, fun ks l hs hm _ hl => ?_⟩
    rw [ascI_ext hs (setI_asc ns') fun j => by rw [hm, decide_eq_true_eq, mem_setI]]
    exact e7 rfl l hl
  · refine PE.weak (pe_callB cr_lenSet (gl_of hx) (G.bn "len" (by decide)) PySem.boot_len (pa_cons hs pa_nil rfl) (by decide) (by decide) rfl rfl) fun σ H Q q => ?_
    have ⟨F0, H0, F, ρ, t, r, t', h⟩ := go q
    refine ⟨F0, H0, F, ρ, t, r, t', h.1, h.2.1, fun v F' H' g1 g2 g3 => ?_⟩
    obtain ⟨p', ns, e1, e2, e3, k⟩ := h.2.2 v F' H' g1 g2 g3
    refine ⟨p', ns, e1, e2, e3, fun q hn => ?_⟩
    obtain ⟨q', ns', e4, e5, e6, e7, _⟩ := k q hn
    cases e4
    exact ⟨q, _, _, rfl, e5, e6, e7 rfl⟩
theorem inrD_some {x y z : D} {k : Bool} (h : inrD x y z = some k) : ∃ i a b, x = .int i ∧ y = .int a ∧ z = .int b ∧ k = decide (a ≤ i ∧ i < b) := by
  unfold inrD at h
  split at h
  · cases h
    exact ⟨_, _, _, rfl, rfl, rfl, rfl⟩
  · cases h
theorem r_inr (G : Good X c g fs) {p pos2 : Pos} (hy : gl X.env.scope "range" = true) (hd : PE X d (mE c md)) (ha : PE X a (mE c ma)) (h1 : noStar a = true) (hb : PE X b (mE c mb)) (h2 : noStar b = true) :
    PE X (.Compare d [.In] [.Call (.Name "range" p) [a, b] [] pos2] pos) (mE c fun ρ => bnd (md ρ) fun x => bnd (ma ρ) fun y => bnd (mb ρ) fun z => bol (inrD x.d y.d z.d)) := by
  have hr := pe_rng (p := p) (pos := pos2) (gl_of hy) (G.bn "range" (by decide)) ha hb (star_cons h1) (star_cons h2) (by rw [star_cons h2]; rfl)
  refine PE.weak (pe_cmpR or_inRng hd hr rfl) fun σ H Q q => ?_
  obtain ⟨F0, H0, F, ρ, t, r, t', S, e, p⟩ := q
  obtain ⟨x, t1, e1, e⟩ := bnd_some e
  obtain ⟨y, t2, e2, e⟩ := bnd_some e
  obtain ⟨z, t3, e3, e⟩ := bnd_some e
  obtain ⟨k, e4, rfl, rfl⟩ := bol_some e
  obtain ⟨i, j, l, q1, q2, q3, rfl⟩ := inrD_some e4
  refine one S e1 fun v F1 H1 gr tp S1 r1 => one S1 e2 fun u F2 H2 gr2 tp2 S2 r2 => one S2 e3 fun w F3 H3 gr3 tp3 S3 r3 => ?_
  refine ⟨j, l, r2.int q2, r3.int q3, fun s hn => ⟨i, s, j, l, r1.int q1, rfl, upd_same, ?_⟩⟩
  exact Post.sh p (((gr.trans gr2).trans gr3).laid hn) (tp3.laid hn) (.bl _)
theorem rt_inr (G : Good X c g fs) {p pos2 : Pos} (hy : gl X.env.scope "range" = true) (hd : PE X d (mE c md)) (ha : PE X a (mE c ma)) (h1 : noStar a = true) (hb : PE X b (mE c mb)) (h2 : noStar b = true) :
    PT X (.Compare d [.In] [.Call (.Name "range" p) [a, b] [] pos2] pos) (mT c fun ρ => bnd (md ρ) fun x => bnd (ma ρ) fun y => bnd (mb ρ) fun z => opt (inrD x.d y.d z.d)) := by
  have hr := pe_rng (p := p) (pos := pos2) (gl_of hy) (G.bn "range" (by decide)) ha hb (star_cons h1) (star_cons h2) (by rw [star_cons h2]; rfl)
  refine PT.weak (pt_cmpR or_inRng hd hr rfl) fun σ H Q q => ?_
  obtain ⟨F0, H0, F, ρ, t, r, t', S, e, p⟩ := q
  obtain ⟨x, t1, e1, e⟩ := bnd_some e
  obtain ⟨y, t2, e2, e⟩ := bnd_some e
  obtain ⟨z, t3, e3, e⟩ := bnd_some e
  obtain ⟨e4, rfl⟩ := opt_some e
  obtain ⟨i, j, l, q1, q2, q3, rfl⟩ := inrD_some e4
  refine one S e1 fun v F1 H1 gr tp S1 r1 => one S1 e2 fun u F2 H2 gr2 tp2 S2 r2 => one S2 e3 fun w F3 H3 gr3 tp3 S3 r3 => ?_
  refine ⟨j, l, r2.int q2, r3.int q3, fun s hn => ⟨i, s, j, l, r1.int q1, rfl, upd_same, _, rfl, ?_⟩⟩
  exact p _ _ (((gr.trans gr2).trans gr3).laid hn) (tp3.laid hn)
theorem r_rev (G : Good X c g fs) {k : Nat} {p1 p2 p3 : Pos} (ha : PE X a (mE c ma)) : PE X (.Subscript a (.Slice none none (some (.UnaryOp .USub (.Constant (.int 1) k p1) p2)) p3) pos) (mE c fun ρ => bnd (ma ρ) fun x => opt (revD x.d)) := by
  refine PE.weak (pe_revL ha) fun σ H Q q => ?_
  obtain ⟨F0, H0, F, ρ, t, r, t', S, e, p⟩ := q
  obtain ⟨x, t1, e1, e⟩ := bnd_some e
  obtain ⟨e', rfl⟩ := opt_some e
  refine one S e1 fun v F1 H1 gr tp S1 r1 => ?_
  unfold revD at e'
  split at e'
  · rename_i xs ex
    cases e'
    obtain ⟨a, ws, rfl, h1, rl⟩ := r1.lstR ex S1.g.sub
    exact ⟨a, ws, rfl, by rw [G.hK]; exact h1, p.lst gr tp rl.reverse⟩
  · cases e'
theorem r_shr (ha : PE X a (mE c ma)) : PE X a (mE c fun ρ => bnd (ma ρ) fun x => bnd (opt (shared x)) fun d => ret (shd d)) := by
  refine PE.weak ha fun σ H Q q => ?_
  obtain ⟨F0, H0, F, ρ, t, r, t', S, e, p⟩ := q
  obtain ⟨x, t1, e1, e⟩ := bnd_some e
  obtain ⟨d, e2, e⟩ := opt_bnd e
  cases e
  refine one S e1 fun v F1 H1 gr tp S1 r1 => ?_
  obtain ⟨F2, g2, tp2, r2, _⟩ := r1.share e2 gr tp
  exact p v F2 H1 g2 tp2 r2
theorem r_lrg (G : Good X c g fs) {tp : Bool} {p p2 pos2 : Pos} (hx : gl X.env.scope (if tp then "tuple" else "list") = true) (hy : gl X.env.scope "range" = true) (ha : PE X a (mE c ma)) (h1 : noStar a = true) :
    PE X (.Call (.Name (if tp then "tuple" else "list") p) [.Call (.Name "range" p2) [a] [] pos2] [] pos) (mE c fun ρ => bnd (ma ρ) fun x => bnd (opt (intOf x.d)) fun i => lrgM tp 0 i) := by
  have hr := prg_1 (pos := pos2) (p := p2) (gl_of hy) (G.bn _ (by decide)) ha (star_cons h1)
  cases tp
  · refine PE.weak (pe_listRg G.calm (gl_of hx) (G.bn _ (by decide)) hr rfl) fun σ H Q q => ?_
    obtain ⟨F0, H0, F, ρ, t, r, t', S, e, p⟩ := q
    obtain ⟨x, t1, e1, e⟩ := bnd_some e
    obtain ⟨i, e2, e⟩ := opt_bnd e
    obtain ⟨k1, k2, rfl, rfl⟩ := lrgM_some e
    exact one S e1 fun v F1 H1 gr tp S1 r1 => ⟨i, by rw [r1.int (intOf_some e2)], rgOk_of k1 k2, p.lst gr tp rgV_rep⟩
  · refine PE.weak (pe_tupRg G.calm (gl_of hx) (G.bn _ (by decide)) hr rfl) fun σ H Q q => ?_
    obtain ⟨F0, H0, F, ρ, t, r, t', S, e, p⟩ := q
    obtain ⟨x, t1, e1, e⟩ := bnd_some e
    obtain ⟨i, e2, e⟩ := opt_bnd e
    obtain ⟨k1, k2, rfl, rfl⟩ := lrgM_some e
    exact one S e1 fun v F1 H1 gr tp S1 r1 => ⟨i, by rw [r1.int (intOf_some e2)], rgOk_of k1 k2, p.tup gr tp rgV_rep⟩
theorem r_lrg2 (G : Good X c g fs) {tp : Bool} {p p2 pos2 : Pos} (hx : gl X.env.scope (if tp then "tuple" else "list") = true) (hy : gl X.env.scope "range" = true) (ha : PE X a (mE c ma)) (h1 : noStar a = true) (hb : PE X b (mE c mb)) (h2 : noStar b = true) :
    PE X (.Call (.Name (if tp then "tuple" else "list") p) [.Call (.Name "range" p2) [a, b] [] pos2] [] pos) (mE c fun ρ => bnd (ma ρ) fun x => bnd (mb ρ) fun y => bnd (opt (intOf x.d)) fun i => bnd (opt (intOf y.d)) fun j => lrgM tp i j) := by
  have hr := prg_2 (pos := pos2) (p := p2) (gl_of hy) (G.bn _ (by decide)) ha hb (star_cons h1) (star_cons h2) (by rw [star_cons h2]; rfl)
  cases tp
  · refine PE.weak (pe_listRg G.calm (gl_of hx) (G.bn _ (by decide)) hr rfl) fun σ H Q q => ?_
    obtain ⟨F0, H0, F, ρ, t, r, t', S, e, p⟩ := q
    obtain ⟨x, t1, e1, e⟩ := bnd_some e
    obtain ⟨y, t2, e2, e⟩ := bnd_some e
    obtain ⟨i, e3, e⟩ := opt_bnd e
    obtain ⟨j, e4, e⟩ := opt_bnd e
    obtain ⟨k1, k2, rfl, rfl⟩ := lrgM_some e
    refine one S e1 fun v F1 H1 gr tp S1 r1 => one S1 e2 fun u F2 H2 gr2 tp2 S2 r2 => ⟨i, j, by rw [r1.int (intOf_some e3)], by rw [r2.int (intOf_some e4)], rgOk_of k1 k2, p.lst (gr.trans gr2) tp2 rgV_rep⟩
  · refine PE.weak (pe_tupRg G.calm (gl_of hx) (G.bn _ (by decide)) hr rfl) fun σ H Q q => ?_
    obtain ⟨F0, H0, F, ρ, t, r, t', S, e, p⟩ := q
    obtain ⟨x, t1, e1, e⟩ := bnd_some e
    obtain ⟨y, t2, e2, e⟩ := bnd_some e
    obtain ⟨i, e3, e⟩ := opt_bnd e
    obtain ⟨j, e4, e⟩ := opt_bnd e
    obtain ⟨k1, k2, rfl, rfl⟩ := lrgM_some e
    refine one S e1 fun v F1 H1 gr tp S1 r1 => one S1 e2 fun u F2 H2 gr2 tp2 S2 r2 => ⟨i, j, by rw [r1.int (intOf_some e3)], by rw [r2.int (intOf_some e4)], rgOk_of k1 k2, p.tup (gr.trans gr2) tp2 rgV_rep⟩
/-! ### isinstance -/
def tyStr : Ty → String
  | .int => "int"
  | .bool => "bool"
  | .str => "str"
  | .tuple => "tuple"
  | .list => "list"
  | .dict => "dict"
def rIsa (c : Pm) (ty : Ty) : List V → Hp → VK → Prop := fun vs H Q => ∃ Hs F x v t, vs = [v, .ty (tyStr ty)] ∧ Kn c Hs F H t ∧ RR c Hs F H v x ∧ Q (.bl (isaD ty x.d)) H
theorem dict_obj {pins : List (Addr × Obj)} {s : Shared} (I : Inv X pins σ H s) {a : Addr} {kvs : List (Key × V)} (h : Rd H a (.dK kvs)) : ∃ o, s.heap.get? a = some o ∧ o.cls = .type "dict" := by
  obtain ⟨_, _, vs, _, o, es, ep, ho, hd, _⟩ := h.ok I.hok
  exact ⟨o, ho, hd.1⟩
theorem dict_objT {pins : List (Addr × Obj)} {s : Shared} (I : Inv X pins σ H s) {a : Addr} {kvs : List (List Key × V)} (h : Rd H a (.dT kvs)) : ∃ o, s.heap.get? a = some o ∧ o.cls = .type "dict" := by
  obtain ⟨_, _, vs, _, o, es, ep, ho, hd, _⟩ := h.ok I.hok
  exact ⟨o, ho, hd.1⟩
theorem isa_ok (G : Good X c g fs) (ty : Ty) : CallR X (.builtin "isinstance") (rIsa c ty) := by
  intro pins s σ H vs us Q I r h
  obtain ⟨Hs, F, x, v, t, rfl, kn, rx, q⟩ := h
  obtain ⟨u, w, rfl, rv, rt⟩ := vals2 r
  have ew : w = .type (tyStr ty) := rt
  subst ew
  have fin : ∀ {k : Bool} {tk : Nat}, k = isaD ty x.d → EP X pins σ Q (.bool k) { s with toks := tk } := fun {k tk} e => ⟨.bl k, H, I.tok _, rfl, by rw [e]; exact q⟩
  have sub := kn.g.sub
  cases hd : x.d with
  | list ds =>
    obtain ⟨a, ws, rfl, h1, _⟩ := rx.lstR hd sub
    obtain ⟨its, _, ⟨o, n, ho, hcl, _⟩, _⟩ := I.list (by rw [G.hK]; exact h1)
    cases rv
    rw [hd] at fin
    cases ty
    · exact IsiPair.list_int ho hcl (fin rfl)
    · exact IsiPair.list_bool ho hcl (fin rfl)
    · exact IsiPair.list_str ho hcl (fin rfl)
    · exact IsiPair.list_tuple ho hcl (fin rfl)
    · exact IsiPair.list_list ho hcl (fin (tk := s.toks) rfl)
    · exact IsiPair.list_dict ho hcl (fin rfl)
  | tuple ds =>
    obtain ⟨a, ws, rfl, h1, _⟩ := rx.tupH hd sub
    obtain ⟨its, _, ⟨o, ho, hcl, _⟩, _⟩ := I.tuple (by rw [G.hK]; exact h1)
    cases rv
    rw [hd] at fin
    cases ty
    · exact IsiPair.tuple_int ho hcl (fin rfl)
    · exact IsiPair.tuple_bool ho hcl (fin rfl)
    · exact IsiPair.tuple_str ho hcl (fin rfl)
    · exact IsiPair.tuple_tuple ho hcl (fin (tk := s.toks) rfl)
    · exact IsiPair.tuple_list ho hcl (fin rfl)
    · exact IsiPair.tuple_dict ho hcl (fin rfl)
  | dict ds =>
    have hob : ∃ a o, v = .ref a ∧ s.heap.get? a = some o ∧ o.cls = .type "dict" := by
      unfold RR at rx
      rw [hd] at rx
      split at rx
      · cases rx with
        | dic h1 h2 =>
          obtain ⟨o, ho⟩ := dict_obj I (sub.rd h1)
          exact ⟨_, o, rfl, ho⟩
        | tape h1 =>
          obtain ⟨o, ho⟩ := dict_obj I (.inl (kn.tp.som h1).1)
          exact ⟨_, o, rfl, ho⟩
        | dit h1 h2 =>
          obtain ⟨o, ho⟩ := dict_objT I (sub.rd h1)
          exact ⟨_, o, rfl, ho⟩
      · obtain ⟨a, e1, _, _, _, ⟨kvs, h1, _⟩ | ⟨kvs, _, _, h1, _⟩⟩ := rx
        · obtain ⟨o, ho⟩ := dict_obj I (.inl h1)
          exact ⟨a, o, e1, ho⟩
        · obtain ⟨o, ho⟩ := dict_objT I (.inl h1)
          exact ⟨a, o, e1, ho⟩
      · obtain ⟨a, e1, _, _, ⟨kvs, h1, _⟩ | ⟨kvs, _, _, h1, _⟩⟩ := rx
        · obtain ⟨o, ho⟩ := dict_obj I (.inl h1)
          exact ⟨a, o, e1, ho⟩
        · obtain ⟨o, ho⟩ := dict_objT I (.inl h1)
          exact ⟨a, o, e1, ho⟩
      · obtain ⟨a, _, h1⟩ := rx
        exact h1.elim
    obtain ⟨a, o, rfl, ho, hcl⟩ := hob
    cases rv
    rw [hd] at fin
    cases ty
    · exact IsiPair.dict_int ho hcl (fin rfl)
    · exact IsiPair.dict_bool ho hcl (fin rfl)
    · exact IsiPair.dict_str ho hcl (fin rfl)
    · exact IsiPair.dict_tuple ho hcl (fin rfl)
    · exact IsiPair.dict_list ho hcl (fin rfl)
    · exact IsiPair.dict_dict ho hcl (fin (tk := s.toks) rfl)
  | _ =>
    obtain ⟨as, rd⟩ := rx.reads I G.hK (by rw [hd]; rfl) sub rv
    rw [hd] at rd fin
    cases ty
    · exact PySem.W.isinstance_int_data rd fun tk _ => fin rfl
    · exact PySem.W.isinstance_bool_data rd fun tk _ => fin rfl
    · exact PySem.W.isinstance_str_data rd fun tk _ => fin rfl
    · exact PySem.W.isinstance_tuple_data rd fun tk _ => fin rfl
    · exact PySem.W.isinstance_list_data rd fun tk _ => fin rfl
    · exact PySem.W.isinstance_dict_data rd fun tk _ => fin rfl
theorem r_isa (G : Good X c g fs) {ty : Ty} {p p2 : Pos} (hx : gl X.env.scope "isinstance" = true) (hz : gl X.env.scope (tynm ty) = true) (ha : PE X a (mE c ma)) (h1 : noStar a = true) :
    PE X (.Call (.Name "isinstance" p) [a, .Name (tynm ty) p2] [] pos) (mE c fun ρ => bnd (ma ρ) fun x => ret (shd (.bool (isaD ty x.d)))) := by
  have hm : X.mg "isinstance" = none := G.bn _ (by decide)
  have hmt : X.mg (tynm ty) = none := G.bn _ (by cases ty <;> decide)
  have pt : PE X (.Name (tynm ty) p2) (tC (.ty (tyStr ty))) := by
    cases ty
    · exact pe_bltn (gl_of hz) hmt PyProof.Rows.boot_int rfl (by decide) (by decide)
    · exact pe_bltn (gl_of hz) hmt PyProof.Rows.boot_bool rfl (by decide) (by decide)
    · exact pe_bltn (gl_of hz) hmt PyProof.Rows.boot_str rfl (by decide) (by decide)
    · exact pe_bltn (gl_of hz) hmt PyProof.Rows.boot_tuple rfl (by decide) (by decide)
    · exact pe_bltn (gl_of hz) hmt PyProof.Rows.boot_list rfl (by decide) (by decide)
    · exact pe_bltn (gl_of hz) hmt PyProof.Rows.boot_dict rfl (by decide) (by decide)
  refine PE.weak (pe_callB (isa_ok G ty) (gl_of hx) hm PyProof.Rows.boot_isinstance (pa_cons ha (pa_cons pt pa_nil rfl) (star_cons h1)) (by decide) (by decide) (star_cons h1) rfl) fun σ H Q q => ?_
  obtain ⟨F0, H0, F, ρ, t, r, t', S, e, p⟩ := q
  obtain ⟨x, t1, e1, e⟩ := bnd_some e
  cases e
  exact one S e1 fun v F1 H1 gr tp S1 r1 => ⟨H, F1, x, v, _, rfl, S1.kn gr.back, r1, p _ F1 H1 gr tp (Rep.bl _)⟩
/-! ### methods that tell something -/
def meId : Me → String
  | .index => "list.index"
  | .count => "list.count"
theorem mth_call (hK : X.K = c.K) (hu : X.A.units + 200 < cLine) {m : Me} {pins : List (Addr × Obj)} {s : Shared} {Q : VK} {y z : R} {a : Addr} {ws : List V} {xs : List D} {uu : Value} {as : List Addr} (I : Inv X pins σ H s)
    (h1 : SqL c.K H a ws) (r1 : RepL c F ws xs) (sub : Ext F H) (rr : Reads s.heap uu y.d as) (e : mthD m (.list xs) y.d = some z) (q : ∀ i : Int, z = shd (.int i) → Q (.int i) H) :
    wpAny (model X.prog X.w) X.A (call (.builtin (meId m)) [.ref a, uu]) (EP X pins σ Q) X.xe s := by
  unfold mthD at e
  simp only at e
  split at e
  · rename_i ok
    obtain ⟨o1, o2⟩ := ok
    obtain ⟨p1, d1⟩ := okD_and o1
    obtain ⟨its, rv, hl, hz⟩ := I.list (by rw [hK]; exact h1)
    obtain ⟨bs, ra⟩ := readsAll_of I hK sub rv r1 o2
    have room : X.A.units + 1 + min (PyData.depthAll xs) y.d.depth < cLine := by
      have := Nat.min_le_right (PyData.depthAll xs) y.d.depth
      omega
    cases m with
    | count =>
      cases e
      show wpAny (model X.prog X.w) X.A (call (.builtin "list.count") [.ref a, uu]) (EP X pins σ Q) X.xe s
      exact SeqAt.count_list_data hl.isList (by simpa using ra) rr o2 p1 room ⟨.int _, H, I.tok _, ⟨_, rfl⟩, q _ rfl⟩
    | index =>
      obtain ⟨j, hj, rfl⟩ := Option.map_eq_some_iff.mp e
      obtain ⟨⟨cls, dd, data, sls⟩, n, ho, hc, hdn, hdt⟩ := hl
      simp only at hc hdt
      subst hc hdt
      have hp : SeqAt.dataPlace xs y.d = some j := hj
      have ra' : ReadsAll s.heap its.toArray.toList xs bs := by simpa using ra
      obtain ⟨hjj, hitj, hlow⟩ := SeqAt.hit_at ra' o2 hp
      have hsl := sizeLine_eq
      have hlen := rv.length
      show wpAny (model X.prog X.w) X.A (call (.builtin "list.index") [.ref a, uu]) (EP X pins σ Q) X.xe s
      refine call_meets PySem.F.slot_list_index ⟨_, ho, rfl⟩ PySem.F.entry_list_index (PySem.F.args_list_index_2 _ _)
        (SeqAt.list_indexAt a its.toArray n dd sls uu (fun u => PyData.eqv (SeqAt.readOf s.heap u) y.d) j hjj (by
          have : its.toArray.size = its.length := by simp
          omega) hitj hlow) ⟨ho, SeqAt.items_plain ra' rr o2 p1 room, ?_⟩
      exact ⟨.int (j : Nat), H, I.tok _, ⟨_, rfl⟩, q _ rfl⟩
  · cases e
theorem r_mth (G : Good X c g fs) {m : Me} {ap cp : Pos} (ha : PE X a (mE c ma)) (hb : PE X b (mE c mb)) (h0 : baseOk a = true) (hs : noStar b = true) (hl : (ap.endLine == cp.line) = true) :
    PE X (.Call (.Attribute a (meNm m) ap) [b] [] cp) (mE c fun ρ => bnd (ma ρ) fun x => bnd (mb ρ) fun y => opt (mthD m x.d y.d)) := by
  refine ⟨fun pins s σ H Q I q => ?_⟩
  obtain ⟨F0, H0, F, ρ, t, r, t', S, e, p⟩ := q
  obtain ⟨x, t1, e1, e⟩ := bnd_some e
  obtain ⟨y, t2, e2, e⟩ := bnd_some e
  obtain ⟨e3, rfl⟩ := opt_some e
  have hbase : attributeBase a (meNm m) X.env (eval a X.env) = eval a X.env := by
    unfold baseOk at h0
    split at h0
    · cases h0
    · rename_i hn
      unfold attributeBase
      split
      · exact absurd rfl (hn _ _ _)
      · rfl
  have hfew : ((backTo cp (starEach [b] X.env)).all (fun x => !x.1) && (backToKw cp (keywordEach [] X.env)).all (fun x => x.1.isSome)
      && decide ([b].length + ([] : List Keyword).length + (if ([] : List Keyword).isEmpty then 0 else 1) < 30)) = true := by
    rw [star_cons hs]
    rfl
  refine wpAny_Call_method_late hbase hfew hl rfl (thn (ha.run pins s σ H (fun v H1 => ∃ F1, Grow c F H F1 H1 ∧ SR c F0 H0 F1 H1 σ ρ t1 ∧ RR c H F1 H1 v x) I (one S e1 fun v F1 H1 gr tp S1 r1 => ⟨F1, gr, S1, r1⟩)) fun v s1 ⟨xv, H1, I1, rv1, F1, gr, S1, r1⟩ => ?_)
  have hx : ∃ xs, x.d = .list xs := by
    unfold mthD at e3
    split at e3
    · exact ⟨_, by assumption⟩
    · cases e3
  obtain ⟨xs, hx⟩ := hx
  obtain ⟨l, ws, rfl, hl1, rl1⟩ := r1.lstR hx S1.g.sub
  obtain ⟨z1, z2⟩ := tyV_is (T := "list") I1 rv1 (.inl ⟨rfl, ws, by rw [G.hK]; exact hl1⟩)
  cases rv1
  have args : ∀ {id : String}, id = meId m → wpAny (model X.prog X.w) X.A (callWith cp (.builtin id) [.ref l] (backTo cp (starEach [b] X.env)) []) (EP X pins σ Q) X.xe s1 := fun {id} hid => by
    have hst := star_cons (es := []) (env := X.env) hs
    have hpa : PA X [b] (tCons (mE c mb) tNil) := pa_cons hb pa_nil hst
    have hA := hpa.run cp pins s1 σ H1 (fun vs H2 => ∃ v F2, vs = [v] ∧ Grow c F1 H1 F2 H2 ∧ Tape c F2 H2 t' ∧ SR c F0 H0 F2 H2 σ ρ t' ∧ RR c H1 F2 H2 v y) I1 (one S1 e2 fun v F2 H2 gr2 tp2 S2 r2 => ⟨v, F2, rfl, gr2, tp2, S2, r2⟩)
    rw [hst] at hA ⊢
    refine Calls.callWith_builtin (by rfl) (Calls.evalArgs_plain ?_)
    refine thn hA fun us s2 ⟨vs, H2, I2, r2, v, F2, ev, gr2, tp2, S2, rr2⟩ => ?_
    subst ev
    obtain ⟨u, rfl, ru⟩ := r2.one
    have hl2 := (r1.grow gr2 S1.tp).lstR hx S2.g.sub
    obtain ⟨l', ws', el, hl2, rl2⟩ := hl2
    cases el
    have hpl : y.d.plain = true := by
      unfold mthD at e3
      rw [hx] at e3
      simp only at e3
      split at e3
      · rename_i ok
        exact (okD_and ok.1).1
      · cases e3
    obtain ⟨as, rd⟩ := rr2.reads I2 G.hK hpl S2.g.sub ru
    rw [hx] at e3
    rw [hid]
    exact mth_call G.hK G.hu I2 hl2 rl2 S2.g.sub rd e3 fun i ei => by
      subst ei
      exact p _ F2 H2 (gr.trans gr2) tp2 (Rep.int _)
  cases m with
  | index => exact ⟨"list", "list.index", PySem.F.plainAttrs_list, PySem.F.slot_list_index, PySem.F.type_list_index, z1, z2, args rfl⟩
  | count => exact ⟨"list", "list.count", PySem.F.plainAttrs_list, PySem.F.slot_list_count, PySem.F.type_list_count, z1, z2, args rfl⟩
end
end Q
namespace Q
open PySem PySem.Spec PyProof.Rows L2 RZ
section
variable {X : Cx} {c : Pm} {g : Gl} {fs : List Str}
variable {F0 H0 F H F' H' Hs F1 H1 : Hp} {σ : L2.St} {ρ : Env} {t t' t1 t2 : Nat} {v : V} {x : R}
variable {a b d : PySem.Expr} {ma mb md : Env → M R} {pos : Pos} {es : List PySem.Expr} {ml : Env → M (List R)}
/-! ### what is walked -/
def Yl (c : Pm) (F H : Hp) (v : V) (H' : Hp) (d : D) : Prop := (H' = H ∧ Rep c F v d) ∨ ∃ T vs ds, v = .ref T ∧ H T = none ∧ H' = upd H T (.tup vs) ∧ RepL c F vs ds ∧ d = .tuple ds
def ItAt (c : Pm) (J : L2.It) (F H : Hp) (xs : List D) : Prop := ∀ i, (∀ d, xs[i]? = some d → J.go i H ∧ ∀ v H', J.yld i H v H' → Yl c F H v H' d) ∧ (xs.length ≤ i → J.stop i H)
structure ItOk (c : Pm) (J : L2.It) (F1 H1 : Hp) (r : Bool × List D) : Prop where
  grow : ∀ F H, Grow c F1 H1 F H → ItAt c J F H r.2
  far : r.1 = true → ∀ F H, Ext F1 F → Ext F H → ItAt c J F H r.2
def mI (c : Pm) (m : Env → M (Bool × List D)) : TI := fun σ H R => ∃ F0 H0 F ρ t r t', SR c F0 H0 F H σ ρ t ∧ m ρ t = some (r, t') ∧ ∀ J F' H', Grow c F H F' H' → Tape c F' H' t' → ItOk c J F' H' r → R J H'
theorem PI.weak {X : Cx} {tg e : PySem.Expr} {te te' : TI} (h : PI X tg e te) (w : ∀ σ H Q, te' σ H Q → te σ H Q) : PI X tg e te' := ⟨fun pins s σ H Q I q => h.run pins s σ H Q I (w σ H Q q)⟩
theorem Yl.rep {d : D} {v : V} (y : Yl c F H v H' d) (s : Ext F H) (tp : Tape c F H t) : ∃ F', Grow c F H F' H' ∧ Tape c F' H' t ∧ Rep c F' v d := by
  have gr : Grow c F H F H := Grow.refl s tp.there
  rcases y with ⟨rfl, r⟩ | ⟨T, vs, ds, rfl, n, rfl, r, rfl⟩
  · exact ⟨F, gr, tp, r⟩
  · have f := gr.noF n
    have ne : c.aw ≠ some T := fun e => absurd n (tp.there T e)
    refine ⟨frz1 F (upd H T (.tup vs)) T, (gr.laid n).frz f n, (tp.laid n).frz f ne, .tup ?_ (r.mono (frz1_ext f))⟩
    unfold frz1
    rw [if_pos rfl, upd_same]
/-- a list or a tuple -/
def iSeq (K : PySem.W.Frag) (tl : TE) : TI := fun σ H R => tl σ H fun x H1 => (∃ y, x = .str y ∧ R (Its y) H1) ∨ ∃ a, x = .ref a ∧ (((∃ xs, SqL K H1 a xs) ∧ R (Itl K a) H1) ∨ ((∃ xs, SqT K H1 a xs) ∧ R (Itt K a) H1))
theorem pi_seq {tg l : PySem.Expr} {tl : TE} (hl : PE X l tl) : PI X tg l (iSeq X.K tl) := by
  refine ⟨fun pins s σ H R I h => ?_⟩
  refine thn (hl.run pins s σ H _ I h) fun v s1 ⟨x, H1, I1, r1, q1⟩ => ?_
  rcases q1 with ⟨y, ey, q⟩ | q1
  · subst ey
    obtain ⟨t, rfl⟩ := r1
    cases ha : y.cps.all (· < 128)
    · exact wpAny_pyIter_wide ha (pi_one (tk := s1.toks) I1 _ (turn_str _ y t "str_iterator" (.inr rfl)) ⟨_, Heap.get?_push_size _ rfl, rfl, rfl⟩ q)
    · exact wpAny_pyIter_ascii ha (pi_one (tk := s1.toks) I1 _ (turn_str _ y t "str_ascii_iterator" (.inl rfl)) ⟨_, Heap.get?_push_size _ rfl, rfl, rfl⟩ q)
  obtain ⟨a, e, q⟩ := q1
  subst e
  cases r1
  rcases q with ⟨⟨xs, hq⟩, q⟩ | ⟨⟨xs, hq⟩, q⟩
  · obtain ⟨its, rv, p, hz⟩ := I1.list hq
    refine wpAny_pyIter_list p.isList ?_
    refine ⟨s1.heap.objs.size, [s1.heap.objs.size], _, _, H1, rfl, I1.kept (t' := s1.toks) fun b o e => Heap.get?_push_of_some _ e, turn_list a _, ⟨_, Heap.get?_push_size _ rfl, rfl, rfl⟩, fun b hb => ?_, q⟩
    have e : b = s1.heap.objs.size := by simpa using hb
    subst e
    exact I1.fpOk (Nat.le_refl _) (I1.hok.fresh (Nat.le_refl _))
  · obtain ⟨its, rv, p, hz⟩ := I1.tuple hq
    refine wpAny_pyIter_tuple (show s1.heap.IsTuple a its.toArray from p) ?_
    refine ⟨s1.heap.objs.size, [s1.heap.objs.size], _, _, H1, rfl, I1.kept (t' := s1.toks) fun b o e => Heap.get?_push_of_some _ e, turn_tuple a _, ⟨_, Heap.get?_push_size _ rfl, rfl, rfl⟩, fun b hb => ?_, q⟩
    have e : b = s1.heap.objs.size := by simpa using hb
    subst e
    exact I1.fpOk (Nat.le_refl _) (I1.hok.fresh (Nat.le_refl _))
theorem itl_at {a : Addr} {vs : List V} {xs : List D} (h : SqL c.K H a vs) (r : RepL c F vs xs) : ItAt c (Itl c.K a) F H xs := fun i => by
  refine ⟨fun d hd => ?_, fun hl => ?_⟩
  · obtain ⟨w, hw, rw'⟩ := r.get hd
    refine ⟨⟨vs, w, h, hw⟩, fun v H' ⟨e, q⟩ => ?_⟩
    have := q vs h
    rw [hw] at this
    cases this
    exact .inl ⟨e, rw'⟩
  · exact ⟨vs, h, by rw [r.length]; exact hl⟩
theorem itt_at {a : Addr} {vs : List V} {xs : List D} (h : SqT c.K H a vs) (r : RepL c F vs xs) : ItAt c (Itt c.K a) F H xs := fun i => by
  refine ⟨fun d hd => ?_, fun hl => ?_⟩
  · obtain ⟨w, hw, rw'⟩ := r.get hd
    refine ⟨⟨vs, w, h, hw⟩, fun v H' ⟨e, q⟩ => ?_⟩
    have := q vs h
    rw [hw] at this
    cases this
    exact .inl ⟨e, rw'⟩
  · exact ⟨vs, h, by rw [r.length]; exact hl⟩
theorem SqL.grow {a : Addr} {vs : List V} (g : Grow c F H F' H') (tp : Tape c F H t) (h : SqL c.K H a vs) : SqL c.K H' a vs := by
  have ne : ∀ u, H a = some u → (∀ kvs, u ≠ .dK kvs) → c.aw ≠ some a := fun u hu hd e => by
    have tp := tp.som e
    rw [tp.1] at hu
    cases hu
    exact hd _ rfl
  rcases h with (h | ⟨o, h⟩) | h
  · exact .inl (.inl (g.hx _ _ (ne _ h (by intro _ z; cases z)) h))
  · exact .inl (.inr ⟨o, g.hx _ _ (ne _ h (by intro _ z; cases z)) h⟩)
  · exact .inr h
/-- the list of a result, made to stay where it is new; F2: some others were made so before -/
theorem RR.walk {F2 : Hp} {ds : List D} (h : RR c Hs F H v x) (e : x.d = .list ds) (g : Grow c Hs' Hs F2 H) (tp : Tape c F2 H t) (x2 : Ext F F2) (k2 : ∀ a, F2 a = F a ∨ F2 a = H a) :
    ∃ a vs F3, v = .ref a ∧ SqL c.K H a vs ∧ RepL c F3 vs ds ∧ Grow c Hs' Hs F3 H ∧ Tape c F3 H t ∧ Ext F2 F3 ∧ (safe x.kd = true → F3 a = some (.lst vs)) ∧ (∀ a, F3 a = F a ∨ F3 a = H a) := by
  unfold RR at h
  rw [e] at h
  split at h
  · obtain ⟨a, vs, e1, q, r⟩ := Rep.lstE h
    exact ⟨a, vs, F2, e1, .inl (.inl (g.sub _ _ (x2 _ _ q))), r.mono x2, g, tp, Ext.refl _, fun _ => x2 _ _ q, k2⟩
  · obtain ⟨a, e1, n, f, vs, q, r⟩ := h
    have hT : Top c F2 H a (.list ds) := ⟨vs, q, r.mono x2⟩
    by_cases q3 : F2 a = Option.none
    · refine ⟨a, vs, frz1 F2 H a, e1, .inl (.inl q), (r.mono x2).mono (frz1_ext q3), g.frz q3 n, tp.frz q3 (hT.ne tp), frz1_ext q3, fun _ => ?_, fun b => ?_⟩
      · unfold frz1
        rw [if_pos rfl]
        exact q
      · by_cases z : b = a
        · exact .inr (by unfold frz1; rw [if_pos z, z])
        · unfold frz1
          rw [if_neg z]
          exact k2 b
    · have q4 : F2 a = H a := by
        rcases k2 a with w | w
        · rw [w] at q3
          exact absurd f q3
        · exact w
      exact ⟨a, vs, F2, e1, .inl (.inl q), r.mono x2, g, tp, Ext.refl _, fun _ => by rw [q4]; exact q, k2⟩
  · rename_i z
    obtain ⟨a, e1, f, vs, q, r⟩ := h
    exact ⟨a, vs, F2, e1, .inl (.inl q), r.mono x2, g, tp, Ext.refl _, (fun s => by rw [z] at s; cases s), k2⟩
  · rename_i z
    obtain ⟨a, e1, vs, q, r⟩ := h
    exact ⟨a, vs, F2, e1, q, r.mono x2, g, tp, Ext.refl _, (fun s => by rw [z] at s; cases s), k2⟩
theorem RR.walkT {ds : List D} (h : RR c Hs F H v x) (e : x.d = .tuple ds) : ∃ a vs, v = .ref a ∧ SqT c.K F a vs ∧ RepL c F vs ds := (h.tup e).tupE
theorem its_at {x : Str} : ItAt c (Its x) F H (x.cps.toList.map fun c => .str ⟨#[c]⟩) := fun i => by
  refine ⟨fun d hd => ?_, fun hl => ?_⟩
  · rw [List.getElem?_map] at hd
    obtain ⟨c, hc, rfl⟩ := Option.map_eq_some_iff.mp hd
    rw [Array.getElem?_toList] at hc
    refine ⟨(Array.getElem?_eq_some_iff.mp hc).1, fun v H' ⟨e, c', hc', ev⟩ => .inl ⟨e, ?_⟩⟩
    rw [hc] at hc'
    cases hc'
    rw [ev]
    exact .str _
  · rw [List.length_map, Array.length_toList] at hl
    exact hl
theorem seqI_some {r : R} {o : Bool × List D} (h : seqI r = some o) : (∃ x, r.d = .str x ∧ o = (true, x.cps.toList.map fun c => .str ⟨#[c]⟩)) ∨ (∃ xs, r.d = .list xs ∧ o = (safe r.kd, xs)) ∨ ∃ xs, r.d = .tuple xs ∧ o = (true, xs) := by
  unfold seqI at h
  split at h
  · cases h
    exact .inr (.inl ⟨_, by assumption, rfl⟩)
  · cases h
    exact .inr (.inr ⟨_, by assumption, rfl⟩)
  · cases h
    exact .inl ⟨_, by assumption, rfl⟩
  · cases h
theorem ItOk.list {a : Addr} {vs : List V} {xs : List D} {s : Bool} (h : SqL c.K H a vs) (r : RepL c F vs xs) (tp : Tape c F H t) (k : s = true → F a = some (.lst vs)) : ItOk c (Itl c.K a) F H (s, xs) :=
  ⟨fun F' H' g => itl_at (SqL.grow g tp h) (r.mono g.ex), fun z F' H' e s' => itl_at (.inl (.inl (s' _ _ (e _ _ (k z))))) (r.mono e)⟩
theorem ItOk.tuple {a : Addr} {vs : List V} {xs : List D} {s : Bool} (h : SqT c.K F a vs) (r : RepL c F vs xs) : ItOk c (Itt c.K a) F H (s, xs) :=
  ⟨fun F' H' g => itt_at (g.sub.sqt (g.ex.sqt h)) (r.mono g.ex), fun z F' H' e s' => itt_at (s'.sqt (e.sqt h)) (r.mono e)⟩
theorem r_seq (G : Good X c g fs) {tg : PySem.Expr} (ha : PE X a (mE c ma)) : PI X tg a (mI c fun ρ => bnd (ma ρ) fun r => opt (seqI r)) := by
  refine PI.weak (pi_seq ha) fun σ H R q => ?_
  obtain ⟨F0, H0, F, ρ, t, r, t', S, e, p⟩ := q
  obtain ⟨x, t1, e1, e⟩ := bnd_some e
  obtain ⟨e', rfl⟩ := opt_some e
  refine one S e1 fun v F1 H1 gr tp S1 r1 => ?_
  rcases seqI_some e' with ⟨y, ey, rfl⟩ | ⟨xs, ex, rfl⟩ | ⟨xs, ex, rfl⟩
  · have h1 := r1.scal (by rw [ey]; rfl)
    rw [ey] at h1
    cases h1
    exact .inl ⟨y, rfl, p _ F1 H1 gr tp ⟨fun _ _ _ => its_at, fun _ _ _ _ _ => its_at⟩⟩
  · obtain ⟨b, vs, F2, rfl, q1, q2, q3, q4, q5, q6, _⟩ := r1.walk ex gr tp (Ext.refl _) fun _ => .inl rfl
    exact .inr ⟨b, rfl, .inl ⟨⟨vs, by rw [G.hK]; exact q1⟩, by rw [G.hK]; exact p _ F2 H1 q3 q4 (ItOk.list q1 q2 q4 q6)⟩⟩
  · obtain ⟨b, vs, rfl, q1, q2⟩ := r1.walkT ex
    exact .inr ⟨b, rfl, .inr ⟨⟨vs, by rw [G.hK]; exact S1.g.sub.sqt q1⟩, by rw [G.hK]; exact p _ F1 H1 gr tp (ItOk.tuple q1 q2)⟩⟩
theorem itr_at {lo : Int} {n : Nat} {hi : Int} (hn : n = (hi - lo).toNat) : ItAt c (Itr lo n) F H (rangeL lo hi) := fun i => by
  unfold rangeL
  rw [List.length_map, List.length_range, ← hn]
  refine ⟨fun d hd => ?_, fun h => h⟩
  rw [List.getElem?_map] at hd
  by_cases hi : i < n
  · rw [List.getElem?_range hi] at hd
    cases hd
    exact ⟨hi, fun v H' ⟨e, q⟩ => .inl ⟨e, by rw [q]; exact .int _⟩⟩
  · rw [List.getElem?_eq_none (by rw [List.length_range]; omega)] at hd
    cases hd
theorem rngB_of {i : Int} (h : rngB i = true) : -(2 ^ 62) ≤ i ∧ i < 2 ^ 62 := by
  simp only [rngB, decide_eq_true_eq] at h
  omega
theorem r_rng1 (G : Good X c g fs) {tg : PySem.Expr} {p : Pos} (hx : gl X.env.scope "range" = true) (ha : PE X a (mE c ma)) (h1 : noStar a = true) :
    PI X tg (.Call (.Name "range" p) [a] [] pos) (mI c fun ρ => bnd (ma ρ) fun x => bnd (opt (intOf x.d)) fun i => if rngB i then ret (true, rangeL 0 i) else fail) := by
  refine PI.weak (pi_range1 (gl_of hx) (G.bn _ (by decide)) (pa_cons ha pa_nil (star_cons h1)) (star_cons h1)) fun σ H R q => ?_
  obtain ⟨F0, H0, F, ρ, t, r, t', S, e, p⟩ := q
  obtain ⟨x, t1, e1, e⟩ := bnd_some e
  obtain ⟨i, e2, e⟩ := opt_bnd e
  split at e
  · rename_i hb
    cases e
    have hb := rngB_of hb
    exact one S e1 fun v F1 H1 gr tp S1 r1 => ⟨i, by rw [r1.int (intOf_some e2)], hb.1, hb.2, p _ F1 H1 gr tp ⟨fun F H _ => itr_at (by rw [Int.sub_zero]), fun _ F H _ _ => itr_at (by rw [Int.sub_zero])⟩⟩
  · cases e
theorem r_rng2 (G : Good X c g fs) {tg : PySem.Expr} {p : Pos} (hx : gl X.env.scope "range" = true) (ha : PE X a (mE c ma)) (h1 : noStar a = true) (hb : PE X b (mE c mb)) (h2 : noStar b = true) :
    PI X tg (.Call (.Name "range" p) [a, b] [] pos) (mI c fun ρ => bnd (ma ρ) fun x => bnd (mb ρ) fun y => bnd (opt (intOf x.d)) fun i => bnd (opt (intOf y.d)) fun j => if rngB i && rngB j then ret (true, rangeL i j) else fail) := by
  refine PI.weak (pi_range2 (gl_of hx) (G.bn _ (by decide)) (pa_cons ha (pa_cons hb pa_nil (star_cons h2)) (star_cons h1)) (by rw [star_cons h1, star_cons h2]; rfl) (star_cons h2)) fun σ H R q => ?_
  obtain ⟨F0, H0, F, ρ, t, r, t', S, e, p⟩ := q
  obtain ⟨x, t1, e1, e⟩ := bnd_some e
  obtain ⟨y, t2, e2, e⟩ := bnd_some e
  obtain ⟨i, e3, e⟩ := opt_bnd e
  obtain ⟨j, e4, e⟩ := opt_bnd e
  split at e
  · rename_i hb
    cases e
    simp only [Bool.and_eq_true] at hb
    have hb1 := rngB_of hb.1
    have hb2 := rngB_of hb.2
    exact two (Q := fun v u H2 => ∃ i j : Int, [v, u] = [.int i, .int j] ∧ (-(2 ^ 62) ≤ i ∧ i < 2 ^ 62 ∧ -(2 ^ 62) ≤ j ∧ j < 2 ^ 62) ∧ R (Itr i (j - i).toNat) H2) S e1 e2 fun v u F1 H1 gr tp S1 r1 r2 => ⟨i, j, by rw [r1.int (intOf_some e3), r2.int (intOf_some e4)], ⟨hb1.1, hb1.2, hb2.1, hb2.2⟩, p _ F1 H1 gr tp ⟨fun F H _ => itr_at rfl, fun _ F H _ _ => itr_at rfl⟩⟩
  · cases e
theorem itrc_at {lo c0 : Int} {n : Nat} {hi : Int} (hn : Builtin.Range.rangeSize lo hi c0 = n) : ItAt c (Itc lo c0 n) F H (rangeC lo hi c0) := fun i => by
  unfold rangeC
  rw [List.length_map, List.length_range, hn, Int.toNat_natCast]
  refine ⟨fun d hd => ?_, fun h => h⟩
  rw [List.getElem?_map] at hd
  by_cases hi : i < n
  · rw [List.getElem?_range hi] at hd
    cases hd
    exact ⟨hi, fun v H' ⟨e, q⟩ => .inl ⟨e, by rw [q]; exact .int _⟩⟩
  · rw [List.getElem?_eq_none (by rw [List.length_range]; omega)] at hd
    cases hd
theorem rngC_of {i j k : Int} (h : rngC i j k = true) : RgC i j k (Builtin.Range.rangeSize i j k).toNat := by
  simp only [rngC, Bool.and_eq_true, decide_eq_true_eq] at h
  obtain ⟨⟨⟨h1, h2⟩, h3⟩, h4⟩ := h
  exact ⟨h2, h3, h1, (Int.toNat_of_nonneg h4).symm⟩
theorem r_rng3 (G : Good X c g fs) {tg : PySem.Expr} {p : Pos} (hx : gl X.env.scope "range" = true) (ha : PE X a (mE c ma)) (h1 : noStar a = true) (hb : PE X b (mE c mb)) (h2 : noStar b = true) (hd : PE X d (mE c md)) (h3 : noStar d = true) :
    PI X tg (.Call (.Name "range" p) [a, b, d] [] pos) (mI c fun ρ => bnd (ma ρ) fun x => bnd (mb ρ) fun y => bnd (md ρ) fun z => bnd (opt (intOf x.d)) fun i => bnd (opt (intOf y.d)) fun j => bnd (opt (intOf z.d)) fun k => if rngC i j k then ret (true, rangeC i j k) else fail) := by
  refine PI.weak (pi_range3 (gl_of hx) (G.bn _ (by decide)) (pa_cons ha (pa_cons hb (pa_cons hd pa_nil (star_cons h3)) (star_cons h2)) (star_cons h1)) (star_cons h1) (by rw [back_any]; exact star_all (by simp [h2, h3]))) fun σ H R q => ?_
  obtain ⟨F0, H0, F, ρ, t, r, t', S, e, p⟩ := q
  obtain ⟨x, t1, e1, e⟩ := bnd_some e
  obtain ⟨y, t2, e2, e⟩ := bnd_some e
  obtain ⟨z, t3, e3, e⟩ := bnd_some e
  obtain ⟨i, f1, e⟩ := opt_bnd e
  obtain ⟨j, f2, e⟩ := opt_bnd e
  obtain ⟨k, f3, e⟩ := opt_bnd e
  split at e
  · rename_i hk
    cases e
    have hr := rngC_of hk
    exact one S e1 fun v F1 H1 gr tp S1 r1 => one S1 e2 fun u F2 H2 gr2 tp2 S2 r2 => one S2 e3 fun w F3 H3 gr3 tp3 S3 r3 =>
      ⟨i, j, k, _, by rw [r1.int (intOf_some f1), r2.int (intOf_some f2), r3.int (intOf_some f3)], hr, p _ F3 H3 ((gr.trans gr2).trans gr3) tp3 ⟨fun F H _ => itrc_at hr.2.2.2, fun _ F H _ _ => itrc_at hr.2.2.2⟩⟩
  · cases e
theorem enmD_get : ∀ {xs : List D} {n i : Nat} {d : D}, (enmD n xs)[i]? = some d → ∃ x, xs[i]? = some x ∧ d = .tuple [.int ((n + i : Nat) : Int), x]
  | [], _, _, _, h => by simp [enmD] at h
  | x :: xs, n, 0, d, h => by
    simp [enmD] at h
    exact ⟨x, rfl, by rw [← h]; rfl⟩
  | x :: xs, n, i + 1, d, h => by
    have h' : (enmD (n + 1) xs)[i]? = some d := by simpa [enmD] using h
    obtain ⟨p, h1, h3⟩ := enmD_get h'
    refine ⟨p, by simpa using h1, ?_⟩
    rw [h3]
    have : n + 1 + i = n + (i + 1) := by omega
    rw [this]
theorem enmD_len : ∀ {xs : List D} {n : Nat}, (enmD n xs).length = xs.length
  | [], _ => rfl
  | x :: xs, n => by simp [enmD, enmD_len (xs := xs)]
theorem ite_at {a : Addr} {vs : List V} {xs : List D} (h : SqL c.K H a vs) (r : RepL c F vs xs) : ItAt c (Ite c.K a) F H (enmD 0 xs) := fun i => by
  refine ⟨fun d hd => ?_, fun hl => ?_⟩
  · obtain ⟨x, hx, rfl⟩ := enmD_get hd
    obtain ⟨w, hw, rw1⟩ := r.get hx
    refine ⟨⟨vs, w, h, hw⟩, fun v H' hy => ?_⟩
    obtain ⟨T, x', e1, e2, e3, q1⟩ := hy
    have z1 := q1 vs h
    rw [hw] at z1
    cases z1
    refine .inr ⟨T, _, _, e1, e2, e3, .cons ?_ (.cons rw1 .nil), rfl⟩
    rw [Nat.zero_add]
    exact .int _
  · exact ⟨vs, h, by rw [r.length]; rw [enmD_len] at hl; exact hl⟩
theorem iteT_at {a : Addr} {vs : List V} {xs : List D} (h : SqT c.K H a vs) (r : RepL c F vs xs) : ItAt c (IteT c.K a) F H (enmD 0 xs) := fun i => by
  refine ⟨fun d hd => ?_, fun hl => ?_⟩
  · obtain ⟨x, hx, rfl⟩ := enmD_get hd
    obtain ⟨w, hw, rw1⟩ := r.get hx
    refine ⟨⟨vs, w, h, hw⟩, fun v H' hy => ?_⟩
    obtain ⟨T, x', e1, e2, e3, q1⟩ := hy
    have z1 := q1 vs h
    rw [hw] at z1
    cases z1
    refine .inr ⟨T, _, _, e1, e2, e3, .cons ?_ (.cons rw1 .nil), rfl⟩
    rw [Nat.zero_add]
    exact .int _
  · exact ⟨vs, h, by rw [r.length]; rw [enmD_len] at hl; exact hl⟩
theorem enmI_some {r : R} {o : Bool × List D} (h : enmI r = some o) : (∃ xs, r.d = .list xs ∧ o = (safe r.kd, enmD 0 xs)) ∨ ∃ xs, r.d = .tuple xs ∧ o = (true, enmD 0 xs) := by
  unfold enmI at h
  split at h
  · cases h
    exact .inl ⟨_, by assumption, rfl⟩
  · cases h
    exact .inr ⟨_, by assumption, rfl⟩
  · cases h
theorem r_enm (G : Good X c g fs) {elts : List PySem.Expr} {kk : Nat} {tpos p : Pos} (hx : gl X.env.scope "enumerate" = true) (ha : PE X a (mE c ma)) (h1 : noStar a = true) :
    PI X (.Tuple elts kk tpos) (.Call (.Name "enumerate" p) [a] [] pos) (mI c fun ρ => bnd (ma ρ) fun x => opt (enmI x)) := by
  refine PI.weak (pi_enumA (gl_of hx) (G.bn _ (by decide)) (pa_cons ha pa_nil (star_cons h1)) (star_cons h1)) fun σ H R q => ?_
  obtain ⟨F0, H0, F, ρ, t, r, t', S, e, p⟩ := q
  obtain ⟨x, t1, e1, e⟩ := bnd_some e
  obtain ⟨e', rfl⟩ := opt_some e
  refine one (Q := fun v H1 => ∃ a, [v] = [.ref a] ∧ ((∃ xs, SqL X.K H1 a xs ∧ R (Ite X.K a) H1) ∨ ∃ xs, SqT X.K H1 a xs ∧ R (IteT X.K a) H1)) S e1 fun v F1 H1 gr tp S1 r1 => ?_
  rcases enmI_some e' with ⟨xs, ex, rfl⟩ | ⟨xs, ex, rfl⟩
  · obtain ⟨l, vs, F2, rfl, q1, q2, q3, q4, q5, q6, _⟩ := r1.walk ex gr tp (Ext.refl _) fun _ => .inl rfl
    refine ⟨l, rfl, .inl ⟨vs, by rw [G.hK]; exact q1, ?_⟩⟩
    rw [G.hK]
    exact p _ F2 H1 q3 q4 ⟨fun F' H' g => ite_at (SqL.grow g q4 q1) (q2.mono g.ex), fun z F' H' e s' => ite_at (.inl (.inl (s' _ _ (e _ _ (q6 z))))) (q2.mono e)⟩
  · obtain ⟨l, vs, rfl, q1, q2⟩ := r1.walkT ex
    refine ⟨l, rfl, .inr ⟨vs, by rw [G.hK]; exact S1.g.sub.sqt q1, ?_⟩⟩
    rw [G.hK]
    exact p _ F1 H1 gr tp ⟨fun F' H' g => iteT_at (g.sub.sqt (g.ex.sqt q1)) (q2.mono g.ex), fun z F' H' e s' => iteT_at (s'.sqt (e.sqt q1)) (q2.mono e)⟩
theorem zipD_get : ∀ {xs ys : List D} {i : Nat} {d : D}, (zipD xs ys)[i]? = some d → ∃ x y, xs[i]? = some x ∧ ys[i]? = some y ∧ d = .tuple [x, y]
  | [], _, _, _, h => by simp [zipD] at h
  | _ :: _, [], _, _, h => by simp [zipD] at h
  | x :: xs, y :: ys, 0, d, h => by
    simp [zipD] at h
    exact ⟨x, y, rfl, rfl, h.symm⟩
  | x :: xs, y :: ys, i + 1, d, h => by
    have h' : (zipD xs ys)[i]? = some d := by simpa [zipD] using h
    obtain ⟨p, q, h1, h2, h3⟩ := zipD_get h'
    exact ⟨p, q, by simpa using h1, by simpa using h2, h3⟩
theorem zipD_len : ∀ {xs ys : List D} {i : Nat}, (zipD xs ys).length ≤ i → xs.length ≤ i ∨ ys.length ≤ i
  | [], _, _, _ => .inl (Nat.zero_le _)
  | _ :: _, [], _, _ => .inr (Nat.zero_le _)
  | x :: xs, y :: ys, 0, h => by simp [zipD] at h
  | x :: xs, y :: ys, i + 1, h => by
    rcases zipD_len (xs := xs) (ys := ys) (i := i) (by simpa [zipD] using h) with q | q
    · exact .inl (by simpa using q)
    · exact .inr (by simpa using q)
theorem itz_at {a b : Addr} {vs ws : List V} {xs ys : List D} (h : SqL c.K H a vs) (h2 : SqL c.K H b ws) (r : RepL c F vs xs) (r2 : RepL c F ws ys) : ItAt c (Itz c.K a b) F H (zipD xs ys) := fun i => by
  refine ⟨fun d hd => ?_, fun hl => ?_⟩
  · obtain ⟨x, y, hx, hy, rfl⟩ := zipD_get hd
    obtain ⟨w, hw, rw1⟩ := r.get hx
    obtain ⟨u, hu, ru⟩ := r2.get hy
    refine ⟨⟨vs, ws, w, u, h, h2, hw, hu⟩, fun v H' hy => ?_⟩
    obtain ⟨T, x', y', e1, e2, e3, q1, q2⟩ := hy
    have z1 := q1 vs h
    rw [hw] at z1
    cases z1
    have z2 := q2 ws h2
    rw [hu] at z2
    cases z2
    exact .inr ⟨T, _, _, e1, e2, e3, .cons rw1 (.cons ru .nil), rfl⟩
  · refine ⟨vs, ws, h, h2, ?_⟩
    rcases zipD_len hl with q | q
    · exact .inl (by rw [r.length]; exact q)
    · exact .inr (by rw [r2.length]; exact q)
theorem itzT_at {a b : Addr} {vs ws : List V} {xs ys : List D} (h : SqT c.K H a vs) (h2 : SqT c.K H b ws) (r : RepL c F vs xs) (r2 : RepL c F ws ys) : ItAt c (ItzT c.K a b) F H (zipD xs ys) := fun i => by
  refine ⟨fun d hd => ?_, fun hl => ?_⟩
  · obtain ⟨x, y, hx, hy, rfl⟩ := zipD_get hd
    obtain ⟨w, hw, rw1⟩ := r.get hx
    obtain ⟨u, hu, ru⟩ := r2.get hy
    refine ⟨⟨vs, ws, w, u, h, h2, hw, hu⟩, fun v H' hy => ?_⟩
    obtain ⟨T, x', y', e1, e2, e3, q1, q2⟩ := hy
    have z1 := q1 vs h
    rw [hw] at z1
    cases z1
    have z2 := q2 ws h2
    rw [hu] at z2
    cases z2
    exact .inr ⟨T, _, _, e1, e2, e3, .cons rw1 (.cons ru .nil), rfl⟩
  · refine ⟨vs, ws, h, h2, ?_⟩
    rcases zipD_len hl with q | q
    · exact .inl (by rw [r.length]; exact q)
    · exact .inr (by rw [r2.length]; exact q)
theorem zipI_some {x y : R} {o : Bool × List D} (h : zipI x y = some o) : (∃ xs ys, x.d = .list xs ∧ y.d = .list ys ∧ o = (safe x.kd && safe y.kd, zipD xs ys)) ∨ ∃ xs ys, x.d = .tuple xs ∧ y.d = .tuple ys ∧ o = (true, zipD xs ys) := by
  unfold zipI at h
  split at h
  · cases h
    exact .inl ⟨_, _, by assumption, by assumption, rfl⟩
  · cases h
    exact .inr ⟨_, _, by assumption, by assumption, rfl⟩
  · cases h
inductive PD (c : Pm) (F : Hp) : List (V × V) → List D → Prop
  | nil : PD c F [] []
  | snoc {ps : List (V × V)} {ds : List D} {x y : V} {d e : D} : PD c F ps ds → Rep c F x d → Rep c F y e → PD c F (ps ++ [(x, y)]) (ds ++ [.tuple [d, e]])
theorem PD.cons {c : Pm} {F : Hp} {x y : V} {d e : D} (h1 : Rep c F x d) (h2 : Rep c F y e) : ∀ {ps : List (V × V)} {ds : List D}, PD c F ps ds → PD c F ((x, y) :: ps) (.tuple [d, e] :: ds)
  | _, _, .nil => .snoc (ps := []) (ds := []) .nil h1 h2
  | _, _, .snoc q a b => .snoc (PD.cons h1 h2 q) a b
theorem PD.zip {c : Pm} {F : Hp} : ∀ {vs ws : List V} {xs ys : List D}, RepL c F vs xs → RepL c F ws ys → PD c F (vs.zip ws) (zipD xs ys)
  | [], _, _, _, .nil, _ => by simpa [zipD] using PD.nil
  | _ :: _, [], _, _, .cons _ _, .nil => by simpa [zipD] using PD.nil
  | _ :: _, _ :: _, _, _, .cons a r, .cons b q => by
    rw [zipD]
    exact PD.cons a b (PD.zip r q)
theorem Zd.rep {c : Pm} {F H F1 H1 : Hp} {t : Nat} (g : Grow c F H F1 H1) (tp : Tape c F1 H1 t) : ∀ {ps : List (V × V)} {Ts : List V} {H' : Hp} {ds : List D}, Zd H1 ps Ts H' → PD c F1 ps ds → ∃ F2, Grow c F H F2 H' ∧ Tape c F2 H' t ∧ RepL c F2 Ts ds ∧ Ext F1 F2 := by
  intro ps Ts H' ds hz
  induction hz generalizing ds with
  | nil =>
    intro hp
    have : ds = [] := by
      generalize hps : ([] : List (V × V)) = pp at hp
      cases hp with
      | nil => rfl
      | snoc q _ _ => exact absurd hps (by simp)
    subst this
    exact ⟨F1, g, tp, .nil, Ext.refl _⟩
  | snoc hz hT ih =>
    rename_i H' ps Ts T x y
    intro hp
    generalize hps : ps ++ [(x, y)] = pp at hp
    cases hp with
    | nil => exact absurd hps (by simp)
    | snoc q a b =>
      rename_i ps' ds' x' y' d e
      obtain ⟨e1, e2⟩ := List.append_inj' hps rfl
      subst e1
      have e3 : x = x' ∧ y = y' := by simpa using e2
      obtain ⟨rfl, rfl⟩ := e3
      obtain ⟨F2, g2, tp2, r2, x2⟩ := ih q
      have f := g2.noF hT
      have ne : c.aw ≠ some T := fun z => absurd hT (g2.aw' T z)
      have x3 : Ext F2 (frz1 F2 (upd H' T (.tup [x, y])) T) := frz1_ext f
      refine ⟨frz1 F2 (upd H' T (.tup [x, y])) T, (g2.laid hT).frz f (g2.back T hT), (tp2.laid hT).frz f ne, (r2.mono x3).app (RepL.one (Rep.tup ?_ (.cons ((a.mono x2).mono x3) (.cons ((b.mono x2).mono x3) .nil)))), x2.trans x3⟩
      unfold frz1
      rw [if_pos rfl, upd_same]
theorem r_zip (G : Good X c g fs) {elts : List PySem.Expr} {kk : Nat} {tpos p : Pos} (hx : gl X.env.scope "zip" = true) (ha : PE X a (mE c ma)) (h1 : noStar a = true) (hb : PE X b (mE c mb)) (h2 : noStar b = true) :
    PI X (.Tuple elts kk tpos) (.Call (.Name "zip" p) [a, b] [] pos) (mI c fun ρ => bnd (ma ρ) fun x => bnd (mb ρ) fun y => opt (zipI x y)) := by
  refine PI.weak (pi_zipA (gl_of hx) (G.bn _ (by decide)) (pa_cons ha (pa_cons hb pa_nil (star_cons h2)) (star_cons h1)) (star_cons h1) (by rw [back_any]; exact star_all (by simp [h2]))) fun σ H R q => ?_
  obtain ⟨F0, H0, F, ρ, t, r, t', S, e, p⟩ := q
  obtain ⟨x, t1, e1, e⟩ := bnd_some e
  obtain ⟨y, t2, e2, e⟩ := bnd_some e
  obtain ⟨e', rfl⟩ := opt_some e
  refine two (Q := fun v u H1 => ∃ a b xs ys, [v, u] = [.ref a, .ref b] ∧ ((SqL X.K H1 a xs ∧ SqL X.K H1 b ys ∧ R (Itz X.K a b) H1) ∨ (SqT X.K H1 a xs ∧ SqT X.K H1 b ys ∧ R (ItzT X.K a b) H1))) S e1 e2 fun v u F1 H1 gr tp S1 r1 r2 => ?_
  rcases zipI_some e' with ⟨xs, ys, ex, ey, rfl⟩ | ⟨xs, ys, ex, ey, rfl⟩
  · obtain ⟨l, vs, F2, rfl, q1, q2, q3, q4, q5, q6, q7⟩ := r1.walk ex gr tp (Ext.refl _) fun _ => .inl rfl
    obtain ⟨l2, ws, F3, rfl, p1, p2, p3, p4, p5, p6, p7⟩ := r2.walk ey q3 q4 q5 q7
    refine ⟨l, l2, vs, ws, rfl, .inl ⟨by rw [G.hK]; exact q1, by rw [G.hK]; exact p1, by
      rw [G.hK]
      refine p _ F3 H1 p3 p4 ⟨fun F' H' g => itz_at (SqL.grow g p4 q1) (SqL.grow g p4 p1) ((q2.mono p5).mono g.ex) (p2.mono g.ex), fun z F' H' e s' => ?_⟩
      simp only [Bool.and_eq_true] at z
      exact itz_at (.inl (.inl (s' _ _ (e _ _ (p5 _ _ (q6 z.1)))))) (.inl (.inl (s' _ _ (e _ _ (p6 z.2))))) ((q2.mono p5).mono e) (p2.mono e)⟩⟩
  · obtain ⟨l, vs, rfl, q1, q2⟩ := r1.walkT ex
    obtain ⟨l2, ws, rfl, q3, q4⟩ := r2.walkT ey
    exact ⟨l, l2, vs, ws, rfl, .inr ⟨by rw [G.hK]; exact S1.g.sub.sqt q1, by rw [G.hK]; exact S1.g.sub.sqt q3, by rw [G.hK]; exact p _ F1 H1 gr tp ⟨fun F' H' g => itzT_at (g.sub.sqt (g.ex.sqt q1)) (g.sub.sqt (g.ex.sqt q3)) (q2.mono g.ex) (q4.mono g.ex), fun z F' H' e s' => itzT_at (s'.sqt (e.sqt q1)) (s'.sqt (e.sqt q3)) (q2.mono e) (q4.mono e)⟩⟩⟩
theorem r_lzip (G : Good X c g fs) {p p2 q pos : Pos} (hx : gl X.env.scope "list" = true) (hy : gl X.env.scope "zip" = true) (ha : PE X a (mE c ma)) (h1 : noStar a = true) (hb : PE X b (mE c mb)) (h2 : noStar b = true) :
    PE X (.Call (.Name "list" p) [.Call (.Name "zip" p2) [a, b] [] q] [] pos) (mE c fun ρ => bnd (ma ρ) fun x => bnd (mb ρ) fun y => opt (lzD x.d y.d)) := by
  refine PE.weak (pe_lz (gl_of hx) (G.bn _ (by decide)) (gl_of hy) (G.bn _ (by decide)) (pa_cons ha (pa_cons hb pa_nil (star_cons h2)) (star_cons h1)) G.calm (star_cons h1) (by rw [back_any]; exact star_all (by simp [h2])) (star_cons rfl)) fun σ H Q q => ?_
  obtain ⟨F0, H0, F, ρ, t, r, t', S, e, p⟩ := q
  obtain ⟨x, t1, e1, e⟩ := bnd_some e
  obtain ⟨y, t2, e2, e⟩ := bnd_some e
  obtain ⟨e', rfl⟩ := opt_some e
  refine two (Q := fun v u H1 => ∃ a b xs ys, [v, u] = [.ref a, .ref b] ∧ SqT X.K H1 a xs ∧ SqT X.K H1 b ys ∧ ∀ S H' Ts, Zd H1 (xs.zip ys) Ts H' → H' S = none → Q (.ref S) (upd H' S (.lst Ts))) S e1 e2 fun v u F1 H1 gr tp S1 r1 r2 => ?_
  obtain ⟨xs, ys, ex, ey, rfl⟩ : ∃ xs ys, x.d = .tuple xs ∧ y.d = .tuple ys ∧ r = ⟨.fr, .list (zipD xs ys)⟩ := by
    unfold lzD at e'
    split at e'
    · cases e'
      exact ⟨_, _, by assumption, by assumption, rfl⟩
    · cases e'
  obtain ⟨l, vs, rfl, q1, q2⟩ := r1.walkT ex
  obtain ⟨l2, ws, rfl, q3, q4⟩ := r2.walkT ey
  refine ⟨l, l2, vs, ws, rfl, by rw [G.hK]; exact S1.g.sub.sqt q1, by rw [G.hK]; exact S1.g.sub.sqt q3, fun S H' Ts hz hS => ?_⟩
  obtain ⟨F2, g2, tp2, r3, _⟩ := hz.rep gr tp (PD.zip q2 q4)
  exact p.lst g2 tp2 r3 S hS
end
end Q
namespace Q
open PySem PySem.Spec PyProof.Rows L2 RZ
section
variable {X : Cx} {c : Pm} {g : Gl} {fs : List Str}
variable {F0 H0 F H F' H' Hs F1 H1 : Hp} {σ : L2.St} {ρ : Env} {t t' t1 t2 : Nat} {v : V} {x : R}
/-! ### targets -/
/-- slots outside is are as they were -/
def Off (is : List Nat) (σ σ' : L2.St) : Prop := σ'.length = σ.length ∧ ∀ i, i ∉ is → σ'[i]? = σ[i]?
theorem Off.refl (is : List Nat) (σ : L2.St) : Off is σ σ := ⟨rfl, fun _ _ => rfl⟩
theorem Off.trans {is js : List Nat} {σ σ1 σ2 : L2.St} (a : Off is σ σ1) (b : Off js σ1 σ2) : Off (is ++ js) σ σ2 := ⟨b.1.trans a.1, fun i h => by
  rw [b.2 i fun m => h (List.mem_append_right _ m), a.2 i fun m => h (List.mem_append_left _ m)]⟩
def mG (c : Pm) (tg : Tg) : TG := fun v σ H Q => ∃ F0 H0 F ρ t d ρ', SR c F0 H0 F H σ ρ t ∧ Rep c F v d ∧ bind1 tg d ρ = some ρ' ∧ ∀ σ', SR c F0 H0 F H σ' ρ' t → Off (slotsT tg) σ σ' → Q σ' H
def mGs (c : Pm) (tgs : List Tg) : TGs := fun vs σ H Q => ∃ F0 H0 F ρ t ds ρ', SR c F0 H0 F H σ ρ t ∧ RepL c F vs ds ∧ bindL tgs ds ρ = some ρ' ∧ ∀ σ', SR c F0 H0 F H σ' ρ' t → Off (slotsTs tgs) σ σ' → Q σ' H
theorem PG.weak {X : Cx} {tg : PySem.Expr} {te te' : TG} (h : PG X tg te) (w : ∀ v σ H Q, te' v σ H Q → te v σ H Q) : PG X tg te' := ⟨fun pins s σ H v u Q I r q => h.run pins s σ H v u Q I r (w v σ H Q q)⟩
theorem PGs.weak {X : Cx} {tg : List PySem.Expr} {te te' : TGs} (h : PGs X tg te) (w : ∀ v σ H Q, te' v σ H Q → te v σ H Q) : PGs X tg te' := ⟨fun pins s σ H v u Q I r q => h.run pins s σ H v u Q I r (w v σ H Q q)⟩
/-- a slot is stored to -/
theorem SR.set {i : Nat} {s : Sl} (S : SR c F0 H0 F H σ ρ t) (h : SlOk c H0 F H (some (some v)) s) (ow : ∀ d, s = .ow d → ∀ j d', j ≠ i → ρ[j]? = some (.ow d') → σ[j]? ≠ some (some v)) : SR c F0 H0 F H (σ.set i (some v)) (ρ.set i s) t := by
  refine ⟨S.g, S.tp, by rw [List.length_set, List.length_set]; exact S.len, fun j s' e => ?_, fun j k d d' n e1 e2 => ?_⟩
  · by_cases z : i = j
    · subst z
      have hl : i < ρ.length := by
        have := (List.getElem?_eq_some_iff.mp e).1
        rw [List.length_set] at this
        exact this
      rw [List.getElem?_set_self hl] at e
      cases e
      rw [List.getElem?_set_self (by rw [← S.len]; exact hl)]
      exact h
    · rw [List.getElem?_set_ne z] at e ⊢
      exact S.sl j s' e
  · by_cases z1 : i = j
    · subst z1
      have hl : i < ρ.length := by
        have := (List.getElem?_eq_some_iff.mp e1).1
        rw [List.length_set] at this
        exact this
      rw [List.getElem?_set_self hl] at e1
      cases e1
      rw [List.getElem?_set_ne n] at e2 ⊢
      rw [List.getElem?_set_self (by rw [← S.len]; exact hl)]
      exact fun q => ow d rfl k d' (Ne.symm n) e2 q.symm
    · by_cases z2 : i = k
      · subst z2
        have hl : i < ρ.length := by
          have := (List.getElem?_eq_some_iff.mp e2).1
          rw [List.length_set] at this
          exact this
        rw [List.getElem?_set_self hl] at e2
        cases e2
        rw [List.getElem?_set_ne z1] at e1 ⊢
        rw [List.getElem?_set_self (by rw [← S.len]; exact hl)]
        exact ow d' rfl j d n e1
      · rw [List.getElem?_set_ne z1] at e1 ⊢
        rw [List.getElem?_set_ne z2] at e2 ⊢
        exact S.ap j k d d' n e1 e2
theorem SR.setSh {i : Nat} {d : D} (S : SR c F0 H0 F H σ ρ t) (h : Rep c F v d) : SR c F0 H0 F H (σ.set i (some v)) (ρ.set i (.sh d)) t := S.set ⟨v, rfl, h⟩ fun d e => by cases e
theorem off_set {i : Nat} {o : Option V} : Off [i] σ (σ.set i o) := ⟨List.length_set, fun j h => List.getElem?_set_ne fun z => h (by rw [z]; exact List.mem_singleton_self _)⟩
theorem g_nm {i : Nat} {x : Str} {pos : Pos} (hN : X.N.Nodup) (h1 : X.N[i]? = some x) (h2 : (locl X.env.scope x || (celd X.env.scope x && X.fn x)) = true) : PG X (.Name x pos) (mG c (.nm i)) := by
  have hl : Loc X.env.scope x ∧ (X.fn x = true ∨ X.env.scope.names.lookup x = some .local) := by
    simp only [Bool.or_eq_true, Bool.and_eq_true, locl, celd, decide_eq_true_eq] at h2
    rcases h2 with z | z
    · exact ⟨.inl z, .inr z⟩
    · exact ⟨.inr z.1, .inl z.2⟩
  refine PG.weak (pg_name hN h1 hl.1 hl.2) fun v σ H Q q => ?_
  obtain ⟨F0, H0, F, ρ, t, d, ρ', S, r, e, p⟩ := q
  simp only [bind1, Option.some.injEq] at e
  subst e
  exact p _ (S.setSh r) off_set
theorem assign_cons {e : PySem.Expr} {es : List PySem.Expr} {env : PySem.Env} (h : noStar e = true) : assignEach (e :: es) env = (false, assign e env) :: assignEach es env := by
  cases e <;> first | rfl | cases h
mutual
theorem sound_g (hN : X.N.Nodup) : ∀ (tg : Tg) (e : PySem.Expr), X.calm = true → X.K = c.K → chkG X.N X.env.scope X.fn tg e = true → PG X e (mG c tg)
  | .nm i, e, _, _, h => by
    cases e <;> first | (simp [chkG] at h; done) | skip
    rename_i x pos
    simp only [chkG, Bool.and_eq_true, decide_eq_true_eq] at h
    exact g_nm hN h.1 h.2
  | .tp ts, e, hc, hK, h => by
    cases e <;> first | (simp [chkG] at h; done) | skip
    rename_i es k pos
    simp only [chkG] at h
    obtain ⟨hg, h1, h2⟩ := sound_gs hN ts es hc hK h
    refine PG.weak (pg_tup (n := ts.length) hc hg h1 h2) fun v σ H Q q => ?_
    obtain ⟨F0, H0, F, ρ, t, d, ρ', S, r, e, p⟩ := q
    cases d <;> first | (simp [bind1] at e; done) | skip
    rename_i ds
    simp only [bind1] at e
    obtain ⟨a, vs, rfl, q1, q2⟩ := r.tupE
    refine ⟨a, vs, rfl, by rw [hK]; exact S.g.sub.sqt q1, ?_, F0, H0, F, ρ, t, ds, ρ', S, q2, e, fun σ' S' o => p σ' S' (by simpa only [slotsT] using o)⟩
    rw [q2.length]
    exact bindL_len ts ds ρ ρ' e
theorem sound_gs (hN : X.N.Nodup) : ∀ (ts : List Tg) (es : List PySem.Expr), X.calm = true → X.K = c.K → chkGs X.N X.env.scope X.fn ts es = true → PGs X es (mGs c ts) ∧ (assignEach es X.env).length = ts.length ∧ (assignEach es X.env).findIdx? (·.1) = none
  | [], es, _, _, h => by
    cases es <;> first | (simp [chkGs] at h; done) | skip
    refine ⟨PGs.weak pgs_nil fun v σ H Q q => ?_, rfl, rfl⟩
    obtain ⟨F0, H0, F, ρ, t, d, ρ', S, r, e, p⟩ := q
    cases r with
    | nil =>
      simp only [bindL, Option.some.injEq] at e
      subst e
      exact ⟨rfl, p _ S (Off.refl _ _)⟩
    | cons _ _ => simp [bindL] at e
  | tg :: ts, es, hc, hK, h => by
    cases es <;> first | (simp [chkGs] at h; done) | skip
    rename_i e es
    simp only [chkGs, Bool.and_eq_true] at h
    have h1 := sound_g hN tg e hc hK h.1.1
    obtain ⟨h2, h3, h4⟩ := sound_gs hN ts es hc hK h.2
    refine ⟨PGs.weak (pgs_cons h1 h2 (by rw [assign_cons h.1.2]; rfl)) fun v σ H Q q => ?_, by rw [assign_cons h.1.2, List.length_cons, List.length_cons, h3], ?_⟩
    · obtain ⟨F0, H0, F, ρ, t, d, ρ', S, r, e, p⟩ := q
      cases r with
      | nil => simp [bindL] at e
      | cons r rr =>
        simp only [bindL] at e
        obtain ⟨ρ1, e1, e2⟩ := Option.bind_eq_some_iff.mp e
        refine ⟨_, _, rfl, F0, H0, F, ρ, t, _, ρ1, S, r, e1, fun σ1 S1 o1 => ⟨F0, H0, F, ρ1, t, _, ρ', S1, rr, e2, fun σ2 S2 o2 => p σ2 S2 ?_⟩⟩
        simp only [slotsTs]
        exact o1.trans o2
    · rw [assign_cons h.1.2, List.findIdx?_cons]
      simp only [Bool.false_eq_true, if_false, h4, Option.map_none]
theorem bindL_len : ∀ (ts : List Tg) (ds : List D) (ρ ρ' : Env), bindL ts ds ρ = some ρ' → ds.length = ts.length
  | [], [], _, _, _ => rfl
  | [], _ :: _, _, _, h => by simp [bindL] at h
  | _ :: _, [], _, _, h => by simp [bindL] at h
  | t :: ts, d :: ds, ρ, ρ', h => by
    simp only [bindL] at h
    obtain ⟨ρ1, e1, e2⟩ := Option.bind_eq_some_iff.mp h
    rw [List.length_cons, List.length_cons, bindL_len ts ds ρ1 ρ' e2]
end
/-! ### wiping -/
theorem SR.wipe (S : SR c F0 H0 F H σ ρ t) : ∀ vs : List Nat, SR c F0 H0 F H (L2.wipe σ vs) (wipeE ρ vs) t
  | [] => S
  | v :: vs => by
    have S := SR.wipe S vs
    unfold L2.wipe wipeE
    refine ⟨S.g, S.tp, by rw [List.length_set, List.length_set]; exact S.len, fun j s' e => ?_, fun j k d d' n e1 e2 => ?_⟩
    · by_cases z : v = j
      · subst z
        have hl : v < (wipeE ρ vs).length := by
          have := (List.getElem?_eq_some_iff.mp e).1
          rw [List.length_set] at this
          exact this
        rw [List.getElem?_set_self hl] at e
        cases e
        trivial
      · rw [List.getElem?_set_ne z] at e ⊢
        exact S.sl j s' e
    · have z1 : v ≠ j := fun z => by
        subst z
        have hl : v < (wipeE ρ vs).length := by
          have := (List.getElem?_eq_some_iff.mp e1).1
          rw [List.length_set] at this
          exact this
        rw [List.getElem?_set_self hl] at e1
        cases e1
      have z2 : v ≠ k := fun z => by
        subst z
        have hl : v < (wipeE ρ vs).length := by
          have := (List.getElem?_eq_some_iff.mp e2).1
          rw [List.length_set] at this
          exact this
        rw [List.getElem?_set_self hl] at e2
        cases e2
      rw [List.getElem?_set_ne z1] at e1 ⊢
      rw [List.getElem?_set_ne z2] at e2 ⊢
      exact S.ap j k d d' n e1 e2
theorem wipe_in {i : Nat} : ∀ {vs : List Nat} {σ : L2.St}, i ∈ vs → i < σ.length → (L2.wipe σ vs)[i]? = some none
  | v :: vs, σ, h, hl => by
    unfold L2.wipe
    by_cases z : v = i
    · subst z
      rw [List.getElem?_set_self (by rw [wipe_length]; exact hl)]
    · rw [List.getElem?_set_ne z]
      rcases List.mem_cons.mp h with q | q
      · exact absurd q.symm z
      · exact wipe_in q hl
theorem wipe_off {vs is : List Nat} {σ2 : L2.St} (o : Off is σ σ2) (s : ∀ i ∈ is, i ∈ vs) : L2.wipe σ2 vs = L2.wipe σ vs := by
  refine List.ext_getElem? fun i => ?_
  by_cases hi : i ∈ vs
  · by_cases hl : i < σ.length
    · rw [wipe_in hi hl, wipe_in hi (by rw [o.1]; exact hl)]
    · rw [List.getElem?_eq_none (by rw [wipe_length, o.1]; omega), List.getElem?_eq_none (by rw [wipe_length]; omega)]
  · rw [wipe_out hi, wipe_out hi]
    exact o.2 i fun m => hi (s i m)
theorem wipe_wipe (vs : List Nat) : L2.wipe (L2.wipe σ vs) vs = L2.wipe σ vs := by
  refine List.ext_getElem? fun i => ?_
  by_cases hi : i ∈ vs
  · by_cases hl : i < σ.length
    · rw [wipe_in hi (by rw [wipe_length]; exact hl), wipe_in hi hl]
    · rw [List.getElem?_eq_none (by rw [wipe_length, wipe_length]; omega), List.getElem?_eq_none (by rw [wipe_length]; omega)]
  · rw [wipe_out hi]
theorem subL_of {a b : List Nat} (h : subL a b = true) : ∀ i ∈ a, i ∈ b := fun i hi => by
  have := List.all_eq_true.mp h i hi
  simpa using this
/-! ### a list that grows -/
theorem Grow.mut {a : Addr} {o : HO} (g : Grow c F H F' H') (n : H a = none) (f : F' a = none) : Grow c F H F' (upd H' a o) := by
  have ne : c.aw ≠ some a := fun e => absurd n (g.aw a e)
  refine ⟨g.ex, fun b u q h => ?_, g.nw, fun b u q => ?_, g.aw, fun b e => ?_⟩
  · have : b ≠ a := fun z => by rw [z, n] at h; cases h
    rw [upd_ne this]
    exact g.hx b u q h
  · have : b ≠ a := fun z => by rw [z, f] at q; cases q
    rw [upd_ne this]
    exact g.sub b u q
  · have : b ≠ a := fun z => by rw [z] at e; exact ne e
    rw [upd_ne this]
    exact g.aw' b e
theorem Tape.mut {a : Addr} {o : HO} (tp : Tape c F H t) (n : c.aw ≠ some a) : Tape c F (upd H a o) t := by
  unfold Tape
  cases e : c.aw with
  | none => trivial
  | some b =>
    obtain ⟨h1, h2, h3⟩ := tp.som e
    refine ⟨?_, h2, h3⟩
    rw [upd_ne (fun z => n (by rw [e, z]))]
    exact h1
end
end Q
namespace Q
open PySem PySem.Spec PyProof.Rows L2 RZ
def addO (acc : List D) : Option D → List D
  | none => acc
  | some y => acc ++ [y]
theorem own_snd (N : List Str) (vs : List Nat) : (ownOf N vs).map (·.2) = vs := by
  unfold ownOf
  rw [List.map_map]
  exact List.map_id' _
theorem env_scope (scope : Scope) (cl : List (Str × Addr)) (C : Addr) (env : PySem.Env) : (compEnvC scope cl C env).scope = relS scope env.scope := rfl
theorem PTs.weak {X : Cx} {e : List PySem.Expr} {te te' : TT} (h : PTs X e te) (w : ∀ σ H Q, te' σ H Q → te σ H Q) : PTs X e te' := ⟨fun pins s σ H Q I q => h.run pins s σ H Q I (w σ H Q q)⟩
theorem compM_at {xs : List D} {f : D → M (Option D)} {i : Nat} {d : D} (h : xs[i]? = some d) {t t2 : Nat} {zs : List D} (e : compM (xs.drop i) f t = some (zs, t2)) :
    ∃ o t1 ys, f d t = some (o, t1) ∧ compM (xs.drop (i + 1)) f t1 = some (ys, t2) ∧ zs = (match o with | none => ys | some y => y :: ys) := by
  have hl := (List.getElem?_eq_some_iff.mp h)
  obtain ⟨hi, hd⟩ := hl
  rw [List.drop_eq_getElem_cons hi, hd] at e
  unfold compM at e
  obtain ⟨o, t1, e1, e⟩ := bnd_some e
  obtain ⟨ys, t3, e2, e⟩ := bnd_some e
  cases e
  exact ⟨o, t1, ys, e1, e2, rfl⟩
theorem catM_at {xs : List D} {f : D → M (List D)} {i : Nat} {d : D} (h : xs[i]? = some d) {t t2 : Nat} {zs : List D} (e : catM (xs.drop i) f t = some (zs, t2)) :
    ∃ o t1 ys, f d t = some (o, t1) ∧ catM (xs.drop (i + 1)) f t1 = some (ys, t2) ∧ zs = o ++ ys := by
  have hl := (List.getElem?_eq_some_iff.mp h)
  obtain ⟨hi, hd⟩ := hl
  rw [List.drop_eq_getElem_cons hi, hd] at e
  unfold catM at e
  obtain ⟨o, t1, e1, e⟩ := bnd_some e
  obtain ⟨ys, t3, e2, e⟩ := bnd_some e
  cases e
  exact ⟨o, t1, ys, e1, e2, rfl⟩
section
variable {X : Cx} {c : Pm} {g : Gl} {fs : List Str}
variable {F0 H0 F H F' H' Hs F1 H1 : Hp} {σ : L2.St} {ρ : Env} {t t' t1 t2 : Nat} {v : V} {x : R}
/-- the list at D holds acc, all of it stays -/
structure Acc (c : Pm) (F1 H1 F H : Hp) (t : Nat) (D : Addr) (acc : List Q.D) : Prop where
  g : Grow c F1 H1 F H
  tp : Tape c F H t
  n : H1 D = none
  f : F D = none
  at_ : ∃ vs, H D = some (.lst vs) ∧ RepL c F vs acc
theorem Acc.ne {D : Addr} {acc : List Q.D} (A : Acc c F1 H1 F H t D acc) : c.aw ≠ some D := fun e => absurd A.n (A.g.aw D e)
theorem Acc.grow {D : Addr} {acc : List Q.D} (A : Acc c F1 H1 F H t D acc) (g : Grow c F H F' H') (tp : Tape c F' H' t') : Acc c F1 H1 F' H' t' D acc := by
  obtain ⟨vs, h, r⟩ := A.at_
  exact ⟨A.g.trans g, tp, A.n, g.free A.f h, vs, g.hx _ _ A.ne h, r.mono g.ex⟩
theorem Acc.push {D : Addr} {acc : List Q.D} {v : V} {d : Q.D} (A : Acc c F1 H1 F H t D acc) (r : Rep c F v d) : ∃ vs, H D = some (.lst vs) ∧ vs.length = acc.length ∧ Acc c F1 H1 F (upd H D (.lst (vs ++ [v]))) t D (acc ++ [d]) := by
  obtain ⟨vs, h, q⟩ := A.at_
  exact ⟨vs, h, q.length, A.g.mut A.n A.f, A.tp.mut A.ne, A.n, A.f, vs ++ [v], upd_same, q.app (.one r)⟩
/-- the body of a clause, from a state in which the list stands -/
theorem bodyI {mt : Env → M Bool} {me : Env → M R} {D : Addr} {acc : List Q.D} {ρ2 : Env} {σ2 : L2.St} {o : Option Q.D} {Nx : Hp → Prop} {k : Nat}
    (S : SR c F0 H0 F H σ2 ρ2 t) (A : Acc c F1 H1 F H t D acc)
    (e : (bnd (mt ρ2) fun k => if k then bnd (me ρ2) fun r => bnd (opt (shared r)) fun y => ret (some y) else ret none) t = some (o, t2))
    (hk : acc.length < lim ∨ o = none)
    (nx : ∀ F' H', Acc c F1 H1 F' H' t2 D (addO acc o) → Ext F F' → Nx H') :
    mT c mt σ2 H fun b H3 => if b = true then mE c me σ2 H3 fun y H4 => ∃ acc, H4 D = some (.lst acc) ∧ acc.length < sizeLine ∧ Nx (upd H4 D (.lst (acc ++ [y]))) else Nx H3 := by
  obtain ⟨b, t3, e1, e⟩ := bnd_some e
  refine oneT S e1 fun F3 H3 gr tp S3 => ?_
  cases b with
  | true =>
    rw [if_pos rfl] at e ⊢
    obtain ⟨r, t4, e2, e⟩ := bnd_some e
    obtain ⟨y, e3, e⟩ := opt_bnd e
    cases e
    refine one S3 e2 fun v F4 H4 gr4 tp4 S4 rr => ?_
    obtain ⟨F5, g5, tp5, r5, x5, _, k5⟩ := rr.share e3 gr4 tp4
    obtain ⟨vs, h, hl, A'⟩ := ((A.grow gr tp).grow g5 tp5).push r5
    refine ⟨vs, h, ?_, nx _ _ A' ((gr.ex.trans gr4.ex).trans x5)⟩
    rw [hl, ← lim_eq]
    rcases hk with z | z
    · exact z
    · cases z
  | false =>
    rw [if_neg (by decide)] at e ⊢
    cases e
    exact nx _ _ (A.grow gr tp) gr.ex
mutual
theorem bind1_off : ∀ (tg : Tg) (d : PyData) (ρ ρ' : Env), bind1 tg d ρ = some ρ' → ρ'.length = ρ.length ∧ (∀ i, i ∉ slotsT tg → ρ'[i]? = ρ[i]?) ∧ ∀ i ∈ slotsT tg, ∀ s, ρ'[i]? = some s → ∃ d, s = .sh d
  | .nm i, d, ρ, ρ', h => by
    simp only [bind1, Option.some.injEq] at h
    subst h
    refine ⟨List.length_set, fun j hj => List.getElem?_set_ne fun z => hj (by rw [z]; simp [slotsT]), fun j hj s e => ?_⟩
    have : j = i := by simpa [slotsT] using hj
    subst this
    have hl : j < ρ.length := by
      have := (List.getElem?_eq_some_iff.mp e).1
      rw [List.length_set] at this
      exact this
    rw [List.getElem?_set_self hl] at e
    exact ⟨d, (Option.some.inj e).symm⟩
  | .tp ts, d, ρ, ρ', h => by
    cases d <;> first | (simp [bind1] at h; done) | skip
    rename_i ds
    simp only [bind1] at h
    have := bindL_off ts ds ρ ρ' h
    simpa only [slotsT] using this
theorem bindL_off : ∀ (ts : List Tg) (ds : List PyData) (ρ ρ' : Env), bindL ts ds ρ = some ρ' → ρ'.length = ρ.length ∧ (∀ i, i ∉ slotsTs ts → ρ'[i]? = ρ[i]?) ∧ ∀ i ∈ slotsTs ts, ∀ s, ρ'[i]? = some s → ∃ d, s = .sh d
  | [], [], ρ, ρ', h => by
    simp only [bindL, Option.some.injEq] at h
    subst h
    exact ⟨rfl, fun _ _ => rfl, fun i hi => by simp [slotsTs] at hi⟩
  | [], _ :: _, _, _, h => by simp [bindL] at h
  | _ :: _, [], _, _, h => by simp [bindL] at h
  | t :: ts, d :: ds, ρ, ρ', h => by
    simp only [bindL] at h
    obtain ⟨ρ1, e1, e2⟩ := Option.bind_eq_some_iff.mp h
    obtain ⟨a1, a2, a3⟩ := bind1_off t d ρ ρ1 e1
    obtain ⟨b1, b2, b3⟩ := bindL_off ts ds ρ1 ρ' e2
    refine ⟨b1.trans a1, fun i hi => ?_, fun i hi s e => ?_⟩
    · simp only [slotsTs, List.mem_append, not_or] at hi
      rw [b2 i hi.2, a2 i hi.1]
    · by_cases z : i ∈ slotsTs ts
      · exact b3 i z s e
      · rw [b2 i z] at e
        simp only [slotsTs, List.mem_append] at hi
        exact a3 i (hi.resolve_right z) s e
end
/-- the names bound once, further on -/
theorem SR.again {F3 H3 F6 H6 : Hp} {σ2 σw : L2.St} {ρ2 ρw : Env} {t3 t6 : Nat} {tg : Tg} {d : PyData} (S2 : SR c F0 H0 F3 H3 σ2 ρ2 t3) (Sw : SR c F0 H0 F6 H6 σw ρw t6) (x : Ext F3 F6) (b : bind1 tg d ρw = some ρ2) (o : Off (slotsT tg) σw σ2) : SR c F0 H0 F6 H6 σ2 ρ2 t6 := by
  obtain ⟨b1, b2, b3⟩ := bind1_off tg d ρw ρ2 b
  refine ⟨Sw.g, Sw.tp, S2.len, fun i s e => ?_, fun i j d d' n e1 e2 => ?_⟩
  · by_cases z : i ∈ slotsT tg
    · obtain ⟨d', rfl⟩ := b3 i z s e
      obtain ⟨v, e1, r⟩ := S2.sl i _ e
      exact ⟨v, e1, r.mono x⟩
    · rw [b2 i z] at e
      rw [o.2 i z]
      exact Sw.sl i s e
  · have z1 : i ∉ slotsT tg := fun z => by
      obtain ⟨_, q⟩ := b3 i z _ e1
      cases q
    have z2 : j ∉ slotsT tg := fun z => by
      obtain ⟨_, q⟩ := b3 j z _ e2
      cases q
    rw [b2 i z1] at e1
    rw [b2 j z2] at e2
    rw [o.2 i z1, o.2 j z2]
    exact Sw.ap i j d d' n e1 e2
theorem lc_w {vs : List Nat} {tg' : Tg} {mi : Env → M (Bool × List PyData)} {mt : Env → M Bool} {me : Env → M R} (hsub : subL (slotsT tg') vs = true) (σ : L2.St) (H : Hp) (Q : VK)
    (q : mE c (fun ρ => bnd (mi ρ) fun xs => bnd (compM xs.2 fun d => bnd (opt (bind1 tg' d (wipeE ρ vs))) fun ρ2 => bnd (mt ρ2) fun k => if k then bnd (me ρ2) fun r => bnd (opt (shared r)) fun y => ret (some y) else ret none) lstR) σ H Q) : tLc (mI c mi) (mG c tg') (mT c mt) (mE c me) vs σ H Q := by
  obtain ⟨F0, H0, F, ρ, t, r, t', S, e, p⟩ := q
  obtain ⟨xs, t1, e1, e⟩ := bnd_some e
  obtain ⟨ys, t2, e2, e⟩ := bnd_some e
  obtain ⟨hl, rfl, rfl⟩ := lstR_some e
  refine ⟨F0, H0, F, ρ, t, xs, t1, S, e1, fun J F1 H1 gr tp it => ?_⟩
  intro D nD
  have S1 := S.grow gr tp
  let f : PyData → M (Option PyData) := fun d => bnd (opt (bind1 tg' d (wipeE ρ vs))) fun ρ2 => bnd (mt ρ2) fun k => if k then bnd (me ρ2) fun r => bnd (opt (shared r)) fun y => ret (some y) else ret none
  refine ⟨fun i m H => m = xs.2.length - i ∧ i ≤ xs.2.length ∧ ∃ F t acc zs, Acc c F1 H1 F H t D acc ∧ compM (xs.2.drop i) f t = some (zs, t') ∧ acc ++ zs = ys, ⟨xs.2.length, rfl, Nat.zero_le _, F1, t1, [], ys, ?_, e2, rfl⟩, ?_⟩
  · exact ⟨S1.refl.laid nD, tp.laid nD, nD, gr.noF nD, [], upd_same, .nil⟩
  rintro i m H2 ⟨rfl, hi, F2, t2', acc, zs, A, e3, e4⟩
  have at_ := it.grow F2 H2 A.g i
  by_cases hlt : i < xs.2.length
  · have hd := List.getElem?_eq_getElem hlt
    obtain ⟨hgo, hy⟩ := at_.1 _ hd
    obtain ⟨o, t3, ys', q1, q2, q3⟩ := compM_at hd e3
    refine .inr ⟨hgo, fun H' => ∃ F, Acc c F1 H1 F H' t3 D (addO acc o), fun H' ⟨F3, A3⟩ => ⟨xs.2.length - (i + 1), by omega, rfl, hlt, F3, t3, _, ys', A3, q2, ?_⟩, fun v H3 hv => ?_⟩
    · rw [← e4, q3]
      cases o with
      | none => rfl
      | some y => simp [addO]
    · obtain ⟨F3, g3, tp3, r3⟩ := (hy v H3 hv).rep A.g.sub A.tp
      have A3 := A.grow g3 tp3
      obtain ⟨ρ2, q4, q5⟩ := opt_bnd q1
      have Sw := ((S1.grow A.g A.tp).grow g3 tp3).wipe vs
      refine ⟨F0, H0, F3, _, _, _, ρ2, Sw, r3, q4, fun σ2 S2 o2 => ⟨?_, bodyI (Nx := fun H' => ∃ F, Acc c F1 H1 F H' t3 D (addO acc o)) (k := 0) S2 A3 q5 ?_ fun F' H' A' _ => ⟨F', A'⟩⟩⟩
      · rw [wipe_off o2 (subL_of hsub), wipe_wipe]
      · cases o with
        | none => exact .inr rfl
        | some y =>
          left
          rw [← e4, q3] at hl
          simp only [List.length_append, List.length_cons] at hl
          omega
  · have e5 : i = xs.2.length := by omega
    subst e5
    rw [List.drop_length] at e3
    have e3 : some (([] : List PyData), t2') = some (zs, t') := e3
    cases e3
    rw [List.append_nil] at e4
    subst e4
    obtain ⟨ws, h, r⟩ := A.at_
    exact .inl ⟨at_.2 (Nat.le_refl _), p (.ref D) F2 H2 (gr.trans A.g) A.tp ⟨D, rfl, gr.back D nD, A.f, ws, h, r⟩⟩
theorem r_lc (G : Good X c g fs) {scope : Scope} {pos : Pos} {elt tg iter : PySem.Expr} {ifs : List PySem.Expr} {vs : List Nat} {tg' : Tg} {mi : Env → M (Bool × List PyData)} {mt : Env → M Bool} {me : Env → M R}
    (hi : PI X tg iter (mI c mi)) (hs : noSet iter = true) (ok : blkC X.N X.env.scope scope (ownOf X.N vs) = true) (hsub : subL (slotsT tg') vs = true)
    (hg : ∀ (s : Shared) (H : Hp) (C : Addr) (cl : List (Str × Addr)) (fp : List Addr), PG (X.blk s H scope (compEnvC scope cl C X.env) fp) tg (mG c tg'))
    (ht : ∀ (s : Shared) (H : Hp) (C : Addr) (cl : List (Str × Addr)) (fp : List Addr), PTs (X.blk s H scope (compEnvC scope cl C X.env) fp) ifs (mT c mt))
    (he : ∀ (s : Shared) (H : Hp) (C : Addr) (cl : List (Str × Addr)) (fp : List Addr), PE (X.blk s H scope (compEnvC scope cl C X.env) fp) elt (mE c me)) :
    PE X (.ListComp elt [⟨tg, iter, ifs, 0⟩] scope pos) (mE c fun ρ => bnd (mi ρ) fun xs => bnd (compM xs.2 fun d => bnd (opt (bind1 tg' d (wipeE ρ vs))) fun ρ2 => bnd (mt ρ2) fun k => if k then bnd (me ρ2) fun r => bnd (opt (shared r)) fun y => ret (some y) else ret none) lstR) := by
  refine PE.weak (pe_lc G.calm G.nd hi (blkOk_by ok) hg ht he fun x => set_plain _ x hs) fun σ H Q q => ?_
  rw [own_snd]
  exact lc_w hsub σ H Q q
theorem off_wipe {vs is : List Nat} {σ2 : L2.St} (o : Off is (L2.wipe σ vs) σ2) (s : ∀ i ∈ is, i ∈ vs) : L2.wipe σ2 vs = L2.wipe σ vs := by
  rw [wipe_off o s, wipe_wipe]
/-- one turn of the first clause -/
def turn2 (vs1 : List Nat) (tg1 : Tg) (mi1 : Env → M (Bool × List D)) (mt1 : Env → M Bool) (me : Env → M R) (ρ2 : Env) : M (List D) :=
  bnd (mi1 ρ2) fun ys => if ys.1 = false then fail else compM ys.2 fun d1 => bnd (opt (bind1 tg1 d1 (wipeE ρ2 vs1))) fun ρ3 => bnd (mt1 ρ3) fun k1 => if k1 then bnd (me ρ3) fun r => bnd (opt (shared r)) fun y => ret (some y) else ret none
theorem lc2_w {vs vs1 : List Nat} {tg' tg1' : Tg} {mi mi1 : Env → M (Bool × List D)} {mt mt1 : Env → M Bool} {me : Env → M R} (hsub : subL (slotsT tg') vs = true) (hsub1 : subL (slotsT tg1') vs1 = true) (σ : L2.St) (H : Hp) (Q : VK)
    (q : mE c (fun ρ => bnd (mi ρ) fun xs => bnd (catM xs.2 fun d => bnd (opt (bind1 tg' d (wipeE ρ vs))) fun ρ2 => bnd (mt ρ2) fun k => if k then turn2 vs1 tg1' mi1 mt1 me ρ2 else ret []) lstR) σ H Q) : tLc2 (mI c mi) (mG c tg') (mT c mt) (mI c mi1) (mG c tg1') (mT c mt1) (mE c me) vs vs1 σ H Q := by
  obtain ⟨F0, H0, F, ρ, t, r, t', S, e, p⟩ := q
  obtain ⟨xs, t1, e1, e⟩ := bnd_some e
  obtain ⟨ys, t2, e2, e⟩ := bnd_some e
  obtain ⟨hl, rfl, rfl⟩ := lstR_some e
  refine ⟨F0, H0, F, ρ, t, xs, t1, S, e1, fun J F1 H1 gr tp it => ?_⟩
  intro D nD
  have S1 := S.grow gr tp
  let f : PyData → M (List PyData) := fun d => bnd (opt (bind1 tg' d (wipeE ρ vs))) fun ρ2 => bnd (mt ρ2) fun k => if k then turn2 vs1 tg1' mi1 mt1 me ρ2 else ret []
  refine ⟨fun i m H => m = xs.2.length - i ∧ i ≤ xs.2.length ∧ ∃ F t acc zs, Acc c F1 H1 F H t D acc ∧ catM (xs.2.drop i) f t = some (zs, t') ∧ acc ++ zs = ys, ⟨xs.2.length, rfl, Nat.zero_le _, F1, t1, [], ys, ?_, e2, rfl⟩, ?_⟩
  · exact ⟨S1.refl.laid nD, tp.laid nD, nD, gr.noF nD, [], upd_same, .nil⟩
  rintro i m H2 ⟨rfl, hi, F2, t2', acc, zs, A, e3, e4⟩
  have at_ := it.grow F2 H2 A.g i
  by_cases hlt : i < xs.2.length
  · have hd := List.getElem?_eq_getElem hlt
    obtain ⟨hgo, hy⟩ := at_.1 _ hd
    obtain ⟨o, t3, ys', q1, q2, q3⟩ := catM_at hd e3
    refine .inr ⟨hgo, fun H' => ∃ F, Acc c F1 H1 F H' t3 D (acc ++ o), fun H' ⟨F3, A3⟩ => ⟨xs.2.length - (i + 1), by omega, rfl, hlt, F3, t3, _, ys', A3, q2, by rw [← e4, q3, List.append_assoc]⟩, fun v H3 hv => ?_⟩
    obtain ⟨F3, g3, tp3, r3⟩ := (hy v H3 hv).rep A.g.sub A.tp
    have A3 := A.grow g3 tp3
    obtain ⟨ρ2, q4, q5⟩ := opt_bnd q1
    have Sw := ((S1.grow A.g A.tp).grow g3 tp3).wipe vs
    refine ⟨F0, H0, F3, _, _, _, ρ2, Sw, r3, q4, fun σ2 S2 o2 => ⟨off_wipe o2 (subL_of hsub), ?_⟩⟩
    obtain ⟨b, t4, q6, q7⟩ := bnd_some q5
    refine oneT S2 q6 fun F4 H4 gr4 tp4 S4 => ?_
    have A4 := A3.grow gr4 tp4
    cases b with
    | false =>
      rw [if_neg (by decide)] at q7 ⊢
      cases q7
      exact ⟨F4, by rw [List.append_nil]; exact A4⟩
    | true =>
      rw [if_pos rfl] at q7 ⊢
      unfold turn2 at q7
      obtain ⟨us, t5, q8, q9⟩ := bnd_some q7
      cases hus : us.1 with
      | false => rw [hus, if_pos rfl] at q9; cases q9
      | true =>
        rw [hus, if_neg (by decide)] at q9
        refine ⟨F0, H0, F4, ρ2, t4, us, t5, S4, q8, fun J1 F5 H5 gr5 tp5 it1 => ?_⟩
        have A5 := A4.grow gr5 tp5
        have S5 := S4.grow gr5 tp5
        let f1 : PyData → M (Option PyData) := fun d1 => bnd (opt (bind1 tg1' d1 (wipeE ρ2 vs1))) fun ρ3 => bnd (mt1 ρ3) fun k1 => if k1 then bnd (me ρ3) fun r => bnd (opt (shared r)) fun y => ret (some y) else ret none
        refine ⟨fun j k H => k = us.2.length - j ∧ j ≤ us.2.length ∧ ∃ F t acc1 zs1, Acc c F1 H1 F H t D (acc ++ acc1) ∧ Ext F5 F ∧ compM (us.2.drop j) f1 t = some (zs1, t3) ∧ acc1 ++ zs1 = o, ⟨us.2.length, rfl, Nat.zero_le _, F5, t5, [], o, by rw [List.append_nil]; exact A5, Ext.refl _, q9, rfl⟩, ?_⟩
        rintro j k H6 ⟨rfl, hj, F6, t6, acc1, zs1, A6, x6, p3, p4⟩
        have at1 := it1.far hus F6 H6 x6 A6.g.sub j
        by_cases hjt : j < us.2.length
        · have hd1 := List.getElem?_eq_getElem hjt
          obtain ⟨hgo1, hy1⟩ := at1.1 _ hd1
          obtain ⟨o1, t7, ys1, w1, w2, w3⟩ := compM_at hd1 p3
          refine .inr ⟨hgo1, fun H' => ∃ F, Acc c F1 H1 F H' t7 D (addO (acc ++ acc1) o1) ∧ Ext F5 F, fun H' ⟨F7, A7, x7⟩ => ⟨us.2.length - (j + 1), by omega, rfl, hjt, F7, t7, addO acc1 o1, ys1, ?_, x7, w2, ?_⟩, fun v H7 hv => ?_⟩
          · cases o1 with
            | none => exact A7
            | some y => simp only [addO, List.append_assoc] at A7 ⊢; exact A7
          · rw [← p4, w3]
            cases o1 with
            | none => rfl
            | some y => simp [addO]
          · obtain ⟨F7, g7, tp7, r7⟩ := (hy1 v H7 hv).rep A6.g.sub A6.tp
            have A7 := A6.grow g7 tp7
            obtain ⟨ρ3, w4, w5⟩ := opt_bnd w1
            have S6 := S2.again (((S1.grow A6.g A6.tp).grow g7 tp7).wipe vs) (((gr4.ex.trans gr5.ex).trans x6).trans g7.ex) q4 o2
            have Sw1 := S6.wipe vs1
            refine ⟨F0, H0, F7, _, _, _, ρ3, Sw1, r7, w4, fun σ3 S3 o3 => ⟨off_wipe o3 (subL_of hsub1), ?_⟩⟩
            refine bodyI (k := 0) (Nx := fun H' => ∃ F, Acc c F1 H1 F H' t7 D (addO (acc ++ acc1) o1) ∧ Ext F5 F) S3 A7 w5 ?_ fun F' H' A' x' => ⟨F', A', (x6.trans g7.ex).trans x'⟩
            cases o1 with
            | none => exact .inr rfl
            | some y =>
              left
              rw [← e4, q3, ← p4, w3] at hl
              simp only [List.length_append, List.length_cons] at hl ⊢
              omega
        · have e5 : j = us.2.length := by omega
          subst e5
          rw [List.drop_length] at p3
          have p3 : some (([] : List PyData), t6) = some (zs1, t3) := p3
          cases p3
          rw [List.append_nil] at p4
          subst p4
          exact .inl ⟨at1.2 (Nat.le_refl _), F6, A6⟩
  · have e5 : i = xs.2.length := by omega
    subst e5
    rw [List.drop_length] at e3
    have e3 : some (([] : List PyData), t2') = some (zs, t') := e3
    cases e3
    rw [List.append_nil] at e4
    subst e4
    obtain ⟨ws, h, r⟩ := A.at_
    exact .inl ⟨at_.2 (Nat.le_refl _), p (.ref D) F2 H2 (gr.trans A.g) A.tp ⟨D, rfl, gr.back D nD, A.f, ws, h, r⟩⟩
theorem r_lc2 (G : Good X c g fs) {scope : Scope} {pos : Pos} {elt tg iter tg1 iter1 : PySem.Expr} {ifs ifs1 : List PySem.Expr} {vs vs1 : List Nat} {tg' tg1' : Tg} {mi mi1 : Env → M (Bool × List D)} {mt mt1 : Env → M Bool} {me : Env → M R}
    (hi : PI X tg iter (mI c mi)) (hs : noSet iter = true) (hs1 : noSet iter1 = true) (ok : blkC X.N X.env.scope scope (ownOf X.N vs) = true) (hsub : subL (slotsT tg') vs = true) (hsub1 : subL (slotsT tg1') vs1 = true) (hsub2 : subL vs1 vs = true)
    (hg : ∀ (s : Shared) (H : Hp) (C : Addr) (cl : List (Str × Addr)) (fp : List Addr), PG (X.blk s H scope (compEnvC scope cl C X.env) fp) tg (mG c tg'))
    (ht : ∀ (s : Shared) (H : Hp) (C : Addr) (cl : List (Str × Addr)) (fp : List Addr), PTs (X.blk s H scope (compEnvC scope cl C X.env) fp) ifs (mT c mt))
    (hi1 : ∀ (s : Shared) (H : Hp) (C : Addr) (cl : List (Str × Addr)) (fp : List Addr), PI (X.blk s H scope (compEnvC scope cl C X.env) fp) tg1 iter1 (mI c mi1))
    (hg1 : ∀ (s : Shared) (H : Hp) (C : Addr) (cl : List (Str × Addr)) (fp : List Addr), PG (X.blk s H scope (compEnvC scope cl C X.env) fp) tg1 (mG c tg1'))
    (ht1 : ∀ (s : Shared) (H : Hp) (C : Addr) (cl : List (Str × Addr)) (fp : List Addr), PTs (X.blk s H scope (compEnvC scope cl C X.env) fp) ifs1 (mT c mt1))
    (he : ∀ (s : Shared) (H : Hp) (C : Addr) (cl : List (Str × Addr)) (fp : List Addr), PE (X.blk s H scope (compEnvC scope cl C X.env) fp) elt (mE c me)) :
    PE X (.ListComp elt [⟨tg, iter, ifs, 0⟩, ⟨tg1, iter1, ifs1, 0⟩] scope pos) (mE c fun ρ => bnd (mi ρ) fun xs => bnd (catM xs.2 fun d => bnd (opt (bind1 tg' d (wipeE ρ vs))) fun ρ2 => bnd (mt ρ2) fun k => if k then turn2 vs1 tg1' mi1 mt1 me ρ2 else ret []) lstR) := by
  refine PE.weak (pe_lc2 (vs1 := vs1) G.calm G.nd hi (blkOk_by ok) (by rw [own_snd]; exact subL_of hsub2) hg ht hi1 hg1 ht1 he (fun x => set_plain _ x hs) fun env x => set_plain env x hs1) fun σ H Q q => ?_
  rw [own_snd]
  exact lc2_w hsub hsub1 σ H Q q
end
/-! ### dicts that are walked over: locked as long -/
/-- two heaps alike, but that dicts are locked in one of them -/
def Near (F G : Hp) : Prop := ∀ b o, F b = some o → G b = some o ∨ ∃ kvs od, (o = .dK kvs ∧ G b = some (.frz od (.dK kvs))) ∨ (o = .frz od (.dK kvs) ∧ G b = some (.dK kvs))
theorem Near.lst {F G : Hp} {b : Addr} {vs : List V} (n : Near F G) (h : F b = some (.lst vs)) : G b = some (.lst vs) := by
  rcases n b _ h with h | ⟨kvs, od, ⟨h, _⟩ | ⟨h, _⟩⟩
  · exact h
  · cases h
  · cases h
theorem Near.tup {F G : Hp} {b : Addr} {vs : List V} (n : Near F G) (h : F b = some (.tup vs)) : G b = some (.tup vs) := by
  rcases n b _ h with h | ⟨kvs, od, ⟨h, _⟩ | ⟨h, _⟩⟩
  · exact h
  · cases h
  · cases h
theorem Near.sqt {K : PySem.W.Frag} {F G : Hp} {a : Addr} {vs : List V} (n : Near F G) (h : SqT K F a vs) : SqT K G a vs := by
  rcases h with (h | ⟨o, h⟩) | h
  · exact .inl (.inl (n.tup h))
  · rcases n a _ h with h | ⟨kvs, od, ⟨h, _⟩ | ⟨h, _⟩⟩
    · exact .inl (.inr ⟨o, h⟩)
    · cases h
    · cases h
  · exact .inr h
theorem Near.rd {F G : Hp} {a : Addr} {kvs : List (Key × V)} (n : Near F G) (h : Rd F a (.dK kvs)) : Rd G a (.dK kvs) := by
  rcases h with h | ⟨o, h⟩
  · rcases n a _ h with h | ⟨kvs', od, ⟨h, h2⟩ | ⟨h, h2⟩⟩
    · exact .inl h
    · cases h; exact .inr ⟨od, h2⟩
    · cases h
  · rcases n a _ h with h | ⟨kvs', od, ⟨h, h2⟩ | ⟨h, h2⟩⟩
    · exact .inr ⟨o, h⟩
    · cases h
    · cases h; exact .inl h2
theorem Near.dt {F G : Hp} {a : Addr} {kvs : List (List Key × V)} (n : Near F G) (h : Rd F a (.dT kvs)) : Rd G a (.dT kvs) := by
  rcases h with h | ⟨o, h⟩
  · rcases n a _ h with h | ⟨kvs', od, ⟨h, h2⟩ | ⟨h, h2⟩⟩
    · exact .inl h
    · cases h
    · cases h
  · rcases n a _ h with h | ⟨kvs', od, ⟨h, h2⟩ | ⟨h, h2⟩⟩
    · exact .inr ⟨o, h⟩
    · cases h
    · cases h
mutual
theorem Rep.near {c : Pm} {F G : Hp} (n : Near F G) : ∀ {v : V} {d : D}, Rep c F v d → Rep c G v d
  | _, _, .non => .non
  | _, _, .bl b => .bl b
  | _, _, .int i => .int i
  | _, _, .str x => .str x
  | _, _, .lst h r => .lst (n.lst h) (RepL.near n r)
  | _, _, .tup h r => .tup (n.tup h) (RepL.near n r)
  | _, _, .dic h r => .dic (n.rd h) (RepK.near n r)
  | _, _, .tape h => .tape h
  | _, _, .dit h r => .dit (n.dt h) (RepT.near n r)
theorem RepL.near {c : Pm} {F G : Hp} (n : Near F G) : ∀ {v : List V} {d : List D}, RepL c F v d → RepL c G v d
  | _, _, .nil => .nil
  | _, _, .cons h r => .cons (Rep.near n h) (RepL.near n r)
theorem RepK.near {c : Pm} {F G : Hp} (n : Near F G) : ∀ {v : List (Key × V)} {d : List (D × D)}, RepK c F v d → RepK c G v d
  | _, _, .nil => .nil
  | _, _, .cons h r => .cons (Rep.near n h) (RepK.near n r)
theorem RepT.near {c : Pm} {F G : Hp} (n : Near F G) : ∀ {v : List (List Key × V)} {d : List (D × D)}, RepT c F v d → RepT c G v d
  | _, _, .nil => .nil
  | _, _, .cons h r => .cons (Rep.near n h) (RepT.near n r)
end
section
variable {c : Pm} {F0 H0 F H F2 H2 : Hp} {a : Addr} {kvs : List (Key × V)} {od : Obj} {σ : L2.St} {ρ : Env} {t t' : Nat}
/-- a is locked, if it is there -/
def lkH (a : Addr) (kvs : List (Key × V)) (od : Obj) (G : Hp) : Hp := fun b => if b = a ∧ G b ≠ none then some (.frz od (.dK kvs)) else G b
/-- a is open again -/
def ulH (a : Addr) (kvs : List (Key × V)) (G : Hp) : Hp := upd G a (.dK kvs)
theorem lk_ne {b : Addr} (h : b ≠ a) : lkH a kvs od F b = F b := if_neg fun q => h q.1
theorem lk_at (h : F a ≠ none) : lkH a kvs od F a = some (.frz od (.dK kvs)) := if_pos ⟨rfl, h⟩
theorem lk_no (h : F a = none) : lkH a kvs od F a = none := by rw [lkH, if_neg fun q => q.2 h, h]
theorem lk_none {b : Addr} : lkH a kvs od F b = none ↔ F b = none := by
  unfold lkH
  split
  · rename_i q
    exact ⟨fun h => (by cases h), fun h => absurd h q.2⟩
  · exact Iff.rfl
theorem lk_upd (h : H a ≠ none) : lkH a kvs od H = upd H a (.frz od (.dK kvs)) := by
  funext b
  by_cases e : b = a
  · subst e
    rw [lk_at h, upd_same]
  · rw [lk_ne e, upd_ne e]
theorem near_lk (h : F a = some (.dK kvs)) : Near F (lkH a kvs od F) := fun b o e => by
  by_cases z : b = a
  · subst z
    rw [h] at e
    cases e
    exact .inr ⟨kvs, od, .inl ⟨rfl, lk_at (by rw [h]; simp)⟩⟩
  · exact .inl (by rw [lk_ne z]; exact e)
theorem near_ul (h : F a = some (.frz od (.dK kvs))) : Near F (ulH a kvs F) := fun b o e => by
  by_cases z : b = a
  · subst z
    rw [h] at e
    cases e
    exact .inr ⟨kvs, od, .inr ⟨rfl, upd_same⟩⟩
  · exact .inl (by rw [ulH, upd_ne z]; exact e)
theorem Grow.lk (g : Grow c F0 H0 F H) (h : F a = some (.dK kvs)) (ne : c.aw ≠ some a) : Grow c (lkH a kvs od F0) (lkH a kvs od H0) (lkH a kvs od F) (lkH a kvs od H) := by
  have hH : H a = some (.dK kvs) := g.sub _ _ h
  refine ⟨fun b o e => ?_, fun b o n e => ?_, fun b e e' => ?_, fun b o e => ?_, fun b e => ?_, fun b e => ?_⟩
  · by_cases z : b = a
    · subst z
      have : F0 b ≠ none := fun q => by rw [lk_no q] at e; cases e
      rw [lk_at this] at e
      rw [lk_at (by rw [h]; simp)]
      exact e
    · rw [lk_ne z] at e ⊢
      exact g.ex _ _ e
  · by_cases z : b = a
    · subst z
      have : H0 b ≠ none := fun q => by rw [lk_no q] at e; cases e
      rw [lk_at this] at e
      rw [lk_at (by rw [hH]; simp)]
      exact e
    · rw [lk_ne z] at e ⊢
      exact g.hx _ _ n e
  · rw [lk_none] at e ⊢
    exact g.nw b e fun q => e' (lk_none.mpr q)
  · by_cases z : b = a
    · subst z
      rw [lk_at (by rw [h]; simp)] at e
      rw [lk_at (by rw [hH]; simp)]
      exact e
    · rw [lk_ne z] at e ⊢
      exact g.sub _ _ e
  · exact fun q => g.aw b e (lk_none.mp q)
  · exact fun q => g.aw' b e (lk_none.mp q)
theorem Tape.lk (tp : Tape c F H t) (h : F a = some (.dK kvs)) (ne : c.aw ≠ some a) : Tape c (lkH a kvs od F) (lkH a kvs od H) t := by
  unfold Tape
  cases e : c.aw with
  | none => trivial
  | some b =>
    obtain ⟨h1, h2, h3⟩ := tp.som e
    have z : b ≠ a := fun z => ne (by rw [← z, e])
    have z2 : c.ad ≠ a := fun z => by rw [z, h] at h3; cases h3
    exact ⟨by rw [lk_ne z]; exact h1, by rw [lk_ne z]; exact h2, by rw [lk_ne z2]; exact h3⟩
theorem Top.lk {b : Addr} {d : D} (h : Top c F H b d) (n : Near F F2) (e : H2 b = H b) : Top c F2 H2 b d := by
  unfold Top at h ⊢
  split
  · obtain ⟨vs, h, r⟩ := h
    exact ⟨vs, by rw [e]; exact h, r.near n⟩
  · obtain ⟨z, ⟨vs, h, r⟩ | ⟨vs, xs, w, h, r⟩⟩ := h
    · exact ⟨z, .inl ⟨vs, by rw [e]; exact h, r.near n⟩⟩
    · exact ⟨z, .inr ⟨vs, xs, w, by rw [e]; exact h, r.near n⟩⟩
  · rename_i h1 h2
    cases d <;> first | exact h | (exact absurd rfl (h1 _)) | (exact absurd rfl (h2 _))
theorem SR.lk (S : SR c F0 H0 F H σ ρ t) (h : F a = some (.dK kvs)) (ne : c.aw ≠ some a) : SR c (lkH a kvs od F0) (lkH a kvs od H0) (lkH a kvs od F) (lkH a kvs od H) σ ρ t := by
  have hH : H a = some (.dK kvs) := S.g.sub _ _ h
  refine ⟨S.g.lk h ne, S.tp.lk h ne, S.len, fun i s e => ?_, S.ap⟩
  have k := S.sl i s e
  cases s with
  | un => trivial
  | sh d =>
    obtain ⟨v, e, r⟩ := k
    exact ⟨v, e, r.near (near_lk h)⟩
  | ow d =>
    obtain ⟨b, e, n, f, r⟩ := k
    have z : b ≠ a := fun z => by rw [z, h] at f; cases f
    exact ⟨b, e, lk_none.mpr n, lk_none.mpr f, r.lk (near_lk h) (lk_ne z)⟩
  | ro d =>
    obtain ⟨b, vs, ds, e, e2, q, r⟩ := k
    refine ⟨b, vs, ds, e, e2, ?_, r.near (near_lk h)⟩
    rcases q with ⟨ob, q⟩ | q
    · have z : b ≠ a := fun z => by rw [z, hH] at q; cases q
      exact .inl ⟨ob, by rw [lk_ne z]; exact q⟩
    · exact .inr q
theorem Grow.ul (g : Grow c (lkH a kvs od F) (lkH a kvs od H) F2 H2) (hF : F a = some (.dK kvs) ∨ F a = none) (hH : H a = some (.dK kvs) ∨ H a = none) (f2 : F2 a = some (.frz od (.dK kvs))) (s : F a = none → H a = none) : Grow c F H (ulH a kvs F2) (ulH a kvs H2) := by
  refine ⟨fun b o e => ?_, fun b o n e => ?_, fun b e e' => ?_, fun b o e => ?_, fun b e => ?_, fun b e => ?_⟩
  · by_cases z : b = a
    · subst z
      rw [ulH, upd_same]
      rcases hF with q | q
      · rw [q] at e; exact e
      · rw [q] at e; cases e
    · rw [ulH, upd_ne z]
      exact g.ex _ _ (by rw [lk_ne z]; exact e)
  · by_cases z : b = a
    · subst z
      rw [ulH, upd_same]
      rcases hH with q | q
      · rw [q] at e; exact e
      · rw [q] at e; cases e
    · rw [ulH, upd_ne z]
      exact g.hx _ _ n (by rw [lk_ne z]; exact e)
  · by_cases z : b = a
    · subst z
      exact s e
    · rw [ulH, upd_ne z] at e'
      exact lk_none.mp (g.nw b (lk_none.mpr e) e')
  · by_cases z : b = a
    · subst z
      rw [ulH, upd_same] at e ⊢
      exact e
    · rw [ulH, upd_ne z] at e ⊢
      exact g.sub _ _ e
  · exact fun q => g.aw b e (lk_none.mpr q)
  · intro q
    by_cases z : b = a
    · subst z
      rw [ulH, upd_same] at q
      cases q
    · rw [ulH, upd_ne z] at q
      exact g.aw' b e q
theorem Tape.ul (tp : Tape c F2 H2 t) (f2 : F2 a = some (.frz od (.dK kvs))) (ne : c.aw ≠ some a) : Tape c (ulH a kvs F2) (ulH a kvs H2) t := by
  unfold Tape
  cases e : c.aw with
  | none => trivial
  | some b =>
    obtain ⟨h1, h2, h3⟩ := tp.som e
    have z : b ≠ a := fun z => ne (by rw [← z, e])
    have z2 : c.ad ≠ a := fun z => by rw [z, f2] at h3; cases h3
    exact ⟨by rw [ulH, upd_ne z]; exact h1, by rw [ulH, upd_ne z]; exact h2, by rw [ulH, upd_ne z2]; exact h3⟩
theorem RR.ul {v : V} {r : R} (h : RR c (lkH a kvs od H) F2 H2 v r) (f2 : F2 a = some (.frz od (.dK kvs))) (s2 : Ext F2 H2) : RR c H (ulH a kvs F2) (ulH a kvs H2) v r := by
  have hH2 := s2 _ _ f2
  unfold RR at h ⊢
  split
  · rename_i e
    rw [e] at h
    exact h.near (near_ul f2)
  · rename_i e
    rw [e] at h
    obtain ⟨b, e1, e2, e3, h⟩ := h
    have z : b ≠ a := fun z => by rw [z, f2] at e3; cases e3
    exact ⟨b, e1, lk_none.mp e2, by rw [ulH, upd_ne z]; exact e3, h.lk (near_ul f2) (by rw [ulH, upd_ne z])⟩
  · rename_i e
    rw [e] at h
    obtain ⟨b, e1, e3, h⟩ := h
    have z : b ≠ a := fun z => by rw [z, f2] at e3; cases e3
    exact ⟨b, e1, by rw [ulH, upd_ne z]; exact e3, h.lk (near_ul f2) (by rw [ulH, upd_ne z])⟩
  · rename_i e
    rw [e] at h
    obtain ⟨b, e1, h⟩ := h
    refine ⟨b, e1, ?_⟩
    unfold TopR at h ⊢
    cases hd : r.d with
    | list ds =>
      rw [hd] at h
      obtain ⟨vs, h, r⟩ := h
      refine ⟨vs, ?_, r.near (near_ul f2)⟩
      rcases h with (h | ⟨o, h⟩) | h
      · have z : b ≠ a := fun z => by rw [z, hH2] at h; cases h
        exact .inl (.inl (by rw [ulH, upd_ne z]; exact h))
      · by_cases z : b = a
        · rw [z, hH2] at h
          cases h
        · exact .inl (.inr ⟨o, by rw [ulH, upd_ne z]; exact h⟩)
      · exact .inr h
    | _ => rw [hd] at h; exact h.elim
/-- what is asked of a name whose dict is locked -/
def LkAt (i : Nat) (σ : L2.St) (H : Hp) : Prop := ∃ b kvs od, σ[i]? = some (some (.ref b)) ∧ H b = some (.frz od (.dK kvs))
def mIL (c : Pm) (i : Nat) : TI := fun σ H R => LkAt i σ H ∧ mI c (fun ρ => opt (keysI ρ i)) σ H R
theorem keysI_some {i : Nat} {o : Bool × List D} (h : keysI ρ i = some o) : ∃ kds es, ρ[i]? = some (.sh (.dict kds)) ∧ entries kds = some es ∧ o = (true, kds.map (·.1)) := by
  unfold keysI at h
  split at h
  · rename_i kds e
    obtain ⟨es, h1, h2⟩ := Option.map_eq_some_iff.mp h
    exact ⟨kds, es, e, h1, h2.symm⟩
  · cases h
theorem RepK.keyAt : ∀ {ks : List (Key × V)} {kds : List (D × D)} {j : Nat} {d : D}, RepK c F ks kds → (kds.map (·.1))[j]? = some d → ∃ k v, ks[j]? = some (k, v) ∧ d = kD k
  | _, _, _, _, .nil, e => by simp at e
  | _, _, 0, _, .cons (k := k) (v := v) h r, e => by
    simp at e
    exact ⟨k, v, rfl, e.symm⟩
  | _, _, j + 1, d, .cons h r, e => by
    obtain ⟨k, v, h1, h2⟩ := RepK.keyAt (j := j) (d := d) r (by simpa using e)
    exact ⟨k, v, by simpa using h1, h2⟩
theorem RepK.length : ∀ {ks : List (Key × V)} {kds : List (D × D)}, RepK c F ks kds → ks.length = kds.length
  | _, _, .nil => rfl
  | _, _, .cons _ r => by rw [List.length_cons, List.length_cons, RepK.length r]
theorem kD_rep (k : Key) : Rep c F (kV k) (kD k) := by
  cases k with
  | inl i => exact .int i
  | inr x => exact .str x
theorem itk_at {d : Addr} {o : Obj} {ks : List (Key × V)} {kds : List (D × D)} (h : H d = some (.frz o (.dK ks))) (r : RepK c F ks kds) : ItAt c (Itk d o ks) F2 H (kds.map (·.1)) := fun j => by
  refine ⟨fun x hx => ?_, fun hl => ⟨h, ?_⟩⟩
  · obtain ⟨k, v, h1, rfl⟩ := r.keyAt hx
    refine ⟨⟨h, (List.getElem?_eq_some_iff.mp h1).1⟩, fun w H' ⟨e, k', v', h2, e2⟩ => ?_⟩
    rw [h1] at h2
    cases h2
    exact .inl ⟨e, by rw [e2]; exact kD_rep k⟩
  · rw [r.length]
    rw [List.length_map] at hl
    exact hl
end
section
variable {X : Cx} {c : Pm} {g : Gl} {fs : List Str}
theorem pi_lk {i : Nat} {tg e : PySem.Expr} (h : chkN X.N X.env.scope i e = true) : PI X tg e (mIL c i) := by
  cases e <;> first | cases h | skip
  rename_i x pos
  simp only [chkN, Bool.and_eq_true, decide_eq_true_eq, Bool.not_eq_true'] at h
  obtain ⟨⟨⟨h1, h2⟩, h3⟩, h4⟩ := h
  have hv : Vis X.env.scope x := by
    unfold vis at h2
    unfold Vis
    split at h2
    · rename_i q; exact .inl q
    · rename_i q; exact .inr (.inl q)
    · rename_i q; exact .inr (.inr q)
    · cases h2
  refine PI.weak (pi_keys (pe_var h1 hv h3 h4)) fun σ H R q => ?_
  obtain ⟨⟨b, kvs, od, hs, hb⟩, F0, H0, F, ρ, t, r, t', S, e, p⟩ := q
  obtain ⟨e', rfl⟩ := opt_some e
  obtain ⟨kds, es, e1, e2, rfl⟩ := keysI_some e'
  obtain ⟨v, hv2, rv⟩ := S.sl i _ e1
  rw [hs] at hv2
  cases hv2
  have ne : c.aw ≠ some b := fun z => by
    rw [(S.tp.som z).1] at hb
    cases hb
  cases rv with
  | tape z => rw [ent_tape] at e2; cases e2
  | dit _ _ => rw [ent_mark] at e2; cases e2
  | dic hd rk =>
    rename_i kvs2
    have hF : F b = some (.frz od (.dK kvs)) ∧ kvs2 = kvs := by
      rcases hd with hd | ⟨o, hd⟩
      · have := S.g.sub _ _ hd
        rw [hb] at this
        cases this
      · have := S.g.sub _ _ hd
        rw [hb] at this
        cases this
        exact ⟨hd, rfl⟩
    obtain ⟨hF, rfl⟩ := hF
    refine ⟨.ref b, hs, b, od, rfl, .inl ⟨_, hb, p _ F H S.refl S.tp ⟨fun F' H' gr => itk_at (gr.hx _ _ ne hb) rk, fun _ F' H' x s => itk_at (s _ _ (x _ _ hF)) rk⟩⟩⟩
theorem PE.or {e : PySem.Expr} {t1 t2 : TE} (h1 : PE X e t1) (h2 : PE X e t2) : PE X e (fun σ H Q => t1 σ H Q ∨ t2 σ H Q) := ⟨fun pins s σ H Q I q => q.elim (h1.run pins s σ H Q I) (h2.run pins s σ H Q I)⟩
theorem PS.or {e : Stmt} {t1 t2 : TS} (h1 : PS X e t1) (h2 : PS X e t2) : PS X e (fun Dn σ H => t1 Dn σ H ∨ t2 Dn σ H) := ⟨fun pins s σ H Dn I q => q.elim (h1.run pins s σ H Dn I) (h2.run pins s σ H Dn I)⟩
/-- the dict of a name, locked or open -/
theorem dict_at {i : Nat} {o : Bool × List D} {F0 H0 F H : Hp} {σ : L2.St} {ρ : Env} {t : Nat} (S : SR c F0 H0 F H σ ρ t) (h : keysI ρ i = some o) : ∃ b kvs, σ[i]? = some (some (.ref b)) ∧ c.aw ≠ some b ∧ (F b = some (.dK kvs) ∨ ∃ od, F b = some (.frz od (.dK kvs))) := by
  obtain ⟨kds, es, e1, e2, rfl⟩ := keysI_some h
  obtain ⟨v, hv2, rv⟩ := S.sl i _ e1
  cases rv with
  | tape z => rw [ent_tape] at e2; cases e2
  | dit _ _ => rw [ent_mark] at e2; cases e2
  | dic hd rk =>
    refine ⟨_, _, hv2, fun z => ?_, hd⟩
    have := (S.tp.som z).2.1
    rcases hd with hd | ⟨o, hd⟩
    · rw [hd] at this; cases this
    · rw [hd] at this; cases this
theorem r_lcd (G : Good X c g fs) {scope : Scope} {pos : Pos} {elt tg iter : PySem.Expr} {ifs : List PySem.Expr} {vs : List Nat} {tg' : Tg} {i : Nat} {mt : Env → M Bool} {me : Env → M R}
    (hi : chkN X.N X.env.scope i iter = true) (hs : noSet iter = true) (ok : blkC X.N X.env.scope scope (ownOf X.N vs) = true) (hsub : subL (slotsT tg') vs = true)
    (hg : ∀ (s : Shared) (H : Hp) (C : Addr) (cl : List (Str × Addr)) (fp : List Addr), PG (X.blk s H scope (compEnvC scope cl C X.env) fp) tg (mG c tg'))
    (ht : ∀ (s : Shared) (H : Hp) (C : Addr) (cl : List (Str × Addr)) (fp : List Addr), PTs (X.blk s H scope (compEnvC scope cl C X.env) fp) ifs (mT c mt))
    (he : ∀ (s : Shared) (H : Hp) (C : Addr) (cl : List (Str × Addr)) (fp : List Addr), PE (X.blk s H scope (compEnvC scope cl C X.env) fp) elt (mE c me)) :
    PE X (.ListComp elt [⟨tg, iter, ifs, 0⟩] scope pos) (mE c fun ρ => bnd (opt (keysI ρ i)) fun xs => bnd (compM xs.2 fun d => bnd (opt (bind1 tg' d (wipeE ρ vs))) fun ρ2 => bnd (mt ρ2) fun k => if k then bnd (me ρ2) fun r => bnd (opt (shared r)) fun y => ret (some y) else ret none) lstR) := by
  have h0 := pe_lc (pos := pos) G.calm G.nd (pi_lk (c := c) (tg := tg) hi) (blkOk_by ok) hg ht he fun x => set_plain _ x hs
  refine PE.weak (PE.or (pe_lock h0) h0) fun σ H Q q => ?_
  have q0 := q
  obtain ⟨F0, H0, F, ρ, t, r, t', S, e, p⟩ := q
  obtain ⟨xs, t1, e1, e2⟩ := bnd_some e
  obtain ⟨e1', rfl⟩ := opt_some e1
  obtain ⟨b, kvs, hb, ne, hF | ⟨od, hF⟩⟩ := dict_at S e1'
  · have hH := S.g.sub _ _ hF
    refine .inl ⟨b, .dK kvs, hH, trivial, fun od => ?_⟩
    rw [own_snd]
    rw [← lk_upd (by rw [hH]; simp)]
    have hl : LkAt i σ (lkH b kvs od H) := ⟨b, kvs, od, hb, lk_at (by rw [hH]; simp)⟩
    have key := lc_w (c := c) (mi := fun ρ => opt (keysI ρ i)) (mt := mt) (me := me) hsub σ (lkH b kvs od H) (fun v H' => H' b = some (.frz od (.dK kvs)) ∧ Q v (upd H' b (.dK kvs))) ⟨_, _, _, ρ, _, r, t', S.lk hF ne, e, fun v F2 H2 gr tp rr => by
      have f2 : F2 b = some (.frz od (.dK kvs)) := gr.ex _ _ (lk_at (by rw [hF]; simp))
      exact ⟨gr.sub _ _ f2, p v _ _ (gr.ul (.inl hF) (.inl hH) f2 fun z => by rw [hF] at z; cases z) (tp.ul f2 ne) (rr.ul f2 gr.sub)⟩⟩
    exact ⟨hl, key⟩
  · refine .inr ?_
    rw [own_snd]
    exact ⟨⟨b, kvs, od, hb, S.g.sub _ _ hF⟩, lc_w hsub σ H Q q0⟩
end
end Q
namespace Q
open PySem PySem.Spec PyProof.Rows L2 RZ
theorem chkL_star {fs N : List Str} {sc : Scope} : ∀ {es : EL} {xs : List PySem.Expr}, chkL fs N sc es xs = true → xs.all noStar = true
  | .nil, xs, h => by
    cases xs with
    | nil => rfl
    | cons _ _ => simp [chkL] at h
  | .cons e es, xs, h => by
    cases xs with
    | nil => simp [chkL] at h
    | cons x xs =>
      simp only [chkL, Bool.and_eq_true] at h
      rw [List.all_cons, h.1.2, chkL_star h.2]
      rfl
section
variable {fs N : List Str} {sc : Scope} {py : PySem.Expr}
theorem inv_cst {d : D} (h : chkE fs N sc (.cst d) py = true) : ∃ k j p, py = .Constant k j p ∧ cstM d k = true := by
  unfold chkE at h
  split at h <;> rename_i q <;> first | (cases h; done) | (cases q; done) | skip
  injection q with q1
  subst q1
  have h1 := h
  exact ⟨_, _, _, rfl, h1⟩

theorem inv_neg {a : E} (h : chkE fs N sc (.neg a) py = true) : ∃ x p, py = .UnaryOp .USub x p ∧ chkE fs N sc a x = true := by
  unfold chkE at h
  split at h <;> rename_i q <;> first | (cases h; done) | (cases q; done) | skip
  injection q with q1
  subst q1
  have h1 := h
  exact ⟨_, _, rfl, h1⟩

theorem inv_bin {op : Op} {a b : E} (h : chkE fs N sc (.bin op a b) py = true) : ∃ x q y p, py = .BinOp x q y p ∧ opM op q = true ∧ chkE fs N sc a x = true ∧ chkE fs N sc b y = true := by
  unfold chkE at h
  split at h <;> rename_i q <;> first | (cases h; done) | (cases q; done) | skip
  injection q with q1 q2 q3
  subst q1 q2 q3
  simp only [Bool.and_eq_true, decide_eq_true_eq] at h
  obtain ⟨⟨h1, h2⟩, h3⟩ := h
  exact ⟨_, _, _, _, rfl, h1, h2, h3⟩

theorem inv_cmp {op : Cp} {a b : E} (h : chkE fs N sc (.cmp op a b) py = true) : ∃ x q y p, py = .Compare x [q] [y] p ∧ cpM op q = true ∧ chkE fs N sc a x = true ∧ chkE fs N sc b y = true ∧ noSet y = true := by
  unfold chkE at h
  split at h <;> rename_i q <;> first | (cases h; done) | (cases q; done) | skip
  injection q with q1 q2 q3
  subst q1 q2 q3
  simp only [Bool.and_eq_true, decide_eq_true_eq] at h
  obtain ⟨⟨⟨h1, h2⟩, h3⟩, h4⟩ := h
  exact ⟨_, _, _, _, rfl, h1, h2, h3, h4⟩

theorem inv_chn {op op2 : Cp} {a b d : E} (h : chkE fs N sc (.chn op op2 a b d) py = true) : ∃ x q q2 y z p, py = .Compare x [q, q2] [y, z] p ∧ cpM op q = true ∧ cpM op2 q2 = true ∧ chkE fs N sc a x = true ∧ chkE fs N sc b y = true ∧ chkE fs N sc d z = true ∧ noSet y = true ∧ noSet z = true := by
  unfold chkE at h
  split at h <;> rename_i q <;> first | (cases h; done) | (cases q; done) | skip
  injection q with q1 q2 q3 q4 q5
  subst q1 q2 q3 q4 q5
  simp only [Bool.and_eq_true, decide_eq_true_eq] at h
  obtain ⟨⟨⟨⟨⟨⟨h1, h2⟩, h3⟩, h4⟩, h5⟩, h6⟩, h7⟩ := h
  exact ⟨_, _, _, _, _, _, rfl, h1, h2, h3, h4, h5, h6, h7⟩

theorem inv_land {es : EL} (h : chkE fs N sc (.land es) py = true) : ∃ xs p, py = .BoolOp .And xs p ∧ chkB fs N sc es xs = true := by
  unfold chkE at h
  split at h <;> rename_i q <;> first | (cases h; done) | (cases q; done) | skip
  injection q with q1
  subst q1
  have h1 := h
  exact ⟨_, _, rfl, h1⟩

theorem inv_lor {es : EL} (h : chkE fs N sc (.lor es) py = true) : ∃ xs p, py = .BoolOp .Or xs p ∧ chkB fs N sc es xs = true := by
  unfold chkE at h
  split at h <;> rename_i q <;> first | (cases h; done) | (cases q; done) | skip
  injection q with q1
  subst q1
  have h1 := h
  exact ⟨_, _, rfl, h1⟩

theorem inv_lnot {a : E} (h : chkE fs N sc (.lnot a) py = true) : ∃ x p, py = .UnaryOp .Not x p ∧ chkE fs N sc a x = true := by
  unfold chkE at h
  split at h <;> rename_i q <;> first | (cases h; done) | (cases q; done) | skip
  injection q with q1
  subst q1
  have h1 := h
  exact ⟨_, _, rfl, h1⟩

theorem inv_ite {t : T} {a b : E} (h : chkE fs N sc (.ite t a b) py = true) : ∃ x y z p, py = .IfExp x y z p ∧ chkT fs N sc t x = true ∧ chkE fs N sc a y = true ∧ chkE fs N sc b z = true := by
  unfold chkE at h
  split at h <;> rename_i q <;> first | (cases h; done) | (cases q; done) | skip
  injection q with q1 q2 q3
  subst q1 q2 q3
  simp only [Bool.and_eq_true, decide_eq_true_eq] at h
  obtain ⟨⟨h1, h2⟩, h3⟩ := h
  exact ⟨_, _, _, _, rfl, h1, h2, h3⟩

theorem inv_tup {es : EL} (h : chkE fs N sc (.tup es) py = true) : ∃ xs k p, py = .Tuple xs k p ∧ chkL fs N sc es xs = true := by
  unfold chkE at h
  split at h <;> rename_i q <;> first | (cases h; done) | (cases q; done) | skip
  injection q with q1
  subst q1
  have h1 := h
  exact ⟨_, _, _, rfl, h1⟩

theorem inv_lst {es : EL} (h : chkE fs N sc (.lst es) py = true) : ∃ xs p, py = .List xs p ∧ chkL fs N sc es xs = true := by
  unfold chkE at h
  split at h <;> rename_i q <;> first | (cases h; done) | (cases q; done) | skip
  injection q with q1
  subst q1
  have h1 := h
  exact ⟨_, _, rfl, h1⟩

theorem inv_call {f : Nat} {es : EL} (h : chkE fs N sc (.call f es) py = true) : ∃ x p2 y ys p, py = .Call (.Name x p2) (y :: ys) [] p ∧ fs[f]? = some x ∧ gl sc x = true ∧ chkL fs N sc es (y :: ys) = true := by
  unfold chkE at h
  split at h <;> rename_i q <;> first | (cases h; done) | (cases q; done) | skip
  injection q with q1 q2
  subst q1 q2
  simp only [Bool.and_eq_true, decide_eq_true_eq] at h
  obtain ⟨⟨h1, h2⟩, h3⟩ := h
  exact ⟨_, _, _, _, _, rfl, h1, h2, h3⟩

theorem inv_nxt {w : Nat} {e : E} (h : chkE fs N sc (.nxt w e) py = true) : ∃ x p2 y z p, py = .Call (.Name x p2) [y, z] [] p ∧ x = ("_law_next" : Str) ∧ gl sc x = true ∧ chkN N sc w y = true ∧ chkE fs N sc e z = true ∧ noStar z = true := by
  unfold chkE at h
  split at h <;> rename_i q <;> first | (cases h; done) | (cases q; done) | skip
  injection q with q1 q2
  subst q1 q2
  simp only [Bool.and_eq_true, decide_eq_true_eq] at h
  obtain ⟨⟨⟨⟨h1, h2⟩, h3⟩, h4⟩, h5⟩ := h
  exact ⟨_, _, _, _, _, rfl, h1, h2, h3, h4, h5⟩

theorem inv_blt {f : B} {es : EL} (h : chkE fs N sc (.blt f es) py = true) : ∃ x p2 y ys p, py = .Call (.Name x p2) (y :: ys) [] p ∧ x = bnm f ∧ gl sc x = true ∧ chkL fs N sc es (y :: ys) = true := by
  unfold chkE at h
  split at h <;> rename_i q <;> first | (cases h; done) | (cases q; done) | skip
  injection q with q1 q2
  subst q1 q2
  simp only [Bool.and_eq_true, decide_eq_true_eq] at h
  obtain ⟨⟨h1, h2⟩, h3⟩ := h
  exact ⟨_, _, _, _, _, rfl, h1, h2, h3⟩

theorem inv_isa {t : Ty} {e : E} (h : chkE fs N sc (.isa t e) py = true) : ∃ x p2 y z p3 p, py = .Call (.Name x p2) [y, .Name z p3] [] p ∧ x = ("isinstance" : Str) ∧ gl sc x = true ∧ chkE fs N sc e y = true ∧ noStar y = true ∧ z = tynm t ∧ gl sc z = true := by
  unfold chkE at h
  split at h <;> rename_i q <;> first | (cases h; done) | (cases q; done) | skip
  injection q with q1 q2
  subst q1 q2
  simp only [Bool.and_eq_true, decide_eq_true_eq] at h
  obtain ⟨⟨⟨⟨⟨h1, h2⟩, h3⟩, h4⟩, h5⟩, h6⟩ := h
  exact ⟨_, _, _, _, _, _, rfl, h1, h2, h3, h4, h5, h6⟩

theorem inv_mth {m : Me} {a b : E} (h : chkE fs N sc (.mth m a b) py = true) : ∃ x nm ap y p, py = .Call (.Attribute x nm ap) [y] [] p ∧ nm = meNm m ∧ baseOk x = true ∧ chkE fs N sc a x = true ∧ chkE fs N sc b y = true ∧ noStar y = true ∧ (ap.endLine == p.line) = true := by
  unfold chkE at h
  split at h <;> rename_i q <;> first | (cases h; done) | (cases q; done) | skip
  injection q with q1 q2 q3
  subst q1 q2 q3
  simp only [Bool.and_eq_true, decide_eq_true_eq] at h
  obtain ⟨⟨⟨⟨⟨h1, h2⟩, h3⟩, h4⟩, h5⟩, h6⟩ := h
  exact ⟨_, _, _, _, _, rfl, h1, h2, h3, h4, h5, h6⟩

theorem inv_ix {a b : E} (h : chkE fs N sc (.ix a b) py = true) : ∃ x y p, py = .Subscript x y p ∧ chkE fs N sc a x = true ∧ chkE fs N sc b y = true ∧ noSlice y = true := by
  unfold chkE at h
  split at h <;> rename_i q <;> first | (cases h; done) | (cases q; done) | skip
  injection q with q1 q2
  subst q1 q2
  simp only [Bool.and_eq_true, decide_eq_true_eq] at h
  obtain ⟨⟨h1, h2⟩, h3⟩ := h
  exact ⟨_, _, _, rfl, h1, h2, h3⟩

theorem inv_sl {a : E} {lo hi : EO} (h : chkE fs N sc (.sl a lo hi) py = true) : ∃ x l h2 p2 p, py = .Subscript x (.Slice l h2 .none p2) p ∧ chkE fs N sc a x = true ∧ chkO fs N sc lo l = true ∧ chkO fs N sc hi h2 = true := by
  unfold chkE at h
  split at h <;> rename_i q <;> first | (cases h; done) | (cases q; done) | skip
  injection q with q1 q2 q3
  subst q1 q2 q3
  simp only [Bool.and_eq_true, decide_eq_true_eq] at h
  obtain ⟨⟨h1, h2⟩, h3⟩ := h
  exact ⟨_, _, _, _, _, rfl, h1, h2, h3⟩

theorem inv_lc {vs : List Nat} {elt : E} {tg : Tg} {it : It} {cond : TO} (h : chkE fs N sc (.lc vs elt tg it cond) py = true) : ∃ x gg i ifs sc2 p, py = .ListComp x [⟨gg, i, ifs, 0⟩] sc2 p ∧ blkC N sc sc2 (ownOf N vs) = true ∧ chkI fs N sc it gg i = true ∧ noSet i = true ∧ chkG N (relS sc2 sc) (fnOf sc2) tg gg = true ∧ subL (slotsT tg) vs = true ∧ chkTO fs N (relS sc2 sc) cond ifs = true ∧ chkE fs N (relS sc2 sc) elt x = true := by
  unfold chkE at h
  split at h <;> rename_i q <;> first | (cases h; done) | (cases q; done) | skip
  injection q with q1 q2 q3 q4 q5
  subst q1 q2 q3 q4 q5
  simp only [Bool.and_eq_true, decide_eq_true_eq] at h
  obtain ⟨⟨⟨⟨⟨⟨h1, h2⟩, h3⟩, h4⟩, h5⟩, h6⟩, h7⟩ := h
  exact ⟨_, _, _, _, _, _, rfl, h1, h2, h3, h4, h5, h6, h7⟩

theorem inv_lcd {vs : List Nat} {elt : E} {tg : Tg} {j : Nat} {cond : TO} (h : chkE fs N sc (.lcd vs elt tg j cond) py = true) : ∃ x gg i ifs sc2 p, py = .ListComp x [⟨gg, i, ifs, 0⟩] sc2 p ∧ blkC N sc sc2 (ownOf N vs) = true ∧ chkN N sc j i = true ∧ noSet i = true ∧ chkG N (relS sc2 sc) (fnOf sc2) tg gg = true ∧ subL (slotsT tg) vs = true ∧ chkTO fs N (relS sc2 sc) cond ifs = true ∧ chkE fs N (relS sc2 sc) elt x = true := by
  unfold chkE at h
  split at h <;> rename_i q <;> first | (cases h; done) | (cases q; done) | skip
  injection q with q1 q2 q3 q4 q5
  subst q1 q2 q3 q4 q5
  simp only [Bool.and_eq_true, decide_eq_true_eq] at h
  obtain ⟨⟨⟨⟨⟨⟨h1, h2⟩, h3⟩, h4⟩, h5⟩, h6⟩, h7⟩ := h
  exact ⟨_, _, _, _, _, _, rfl, h1, h2, h3, h4, h5, h6, h7⟩
theorem inv_lc2 {vs vs1 : List Nat} {elt : E} {tg : Tg} {it : It} {cond : TO} {tg1 : Tg} {it1 : It} {cond1 : TO} (h : chkE fs N sc (.lc2 vs vs1 elt tg it cond tg1 it1 cond1) py = true) : ∃ x gg i ifs g1 i1 ifs1 sc2 p, py = .ListComp x [⟨gg, i, ifs, 0⟩, ⟨g1, i1, ifs1, 0⟩] sc2 p ∧ blkC N sc sc2 (ownOf N vs) = true ∧ chkI fs N sc it gg i = true ∧ noSet i = true ∧ chkG N (relS sc2 sc) (fnOf sc2) tg gg = true ∧ subL (slotsT tg) vs = true ∧ chkTO fs N (relS sc2 sc) cond ifs = true ∧ chkI fs N (relS sc2 sc) it1 g1 i1 = true ∧ noSet i1 = true ∧ chkG N (relS sc2 sc) (fnOf sc2) tg1 g1 = true ∧ subL (slotsT tg1) vs1 = true ∧ subL vs1 vs = true ∧ chkTO fs N (relS sc2 sc) cond1 ifs1 = true ∧ chkE fs N (relS sc2 sc) elt x = true := by
  unfold chkE at h
  split at h <;> rename_i q <;> first | (cases h; done) | (cases q; done) | skip
  injection q with q1 q2 q3 q4 q5 q6 q7 q8 q9
  subst q1 q2 q3 q4 q5 q6 q7 q8 q9
  simp only [Bool.and_eq_true, decide_eq_true_eq] at h
  obtain ⟨⟨⟨⟨⟨⟨⟨⟨⟨⟨⟨⟨h1, h2⟩, h3⟩, h4⟩, h5⟩, h6⟩, h7⟩, h8⟩, h9⟩, h10⟩, h11⟩, h12⟩, h13⟩ := h
  exact ⟨_, _, _, _, _, _, _, _, _, rfl, h1, h2, h3, h4, h5, h6, h7, h8, h9, h10, h11, h12, h13⟩

theorem inv_lrg {tp : Bool} {a : E} (h : chkE fs N sc (.lrg tp a) py = true) : ∃ p p2 z p3 p4, py = .Call (.Name (if tp then "tuple" else "list") p) [.Call (.Name "range" p2) [z] [] p3] [] p4 ∧ gl sc (if tp then "tuple" else "list") = true ∧ gl sc "range" = true ∧ chkE fs N sc a z = true ∧ noStar z = true := by
  unfold chkE at h
  split at h <;> rename_i q <;> first | (cases h; done) | (cases q; done) | skip
  injection q with q1 q2
  subst q1 q2
  simp only [Bool.and_eq_true, decide_eq_true_eq] at h
  obtain ⟨⟨⟨⟨⟨rfl, h2⟩, rfl⟩, h4⟩, h5⟩, h6⟩ := h
  exact ⟨_, _, _, _, _, rfl, h2, h4, h5, h6⟩

theorem inv_lrg2 {tp : Bool} {a b : E} (h : chkE fs N sc (.lrg2 tp a b) py = true) : ∃ p p2 z w p3 p4, py = .Call (.Name (if tp then "tuple" else "list") p) [.Call (.Name "range" p2) [z, w] [] p3] [] p4 ∧ gl sc (if tp then "tuple" else "list") = true ∧ gl sc "range" = true ∧ chkE fs N sc a z = true ∧ noStar z = true ∧ chkE fs N sc b w = true ∧ noStar w = true := by
  unfold chkE at h
  split at h <;> rename_i q <;> first | (cases h; done) | (cases q; done) | skip
  injection q with q1 q2 q3
  subst q1 q2 q3
  simp only [Bool.and_eq_true, decide_eq_true_eq] at h
  obtain ⟨⟨⟨⟨⟨⟨⟨rfl, h2⟩, rfl⟩, h4⟩, h5⟩, h6⟩, h7⟩, h8⟩ := h
  exact ⟨_, _, _, _, _, _, rfl, h2, h4, h5, h6, h7, h8⟩

theorem inv_sset {ln : Bool} {a : E} (h : chkE fs N sc (.sset ln a) py = true) : ∃ p p2 z p3 p4, py = .Call (.Name (if ln then "len" else "sorted") p) [.Call (.Name "set" p2) [z] [] p3] [] p4 ∧ gl sc (if ln then "len" else "sorted") = true ∧ gl sc "set" = true ∧ chkE fs N sc a z = true ∧ noStar z = true := by
  unfold chkE at h
  split at h <;> rename_i q <;> first | (cases h; done) | (cases q; done) | skip
  injection q with q1 q2
  subst q1 q2
  simp only [Bool.and_eq_true, decide_eq_true_eq] at h
  obtain ⟨⟨⟨⟨⟨rfl, h2⟩, rfl⟩, h4⟩, h5⟩, h6⟩ := h
  exact ⟨_, _, _, _, _, rfl, h2, h4, h5, h6⟩
theorem inv_lzip {a b : E} (h : chkE fs N sc (.lzip a b) py = true) : ∃ p p2 z u p3 p4, py = .Call (.Name "list" p) [.Call (.Name "zip" p2) [z, u] [] p3] [] p4 ∧ gl sc "list" = true ∧ gl sc "zip" = true ∧ chkE fs N sc a z = true ∧ noStar z = true ∧ chkE fs N sc b u = true ∧ noStar u = true := by
  unfold chkE at h
  split at h <;> rename_i q <;> first | (cases h; done) | (cases q; done) | skip
  injection q with q1 q2
  subst q1 q2
  simp only [Bool.and_eq_true, decide_eq_true_eq] at h
  obtain ⟨⟨⟨⟨⟨⟨⟨rfl, h2⟩, rfl⟩, h4⟩, h5⟩, h6⟩, h7⟩, h8⟩ := h
  exact ⟨_, _, _, _, _, _, rfl, h2, h4, h5, h6, h7, h8⟩
theorem inv_inr {a b d : E} (h : chkE fs N sc (.inr a b d) py = true) : ∃ x p z u p2 p3, py = .Compare x [.In] [.Call (.Name "range" p) [z, u] [] p2] p3 ∧ gl sc "range" = true ∧ chkE fs N sc a x = true ∧ chkE fs N sc b z = true ∧ noStar z = true ∧ chkE fs N sc d u = true ∧ noStar u = true := by
  unfold chkE at h
  split at h <;> rename_i q <;> first | (cases h; done) | (cases q; done) | skip
  injection q with q1 q2 q3
  subst q1 q2 q3
  simp only [Bool.and_eq_true, decide_eq_true_eq] at h
  obtain ⟨⟨⟨⟨⟨⟨rfl, h2⟩, h3⟩, h4⟩, h5⟩, h6⟩, h7⟩ := h
  exact ⟨_, _, _, _, _, _, rfl, h2, h3, h4, h5, h6, h7⟩
theorem inv_tinr {a b d : E} (h : chkT fs N sc (.inr a b d) py = true) : ∃ x p z u p2 p3, py = .Compare x [.In] [.Call (.Name "range" p) [z, u] [] p2] p3 ∧ gl sc "range" = true ∧ chkE fs N sc a x = true ∧ chkE fs N sc b z = true ∧ noStar z = true ∧ chkE fs N sc d u = true ∧ noStar u = true := by
  unfold chkT at h
  split at h <;> rename_i q <;> first | (cases h; done) | (cases q; done) | skip
  injection q with q1 q2 q3
  subst q1 q2 q3
  simp only [Bool.and_eq_true, decide_eq_true_eq] at h
  obtain ⟨⟨⟨⟨⟨⟨rfl, h2⟩, h3⟩, h4⟩, h5⟩, h6⟩, h7⟩ := h
  exact ⟨_, _, _, _, _, _, rfl, h2, h3, h4, h5, h6, h7⟩
theorem inv_rev {a : E} (h : chkE fs N sc (.rev a) py = true) : ∃ x k p1 p2 p3 p4, py = .Subscript x (.Slice none none (some (.UnaryOp .USub (.Constant (.int 1) k p1) p2)) p3) p4 ∧ chkE fs N sc a x = true := by
  unfold chkE at h
  split at h <;> rename_i q <;> first | (cases h; done) | (cases q; done) | skip
  injection q with q1
  subst q1
  exact ⟨_, _, _, _, _, _, rfl, h⟩
theorem inv_unew (h : chkE fs N sc .unew py = true) : ∃ p, py = .Dict [] [] p := by
  unfold chkE at h
  split at h <;> rename_i q <;> first | (cases h; done) | (cases q; done) | skip
  exact ⟨_, rfl⟩

theorem inv_dnew (h : chkE fs N sc .dnew py = true) : ∃ p, py = .Dict [] [] p := by
  unfold chkE at h
  split at h <;> rename_i q <;> first | (cases h; done) | (cases q; done) | skip
  exact ⟨_, rfl⟩

theorem inv_dsp {kvs : EL} (h : chkE fs N sc (.dsp kvs) py = true) : ∃ ks vs p, py = .Dict ks vs p ∧ chkP fs N sc kvs ks vs = true ∧ ks.length ≤ 15 ∧ ks ≠ [] := by
  unfold chkE at h
  split at h <;> rename_i q <;> first | (cases h; done) | (cases q; done) | skip
  injection q with q1
  subst q1
  simp only [Bool.and_eq_true, decide_eq_true_eq] at h
  exact ⟨_, _, _, rfl, h.1.1, h.1.2, h.2⟩

theorem inv_dget {a b : E} (h : chkE fs N sc (.dget a b) py = true) : ∃ x ap y p, py = .Call (.Attribute x "get" ap) [y] [] p ∧ baseOk x = true ∧ chkE fs N sc a x = true ∧ chkE fs N sc b y = true ∧ noStar y = true ∧ (ap.endLine == p.line) = true := by
  unfold chkE at h
  split at h <;> rename_i q <;> first | (cases h; done) | (cases q; done) | skip
  injection q with q1 q2
  subst q1 q2
  simp only [Bool.and_eq_true, decide_eq_true_eq] at h
  obtain ⟨⟨⟨⟨⟨rfl, h2⟩, h3⟩, h4⟩, h5⟩, h6⟩ := h
  exact ⟨_, _, _, _, rfl, h2, h3, h4, h5, h6⟩

theorem inv_dget2 {a b d : E} (h : chkE fs N sc (.dget2 a b d) py = true) : ∃ x ap y w p, py = .Call (.Attribute x "get" ap) [y, w] [] p ∧ baseOk x = true ∧ chkE fs N sc a x = true ∧ chkE fs N sc b y = true ∧ noStar y = true ∧ chkE fs N sc d w = true ∧ noStar w = true ∧ (ap.endLine == p.line) = true := by
  unfold chkE at h
  split at h <;> rename_i q <;> first | (cases h; done) | (cases q; done) | skip
  injection q with q1 q2 q3
  subst q1 q2 q3
  simp only [Bool.and_eq_true, decide_eq_true_eq] at h
  obtain ⟨⟨⟨⟨⟨⟨⟨rfl, h2⟩, h3⟩, h4⟩, h5⟩, h6⟩, h7⟩, h8⟩ := h
  exact ⟨_, _, _, _, _, rfl, h2, h3, h4, h5, h6, h7, h8⟩

theorem inv_tcmp {op : Cp} {a b : E} (h : chkT fs N sc (.cmp op a b) py = true) : ∃ x q y p, py = .Compare x [q] [y] p ∧ cpM op q = true ∧ chkE fs N sc a x = true ∧ chkE fs N sc b y = true ∧ noSet y = true := by
  unfold chkT at h
  split at h <;> rename_i q <;> first | (cases h; done) | (cases q; done) | skip
  injection q with q1 q2 q3
  subst q1 q2 q3
  simp only [Bool.and_eq_true, decide_eq_true_eq] at h
  obtain ⟨⟨⟨h1, h2⟩, h3⟩, h4⟩ := h
  exact ⟨_, _, _, _, rfl, h1, h2, h3, h4⟩

theorem inv_tchn {op op2 : Cp} {a b d : E} (h : chkT fs N sc (.chn op op2 a b d) py = true) : ∃ x q q2 y z p, py = .Compare x [q, q2] [y, z] p ∧ cpM op q = true ∧ cpM op2 q2 = true ∧ chkE fs N sc a x = true ∧ chkE fs N sc b y = true ∧ chkE fs N sc d z = true ∧ noSet y = true ∧ noSet z = true := by
  unfold chkT at h
  split at h <;> rename_i q <;> first | (cases h; done) | (cases q; done) | skip
  injection q with q1 q2 q3 q4 q5
  subst q1 q2 q3 q4 q5
  simp only [Bool.and_eq_true, decide_eq_true_eq] at h
  obtain ⟨⟨⟨⟨⟨⟨h1, h2⟩, h3⟩, h4⟩, h5⟩, h6⟩, h7⟩ := h
  exact ⟨_, _, _, _, _, _, rfl, h1, h2, h3, h4, h5, h6, h7⟩

theorem inv_tand {ts : TL} (h : chkT fs N sc (.and ts) py = true) : ∃ xs p, py = .BoolOp .And xs p ∧ chkTL fs N sc ts xs = true := by
  unfold chkT at h
  split at h <;> rename_i q <;> first | (cases h; done) | (cases q; done) | skip
  injection q with q1
  subst q1
  have h1 := h
  exact ⟨_, _, rfl, h1⟩

theorem inv_tor {ts : TL} (h : chkT fs N sc (.or ts) py = true) : ∃ xs p, py = .BoolOp .Or xs p ∧ chkTL fs N sc ts xs = true := by
  unfold chkT at h
  split at h <;> rename_i q <;> first | (cases h; done) | (cases q; done) | skip
  injection q with q1
  subst q1
  have h1 := h
  exact ⟨_, _, rfl, h1⟩

theorem inv_tnot {t : T} (h : chkT fs N sc (.not t) py = true) : ∃ x p, py = .UnaryOp .Not x p ∧ chkT fs N sc t x = true := by
  unfold chkT at h
  split at h <;> rename_i q <;> first | (cases h; done) | (cases q; done) | skip
  injection q with q1
  subst q1
  have h1 := h
  exact ⟨_, _, rfl, h1⟩
theorem inv_val {e : E} (h : chkT fs N sc (.val e) py = true) : plainT py = true ∧ chkE fs N sc e py = true := by
  simpa only [chkT, Bool.and_eq_true] using h
end
section
variable {c : Pm} {g : Gl} {fs : List Str}
mutual
theorem sound_e : ∀ (e : E) (X : Cx) (py : PySem.Expr), Good X c g fs → chkE fs X.N X.env.scope e py = true → PE X py (mE c fun ρ => ev g e ρ)
  | .var i, X, py, G, h => r_var (by simpa only [chkE] using h)
  | .cst d, X, py, G, h => by
    obtain ⟨k, j, p, rfl, h1⟩ := inv_cst h
    exact r_cst h1
  | .neg a, X, py, G, h => by
    obtain ⟨x, p, rfl, h1⟩ := inv_neg h
    exact r_neg (sound_e a X x G h1)
  | .bin op a b, X, py, G, h => by
    obtain ⟨x, q, y, p, rfl, h1, h2, h3⟩ := inv_bin h
    exact r_bin G h1 (sound_e a X x G h2) (sound_e b X y G h3)
  | .cmp op a b, X, py, G, h => by
    obtain ⟨x, q, y, p, rfl, h1, h2, h3, h4⟩ := inv_cmp h
    exact r_cmp G h1 (sound_e a X x G h2) (sound_e b X y G h3) h4
  | .chn op op2 a b d, X, py, G, h => by
    obtain ⟨x, q, q2, y, z, p, rfl, h1, h2, h3, h4, h5, h6, h7⟩ := inv_chn h
    exact r_chn G h1 h2 (sound_e a X x G h3) (sound_e b X y G h4) (sound_e d X z G h5) h7
  | .land es, X, py, G, h => by
    obtain ⟨xs, p, rfl, h1⟩ := inv_land h
    exact sound_and es X xs p G h1
  | .lor es, X, py, G, h => by
    obtain ⟨xs, p, rfl, h1⟩ := inv_lor h
    exact sound_or es X xs p G h1
  | .lnot a, X, py, G, h => by
    obtain ⟨x, p, rfl, h1⟩ := inv_lnot h
    exact r_not (sound_e a X x G h1)
  | .ite t a b, X, py, G, h => by
    obtain ⟨x, y, z, p, rfl, h1, h2, h3⟩ := inv_ite h
    exact r_ite (sound_t t X x G h1) (sound_e a X y G h2) (sound_e b X z G h3)
  | .tup es, X, py, G, h => by
    obtain ⟨xs, k, p, rfl, h1⟩ := inv_tup h
    exact r_tup (sound_l es X xs G h1)
  | .lst es, X, py, G, h => by
    obtain ⟨xs, p, rfl, h1⟩ := inv_lst h
    exact r_lst (sound_l es X xs G h1)
  | .call f es, X, py, G, h => by
    obtain ⟨x, p2, y, ys, p, rfl, h1, h2, h3⟩ := inv_call h
    have hs := chkL_star h3
    rw [List.all_cons, Bool.and_eq_true] at hs
    have hdb : (x == ("__debug__" : Str)) = false := by
      cases q : (x == ("__debug__" : Str)) with
      | false => rfl
      | true =>
        exfalso
        obtain ⟨k, _, hd, _⟩ := G.fn
        obtain ⟨a, fd, ps, e1, _⟩ := (hd f x h1).ex
        have := beq_iff_eq.mp q
        subst this
        rw [G.db] at e1
        cases e1
    exact r_call G h1 h2 (sound_l es X (y :: ys) G h3) hs.1 hs.2 hdb
  | .nxt w e, X, py, G, h => by
    obtain ⟨x, p2, y, z, p, rfl, rfl, h1, h2, h3, h4⟩ := inv_nxt h
    exact r_nxt G h1 h2 (sound_e e X z G h3) h4
  | .blt f es, X, py, G, h => by
    obtain ⟨x, p2, y, ys, p, rfl, rfl, h2, h3⟩ := inv_blt h
    have hs := chkL_star h3
    rw [List.all_cons, Bool.and_eq_true] at hs
    exact r_blt G h2 (sound_l es X (y :: ys) G h3) hs.1 hs.2
  | .mth m a b, X, py, G, h => by
    obtain ⟨x, nm, ap, y, p, rfl, rfl, h2, h3, h4, h5, h6⟩ := inv_mth h
    exact r_mth G (sound_e a X x G h3) (sound_e b X y G h4) h2 h5 h6
  | .isa t e, X, py, G, h => by
    obtain ⟨x, p2, y, z, p3, p, rfl, rfl, h2, h3, h4, rfl, h6⟩ := inv_isa h
    exact r_isa G h2 h6 (sound_e e X y G h3) h4
  | .lrg tp a, X, py, G, h => by
    obtain ⟨p, p2, z, p3, p4, rfl, h2, h4, h5, h6⟩ := inv_lrg h
    exact r_lrg G h2 h4 (sound_e a X z G h5) h6
  | .lrg2 tp a b, X, py, G, h => by
    obtain ⟨p, p2, z, w, p3, p4, rfl, h2, h4, h5, h6, h7, h8⟩ := inv_lrg2 h
    exact r_lrg2 G h2 h4 (sound_e a X z G h5) h6 (sound_e b X w G h7) h8
  | .shr a, X, py, G, h => by
    simp only [chkE, Bool.and_eq_true] at h
    exact r_shr (sound_e a X py G h.2)
  | .lzip a b, X, py, G, h => by
    obtain ⟨p, p2, z, u, p3, p4, rfl, h2, h4, h5, h6, h7, h8⟩ := inv_lzip h
    exact r_lzip G h2 h4 (sound_e a X z G h5) h6 (sound_e b X u G h7) h8
  | .sset ln a, X, py, G, h => by
    obtain ⟨p, p2, z, p3, p4, rfl, h2, h4, h5, h6⟩ := inv_sset h
    exact r_sset G h2 h4 (sound_e a X z G h5) h6
  | .inr a b d, X, py, G, h => by
    obtain ⟨x, p, z, u, p2, p3, rfl, h2, h3, h4, h5, h6, h7⟩ := inv_inr h
    exact r_inr G h2 (sound_e a X x G h3) (sound_e b X z G h4) h5 (sound_e d X u G h6) h7
  | .rev a, X, py, G, h => by
    obtain ⟨x, k, p1, p2, p3, p4, rfl, h1⟩ := inv_rev h
    exact r_rev G (sound_e a X x G h1)
  | .dnew, X, py, G, h => by
    obtain ⟨p, rfl⟩ := inv_dnew h
    exact r_dnew
  | .unew, X, py, G, h => by
    obtain ⟨p, rfl⟩ := inv_unew h
    exact r_unew
  | .dsp kvs, X, py, G, h => by
    obtain ⟨ks, vs, p, rfl, h1, h2, h3⟩ := inv_dsp h
    exact r_dsp (sound_p kvs X p ks vs G h1) h1 h2 h3
  | .dget a b, X, py, G, h => by
    obtain ⟨x, ap, y, p, rfl, h2, h3, h4, h5, h6⟩ := inv_dget h
    exact r_dget G (sound_e a X x G h3) (sound_e b X y G h4) h2 h5 h6
  | .dget2 a b d, X, py, G, h => by
    obtain ⟨x, ap, y, w, p, rfl, h2, h3, h4, h5, h6, h7, h8⟩ := inv_dget2 h
    exact r_dget2 G (sound_e a X x G h3) (sound_e b X y G h4) (sound_e d X w G h6) h2 h5 h7 h8
  | .ix a b, X, py, G, h => by
    obtain ⟨x, y, p, rfl, h1, h2, h3⟩ := inv_ix h
    exact r_ix G (sound_e a X x G h1) (sound_e b X y G h2) h3
  | .sl a lo hi, X, py, G, h => by
    obtain ⟨x, l, h2, p2, p, rfl, q1, q2, q3⟩ := inv_sl h
    exact r_sl G (sound_e a X x G q1) (sound_o lo X l G q2) (sound_o hi X h2 G q3)
  | .lc vs elt tg it cond, X, py, G, h => by
    obtain ⟨x, gg, i, ifs, sc2, p, rfl, h1, h2, h3, h4, h5, h6, h7⟩ := inv_lc h
    exact r_lc G (sound_i it X gg i G h2) h3 h1 h5 (fun s H C cl fp => sound_g (X := X.blk s H sc2 (compEnvC sc2 cl C X.env) fp) G.nd tg gg G.calm G.hK h4)
      (fun s H C cl fp => sound_to cond _ ifs (G.blk s H sc2 _ fp) h6) fun s H C cl fp => sound_e elt _ x (G.blk s H sc2 _ fp) h7
  | .lcd vs elt tg j cond, X, py, G, h => by
    obtain ⟨x, gg, i, ifs, sc2, p, rfl, h1, h2, h3, h4, h5, h6, h7⟩ := inv_lcd h
    exact r_lcd G h2 h3 h1 h5 (fun s H C cl fp => sound_g (X := X.blk s H sc2 (compEnvC sc2 cl C X.env) fp) G.nd tg gg G.calm G.hK h4)
      (fun s H C cl fp => sound_to cond _ ifs (G.blk s H sc2 _ fp) h6) fun s H C cl fp => sound_e elt _ x (G.blk s H sc2 _ fp) h7
  | .lc2 vs vs1 elt tg it cond tg1 it1 cond1, X, py, G, h => by
    obtain ⟨x, gg, i, ifs, g1, i1, ifs1, sc2, p, rfl, h1, h2, h3, h4, h5, h6, h7, h8, h9, h10, h11, h12, h13⟩ := inv_lc2 h
    exact r_lc2 G (sound_i it X gg i G h2) h3 h8 h1 h5 h10 h11 (fun s H C cl fp => sound_g (X := X.blk s H sc2 (compEnvC sc2 cl C X.env) fp) G.nd tg gg G.calm G.hK h4)
      (fun s H C cl fp => sound_to cond _ ifs (G.blk s H sc2 _ fp) h6) (fun s H C cl fp => sound_i it1 _ g1 i1 (G.blk s H sc2 _ fp) h7)
      (fun s H C cl fp => sound_g (X := X.blk s H sc2 (compEnvC sc2 cl C X.env) fp) G.nd tg1 g1 G.calm G.hK h9) (fun s H C cl fp => sound_to cond1 _ ifs1 (G.blk s H sc2 _ fp) h12) fun s H C cl fp => sound_e elt _ x (G.blk s H sc2 _ fp) h13
theorem sound_l : ∀ (es : EL) (X : Cx) (xs : List PySem.Expr), Good X c g fs → chkL fs X.N X.env.scope es xs = true → PA X xs (mL c fun ρ => evL g es ρ)
  | .nil, X, xs, G, h => by
    cases xs with
    | nil => exact r_nil
    | cons _ _ => simp [chkL] at h
  | .cons e es, X, xs, G, h => by
    cases xs with
    | nil => simp [chkL] at h
    | cons x xs =>
      simp only [chkL, Bool.and_eq_true] at h
      exact r_consL (sound_e e X x G h.1.1) (sound_l es X xs G h.2) h.1.2
theorem sound_p : ∀ (kvs : EL) (X : Cx) (p : Pos) (ks : List (Option PySem.Expr)) (vs : List PySem.Expr), Good X c g fs → chkP fs X.N X.env.scope kvs ks vs = true → PPs X p ks vs (trsOf c g kvs)
  | .nil, X, p, ks, vs, G, h => by
    unfold chkP at h
    split at h <;> rename_i q <;> first | (cases h; done) | (cases q; done) | exact pps_nil
  | .cons e1 .nil, X, p, ks, vs, G, h => by
    unfold chkP at h
    cases h
  | .cons e1 (.cons e2 r), X, p, ks, vs, G, h => by
    cases ks with
    | nil => simp [chkP] at h
    | cons k ks =>
      cases k with
      | none => simp [chkP] at h
      | some k =>
        cases vs with
        | nil => simp [chkP] at h
        | cons v vs =>
          simp only [chkP, Bool.and_eq_true] at h
          exact pps_cons (sound_e e1 X k G h.1.1) (sound_e e2 X v G h.1.2) (sound_p r X p ks vs G h.2)
theorem sound_and : ∀ (es : EL) (X : Cx) (xs : List PySem.Expr) (p : Pos), Good X c g fs → chkB fs X.N X.env.scope es xs = true → PE X (.BoolOp .And xs p) (mE c fun ρ => evAnd g es ρ)
  | .nil, X, xs, p, G, h => by simp [chkB] at h
  | .cons e .nil, X, xs, p, G, h => by
    cases xs with
    | nil => simp [chkB] at h
    | cons x xs =>
      cases xs with
      | nil =>
        simp only [chkB] at h
        exact r_one (sound_e e X x G h)
      | cons _ _ => simp [chkB] at h
  | .cons e (.cons e2 es), X, xs, p, G, h => by
    cases xs with
    | nil => simp [chkB] at h
    | cons x xs =>
      cases xs with
      | nil => simp [chkB] at h
      | cons y ys =>
        simp only [chkB, Bool.and_eq_true] at h
        exact r_and (sound_e e X x G h.1) (sound_and (.cons e2 es) X (y :: ys) p G h.2)
theorem sound_or : ∀ (es : EL) (X : Cx) (xs : List PySem.Expr) (p : Pos), Good X c g fs → chkB fs X.N X.env.scope es xs = true → PE X (.BoolOp .Or xs p) (mE c fun ρ => evOr g es ρ)
  | .nil, X, xs, p, G, h => by simp [chkB] at h
  | .cons e .nil, X, xs, p, G, h => by
    cases xs with
    | nil => simp [chkB] at h
    | cons x xs =>
      cases xs with
      | nil =>
        simp only [chkB] at h
        exact r_one (sound_e e X x G h)
      | cons _ _ => simp [chkB] at h
  | .cons e (.cons e2 es), X, xs, p, G, h => by
    cases xs with
    | nil => simp [chkB] at h
    | cons x xs =>
      cases xs with
      | nil => simp [chkB] at h
      | cons y ys =>
        simp only [chkB, Bool.and_eq_true] at h
        exact r_or (sound_e e X x G h.1) (sound_or (.cons e2 es) X (y :: ys) p G h.2)
theorem sound_o : ∀ (e : EO) (X : Cx) (x : Option PySem.Expr), Good X c g fs → chkO fs X.N X.env.scope e x = true → PO X x (mO c fun ρ => evO g e ρ)
  | .no, X, x, G, h => by
    cases x with
    | none => exact ro_no
    | some _ => simp [chkO] at h
  | .so e, X, x, G, h => by
    cases x with
    | none => simp [chkO] at h
    | some x =>
      simp only [chkO] at h
      exact ro_so (sound_e e X x G h)
theorem sound_t : ∀ (t : T) (X : Cx) (py : PySem.Expr), Good X c g fs → chkT fs X.N X.env.scope t py = true → PT X py (mT c fun ρ => evT g t ρ)
  | .cmp op a b, X, py, G, h => by
    obtain ⟨x, q, y, p, rfl, h1, h2, h3, h4⟩ := inv_tcmp h
    exact rt_cmp G h1 (sound_e a X x G h2) (sound_e b X y G h3) h4
  | .chn op op2 a b d, X, py, G, h => by
    obtain ⟨x, q, q2, y, z, p, rfl, h1, h2, h3, h4, h5, h6, h7⟩ := inv_tchn h
    exact rt_chn G h1 h2 (sound_e a X x G h3) (sound_e b X y G h4) (sound_e d X z G h5) h7
  | .inr a b d, X, py, G, h => by
    obtain ⟨x, p, z, u, p2, p3, rfl, h2, h3, h4, h5, h6, h7⟩ := inv_tinr h
    exact rt_inr G h2 (sound_e a X x G h3) (sound_e b X z G h4) h5 (sound_e d X u G h6) h7
  | .and ts, X, py, G, h => by
    obtain ⟨xs, p, rfl, h1⟩ := inv_tand h
    exact (sound_ta ts X xs p G h1).pt
  | .or ts, X, py, G, h => by
    obtain ⟨xs, p, rfl, h1⟩ := inv_tor h
    exact (sound_tr ts X xs p G h1).pt
  | .not t, X, py, G, h => by
    obtain ⟨x, p, rfl, h1⟩ := inv_tnot h
    exact rt_not (sound_t t X x G h1)
  | .val e, X, py, G, h => by
    obtain ⟨h1, h2⟩ := inv_val h
    exact rt_val (sound_e e X py G h2) h1
theorem sound_ta : ∀ (ts : TL) (X : Cx) (xs : List PySem.Expr) (p : Pos), Good X c g fs → chkTL fs X.N X.env.scope ts xs = true → PW X (.BoolOp .And xs p) (mT c fun ρ => evTA g ts ρ)
  | .nil, X, xs, p, G, h => by simp [chkTL] at h
  | .cons e .nil, X, xs, p, G, h => by
    cases xs with
    | nil => simp [chkTL] at h
    | cons x xs =>
      cases xs with
      | nil =>
        simp only [chkTL] at h
        exact rt_one (sound_t e X x G h)
      | cons _ _ => simp [chkTL] at h
  | .cons e (.cons e2 es), X, xs, p, G, h => by
    cases xs with
    | nil => simp [chkTL] at h
    | cons x xs =>
      cases xs with
      | nil => simp [chkTL] at h
      | cons y ys =>
        simp only [chkTL, Bool.and_eq_true] at h
        exact rt_and (sound_t e X x G h.1) (sound_ta (.cons e2 es) X (y :: ys) p G h.2)
theorem sound_tr : ∀ (ts : TL) (X : Cx) (xs : List PySem.Expr) (p : Pos), Good X c g fs → chkTL fs X.N X.env.scope ts xs = true → PW X (.BoolOp .Or xs p) (mT c fun ρ => evTR g ts ρ)
  | .nil, X, xs, p, G, h => by simp [chkTL] at h
  | .cons e .nil, X, xs, p, G, h => by
    cases xs with
    | nil => simp [chkTL] at h
    | cons x xs =>
      cases xs with
      | nil =>
        simp only [chkTL] at h
        exact rt_oneO (sound_t e X x G h)
      | cons _ _ => simp [chkTL] at h
  | .cons e (.cons e2 es), X, xs, p, G, h => by
    cases xs with
    | nil => simp [chkTL] at h
    | cons x xs =>
      cases xs with
      | nil => simp [chkTL] at h
      | cons y ys =>
        simp only [chkTL, Bool.and_eq_true] at h
        exact rt_or (sound_t e X x G h.1) (sound_tr (.cons e2 es) X (y :: ys) p G h.2)
theorem sound_to : ∀ (t : TO) (X : Cx) (xs : List PySem.Expr), Good X c g fs → chkTO fs X.N X.env.scope t xs = true → PTs X xs (mT c fun ρ => evTO g t ρ)
  | .no, X, xs, G, h => by
    cases xs with
    | nil =>
      refine PTs.weak pts_nil fun σ H Q q => ?_
      obtain ⟨F0, H0, F, ρ, t, r, t', S, e, p⟩ := q
      cases e
      exact p F H S.refl S.tp
    | cons _ _ => simp [chkTO] at h
  | .so t, X, xs, G, h => by
    cases xs with
    | nil => simp [chkTO] at h
    | cons x xs =>
      cases xs with
      | nil =>
        simp only [chkTO] at h
        exact pts_one (sound_t t X x G h)
      | cons _ _ => simp [chkTO] at h
theorem sound_i : ∀ (it : It) (X : Cx) (tg py : PySem.Expr), Good X c g fs → chkI fs X.N X.env.scope it tg py = true → PI X tg py (mI c fun ρ => evI g it ρ)
  | .seq e, X, tg, py, G, h => by
    simp only [chkI] at h
    exact r_seq G (sound_e e X py G h)
  | .rng1 a, X, tg, py, G, h => by
    unfold chkI at h
    split at h <;> rename_i q <;> first | (cases h; done) | (cases q; done) | skip
    injection q with q1
    subst q1
    simp only [Bool.and_eq_true, decide_eq_true_eq] at h
    obtain ⟨⟨⟨rfl, h2⟩, h3⟩, h4⟩ := h
    exact r_rng1 G h2 (sound_e a X _ G h3) h4
  | .rng2 a b, X, tg, py, G, h => by
    unfold chkI at h
    split at h <;> rename_i q <;> first | (cases h; done) | (cases q; done) | skip
    injection q with q1 q2
    subst q1 q2
    simp only [Bool.and_eq_true, decide_eq_true_eq] at h
    obtain ⟨⟨⟨⟨⟨rfl, h2⟩, h3⟩, h4⟩, h5⟩, h6⟩ := h
    exact r_rng2 G h2 (sound_e a X _ G h3) h4 (sound_e b X _ G h5) h6
  | .rng3 a b d, X, tg, py, G, h => by
    unfold chkI at h
    split at h <;> rename_i q <;> first | (cases h; done) | (cases q; done) | skip
    injection q with q1 q2 q3
    subst q1 q2 q3
    simp only [Bool.and_eq_true, decide_eq_true_eq] at h
    obtain ⟨⟨⟨⟨⟨⟨⟨rfl, h2⟩, h3⟩, h4⟩, h5⟩, h6⟩, h7⟩, h8⟩ := h
    exact r_rng3 G h2 (sound_e a X _ G h3) h4 (sound_e b X _ G h5) h6 (sound_e d X _ G h7) h8
  | .enm a, X, tg, py, G, h => by
    unfold chkI at h
    split at h <;> rename_i q <;> first | (cases h; done) | (cases q; done) | skip
    injection q with q1
    subst q1
    simp only [Bool.and_eq_true, decide_eq_true_eq] at h
    obtain ⟨⟨⟨rfl, h2⟩, h3⟩, h4⟩ := h
    exact r_enm G h2 (sound_e a X _ G h3) h4
  | .zip a b, X, tg, py, G, h => by
    unfold chkI at h
    split at h <;> rename_i q <;> first | (cases h; done) | (cases q; done) | skip
    injection q with q1 q2
    subst q1 q2
    simp only [Bool.and_eq_true, decide_eq_true_eq] at h
    obtain ⟨⟨⟨⟨⟨rfl, h2⟩, h3⟩, h4⟩, h5⟩, h6⟩ := h
    exact r_zip G h2 (sound_e a X _ G h3) h4 (sound_e b X _ G h5) h6
end
end
end Q
namespace Q
open PySem PySem.Spec PyProof.Rows L2 RZ
/-! ### statements -/
def PostS (c : Pm) (F0 H0 F : Hp) (Dn : Ends) (fl : Fl) (t : Nat) : Prop := match fl with
  | .nx ρ' => ∀ σ' F' H', Ext F F' → SR c F0 H0 F' H' σ' ρ' t → Dn.nx σ' H'
  | .bk ρ' => ∀ σ' F' H', Ext F F' → SR c F0 H0 F' H' σ' ρ' t → Dn.bk σ' H'
  | .ct ρ' => ∀ σ' F' H', Ext F F' → SR c F0 H0 F' H' σ' ρ' t → Dn.ct σ' H'
  | .rt r => ∀ v F' H', Ext F F' → Grow c F0 H0 F' H' → Tape c F' H' t → RR c H0 F' H' v r → Dn.rt v H'
def mS (c : Pm) (m : Env → M Fl) : TS := fun Dn σ H => ∃ F0 H0 F ρ t fl t', SR c F0 H0 F H σ ρ t ∧ m ρ t = some (fl, t') ∧ PostS c F0 H0 F Dn fl t'
theorem PostS.on {c : Pm} {F0 H0 F F' : Hp} {Dn : Ends} {fl : Fl} {t : Nat} (p : PostS c F0 H0 F Dn fl t) (x : Ext F F') : PostS c F0 H0 F' Dn fl t := by
  cases fl with
  | nx ρ => exact fun σ' F2 H2 x2 S => p σ' F2 H2 (x.trans x2) S
  | bk ρ => exact fun σ' F2 H2 x2 S => p σ' F2 H2 (x.trans x2) S
  | ct ρ => exact fun σ' F2 H2 x2 S => p σ' F2 H2 (x.trans x2) S
  | rt r => exact fun v F2 H2 x2 g tp rr => p v F2 H2 (x.trans x2) g tp rr
structure GoodS (X : Cx) (c : Pm) (g : Gl) (fs : List Str) : Prop extends Good X c g fs where
  hfn : X.fn = fun _ => true
  kd : X.env.scope.kind = .function
section
variable {X : Cx} {c : Pm} {g : Gl} {fs : List Str}
variable {F0 H0 F H F' H' Hs F1 H1 : Hp} {σ : L2.St} {ρ : Env} {t t' t1 t2 : Nat} {v : V} {x : R}
variable {a b d : PySem.Expr} {ma mb md : Env → M R} {pos : Pos} {es : List PySem.Expr} {ml : Env → M (List R)} {mt : Env → M Bool}
/-- a list of one's own is changed -/
theorem SR.own {i : Nat} {xs : List D} (S : SR c F0 H0 F H σ ρ t) (e : ρ[i]? = some (.ow (.list xs))) : ∃ a vs, σ[i]? = some (some (.ref a)) ∧ H a = some (.lst vs) ∧ RepL c F vs xs ∧ H0 a = none ∧ F a = none ∧
    ∀ vs' xs', RepL c F vs' xs' → SR c F0 H0 F (upd H a (.lst vs')) σ (ρ.set i (.ow (.list xs'))) t := by
  obtain ⟨a, e1, n, f, vs, h, r⟩ := S.sl i _ e
  refine ⟨a, vs, e1, h, r, n, f, fun vs' xs' r' => ?_⟩
  have hT : Top c F H a (.list xs) := ⟨vs, h, r⟩
  have hl : i < ρ.length := (List.getElem?_eq_some_iff.mp e).1
  refine ⟨S.g.mut n f, S.tp.mut (hT.ne S.tp), by rw [List.length_set]; exact S.len, fun j s e2 => ?_, fun j k d d' nn e2 e3 => ?_⟩
  · by_cases z : i = j
    · subst z
      rw [List.getElem?_set_self hl] at e2
      cases e2
      exact ⟨a, e1, n, f, vs', upd_same, r'⟩
    · rw [List.getElem?_set_ne z] at e2
      have h2 := S.sl j s e2
      cases s with
      | un => trivial
      | sh d => exact h2
      | ow d =>
        obtain ⟨a2, q1, q2, q3, q4⟩ := h2
        have na : a2 ≠ a := fun w => S.ap i j _ _ z e e2 (by rw [e1, q1, w])
        refine ⟨a2, q1, q2, q3, ?_⟩
        cases d <;> first | exact q4 | skip
        · obtain ⟨ws, w1, w2⟩ := q4
          exact ⟨ws, by rw [upd_ne na]; exact w1, w2⟩
        · obtain ⟨m, ⟨ws, w1, w2⟩ | ⟨ws, ys, w0, w1, w2⟩⟩ := q4
          · exact ⟨m, .inl ⟨ws, by rw [upd_ne na]; exact w1, w2⟩⟩
          · exact ⟨m, .inr ⟨ws, ys, w0, by rw [upd_ne na]; exact w1, w2⟩⟩
      | ro d =>
        obtain ⟨a2, ws, ds, q1, q2, q3, q4⟩ := h2
        refine ⟨a2, ws, ds, q1, q2, ?_, q4⟩
        rcases q3 with ⟨ob, q3⟩ | q3
        · refine .inl ⟨ob, ?_⟩
          have na : a2 ≠ a := fun w => by
            rw [w, h] at q3
            cases q3
          rw [upd_ne na]
          exact q3
        · exact .inr q3
  · have ow_of : ∀ (j : Nat) (d : D), (ρ.set i (.ow (.list xs')))[j]? = some (.ow d) → ∃ d', ρ[j]? = some (.ow d') := fun j d e => by
      by_cases z : i = j
      · subst z
        exact ⟨_, ‹ρ[i]? = some (.ow (.list xs))›⟩
      · rw [List.getElem?_set_ne z] at e
        exact ⟨_, e⟩
    obtain ⟨_, w1⟩ := ow_of j d e2
    obtain ⟨_, w2⟩ := ow_of k d' e3
    exact S.ap j k _ _ nn w1 w2
/-- a dict of one's own is changed -/
theorem SR.ownD {i : Nat} {xs : List (D × D)} {es : List (DK × D)} (S : SR c F0 H0 F H σ ρ t) (e : ρ[i]? = some (.ow (.dict xs))) (ee : entries xs = some es) : ∃ a vs, σ[i]? = some (some (.ref a)) ∧ H a = some (.dK vs) ∧ RepE c F vs es ∧ H0 a = none ∧ F a = none ∧
    ∀ vs' es', RepE c F vs' es' → SR c F0 H0 F (upd H a (.dK vs')) σ (ρ.set i (.ow (.dict (unent es')))) t := by
  obtain ⟨a, e1, n, f, m0, ⟨vs, h, r⟩ | ⟨vs, xs', rfl, h, r⟩⟩ := S.sl i _ e
  rotate_left
  · rw [ent_mark] at ee
    cases ee
  refine ⟨a, vs, e1, h, .of r ee, n, f, fun vs' es' r' => ?_⟩
  have hT : Top c F H a (.dict xs) := ⟨m0, .inl ⟨vs, h, r⟩⟩
  have hl : i < ρ.length := (List.getElem?_eq_some_iff.mp e).1
  refine ⟨S.g.mut n f, S.tp.mut (hT.ne S.tp), by rw [List.length_set]; exact S.len, fun j s e2 => ?_, fun j k d d' nn e2 e3 => ?_⟩
  · by_cases z : i = j
    · subst z
      rw [List.getElem?_set_self hl] at e2
      cases e2
      exact ⟨a, e1, n, f, m0, .inl ⟨vs', upd_same, r'.back⟩⟩
    · rw [List.getElem?_set_ne z] at e2
      have h2 := S.sl j s e2
      cases s with
      | un => trivial
      | sh d => exact h2
      | ow d =>
        obtain ⟨a2, q1, q2, q3, q4⟩ := h2
        have na : a2 ≠ a := fun w => S.ap i j _ _ z e e2 (by rw [e1, q1, w])
        refine ⟨a2, q1, q2, q3, ?_⟩
        cases d <;> first | exact q4 | skip
        · obtain ⟨ws, w1, w2⟩ := q4
          exact ⟨ws, by rw [upd_ne na]; exact w1, w2⟩
        · obtain ⟨m, ⟨ws, w1, w2⟩ | ⟨ws, ys, w0, w1, w2⟩⟩ := q4
          · exact ⟨m, .inl ⟨ws, by rw [upd_ne na]; exact w1, w2⟩⟩
          · exact ⟨m, .inr ⟨ws, ys, w0, by rw [upd_ne na]; exact w1, w2⟩⟩
      | ro d =>
        obtain ⟨a2, ws, ds, q1, q2, q3, q4⟩ := h2
        refine ⟨a2, ws, ds, q1, q2, ?_, q4⟩
        rcases q3 with ⟨ob, q3⟩ | q3
        · refine .inl ⟨ob, ?_⟩
          have na : a2 ≠ a := fun w => by
            rw [w, h] at q3
            cases q3
          rw [upd_ne na]
          exact q3
        · exact .inr q3
  · have ow_of : ∀ (j : Nat) (d : D), (ρ.set i (.ow (.dict (unent es'))))[j]? = some (.ow d) → ∃ d', ρ[j]? = some (.ow d') := fun j d e => by
      by_cases z : i = j
      · subst z
        exact ⟨_, ‹ρ[i]? = some (.ow (.dict xs))›⟩
      · rw [List.getElem?_set_ne z] at e
        exact ⟨_, e⟩
    obtain ⟨_, w1⟩ := ow_of j d e2
    obtain ⟨_, w2⟩ := ow_of k d' e3
    exact S.ap j k _ _ nn w1 w2
/-- a dict of one's own, keyed by tuples, is changed -/
theorem SR.ownU {i : Nat} {xs : List (D × D)} {es : List (List DK × D)} (S : SR c F0 H0 F H σ ρ t) (e : ρ[i]? = some (.ow (.dict xs))) (ee : uEnts xs = some es) : ∃ a vs, σ[i]? = some (some (.ref a)) ∧ H a = some (.dT vs) ∧ RepE c F vs es ∧ H0 a = none ∧ F a = none ∧
    ∀ vs' es', RepE c F vs' es' → SR c F0 H0 F (upd H a (.dT vs')) σ (ρ.set i (.ow (.dict (unU es')))) t := by
  obtain ⟨a, e1, n, f, m0, ⟨vs, h, r⟩ | ⟨vs, xs', rfl, h, r⟩⟩ := S.sl i _ e
  · obtain ⟨ys, rfl, _⟩ := uEnts_some ee
    exact r.nomark.elim
  obtain ⟨ys, ey, ee⟩ := uEnts_some ee
  cases ey
  refine ⟨a, vs, e1, h, .ofT r ee, n, f, fun vs' es' r' => ?_⟩
  have hT : Top c F H a (.dict ((.none, .bool true) :: xs')) := ⟨m0, .inr ⟨vs, xs', rfl, h, r⟩⟩
  have hl : i < ρ.length := (List.getElem?_eq_some_iff.mp e).1
  refine ⟨S.g.mut n f, S.tp.mut (hT.ne S.tp), by rw [List.length_set]; exact S.len, fun j s e2 => ?_, fun j k d d' nn e2 e3 => ?_⟩
  · by_cases z : i = j
    · subst z
      rw [List.getElem?_set_self hl] at e2
      cases e2
      exact ⟨a, e1, n, f, m0, .inr ⟨vs', _, rfl, upd_same, r'.backT⟩⟩
    · rw [List.getElem?_set_ne z] at e2
      have h2 := S.sl j s e2
      cases s with
      | un => trivial
      | sh d => exact h2
      | ow d =>
        obtain ⟨a2, q1, q2, q3, q4⟩ := h2
        have na : a2 ≠ a := fun w => S.ap i j _ _ z e e2 (by rw [e1, q1, w])
        refine ⟨a2, q1, q2, q3, ?_⟩
        cases d <;> first | exact q4 | skip
        · obtain ⟨ws, w1, w2⟩ := q4
          exact ⟨ws, by rw [upd_ne na]; exact w1, w2⟩
        · obtain ⟨m, ⟨ws, w1, w2⟩ | ⟨ws, ys, w0, w1, w2⟩⟩ := q4
          · exact ⟨m, .inl ⟨ws, by rw [upd_ne na]; exact w1, w2⟩⟩
          · exact ⟨m, .inr ⟨ws, ys, w0, by rw [upd_ne na]; exact w1, w2⟩⟩
      | ro d =>
        obtain ⟨a2, ws, ds, q1, q2, q3, q4⟩ := h2
        refine ⟨a2, ws, ds, q1, q2, ?_, q4⟩
        rcases q3 with ⟨ob, q3⟩ | q3
        · refine .inl ⟨ob, ?_⟩
          have na : a2 ≠ a := fun w => by
            rw [w, h] at q3
            cases q3
          rw [upd_ne na]
          exact q3
        · exact .inr q3
  · have ow_of : ∀ (j : Nat) (d : D), (ρ.set i (.ow (.dict (unU es'))))[j]? = some (.ow d) → ∃ d', ρ[j]? = some (.ow d') := fun j d e => by
      by_cases z : i = j
      · subst z
        exact ⟨_, ‹ρ[i]? = some (.ow (.dict ((.none, .bool true) :: xs')))›⟩
      · rw [List.getElem?_set_ne z] at e
        exact ⟨_, e⟩
    obtain ⟨_, w1⟩ := ow_of j d e2
    obtain ⟨_, w2⟩ := ow_of k d' e3
    exact S.ap j k _ _ nn w1 w2
/-- a store by a subscript: into a list, or a dict -/
def rSetLD : V → V → V → Hp → (Hp → Prop) → Prop := fun o i v H Q => rSetL o i v H Q ∨ ∃ a H4, o = .ref a ∧ DPut H a i v H4 ∧ Q H4
theorem set_ld (hu : X.A.units + 1 < cLine) : PSet X rSetLD := by
  intro pins s σ H o i v ov iv u Q I ro ri rv h
  rcases h with h | ⟨a, H4, rfl, g, q⟩
  · exact set_list pins s σ H o i v ov iv u Q I ro ri rv h
  · cases ro
    exact d_setItem hu I g ri rv fun s' I' => ⟨H4, I', q⟩
theorem keepE_get : ∀ (ρ : Env) (bs : List Bool) (i : Nat) (s : Sl), (keepE ρ bs)[i]? = some s → s = .un ∨ ρ[i]? = some s
  | ρ, [], i, s, h => by
    rw [keepE] at h
    exact .inr h
  | [], b :: bs, i, s, h => by
    simp [keepE] at h
  | x :: ρ, true :: bs, 0, s, h => by
    simp only [keepE, List.getElem?_cons_zero] at h
    exact .inr (by simpa using h)
  | x :: ρ, false :: bs, 0, s, h => by
    simp only [keepE, List.getElem?_cons_zero] at h
    cases h
    exact .inl rfl
  | x :: ρ, true :: bs, i + 1, s, h => by
    simp only [keepE, List.getElem?_cons_succ] at h
    simpa using keepE_get ρ bs i s h
  | x :: ρ, false :: bs, i + 1, s, h => by
    simp only [keepE, List.getElem?_cons_succ] at h
    simpa using keepE_get ρ bs i s h
theorem keepE_len : ∀ (ρ : Env) (bs : List Bool), (keepE ρ bs).length = ρ.length
  | ρ, [] => by rw [keepE]
  | [], b :: bs => by simp [keepE]
  | x :: ρ, true :: bs => by simp [keepE, keepE_len ρ bs]
  | x :: ρ, false :: bs => by simp [keepE, keepE_len ρ bs]
theorem SR.kil {bs : List Bool} (S : SR c F0 H0 F H σ ρ t) : SR c F0 H0 F H σ (keepE ρ bs) t := by
  refine ⟨S.g, S.tp, by rw [keepE_len]; exact S.len, fun j s e => ?_, fun j k d d' nn e e2 => ?_⟩
  · rcases keepE_get ρ bs j s e with rfl | q
    · trivial
    · exact S.sl j s q
  · rcases keepE_get ρ bs j _ e with q | q
    · cases q
    · rcases keepE_get ρ bs k _ e2 with w | w
      · cases w
      · exact S.ap j k d d' nn q w
theorem SR.frz {i : Nat} (S : SR c F0 H0 F H σ ρ t) : ∃ F', Ext F F' ∧ SR c F0 H0 F' H σ (frzE ρ i) t := by
  unfold frzE
  split
  · rename_i d e
    obtain ⟨a, e1, n, f, r⟩ := S.sl i _ e
    have hl : i < ρ.length := (List.getElem?_eq_some_iff.mp e).1
    have x := frz1_ext (H := H) f
    refine ⟨frz1 F H a, x, S.g.frz f n, S.tp.frz f (r.ne S.tp), by rw [List.length_set]; exact S.len, fun j s e2 => ?_, fun j k d d' nn e2 e3 => ?_⟩
    · by_cases z : i = j
      · subst z
        rw [List.getElem?_set_self hl] at e2
        cases e2
        exact ⟨_, e1, r.rep f⟩
      · rw [List.getElem?_set_ne z] at e2
        have h2 := S.sl j s e2
        cases s with
        | un => trivial
        | sh d =>
          obtain ⟨v, q1, q2⟩ := h2
          exact ⟨v, q1, q2.mono x⟩
        | ow d =>
          obtain ⟨a2, q1, q2, q3, q4⟩ := h2
          have na : a2 ≠ a := fun w => S.ap i j _ _ z e e2 (by rw [e1, q1, w])
          refine ⟨a2, q1, q2, ?_, q4.monoF x⟩
          unfold frz1
          rw [if_neg na]
          exact q3
        | ro d =>
          obtain ⟨a2, ws, ds, q1, q2, q3, q4⟩ := h2
          exact ⟨a2, ws, ds, q1, q2, q3, q4.mono x⟩
    · have n1 : i ≠ j := fun z => by
        subst z
        rw [List.getElem?_set_self hl] at e2
        cases e2
      have n2 : i ≠ k := fun z => by
        subst z
        rw [List.getElem?_set_self hl] at e3
        cases e3
      rw [List.getElem?_set_ne n1] at e2
      rw [List.getElem?_set_ne n2] at e3
      exact S.ap j k d d' nn e2 e3
  · exact ⟨F, Ext.refl _, S⟩
/-- a result is stored to a name -/
theorem SR.setR {i : Nat} {r : R} {ρ' : Env} (S : SR c F0 H0 F H σ ρ t) (h : RR c Hs F H v r) (b : ∀ a, Hs a = none → H0 a = none) (ow : ∀ (j : Nat) (d : D) (a : Addr), ρ[j]? = some (Sl.ow d) → σ[j]? = some (some (V.ref a)) → r.kd = .fr → v ≠ .ref a)
    (e : store (.nm i) r ρ = some ρ') : SR c F0 H0 F H (σ.set i (some v)) ρ' t := by
  obtain ⟨kd, d⟩ := r
  cases kd
  · have e : some (ρ.set i (.sh d)) = some ρ' := e
    cases e
    exact S.setSh h
  · have e : some (ρ.set i (.ow d)) = some ρ' := e
    cases e
    obtain ⟨a, rfl, n, f, hT⟩ := h
    exact S.set ⟨a, rfl, b a n, f, hT⟩ fun d' _ j d'' nj ej q => ow j d'' a ej q rfl rfl
  · cases e
  · cases e
/-- one's own lists are older than what is new -/
theorem SR.older (S : SR c F0 H0 F1 H1 σ ρ t) (S2 : SR c F0 H0 F H σ ρ t') (h : RR c H1 F H v x) : ∀ (j : Nat) (d : D) (a : Addr), ρ[j]? = some (Sl.ow d) → σ[j]? = some (some (V.ref a)) → x.kd = .fr → v ≠ .ref a := fun j d a e1 e2 k z => by
  unfold RR at h
  rw [k] at h
  obtain ⟨a', e3, n, _⟩ := h
  obtain ⟨a2, q1, _, _, q4⟩ := S.sl j _ e1
  obtain ⟨o, ho⟩ := q4.at
  rw [q1] at e2
  cases e2
  rw [z] at e3
  cases e3
  rw [n] at ho
  cases ho
theorem swaps_no {e : PySem.Expr} {tg : Option PySem.Expr} {l : Nat} {env : PySem.Env} (h : noComp e = true) : swapsWith e tg l env = pure false := by
  cases e <;> first | rfl | cases h
theorem swaps_notName {e tg : PySem.Expr} {l : Nat} {env : PySem.Env} (h : isNm tg = false) : swapsWith e (some tg) l env = pure false := by
  cases e <;> first | rfl | (cases tg <;> first | rfl | cases h)
theorem stores_no {tg e : PySem.Expr} {env : PySem.Env} (h : (isNm tg || !isTup e) = true) : swappedStores [tg] e env = pure none := by
  cases tg <;> first | rfl | (cases e <;> first | rfl | cases h)
theorem block_fn (G : GoodS X c g fs) : X.env.blockKind = .function := by
  unfold PySem.Env.blockKind
  rw [G.kd]
  rfl
theorem r_asg (G : GoodS X c g fs) {tg : Tg} {pg e : PySem.Expr} (hg : chkG X.N X.env.scope (fun _ => true) tg pg = true) (he : PE X e (mE c ma)) (hn : (isNm pg || !isTup e) = true) (hs : swapsWith e (some pg) pos.line X.env = pure false) :
    PS X (.Assign [pg] e pos) (mS c fun ρ => bnd (ma ρ) fun r => bnd (opt (store tg r ρ)) fun ρ' => ret (.nx ρ')) := by
  have hfn := G.hfn
  cases tg with
  | nm i =>
    cases pg <;> first | (simp [chkG] at hg; done) | skip
    rename_i x p
    simp only [chkG, Bool.and_eq_true, Bool.or_eq_true, decide_eq_true_eq, locl, celd, and_true] at hg
    refine PS.weak (ps_set G.nd hg.1 (show Loc X.env.scope x from hg.2) he hs (.inl (by rw [hfn]))) fun Dn σ H q => ?_
    obtain ⟨F0, H0, F, ρ, t, r, t', S, e, p⟩ := q
    obtain ⟨x, t1, e1, e⟩ := bnd_some e
    obtain ⟨ρ', e2, e⟩ := opt_bnd e
    cases e
    exact one S e1 fun v F1 H1 gr tp S1 r1 => p _ F1 H1 gr.ex (S1.setR r1 (fun a n => S.g.back a n) (S.older S1 r1) e2)
  | tp ts =>
    cases pg <;> first | (simp [chkG] at hg; done) | skip
    rename_i es k p
    refine PS.weak (ps_asg he (sound_g (X := X) (c := c) G.nd (.tp ts) _ G.calm G.hK (by rw [hfn]; exact hg)) hs (stores_no hn)) fun Dn σ H q => ?_
    obtain ⟨F0, H0, F, ρ, t, r, t', S, e, p⟩ := q
    obtain ⟨x, t1, e1, e⟩ := bnd_some e
    obtain ⟨ρ', e2, e⟩ := opt_bnd e
    cases e
    refine one S e1 fun v F1 H1 gr tp S1 r1 => ?_
    obtain ⟨d, e3, e4⟩ : ∃ d, shared x = some d ∧ bind1 (.tp ts) d ρ = some ρ' := by
      unfold store at e2
      exact Option.bind_eq_some_iff.mp e2
    obtain ⟨F2, g2, tp2, r2, x2, _, k2⟩ := r1.share e3 gr tp
    have S2 := S.grow g2 tp2
    exact ⟨F0, H0, F2, ρ, _, d, ρ', S2, r2, e4, fun σ' S' _ => p σ' F2 H1 g2.ex S'⟩
theorem r_asgLc (G : GoodS X c g fs) {i : Nat} {y : Str} {py : Pos} {scope : Scope} {pos spos : Pos} {elt tg iter : PySem.Expr} {ifs : List PySem.Expr} {te : TE}
    (hr : ∀ (_ : X.N[i]? = some y) (_ : X.env.scope.names.lookup y = some .local), PS X (.Assign [.Name y py] (.ListComp elt [⟨tg, iter, ifs, 0⟩] scope pos) spos) (tAsg te (gName i)))
    (wk : ∀ σ H Q, mE c ma σ H Q → te σ H Q) (hy : X.N[i]? = some y) (hyl : X.env.scope.names.lookup y = some .local) :
    PS X (.Assign [.Name y py] (.ListComp elt [⟨tg, iter, ifs, 0⟩] scope pos) spos) (mS c fun ρ => bnd (ma ρ) fun r => bnd (opt (store (.nm i) r ρ)) fun ρ' => ret (.nx ρ')) := by
  refine PS.weak (hr hy hyl) fun Dn σ H q => ?_
  obtain ⟨F0, H0, F, ρ, t, r, t', S, e, p⟩ := q
  obtain ⟨x, t1, e1, e⟩ := bnd_some e
  obtain ⟨ρ', e2, e⟩ := opt_bnd e
  cases e
  exact wk _ _ _ (one S e1 fun v F1 H1 gr tp S1 r1 => p _ F1 H1 gr.ex (S1.setR r1 (fun a n => S.g.back a n) (S.older S1 r1) e2))
end
end Q
namespace Q
open PySem PySem.Spec PyProof.Rows L2 RZ
section
variable {X : Cx} {c : Pm} {g : Gl} {fs : List Str}
variable {F0 H0 F H F' H' Hs F1 H1 : Hp} {σ : L2.St} {ρ : Env} {t t' t1 t2 : Nat} {v : V} {x : R}
variable {a b d : PySem.Expr} {ma mb md : Env → M R} {pos : Pos} {es : List PySem.Expr} {ml : Env → M (List R)} {mt : Env → M Bool}
theorem pe_slot {i : Nat} {e : PySem.Expr} (h : chkN X.N X.env.scope i e = true) : PE X e (tVar i) := by
  cases e <;> first | cases h | skip
  rename_i x pos
  simp only [chkN, Bool.and_eq_true, decide_eq_true_eq, Bool.not_eq_true'] at h
  obtain ⟨⟨⟨h1, h2⟩, h3⟩, h4⟩ := h
  have hv : Vis X.env.scope x := by
    unfold vis at h2
    unfold Vis
    split at h2
    · rename_i q; exact .inl q
    · rename_i q; exact .inr (.inl q)
    · rename_i q; exact .inr (.inr q)
    · cases h2
  exact pe_var h1 hv h3 h4
theorem assign_sub {o i : PySem.Expr} {p : Pos} {env : PySem.Env} {v : Value} (h : noSlice i = true) : assign (.Subscript o i p) env v = (do
    let ov ← holding [v] (eval o env)
    let iv ← holding [v, ov] (eval i env)
    standAt p
    holding [v, ov, iv] (setItem ov iv v)
    release [v, ov, iv] []) := by
  cases i <;> first | rfl | cases h
/-- new ones are none of the names' own -/
def Apart (σ : L2.St) (ρ : Env) (vs : List V) (rs : List R) : Prop := ∀ (j : Nat) (d : D) (a : Addr), ρ[j]? = some (Sl.ow d) → σ[j]? = some (some (V.ref a)) → ∀ (i : Nat) (u : V) (q : R), vs[i]? = some u → rs[i]? = some q → q.kd = .fr → u ≠ .ref a
theorem Apart.tail {v : V} {vs : List V} {r : R} {rs : List R} (h : Apart σ ρ (v :: vs) (r :: rs)) : Apart σ ρ vs rs := fun j d a e1 e2 i u q e3 e4 k => h j d a e1 e2 (i + 1) u q (by simpa using e3) (by simpa using e4) k
theorem RRL.apart (S : SR c F0 H0 F1 H1 σ ρ t) {vs : List V} {rs : List R} (h : RRL c H1 F H vs rs) : Apart σ ρ vs rs := fun j d a e1 e2 i u q e3 e4 k z => by
  have r := h.get e3 e4
  unfold RR at r
  rw [k] at r
  obtain ⟨a', e5, n, _⟩ := r
  obtain ⟨a2, q1, _, _, q4⟩ := S.sl j _ e1
  obtain ⟨o, ho⟩ := q4.at
  rw [q1] at e2
  cases e2
  rw [z] at e5
  cases e5
  rw [n] at ho
  cases ho
/-- rows of results that may be stored -/
theorem RRL.frz {a : Addr} (f : F a = none) : ∀ {vs : List V} {rs : List R}, RRL c Hs F H vs rs → (∀ (i : Nat) (u : V) (q : R), vs[i]? = some u → rs[i]? = some q → q.kd = .fr → u ≠ .ref a) → (∀ r ∈ rs, (shared r).isSome = true) → RRL c Hs (frz1 F H a) H vs rs
  | _, _, .nil, _, _ => .nil
  | v :: vs, r :: rs, .cons h hs hd, k, sh => by
    refine .cons ?_ (RRL.frz f hs (fun i u q e1 e2 e3 => k (i + 1) u q (by simpa using e1) (by simpa using e2) e3) fun r hr => sh r (List.mem_cons_of_mem _ hr)) hd
    obtain ⟨d, hd'⟩ := Option.isSome_iff_exists.mp (sh r List.mem_cons_self)
    obtain ⟨_, kk⟩ := shared_sh hd'
    unfold RR at h ⊢
    rcases kk with kk | kk <;> rw [kk] at h ⊢
    · exact Rep.mono (frz1_ext f) h
    · obtain ⟨a', e1, n, f', hT⟩ := h
      have na : a' ≠ a := fun z => k 0 v r rfl rfl kk (by rw [e1, z])
      refine ⟨a', e1, n, ?_, hT.monoF (frz1_ext f)⟩
      unfold frz1
      rw [if_neg na]
      exact f'
theorem RRL.mutd {a : Addr} {o : HO} (f : F a = none) : ∀ {vs : List V} {rs : List R}, RRL c Hs F H vs rs → (∀ (i : Nat) (u : V) (q : R), vs[i]? = some u → rs[i]? = some q → q.kd = .fr → u ≠ .ref a) → (∀ r ∈ rs, (shared r).isSome = true) → RRL c Hs F (upd H a o) vs rs
  | _, _, .nil, _, _ => .nil
  | v :: vs, r :: rs, .cons h hs hd, k, sh => by
    refine .cons ?_ (RRL.mutd f hs (fun i u q e1 e2 e3 => k (i + 1) u q (by simpa using e1) (by simpa using e2) e3) fun r hr => sh r (List.mem_cons_of_mem _ hr)) hd
    obtain ⟨d, hd'⟩ := Option.isSome_iff_exists.mp (sh r List.mem_cons_self)
    obtain ⟨_, kk⟩ := shared_sh hd'
    unfold RR at h ⊢
    rcases kk with kk | kk <;> rw [kk] at h ⊢
    · exact h
    · obtain ⟨a', e1, n, f', hT⟩ := h
      have na : a' ≠ a := fun z => k 0 v r rfl rfl kk (by rw [e1, z])
      refine ⟨a', e1, n, f', ?_⟩
      cases hr : r.d <;> rw [hr] at hT <;> first | exact hT | skip
      · obtain ⟨ws, w1, w2⟩ := hT
        exact ⟨ws, by rw [upd_ne na]; exact w1, w2⟩
      · obtain ⟨m, ⟨ws, w1, w2⟩ | ⟨ws, ys, w0, w1, w2⟩⟩ := hT
        · exact ⟨m, .inl ⟨ws, by rw [upd_ne na]; exact w1, w2⟩⟩
        · exact ⟨m, .inr ⟨ws, ys, w0, by rw [upd_ne na]; exact w1, w2⟩⟩
theorem putD_some {i : Nat} {k y : D} {ρ' : Env} (h : putD ρ i k y = some ρ') : (∃ xs j n, ρ[i]? = some (.ow (.list xs)) ∧ k = .int j ∧ ixN xs.length j = some n ∧ ρ' = ρ.set i (.ow (.list (xs.set n y)))) ∨
    (∃ kds kk es, ρ[i]? = some (.ow (.dict kds)) ∧ kOf k = some kk ∧ entries kds = some es ∧ es.length < lim ∧ ρ' = ρ.set i (.ow (.dict (unent (dPut es kk y))))) ∨
    ∃ kds kk es, ρ[i]? = some (.ow (.dict kds)) ∧ kOfT k = some kk ∧ uEnts kds = some es ∧ es.length < lim ∧ ρ' = ρ.set i (.ow (.dict (unU (dPut es kk y)))) := by
  unfold putD at h
  split at h
  · rename_i xs j e1
    obtain ⟨n, e2, e3⟩ := Option.map_eq_some_iff.mp h
    exact .inl ⟨xs, j, n, e1, rfl, e2, e3.symm⟩
  · rename_i kds e1
    rcases kOr_some h with ⟨kk, e2, h⟩ | h
    · obtain ⟨es, e3, h⟩ := Option.bind_eq_some_iff.mp h
      split at h
      · rename_i hl
        cases h
        exact .inr (.inl ⟨kds, kk, es, e1, e2, e3, hl, rfl⟩)
      · cases h
    · obtain ⟨kk, e2, h⟩ := Option.bind_eq_some_iff.mp h
      obtain ⟨es, e3, h⟩ := Option.bind_eq_some_iff.mp h
      split at h
      · rename_i hl
        cases h
        exact .inr (.inr ⟨kds, kk, es, e1, e2, e3, hl, rfl⟩)
      · cases h
  · cases h
theorem putD_ow {i : Nat} {k y : D} {ρ' : Env} (h : putD ρ i k y = some ρ') : ∃ d d', ρ[i]? = some (.ow d) ∧ ρ' = ρ.set i (.ow d') := by
  rcases putD_some h with ⟨xs, j, n, e, _, _, e'⟩ | ⟨kds, kk, es, e, _, _, _, e'⟩ | ⟨kds, kk, es, e, _, _, _, e'⟩
  · exact ⟨_, _, e, e'⟩
  · exact ⟨_, _, e, e'⟩
  · exact ⟨_, _, e, e'⟩
theorem put_run {i : Nat} {y : D} {k : V} {ρ' : Env} (S : SR c F0 H0 F H σ ρ t) (e : putD ρ i x.d y = some ρ') (rk : RR c Hs F H k x) (rv : Rep c F v y) :
    ∃ a0 o', σ[i]? = some (some (.ref a0)) ∧ F a0 = none ∧ (∀ R : Hp → Prop, R (upd H a0 o') → rSetLD (.ref a0) k v H R) ∧ SR c F0 H0 F (upd H a0 o') σ ρ' t := by
  rcases putD_some e with ⟨xs, j, n, q1, q2, q3, rfl⟩ | ⟨kds, kk, es, q1, q2, q3, q4, rfl⟩ | ⟨kds, kk, es, q1, q2, q3, q4, rfl⟩
  · obtain ⟨a0, ws, w1, w2, w3, w4, w5, w6⟩ := S.own q1
    exact ⟨a0, _, w1, w5, fun R h => .inl ⟨a0, ws, j, n, rfl, rk.int q2, w2, by rw [w3.length]; exact q3, h⟩, w6 _ _ (w3.set rv n)⟩
  · obtain ⟨a0, ws, w1, w2, w3, w4, w5, w6⟩ := S.ownD q1 q3
    refine ⟨a0, _, w1, w5, fun R h => .inr ⟨a0, _, rfl, ?_, h⟩, w6 _ _ (w3.put kk rv)⟩
    rw [rk.key q2]
    exact DPut.k w2 (by rw [w3.length, ← lim_eq]; exact q4)
  · obtain ⟨a0, ws, w1, w2, w3, w4, w5, w6⟩ := S.ownU q1 q3
    obtain ⟨b', rfl, hb'⟩ := rk.keyT q2 S.g.sub
    exact ⟨a0, _, w1, w5, fun R h => .inr ⟨a0, _, rfl, DPut.t w2 hb' (by rw [w3.length, ← lim_eq]; exact q4), h⟩, w6 _ _ (w3.put kk rv)⟩
theorem getS_ow {i : Nat} {d : D} (h : ρ[i]? = some (.ow d)) : getS ρ i = some ⟨.pk, d⟩ := by
  unfold getS
  rw [h]
def mTs (c : Pm) (g : Gl) (ts : List Tt) : TGs := fun vs σ H Q => ∃ F0 H0 F Hs ρ t rs ρ' t', SR c F0 H0 F H σ ρ t ∧ RRL c Hs F H vs rs ∧ (∀ a, H a = none → Hs a = none) ∧ (∀ a, Hs a = none → H0 a = none) ∧ Apart σ ρ vs rs ∧ (∀ r ∈ rs, (shared r).isSome = true) ∧ storesM g ts rs ρ t = some (ρ', t') ∧
  ∀ σ' F' H', Ext F F' → SR c F0 H0 F' H' σ' ρ' t' → Q σ' H'
theorem store_tp {ts : List Tg} {r : R} {ρ' : Env} (h : RR c Hs F H v r) (e : store (.tp ts) r ρ = some ρ') : Rep c F v r.d ∧ bind1 (.tp ts) r.d ρ = some ρ' := by
  unfold store at e
  obtain ⟨d, e1, e2⟩ := Option.bind_eq_some_iff.mp e
  obtain ⟨ed, k⟩ := shared_sh e1
  subst ed
  refine ⟨?_, e2⟩
  cases hd : r.d <;> rw [hd] at e2 <;> first | (simp [bind1] at e2; done) | skip
  exact h.tup hd
theorem Apart.grow {vs : List V} {rs : List R} {σ' : L2.St} {ρ' : Env} (h : Apart σ ρ vs rs) (k : ∀ (j : Nat) (d : D) (a : Addr), ρ'[j]? = some (Sl.ow d) → σ'[j]? = some (some (V.ref a)) → (∃ d', ρ[j]? = some (Sl.ow d') ∧ σ[j]? = some (some (V.ref a))) ∨ ∀ (i : Nat) (u : V) (q : R), vs[i]? = some u → rs[i]? = some q → q.kd = .fr → u ≠ .ref a) : Apart σ' ρ' vs rs := fun j d a e1 e2 => by
  rcases k j d a e1 e2 with ⟨d', w1, w2⟩ | w
  · exact h j d' a w1 w2
  · exact w
theorem tt_nil {vs : List V} {Q : L2.St → Hp → Prop} (q : mTs c g [] vs σ H Q) : vs = [] ∧ Q σ H := by
  obtain ⟨F0, H0, F, Hs, ρ, t, rs, ρ', t', S, r, b1, b2, ap, sh, e, p⟩ := q
  cases r with
  | nil =>
    have e : some (ρ, t) = some (ρ', t') := e
    cases e
    exact ⟨rfl, p _ F _ (Ext.refl _) S⟩
  | cons _ _ _ => cases e
theorem tt_nm {i : Nat} {ts : List Tt} {vs : List V} {Q : L2.St → Hp → Prop} (q : mTs c g (.tg (.nm i) :: ts) vs σ H Q) : ∃ v r, vs = v :: r ∧ mTs c g ts r (σ.set i (some v)) H Q := by
  obtain ⟨F0, H0, F, Hs, ρ, t, rs, ρ', t', S, r, b1, b2, ap, sh, e, p⟩ := q
  cases r with
  | nil => cases e
  | cons r rr hd =>
    rename_i v vs r1 rs
    obtain ⟨ρ1, e1, e⟩ := opt_bnd e
    have S1 := S.setR r b2 (fun j d a w1 w2 k => ap j d a w1 w2 0 v r1 rfl rfl k) e1
    refine ⟨_, _, rfl, F0, H0, F, Hs, ρ1, t, rs, ρ', t', S1, rr, b1, b2, ap.tail.grow fun j d a w1 w2 => ?_, fun r hr => sh r (List.mem_cons_of_mem _ hr), e, p⟩
    by_cases z : i = j
    · subst z
      obtain ⟨kd, dd⟩ := r1
      have hl : i < ρ1.length := (List.getElem?_eq_some_iff.mp w1).1
      cases kd
      · have e1 : some (ρ.set i (.sh dd)) = some ρ1 := e1
        cases e1
        rw [List.length_set] at hl
        rw [List.getElem?_set_self hl] at w1
        cases w1
      · have e1 : some (ρ.set i (.ow dd)) = some ρ1 := e1
        cases e1
        rw [List.length_set] at hl
        rw [List.getElem?_set_self (by rw [← S.len]; exact hl)] at w2
        have w2 : v = .ref a := by simpa using w2
        subst w2
        exact .inr (hd rfl)
      · cases e1
      · cases e1
    · left
      rw [List.getElem?_set_ne z] at w2
      obtain ⟨kd, dd⟩ := r1
      cases kd
      · have e1 : some (ρ.set i (.sh dd)) = some ρ1 := e1
        cases e1
        rw [List.getElem?_set_ne z] at w1
        exact ⟨d, w1, w2⟩
      · have e1 : some (ρ.set i (.ow dd)) = some ρ1 := e1
        cases e1
        rw [List.getElem?_set_ne z] at w1
        exact ⟨d, w1, w2⟩
      · cases e1
      · cases e1
theorem sound_tt (G : GoodS X c g fs) : ∀ (ts : List Tt) (es : List PySem.Expr), chkTt fs X.N X.env.scope ts es = true → PGs X es (mTs c g ts) ∧ (assignEach es X.env).length = ts.length ∧ (assignEach es X.env).findIdx? (·.1) = none
  | [], es, h => by
    cases es <;> first | (simp [chkTt] at h; done) | skip
    exact ⟨PGs.weak pgs_nil fun v σ H Q q => tt_nil q, rfl, rfl⟩
  | .tg (.nm i) :: ts, es, h => by
    cases es <;> first | (simp [chkTt] at h; done) | skip
    rename_i pe es
    simp only [chkTt, Bool.and_eq_true] at h
    obtain ⟨h2, h3, h4⟩ := sound_tt G ts es h.2
    have hg := h.1.1
    cases pe <;> first | (simp [chkG] at hg; done) | skip
    rename_i x p0
    simp only [chkG, Bool.and_eq_true, Bool.or_eq_true, decide_eq_true_eq, locl, celd, and_true] at hg
    refine ⟨PGs.weak (pgs_cons (pg_name G.nd hg.1 (show Loc X.env.scope x from hg.2) (.inl (by rw [G.hfn]))) h2 (by rw [assign_cons h.1.2]; rfl)) fun v σ H Q q => tt_nm q, by rw [assign_cons h.1.2, List.length_cons, List.length_cons, h3], ?_⟩
    rw [assign_cons h.1.2, List.findIdx?_cons]
    simp only [Bool.false_eq_true, if_false, h4, Option.map_none]
  | .tg (.tp tp) :: ts, es, h => by
    cases es <;> first | (simp [chkTt] at h; done) | skip
    rename_i pe es
    simp only [chkTt, Bool.and_eq_true] at h
    obtain ⟨h2, h3, h4⟩ := sound_tt G ts es h.2
    have hg := sound_g (X := X) (c := c) G.nd (.tp tp) pe G.calm G.hK (by rw [G.hfn]; exact h.1.1)
    refine ⟨PGs.weak (pgs_cons hg h2 (by rw [assign_cons h.1.2]; rfl)) fun v σ H Q q => ?_, by rw [assign_cons h.1.2, List.length_cons, List.length_cons, h3], ?_⟩
    · obtain ⟨F0, H0, F, Hs, ρ, t, rs, ρ', t', S, r, b1, b2, ap, sh, e, p⟩ := q
      cases r with
      | nil => cases e
      | cons r rr hd =>
        rename_i v vs r1 rs
        obtain ⟨ρ1, e1, e⟩ := opt_bnd e
        obtain ⟨q1, q2⟩ := store_tp r e1
        refine ⟨_, _, rfl, F0, H0, F, ρ, t, _, ρ1, S, q1, q2, fun σ1 S1 o1 => ⟨F0, H0, F, Hs, ρ1, t, rs, ρ', t', S1, rr, b1, b2, ap.tail.grow fun j d a w1 w2 => ?_, fun r hr => sh r (List.mem_cons_of_mem _ hr), e, p⟩⟩
        obtain ⟨z1, z2, z3⟩ := bind1_off _ _ _ _ q2
        have nj : j ∉ slotsT (.tp tp) := fun z => by
          obtain ⟨_, w⟩ := z3 j z _ w1
          cases w
        rw [z2 j nj] at w1
        rw [o1.2 j nj] at w2
        exact .inl ⟨d, w1, w2⟩
    · rw [assign_cons h.1.2, List.findIdx?_cons]
      simp only [Bool.false_eq_true, if_false, h4, Option.map_none]
  | .put i k :: ts, es, h => by
    cases es <;> first | (simp [chkTt] at h; done) | skip
    rename_i pe es
    cases pe <;> first | (simp [chkTt] at h; done) | skip
    rename_i px py pp
    simp only [chkTt, Bool.and_eq_true] at h
    obtain ⟨h2, h3, h4⟩ := sound_tt G ts es h.2
    have hs : noStar (.Subscript px py pp) = true := rfl
    refine ⟨PGs.weak (pgs_cons (pg_sub (pe_slot h.1.1.1) (sound_e k X py G.toGood h.1.1.2) (set_ld (by have := G.hu; omega)) fun v => assign_sub h.1.2) h2 (by rw [assign_cons hs]; rfl)) fun v σ H Q q => ?_, by rw [assign_cons hs, List.length_cons, List.length_cons, h3], ?_⟩
    · obtain ⟨F0, H0, F, Hs, ρ, t, rs, ρ', t', S, r, b1, b2, ap, sh, e, p⟩ := q
      cases r with
      | nil => cases e
      | cons r rr hd =>
        rename_i v vs r1 rs
        obtain ⟨y, e1, e⟩ := opt_bnd e
        obtain ⟨x, t1, e2, e⟩ := bnd_some e
        obtain ⟨ρ1, e3, e⟩ := opt_bnd e
        obtain ⟨d0, d1, e4, eρ⟩ := putD_ow e3
        have shr : ∀ r ∈ rs, (shared r).isSome = true := fun r hr => sh r (List.mem_cons_of_mem _ hr)
        -- the value is made to stay
        obtain ⟨F2, x2, S2, rr2, r2⟩ : ∃ F2, Ext F F2 ∧ SR c F0 H0 F2 H σ ρ t ∧ RRL c Hs F2 H vs rs ∧ Rep c F2 v y := by
          obtain ⟨ed, kk⟩ := shared_sh e1
          subst ed
          unfold RR at r
          rcases kk with kk | kk <;> rw [kk] at r
          · exact ⟨F, Ext.refl _, S, rr, r⟩
          · obtain ⟨a', ea, n', f', hT⟩ := r
            have hne := hd kk
            subst ea
            have S2 : SR c F0 H0 (frz1 F H a') H σ ρ t := by
              refine ⟨S.g.frz f' (b2 a' n'), S.tp.frz f' (hT.ne S.tp), S.len, fun j s w => ?_, S.ap⟩
              have hsl := S.sl j s w
              have x := frz1_ext (H := H) f'
              cases s with
              | un => trivial
              | sh d =>
                obtain ⟨v, q1, q2⟩ := hsl
                exact ⟨v, q1, q2.mono x⟩
              | ow d =>
                obtain ⟨a2, q1, q2, q3, q4⟩ := hsl
                have na : a2 ≠ a' := fun z => ap j d a2 w q1 0 _ r1 rfl rfl kk (by rw [z])
                refine ⟨a2, q1, q2, ?_, q4.monoF x⟩
                unfold frz1
                rw [if_neg na]
                exact q3
              | ro d =>
                obtain ⟨a2, ws, ds, q1, q2, q3, q4⟩ := hsl
                exact ⟨a2, ws, ds, q1, q2, q3, q4.mono x⟩
            exact ⟨_, frz1_ext f', S2, rr.frz f' hne shr, hT.rep f'⟩
        obtain ⟨a0, w0, _⟩ := S2.sl i _ e4
        refine ⟨_, _, rfl, .ref a0, w0, ?_⟩
        refine one (Q := fun k H3 => rSetLD (.ref a0) k v H3 fun H4 => mTs c g ts vs σ H4 Q) S2 e2 fun k F3 H3 gr tp S3 rk => ?_
        obtain ⟨a1, o1, w1, w5, wR, S4⟩ := put_run S3 e3 rk (r2.mono gr.ex)
        rw [w0] at w1
        cases w1
        refine wR _ ?_
        subst eρ
        have rr3 := RRL.grow gr S2.tp rr2
        refine ⟨F0, H0, F3, Hs, _, _, rs, ρ', t', S4, rr3.mutd w5 (fun i' u q z1 z2 z3 => ap.tail i _ a0 e4 w0 i' u q z1 z2 z3) shr, fun b hb => ?_, b2, ap.tail.grow fun j' d a z1 z2 => ?_, shr, e, fun σ' F' H' x' S' => p σ' F' H' ((x2.trans gr.ex).trans x') S'⟩
        · by_cases z : b = a0
          · subst z
            rw [upd_same] at hb
            cases hb
          · rw [upd_ne z] at hb
            exact b1 b (gr.back b hb)
        · left
          by_cases z : i = j'
          · subst z
            exact ⟨_, e4, z2⟩
          · rw [List.getElem?_set_ne z] at z1
            exact ⟨d, z1, z2⟩
    · rw [assign_cons hs, List.findIdx?_cons]
      simp only [Bool.false_eq_true, if_false, h4, Option.map_none]
end
end Q
namespace Q
open PySem PySem.Spec PyProof.Rows L2 RZ
section
variable {X : Cx} {c : Pm} {g : Gl} {fs : List Str}
variable {F0 H0 F H F' H' Hs F1 H1 : Hp} {σ : L2.St} {ρ : Env} {t t' t1 t2 : Nat} {v : V} {x : R}
variable {a b d : PySem.Expr} {ma mb md : Env → M R} {pos : Pos} {es : List PySem.Expr} {ml : Env → M (List R)} {mt : Env → M Bool}
theorem nostar_any {vs : List PySem.Expr} (h : vs.all noStar = true) : (vs.any fun | .Starred .. => true | _ => false) = false := by
  induction vs with
  | nil => rfl
  | cons e es ih =>
    rw [List.all_cons, Bool.and_eq_true] at h
    rw [List.any_cons, ih h.2]
    have h1 := h.1
    cases e <;> first | rfl | cases h1
theorem swp_eq {ts vs : List PySem.Expr} {k k2 : Nat} {p p2 : Pos} {env : PySem.Env} (hb : env.blockKind = .function) (hst : (vs.any fun | .Starred .. => true | _ => false) = false) (hp : parN env.scope ts vs = true) :
    swappedStores [.Tuple ts k p] (.Tuple vs k2 p2) env = pure (swpN env.scope ts vs) := by
  unfold swappedStores
  simp only [hst, hb, bne_self_eq_false, Bool.or_false, Bool.false_eq_true, if_false]
  unfold parN at hp
  unfold swpN at hp ⊢
  by_cases h1 : (!(ts.length == 2 || ts.length == 3) || vs.length != ts.length) = true
  · rw [if_pos h1]; rw [if_pos h1]
  · rw [if_neg h1] at hp ⊢
    rw [if_neg h1]
    refine Eq.trans (if_neg (fun z => Bool.false_ne_true (hst.symm.trans z))) ?_
    change (if ((nmsOf env.scope ts).length != ts.length || (nmsOf env.scope ts).eraseDups.length != (nmsOf env.scope ts).length) = true then pure none else if vs.all (foldedForSure 8) = true then pure none else
      if vs.all (constantsAlone 8) = true then (do unsupported "assign.tuple-of-constant-expressions:order-of-the-stores"; pure (some (nmsOf env.scope ts))) else pure (some (nmsOf env.scope ts))) = _
    by_cases h2 : ((nmsOf env.scope ts).length != ts.length || (nmsOf env.scope ts).eraseDups.length != (nmsOf env.scope ts).length) = true
    · rw [if_pos h2, if_pos h2]
    · rw [if_neg h2] at hp ⊢
      rw [if_neg h2]
      by_cases h3 : vs.all (foldedForSure 8) = true
      · rw [if_pos h3, if_pos h3]
      · rw [if_neg h3] at hp ⊢
        rw [if_neg h3]
        have hp : (!vs.all (constantsAlone 8) && decide (nmsOf env.scope ts).Nodup) = true := hp
        rw [Bool.and_eq_true] at hp
        have h4 : vs.all (constantsAlone 8) = false := by simpa using hp.1
        rw [h4, if_neg (by decide)]
theorem nms_cons {sc : Scope} {l : Nat} {g : PySem.Expr} {gs : List PySem.Expr} (f : PySem.Expr → Option Str) (h : ((g :: gs).filterMap f).length = (g :: gs).length) : ∃ x, f g = some x ∧ (gs.filterMap f).length = gs.length := by
  cases q : f g with
  | none =>
    rw [List.filterMap_cons_none q] at h
    have := List.length_filterMap_le f gs
    rw [List.length_cons] at h
    omega
  | some x =>
    rw [List.filterMap_cons_some q] at h
    exact ⟨x, rfl, by simpa using h⟩
def nmF (sc : Scope) (l : Nat) : PySem.Expr → Option Str := fun
  | .Name id pos => if sc.names.lookup id == some .local && pos.line == l then some id else none
  | _ => none
theorem nmF_some {sc : Scope} {l : Nat} {g : PySem.Expr} {x : Str} (h : nmF sc l g = some x) : ∃ p, g = .Name x p ∧ sc.names.lookup x = some .local := by
  cases g <;> first | (simp [nmF] at h; done) | skip
  rename_i id p
  simp only [nmF] at h
  split at h
  · rename_i q
    cases h
    simp only [Bool.and_eq_true, beq_iff_eq] at q
    exact ⟨p, rfl, q.1⟩
  · cases h
theorem chkTt_nm {x : Str} {p : Pos} {ts : List Tt} {gs : List PySem.Expr} (h : chkTt fs X.N X.env.scope ts (.Name x p :: gs) = true) : ∃ i r, ts = .tg (.nm i) :: r ∧ X.N[i]? = some x ∧ chkTt fs X.N X.env.scope r gs = true := by
  cases ts with
  | nil => simp [chkTt] at h
  | cons t r =>
    cases t with
    | put i k => simp [chkTt] at h
    | tg t =>
      cases t with
      | tp ts => simp [chkTt, chkG] at h
      | nm i =>
        simp only [chkTt, chkG, Bool.and_eq_true, decide_eq_true_eq] at h
        exact ⟨i, r, rfl, h.1.1.1, h.2⟩
theorem slot_ne {i j : Nat} {x y : Str} (h1 : X.N[i]? = some x) (h2 : X.N[j]? = some y) (n : x ≠ y) : i ≠ j := fun z => by
  rw [z, h2] at h1
  cases h1
  exact n rfl
theorem storesM_len : ∀ {ts : List Tt} {rs : List R} {ρ : Env} {t : Nat} {r : Env × Nat}, storesM g ts rs ρ t = some r → rs.length = ts.length
  | [], [], _, _, _, _ => rfl
  | [], _ :: _, _, _, _, h => by cases h
  | .tg _ :: _, [], _, _, _, h => by cases h
  | .put _ _ :: _, [], _, _, _, h => by cases h
  | .tg tg :: ts, x :: rs, ρ, t, r, h => by
    obtain ⟨ρ1, _, e⟩ := opt_bnd h
    rw [List.length_cons, List.length_cons, storesM_len e]
  | .put i k :: ts, x :: rs, ρ, t, r, h => by
    obtain ⟨y, _, e⟩ := opt_bnd h
    obtain ⟨z, _, _, e⟩ := bnd_some e
    obtain ⟨ρ1, _, e⟩ := opt_bnd e
    rw [List.length_cons, List.length_cons, storesM_len e]
theorem tts_len {ts : List Tt} {vs : List V} {Q : L2.St → Hp → Prop} (q : mTs c g ts vs σ H Q) : vs.length = ts.length := by
  obtain ⟨F0, H0, F, Hs, ρ, t, rs, ρ', t', S, r, b1, b2, ap, sh, e, p⟩ := q
  rw [r.length, storesM_len e]
theorem mTs.laid {ts : List Tt} {vs : List V} {Q : L2.St → Hp → Prop} (q : mTs c g ts vs σ H Q) {a : Addr} {o : HO} (n : H a = none) : mTs c g ts vs σ (upd H a o) Q := by
  obtain ⟨F0, H0, F, Hs, ρ, t, rs, ρ', t', S, r, b1, b2, ap, sh, e, p⟩ := q
  have gr := S.refl.laid (o := o) n
  exact ⟨F0, H0, F, Hs, ρ, t, rs, ρ', t', S.grow gr (S.tp.laid n), RRL.grow gr S.tp r, fun b hb => b1 b (gr.back b hb), b2, ap, sh, e, p⟩
theorem chkTt_len : ∀ {ts : List Tt} {gs : List PySem.Expr}, chkTt fs X.N X.env.scope ts gs = true → ts.length = gs.length
  | [], [], _ => rfl
  | [], _ :: _, h => by simp [chkTt] at h
  | .tg _ :: _, [], h => by simp [chkTt] at h
  | .put _ _ :: _, [], h => by simp [chkTt] at h
  | .tg t :: ts, e :: es, h => by
    simp only [chkTt, Bool.and_eq_true] at h
    rw [List.length_cons, List.length_cons, chkTt_len h.2]
  | .put i k :: ts, e :: es, h => by
    cases e <;> first | (simp [chkTt] at h; done) | skip
    simp only [chkTt, Bool.and_eq_true] at h
    rw [List.length_cons, List.length_cons, chkTt_len h.2]
theorem r_par (G : GoodS X c g fs) {ts : List Tt} {gs xs : List PySem.Expr} {k k2 : Nat} {p p2 : Pos} (ht : chkTt fs X.N X.env.scope ts gs = true) (hx : PA X xs (mL c ml)) (hst : xs.all noStar = true) (hp : parN X.env.scope gs xs = true) (hf : fewT gs = true) :
    PS X (.Assign [.Tuple gs k p] (.Tuple xs k2 p2) pos) (mS c fun ρ => bnd (ml ρ) fun rs => if (rs.all fun r => (shared r).isSome) = false then fail else bnd (storesM g ts rs ρ) fun ρ' => ret (.nx ρ')) := by
  have wk : ∀ {σ : L2.St} {H : Hp} {Dn : Ends}, mS c (fun ρ => bnd (ml ρ) fun rs => if (rs.all fun r => (shared r).isSome) = false then fail else bnd (storesM g ts rs ρ) fun ρ' => ret (.nx ρ')) Dn σ H →
      mL c ml σ H fun vs H1 => mTs c g ts vs σ H1 Dn.nx := fun {σ H Dn} q => by
    obtain ⟨F0, H0, F, ρ, t, r, t', S, e, p⟩ := q
    obtain ⟨rs, t1, e1, e⟩ := bnd_some e
    split at e
    · cases e
    · rename_i hall
      obtain ⟨ρ', t2, e2, e⟩ := bnd_some e
      cases e
      exact oneL S e1 fun vs F1 H1 gr tp S1 r1 => ⟨F0, H0, F1, H, ρ, t1, rs, ρ', _, S1, r1, gr.back, S.g.back, RRL.apart S r1, List.all_eq_true.mp (by cases q : rs.all fun r => (shared r).isSome with | true => rfl | false => exact absurd q hall), e2, fun σ' F' H' x S' => p σ' F' H' (gr.ex.trans x) S'⟩
  have hw := swp_eq (k := k) (k2 := k2) (p := p) (p2 := p2) (block_fn G) (nostar_any hst) hp
  cases hsw : swpN X.env.scope gs xs with
  | none =>
    rw [hsw] at hw
    obtain ⟨h2, h3, h4⟩ := sound_tt (c := c) (g := g) G ts gs ht
    refine PS.weak (ps_asg (pe_tup hx) (pg_tup (n := ts.length) G.calm h2 h3 h4) (hw := hw)) fun Dn σ H q => ?_
    have q := wk q
    obtain ⟨F0, H0, F, ρ, t, r, t', S, e, pp⟩ := q
    refine oneL S e fun vs F1 H1 gr tp S1 r1 => ?_
    have pq := pp vs F1 H1 gr tp r1
    have hl : vs.length = ts.length := tts_len pq
    refine ⟨?_, fun a n => ⟨a, vs, rfl, .inl (.inl upd_same), hl, pq.laid n⟩⟩
    rw [hl, chkTt_len ht]
    exact Nat.le_trans (of_decide_eq_true hf) (by decide)
  | some names =>
    rw [hsw] at hw
    have hnd : names.Nodup := by
      unfold parN at hp
      rw [hsw] at hp
      simp only [Bool.and_eq_true, decide_eq_true_eq] at hp
      exact hp.2
    have e1 : ¬ (!(gs.length == 2 || gs.length == 3) || xs.length != gs.length) = true := fun z => by
      unfold swpN at hsw
      rw [if_pos z] at hsw
      cases hsw
    have e2 : ¬ ((nmsOf X.env.scope gs).length != gs.length || (nmsOf X.env.scope gs).eraseDups.length != (nmsOf X.env.scope gs).length) = true := fun z => by
      unfold swpN at hsw
      rw [if_neg e1, if_pos z] at hsw
      cases hsw
    have e3 : nmsOf X.env.scope gs = names := by
      unfold swpN at hsw
      rw [if_neg e1, if_neg e2] at hsw
      split at hsw
      · cases hsw
      · exact Option.some.inj hsw
    simp only [Bool.or_eq_true, Bool.not_eq_true', Bool.or_eq_false_iff, bne_iff_ne, ne_eq, beq_eq_false_iff_ne, not_or, not_and, Decidable.not_not] at e1 e2
    obtain ⟨e1a, e1b⟩ := e1
    obtain ⟨e2a, e2b⟩ := e2
    have hN : ((gs.filterMap (nmF X.env.scope ((gs.head?.map (·.pos.line)).getD 0))).length) = gs.length := e2a
    cases gs with
    | nil => simp at e1a
    | cons g1 gs =>
      cases gs with
      | nil => simp at e1a
      | cons g2 gs =>
        obtain ⟨n1, f1, hN⟩ := nms_cons (sc := X.env.scope) (l := 0) _ hN
        obtain ⟨n2, f2, hN⟩ := nms_cons (sc := X.env.scope) (l := 0) _ hN
        obtain ⟨p1, rfl, l1⟩ := nmF_some f1
        obtain ⟨p3, rfl, l2⟩ := nmF_some f2
        obtain ⟨i, r1, rfl, i1, ht⟩ := chkTt_nm ht
        obtain ⟨j, r2, rfl, j1, ht⟩ := chkTt_nm ht
        cases gs with
        | nil =>
          have er : r2 = [] := by
            cases r2 with
            | nil => rfl
            | cons t r => cases t <;> simp [chkTt] at ht
          subst er
          have en : names = [n1, n2] := by
            rw [← e3]
            show List.filterMap (nmF X.env.scope _) _ = _
            rw [List.filterMap_cons_some f1, List.filterMap_cons_some f2]
            rfl
          subst en
          have nn : n1 ≠ n2 := fun z => by
            subst z
            simp at hnd
          cases xs with
          | nil => simp at e1b
          | cons x1 xs =>
            cases xs with
            | nil => simp at e1b
            | cons x2 xs =>
              cases xs with
              | cons _ _ => simp at e1b
              | nil =>
                refine PS.weak (ps_par G.calm G.nd i1 j1 (slot_ne i1 j1 nn) l1 l2 hx hw) fun Dn σ H q => ?_
                have q := wk q
                obtain ⟨F0, H0, F, ρ, t, r, t', S, e, pp⟩ := q
                refine oneL S e fun vs F1 H1 gr tp S1 r1 => ?_
                obtain ⟨v, vs1, rfl, q1⟩ := tt_nm (pp vs F1 H1 gr tp r1)
                obtain ⟨w, vs2, rfl, q2⟩ := tt_nm q1
                obtain ⟨rfl, q3⟩ := tt_nil q2
                exact ⟨v, w, rfl, q3⟩
        | cons g3 gs =>
          obtain ⟨n3, f3, hN⟩ := nms_cons (sc := X.env.scope) (l := 0) _ hN
          obtain ⟨p4, rfl, l3⟩ := nmF_some f3
          obtain ⟨l, r3, rfl, k1, ht⟩ := chkTt_nm ht
          cases gs with
          | cons _ _ => simp at e1a
          | nil =>
            have er : r3 = [] := by
              cases r3 with
              | nil => rfl
              | cons t r => cases t <;> simp [chkTt] at ht
            subst er
            have en : names = [n1, n2, n3] := by
              rw [← e3]
              show List.filterMap (nmF X.env.scope _) _ = _
              rw [List.filterMap_cons_some f1, List.filterMap_cons_some f2, List.filterMap_cons_some f3]
              rfl
            subst en
            have n12 : n1 ≠ n2 := fun z => by
              subst z
              simp at hnd
            have n13 : n1 ≠ n3 := fun z => by
              subst z
              simp at hnd
            have n23 : n2 ≠ n3 := fun z => by
              subst z
              simp at hnd
            cases xs with
            | nil => simp at e1b
            | cons x1 xs =>
              cases xs with
              | nil => simp at e1b
              | cons x2 xs =>
                cases xs with
                | nil => simp at e1b
                | cons x3 xs =>
                  cases xs with
                  | cons _ _ => simp at e1b
                  | nil =>
                    refine PS.weak (ps_par3 G.calm G.nd i1 j1 k1 (slot_ne i1 j1 n12) (slot_ne i1 k1 n13) (slot_ne j1 k1 n23) l1 l2 l3 hx hw) fun Dn σ H q => ?_
                    have q := wk q
                    obtain ⟨F0, H0, F, ρ, t, r, t', S, e, pp⟩ := q
                    refine oneL S e fun vs F1 H1 gr tp S1 r1 => ?_
                    obtain ⟨v, vs1, rfl, q1⟩ := tt_nm (pp vs F1 H1 gr tp r1)
                    obtain ⟨w, vs2, rfl, q2⟩ := tt_nm q1
                    obtain ⟨u, vs3, rfl, q3⟩ := tt_nm q2
                    obtain ⟨rfl, q4⟩ := tt_nil q3
                    exact ⟨v, w, u, rfl, q4⟩
end
end Q
namespace Q
open PySem PySem.Spec PyProof.Rows L2 RZ
section
variable {X : Cx} {c : Pm} {g : Gl} {fs : List Str}
variable {F0 H0 F H F' H' Hs F1 H1 : Hp} {σ : L2.St} {ρ : Env} {t t' t1 t2 : Nat} {v : V} {x : R}
variable {a b d : PySem.Expr} {ma mb md : Env → M R} {pos : Pos} {es : List PySem.Expr} {ml : Env → M (List R)} {mt : Env → M Bool}
def rIp (c : Pm) (f : R → R → Option R) : TIp := fun v u H Q => ∃ x y z F Hs, RR c Hs F H v x ∧ RR c Hs F H u y ∧ f x y = some z ∧ (∀ i, z.d = .int i → Q (.int i) H)
theorem augD_int {op : Op} {x y z : R} (h : augD op x y = some z) : ∃ i j k, x.d = .int i ∧ y.d = .int j ∧ z = shd (.int k) := by
  unfold augD at h
  split at h
  · cases h
    exact ⟨_, _, _, by assumption, by assumption, rfl⟩
  · cases h
    exact ⟨_, _, _, by assumption, by assumption, rfl⟩
  · split at h
    · cases h
      exact ⟨_, _, _, by assumption, by assumption, rfl⟩
    · cases h
  · split at h
    · cases h
      exact ⟨_, _, _, by assumption, by assumption, rfl⟩
    · cases h
  · split at h
    · cases h
      exact ⟨_, _, _, by assumption, by assumption, rfl⟩
    · cases h
  · cases h
theorem ip_all {op : Op} {pop : Operator} (ho : ipM op pop = true) : PIp X pop (rIp c (augD op)) := by
  intro pins s σ H v u vv uu Q I rv ru h
  obtain ⟨x, y, z, F, Hs, r1, r2, e, q⟩ := h
  unfold augD at e
  split at e
  · rename_i i j e1 e2
    cases pop <;> first | cases ho | skip
    cases e
    exact iop_add pins s σ H v u vv uu Q I rv ru ⟨i, j, r1.int e1, r2.int e2, q _ rfl⟩
  · rename_i i j e1 e2
    cases pop <;> first | cases ho | skip
    cases e
    exact iop_sub pins s σ H v u vv uu Q I rv ru ⟨i, j, r1.int e1, r2.int e2, q _ rfl⟩
  · rename_i i j e1 e2
    cases pop <;> first | cases ho | skip
    split at e
    · rename_i hb
      cases e
      refine iop_mul pins s σ H v u vv uu Q I rv ru ⟨i, j, r1.int e1, r2.int e2, ?_, q _ rfl⟩
      simp only [Bool.or_eq_true, intB_iff] at hb
      exact hb
    · cases e
  · rename_i i j e1 e2
    cases pop <;> first | cases ho | skip
    split at e
    · rename_i hb
      cases e
      exact iop_fdiv pins s σ H v u vv uu Q I rv ru ⟨i, j, r1.int e1, r2.int e2, ⟨hb.1, by omega⟩, q _ rfl⟩
    · cases e
  · rename_i i j e1 e2
    cases pop <;> first | cases ho | skip
    split at e
    · rename_i hb
      cases e
      exact iop_mod pins s σ H v u vv uu Q I rv ru ⟨i, j, r1.int e1, r2.int e2, hb, q _ rfl⟩
    · cases e
  · cases e
theorem r_aug (G : GoodS X c g fs) {i : Nat} {x : Str} {p : Pos} {op : Op} {pop : Operator} {e : PySem.Expr} (hx : chkG X.N X.env.scope (fun _ => true) (.nm i) (.Name x p) = true) (ho : ipM op pop = true) (he : PE X e (mE c ma)) :
    PS X (.AugAssign (.Name x p) pop e pos) (mS c fun ρ => bnd (opt (getS ρ i)) fun x => bnd (ma ρ) fun r => bnd (opt (augD op x r)) fun z => ret (.nx (ρ.set i (.sh z.d)))) := by
  simp only [chkG, Bool.and_eq_true, Bool.or_eq_true, decide_eq_true_eq, locl, celd, and_true] at hx
  refine PS.weak (ps_aug G.nd hx.1 (show Loc X.env.scope x from hx.2) he (ip_all (c := c) ho) (.inl (by rw [G.hfn]))) fun Dn σ H q => ?_
  obtain ⟨F0, H0, F, ρ, t, r, t', S, e, p⟩ := q
  obtain ⟨x, e1, e⟩ := opt_bnd e
  obtain ⟨y, t1, e2, e⟩ := bnd_some e
  obtain ⟨z, e3, e⟩ := opt_bnd e
  cases e
  obtain ⟨w, ew, rw1⟩ := S.get e1
  refine ⟨w, ew, one S e2 fun u F1 H1 gr tp S1 r1 => ?_⟩
  obtain ⟨i1, j1, k1, q1, q2, rfl⟩ := augD_int e3
  exact ⟨x, y, _, F1, H, rw1.grow gr S.tp, r1, e3, fun k ek => p _ F1 H1 gr.ex (S1.setSh (by cases ek; exact .int _))⟩
theorem meth_few {e : PySem.Expr} {env : PySem.Env} {cpos : Pos} (h : noStar e = true) : ((backTo cpos (starEach [e] env)).all (fun x => !x.1) && (backToKw cpos (keywordEach [] env)).all (fun x => x.1.isSome)
      && decide ([e].length + ([] : List Keyword).length + (if ([] : List Keyword).isEmpty then 0 else 1) < 30)) = true := by
  rw [star_cons h]
  rfl
theorem name_base {i : Nat} {o : PySem.Expr} {nm : Str} (h : chkN X.N X.env.scope i o = true) : attributeBase o nm X.env (eval o X.env) = eval o X.env := by
  cases o <;> first | rfl | cases h
/-- x.append(e), x.extend(e) -/
theorem r_app (G : GoodS X c g fs) {i : Nat} {o e : PySem.Expr} {ap cp : Pos} (ho : chkN X.N X.env.scope i o = true) (he : PE X e (mE c ma)) (hs : noStar e = true) (hl : (ap.endLine == cp.line) = true) :
    PS X (.Expr (.Call (.Attribute o "append" ap) [e] [] cp) pos) (mS c fun ρ => bnd (ma ρ) fun r => bnd (opt (shared r)) fun y => bnd (opt (appD ρ i y)) fun ρ' => ret (.nx ρ')) := by
  refine PS.weak (ps_expr (pe_bm PySem.F.plainAttrs_list PySem.F.slot_list_append PySem.F.type_list_append mt_append (pe_slot ho) (pa_cons he pa_nil (star_cons hs)) (name_base ho) (meth_few hs) hl (star_cons hs) rfl) rfl) fun Dn σ H q => ?_
  obtain ⟨F0, H0, F, ρ, t, r, t', S, e, p⟩ := q
  obtain ⟨r, t1, e1, e⟩ := bnd_some e
  obtain ⟨y, e2, e⟩ := opt_bnd e
  obtain ⟨ρ', e3, e⟩ := opt_bnd e
  cases e
  unfold appD at e3
  split at e3
  · rename_i xs ei
    split at e3
    · rename_i hlt
      cases e3
      obtain ⟨a0, ws, w1, w2, w3, w4, w5, w6⟩ := S.own ei
      refine ⟨.ref a0, w1, .inl ⟨rfl, ws, .inl (.inl w2)⟩, one S e1 fun v F1 H1 gr tp S1 r1 => ?_⟩
      obtain ⟨F2, g2, tp2, r2, x2, _, k2⟩ := r1.share e2 gr tp
      have S2 := S.grow g2 tp2
      obtain ⟨a1, ws1, v1, v2, v3, v4, v5, v6⟩ := S2.own ei
      rw [w1] at v1
      cases v1
      exact ⟨a0, ws1, v, rfl, rfl, v2, by rw [v3.length, ← lim_eq]; exact hlt, p σ F2 _ g2.ex (v6 _ _ (v3.app (.one r2)))⟩
    · cases e3
  · cases e3
theorem r_ext (G : GoodS X c g fs) {i : Nat} {o e : PySem.Expr} {ap cp : Pos} (ho : chkN X.N X.env.scope i o = true) (he : PE X e (mE c ma)) (hs : noStar e = true) (hl : (ap.endLine == cp.line) = true) :
    PS X (.Expr (.Call (.Attribute o "extend" ap) [e] [] cp) pos) (mS c fun ρ => bnd (ma ρ) fun r => bnd (opt (extD ρ i r)) fun ρ' => ret (.nx ρ')) := by
  refine PS.weak (ps_expr (pe_bm PySem.F.plainAttrs_list PySem.F.slot_list_extend PySem.F.type_list_extend mt_extend (pe_slot ho) (pa_cons he pa_nil (star_cons hs)) (name_base ho) (meth_few hs) hl (star_cons hs) rfl) rfl) fun Dn σ H q => ?_
  obtain ⟨F0, H0, F, ρ, t, r, t', S, e, p⟩ := q
  obtain ⟨r, t1, e1, e⟩ := bnd_some e
  obtain ⟨ρ', e3, e⟩ := opt_bnd e
  cases e
  have hr : r.kd ≠ .ro ∧ ∃ xs ys, ρ[i]? = some (.ow (.list xs)) ∧ r.d = .list ys ∧ xs.length + ys.length ≤ lim ∧ ρ' = ρ.set i (.ow (.list (xs ++ ys))) := by
    unfold extD at e3
    split at e3
    · rename_i xs ys ei ek ed
      split at e3
      · rename_i hlt
        cases e3
        exact ⟨by rw [ek]; decide, xs, ys, ei, ed, hlt, rfl⟩
      · cases e3
    · rename_i xs ys ei ek ed
      split at e3
      · rename_i hlt
        cases e3
        exact ⟨by rw [ek]; decide, xs, ys, ei, ed, hlt, rfl⟩
      · cases e3
    · cases e3
  obtain ⟨hk, xs, ys, ei, ed, hlt, rfl⟩ := hr
  obtain ⟨a0, ws, w1, w2, w3, w4, w5, w6⟩ := S.own ei
  refine ⟨.ref a0, w1, .inl ⟨rfl, ws, .inl (.inl w2)⟩, one S e1 fun v F1 H1 gr tp S1 r1 => ?_⟩
  obtain ⟨a1, ws1, v1, v2, v3, v4, v5, v6⟩ := S1.own ei
  rw [w1] at v1
  cases v1
  obtain ⟨b, us, rfl, u2, u3⟩ := r1.lst ed hk S1.g.sub
  exact ⟨a0, b, ws1, us, rfl, rfl, v2, u2, by rw [v3.length, u3.length, ← lim_eq]; exact hlt, p σ F1 _ gr.ex (v6 _ _ (v3.app u3))⟩
theorem r_put (G : GoodS X c g fs) {i : Nat} {o k e : PySem.Expr} {p2 : Pos} (ho : chkN X.N X.env.scope i o = true) (hk : PE X k (mE c mb)) (hs : noSlice k = true) (he : PE X e (mE c ma)) :
    PS X (.Assign [.Subscript o k p2] e pos) (mS c fun ρ => bnd (ma ρ) fun r => bnd (opt (shared r)) fun y => bnd (mb ρ) fun x => bnd (opt (putD ρ i x.d y)) fun ρ' => ret (.nx ρ')) := by
  have hsw : swapsWith e (some (.Subscript o k p2)) pos.line X.env = pure false := swaps_notName rfl
  refine PS.weak (ps_asg he (pg_sub (pe_slot ho) hk (set_ld (by have := G.hu; omega)) fun v => assign_sub hs) hsw rfl) fun Dn σ H q => ?_
  obtain ⟨F0, H0, F, ρ, t, r, t', S, e, p⟩ := q
  obtain ⟨r, t1, e1, e⟩ := bnd_some e
  obtain ⟨y, e2, e⟩ := opt_bnd e
  obtain ⟨x, t2, e3, e⟩ := bnd_some e
  obtain ⟨ρ', e4, e⟩ := opt_bnd e
  cases e
  obtain ⟨d0, d1, q1, eρ⟩ := putD_ow e4
  refine one S e1 fun v F1 H1 gr tp S1 r1 => ?_
  obtain ⟨F2, g2, tp2, r2, x2, _, k2⟩ := r1.share e2 gr tp
  have S2 := S.grow g2 tp2
  obtain ⟨a0, w1, _⟩ := S2.sl i _ q1
  refine ⟨.ref a0, w1, one (Q := fun k H3 => rSetLD (.ref a0) k v H3 fun H4 => Dn.nx σ H4) S2 e3 fun u F3 H3 gr3 tp3 S3 r3 => ?_⟩
  obtain ⟨a1, o1, v1, v5, wR, S4⟩ := put_run S3 e4 r3 (r2.mono gr3.ex)
  rw [w1] at v1
  cases v1
  exact wR _ (p σ F3 _ (g2.ex.trans gr3.ex) S4)
/-- o[i], of a list or a dict -/
def rGetLD (K : PySem.W.Frag) : V → V → Hp → VK → Prop := fun o i H Q => (∃ l ws j w, o = .ref l ∧ i = .int j ∧ SqL K H l ws ∧ atI ws j = some w ∧ Q w H) ∨ ∃ a v, o = .ref a ∧ DGet H a i (some v) ∧ Q v H
theorem get_ld (hu : X.A.units + 1 < cLine) : PGet X (rGetLD X.K) := by
  intro pins s σ H o i ov iv Q I ro ri h
  rcases h with ⟨l, xs, i, z, rfl, rfl, hq, he, q⟩ | ⟨a, v, rfl, g, q⟩
  · cases ro
    obtain ⟨t, rfl⟩ := ri
    obtain ⟨its, r, pl, hz⟩ := I.list hq
    obtain ⟨j, h1, h2, h3, h4, h5⟩ := atI_get he
    obtain ⟨w, ew, rw'⟩ := r.get h2
    have hl := r.length
    have hn := line63
    have fin : EP X pins σ Q w s := ⟨z, H, I, rw', q⟩
    by_cases h0 : 0 ≤ i
    · have hj : i.toNat = j := by
        rw [seqIndex_of h0 h5] at h1
        exact Option.some.inj h1
      exact PySem.wpAny_getItem_list pl.isList h0 (by omega) (by rw [hj]; simpa using ew) fin
    · have hj : (i + (its.toArray.size : Int)).toNat = j := by
        rw [seqIndex_neg (by omega) h4] at h1
        rw [List.size_toArray, ← hl]
        exact Option.some.inj h1
      exact PySem.wpAny_getItem_list_neg pl.isList (by omega) (by rw [List.size_toArray] <;> omega) (by omega) (by rw [hj]; simpa using ew) fin
  · cases ro
    exact d_getItem hu I g ri fun w' s' I' rw' => ⟨v, H, I', rw', q⟩
theorem getP_run {i : Nat} {k : V} {z : R} (S : SR c F0 H0 F H σ ρ t) (e : getP ρ i x.d = some z) (rk : RR c Hs F H k x) : ∃ a0 w, σ[i]? = some (some (.ref a0)) ∧ z.kd = .sh ∧ Rep c F w z.d ∧ ∀ Q : VK, Q w H → rGetLD c.K (.ref a0) k H Q := by
  unfold getP at e
  split at e
  · rename_i xs j e1 ej
    obtain ⟨d, hd, rfl⟩ := Option.map_eq_some_iff.mp e
    obtain ⟨a0, ws, w1, w2, w3, w4, w5, w6⟩ := S.own e1
    obtain ⟨j', q1, q2, q3, q4⟩ := atI_get hd
    obtain ⟨w, hw, rw'⟩ := w3.get q2
    refine ⟨a0, w, w1, rfl, rw', fun Q h => .inl ⟨a0, ws, j, w, rfl, rk.int ej, .inl (.inl w2), ?_, h⟩⟩
    unfold atI at hd ⊢
    rw [w3.length]
    cases hq : ixN xs.length j with
    | none => rw [hq] at hd; cases hd
    | some j2 =>
      rw [hq] at hd
      show ws[j2]? = some w
      have : j2 = j' := by
        obtain ⟨z, _⟩ := ixN_seq hq
        rw [q1] at z
        cases z
        rfl
      rw [this]
      exact hw
  · rename_i kds e1
    obtain ⟨kk, ek, e⟩ := Option.bind_eq_some_iff.mp e
    obtain ⟨es, ee, e⟩ := Option.bind_eq_some_iff.mp e
    obtain ⟨d, hd, rfl⟩ := Option.map_eq_some_iff.mp e
    obtain ⟨a0, ws, w1, w2, w3, w4, w5, w6⟩ := S.ownD e1 ee
    obtain ⟨w, hw, rw'⟩ := (w3.val kk).1 d hd
    refine ⟨a0, w, w1, rfl, rw', fun Q h => .inr ⟨a0, w, rfl, ?_, h⟩⟩
    rw [rk.key ek, ← hw]
    exact DGet.k w2
  · cases e
theorem r_augp (G : GoodS X c g fs) {i : Nat} {op : Op} {pop : Operator} {o k e : PySem.Expr} {p2 : Pos} (ho : chkN X.N X.env.scope i o = true) (hk : PE X k (mE c mb)) (hs : noSlice k = true) (hop : ipM op pop = true) (he : PE X e (mE c ma)) :
    PS X (.AugAssign (.Subscript o k p2) pop e pos) (mS c fun ρ => bnd (mb ρ) fun j => bnd (opt (getP ρ i j.d)) fun x => bnd (ma ρ) fun r => bnd (opt (augD op x r)) fun z => bnd (opt (putD ρ i j.d z.d)) fun ρ' => ret (.nx ρ')) := by
  refine PS.weak (ps_augS (pe_slot ho) hk (get_ld (by have := G.hu; omega)) he (ip_all (c := c) hop) (set_ld (by have := G.hu; omega)) (by cases k <;> first | (intros; rfl) | cases hs)) fun Dn σ H q => ?_
  obtain ⟨F0, H0, F, ρ, t, r, t', S, e, p⟩ := q
  obtain ⟨j, t1, e1, e⟩ := bnd_some e
  obtain ⟨x, e2, e⟩ := opt_bnd e
  obtain ⟨y, t2, e3, e⟩ := bnd_some e
  obtain ⟨z, e4, e⟩ := opt_bnd e
  obtain ⟨ρ', e5, e⟩ := opt_bnd e
  cases e
  obtain ⟨d0, d1, q1, eρ⟩ := putD_ow e5
  obtain ⟨a0, w1, _⟩ := S.sl i _ q1
  refine ⟨.ref a0, w1, one S e1 fun kv F1 H1 gr tp S1 rk => ?_⟩
  obtain ⟨a1, w, v1, zk, rw', hget⟩ := getP_run S1 e2 rk
  rw [w1] at v1
  cases v1
  rw [G.hK]
  refine hget _ (one S1 e3 fun u F2 H2 gr2 tp2 S2 r2 => ?_)
  obtain ⟨i1, j1, k1, q3, q4, rfl⟩ := augD_int e4
  have rx : RR c H F2 H2 w x := by
    unfold RR
    rw [zk]
    exact rw'.mono gr2.ex
  refine ⟨x, y, _, F2, H, rx, r2.back gr.back, e4, fun kz ek => ?_⟩
  have hkz : k1 = kz := by injection ek
  subst hkz
  obtain ⟨a2, o2, v2, v5, wR, S4⟩ := put_run S2 e5 (rk.grow gr2 S1.tp) (.int _)
  rw [w1] at v2
  cases v2
  exact wR _ (p σ F2 _ (gr.ex.trans gr2.ex) S4)
theorem RepL.dropLast : ∀ {vs : List V} {ds : List D}, RepL c F vs ds → RepL c F vs.dropLast ds.dropLast := fun {vs ds} h => by
  rw [List.dropLast_eq_take, List.dropLast_eq_take, h.length]
  exact h.take _
theorem RepL.eraseIdx : ∀ {vs : List V} {ds : List D} (i : Nat), RepL c F vs ds → RepL c F (vs.eraseIdx i) (ds.eraseIdx i)
  | _, _, _, .nil => .nil
  | _, _, 0, .cons _ t => t
  | _, _, i + 1, .cons h t => .cons h (RepL.eraseIdx i t)
theorem asg_one {N : List Str} {sc : Scope} {f : Str → Bool} {tg : Tg} {pg : PySem.Expr} {env : PySem.Env} (h : chkG N sc f tg pg = true) : (assignEach [pg] env).map (·.2) = [assign pg env] := by
  cases pg <;> first | rfl | (cases tg <;> simp [chkG] at h)
theorem r_bind (G : GoodS X c g fs) {tg : Tg} {pg : PySem.Expr} {d : D} {ρ' : Env} {Qn : L2.St → Hp → Prop} {tgr : TG} (S : SR c F0 H0 F H σ ρ t) (r : Rep c F v d) (e : bind1 tg d ρ = some ρ') (k : ∀ σ', SR c F0 H0 F H σ' ρ' t → Qn σ' H) : mG c tg v σ H Qn :=
  ⟨F0, H0, F, ρ, t, d, ρ', S, r, e, fun σ' S' _ => k σ' S'⟩
theorem r_popl (G : GoodS X c g fs) {i : Nat} {tg : Tg} {pg o : PySem.Expr} {ap cp : Pos} (ho : chkN X.N X.env.scope i o = true) (hg : chkG X.N X.env.scope (fun _ => true) tg pg = true) (hl : (ap.endLine == cp.line) = true) :
    PS X (.Assign [pg] (.Call (.Attribute o "pop" ap) [] [] cp) pos) (mS c fun ρ => bnd (opt (popD ρ i)) fun p => bnd (opt (bind1 tg p.1 p.2)) fun ρ' => ret (.nx ρ')) := by
  have hG := sound_g (X := X) (c := c) G.nd tg pg G.calm G.hK (by rw [G.hfn]; exact hg)
  refine PS.weak (ps_asg (pe_bm0 PySem.F.plainAttrs_list PySem.F.slot_list_pop PySem.F.type_list_pop mt_pop (pe_slot ho) (name_base ho) hl) hG rfl (by cases pg <;> rfl) (asg_one hg)) fun Dn σ H q => ?_
  obtain ⟨F0, H0, F, ρ, t, r, t', S, e, p⟩ := q
  obtain ⟨⟨y, ρ1⟩, e1, e⟩ := opt_bnd e
  obtain ⟨ρ', e2, e⟩ := opt_bnd e
  cases e
  unfold popD at e1
  split at e1
  · rename_i xs ei
    obtain ⟨y', ey, e1⟩ := Option.map_eq_some_iff.mp e1
    cases e1
    obtain ⟨a0, ws, w1, w2, w3, w4, w5, w6⟩ := S.own ei
    obtain ⟨u, hu, ru⟩ := w3.get ey
    exact ⟨.ref a0, w1, .inl ⟨rfl, ws, .inl (.inl w2)⟩, a0, ws, u, rfl, rfl, w2, by rw [w3.length]; exact hu, r_bind (pg := pg) (tgr := mG c tg) G (w6 _ _ w3.dropLast) ru e2 fun σ' S' => p σ' F _ (Ext.refl _) S'⟩
  · cases e1
theorem r_popat (G : GoodS X c g fs) {i : Nat} {tg : Tg} {pg o k : PySem.Expr} {ap cp : Pos} (ho : chkN X.N X.env.scope i o = true) (hk : PE X k (mE c mb)) (hs : noStar k = true) (hg : chkG X.N X.env.scope (fun _ => true) tg pg = true) (hl : (ap.endLine == cp.line) = true) :
    PS X (.Assign [pg] (.Call (.Attribute o "pop" ap) [k] [] cp) pos) (mS c fun ρ => bnd (mb ρ) fun x => bnd (opt (popAtD ρ i x.d)) fun p => bnd (opt (bind1 tg p.1 p.2)) fun ρ' => ret (.nx ρ')) := by
  have hG := sound_g (X := X) (c := c) G.nd tg pg G.calm G.hK (by rw [G.hfn]; exact hg)
  refine PS.weak (ps_asg (pe_bm PySem.F.plainAttrs_list PySem.F.slot_list_pop PySem.F.type_list_pop mt_popAt (pe_slot ho) (pa_cons hk pa_nil (star_cons hs)) (name_base ho) (meth_few hs) hl (star_cons hs) rfl) hG rfl (by cases pg <;> rfl) (asg_one hg)) fun Dn σ H q => ?_
  obtain ⟨F0, H0, F, ρ, t, r, t', S, e, p⟩ := q
  obtain ⟨x, t1, e0, e⟩ := bnd_some e
  obtain ⟨⟨y, ρ1⟩, e1, e⟩ := opt_bnd e
  obtain ⟨ρ', e2, e⟩ := opt_bnd e
  cases e
  unfold popAtD at e1
  split at e1
  · rename_i xs j ei ej
    split at e1 <;> first | (cases e1; done) | skip
    rename_i hrng
    have hrng := rngB_of hrng
    obtain ⟨n, en, e1⟩ := Option.bind_eq_some_iff.mp e1
    obtain ⟨y', ey, e1⟩ := Option.map_eq_some_iff.mp e1
    cases e1
    obtain ⟨a0, ws, w1, w2, w3, w4, w5, w6⟩ := S.own ei
    refine ⟨.ref a0, w1, .inl ⟨rfl, ws, .inl (.inl w2)⟩, one S e0 fun v F1 H1 gr tp S1 r1 => ?_⟩
    obtain ⟨a1, ws1, v1, v2, v3, v4, v5, v6⟩ := S1.own ei
    rw [w1] at v1
    cases v1
    obtain ⟨u, hu, ru⟩ := v3.get ey
    obtain ⟨z1, z2, z3, z4⟩ := ixN_seq en
    refine ⟨a0, ws1, j, n, u, rfl, by rw [r1.int ej], v2, by omega, by omega, by rw [v3.length]; exact z1, hu, r_bind (pg := pg) (tgr := mG c tg) G (v6 _ _ (v3.eraseIdx n)) ru e2 fun σ' S' => p σ' F1 _ gr.ex S'⟩
  · cases e1
theorem r_exp (G : GoodS X c g fs) {e : PySem.Expr} (he : PE X e (mE c ma)) (hn : noComp e = true) : PS X (.Expr e pos) (mS c fun ρ => bnd (ma ρ) fun _ => ret (.nx ρ)) := by
  refine PS.weak (ps_expr he (swaps_no hn)) fun Dn σ H q => ?_
  obtain ⟨F0, H0, F, ρ, t, r, t', S, e, p⟩ := q
  obtain ⟨r, t1, e1, e⟩ := bnd_some e
  cases e
  exact one S e1 fun v F1 H1 gr tp S1 r1 => p σ F1 H1 gr.ex S1
theorem r_ret (G : GoodS X c g fs) {e : PySem.Expr} (he : PE X e (mE c ma)) : PS X (.Return (some e) pos) (mS c fun ρ => bnd (ma ρ) fun r => bnd (opt (backR r)) fun r => ret (.rt r)) := by
  refine PS.weak (ps_ret he) fun Dn σ H q => ?_
  obtain ⟨F0, H0, F, ρ, t, r, t', S, e, p⟩ := q
  obtain ⟨r, t1, e1, e⟩ := bnd_some e
  obtain ⟨r', e2, e⟩ := opt_bnd e
  cases e
  have er : r' = r := by
    unfold backR at e2
    split at e2 <;> first | (cases e2; rfl) | cases e2
  subst er
  exact one S e1 fun v F1 H1 gr tp S1 r1 => p v F1 H1 gr.ex S1.g tp (r1.back S.g.back)
theorem r_retv (G : GoodS X c g fs) {i : Nat} {e : PySem.Expr} (he : chkN X.N X.env.scope i e = true) : PS X (.Return (some e) pos) (mS c fun ρ => bnd (opt (retS ρ[i]?)) fun r => ret (.rt r)) := by
  refine PS.weak (ps_ret (pe_slot he)) fun Dn σ H q => ?_
  obtain ⟨F0, H0, F, ρ, t, r, t', S, e, p⟩ := q
  obtain ⟨r, e1, e⟩ := opt_bnd e
  cases e
  unfold retS at e1
  split at e1
  · rename_i d ed
    cases e1
    obtain ⟨v, ev, rv⟩ := S.sl i _ ed
    exact ⟨v, ev, p v F H (Ext.refl _) S.g S.tp rv⟩
  · rename_i d ed
    cases e1
    obtain ⟨a, ev, n, f, hT⟩ := S.sl i _ ed
    exact ⟨_, ev, p _ F H (Ext.refl _) S.g S.tp ⟨a, rfl, n, f, hT⟩⟩
  · cases e1
theorem r_retn : PS X (.Return none pos) (mS c fun ρ => ret (.rt (shd .none))) := by
  refine PS.weak ps_retN fun Dn σ H q => ?_
  obtain ⟨F0, H0, F, ρ, t, r, t', S, e, p⟩ := q
  cases e
  exact p .non F H (Ext.refl _) S.g S.tp .non
theorem r_brk : PS X (.Break pos) (mS c fun ρ => ret (.bk ρ)) := by
  refine PS.weak ps_break fun Dn σ H q => ?_
  obtain ⟨F0, H0, F, ρ, t, r, t', S, e, p⟩ := q
  cases e
  exact p σ F H (Ext.refl _) S
theorem r_cnt : PS X (.Continue pos) (mS c fun ρ => ret (.ct ρ)) := by
  refine PS.weak ps_continue fun Dn σ H q => ?_
  obtain ⟨F0, H0, F, ρ, t, r, t', S, e, p⟩ := q
  cases e
  exact p σ F H (Ext.refl _) S
theorem r_pss : PS X (.Pass pos) (mS c fun ρ => ret (.nx ρ)) := by
  refine PS.weak ps_pass fun Dn σ H q => ?_
  obtain ⟨F0, H0, F, ρ, t, r, t', S, e, p⟩ := q
  cases e
  exact p σ F H (Ext.refl _) S
variable {m1 m2 : Env → M Fl} {s1 s2 : List Stmt}
theorem rs_nil : PSs X [] (mS c fun ρ => ret (.nx ρ)) := by
  refine PSs.weak pss_nil fun Dn σ H q => ?_
  obtain ⟨F0, H0, F, ρ, t, r, t', S, e, p⟩ := q
  cases e
  exact p σ F H (Ext.refl _) S
theorem rs_cons {st : Stmt} (h1 : PS X st (mS c m1)) (h2 : PSs X s2 (mS c m2)) : PSs X (st :: s2) (mS c fun ρ => bnd (m1 ρ) fun fl => match fl with
    | .nx ρ' => m2 ρ'
    | .rt v => ret (.rt v)
    | .bk ρ' => ret (.bk ρ')
    | .ct ρ' => ret (.ct ρ')) := by
  refine PSs.weak (pss_cons h1 h2) fun Dn σ H q => ?_
  obtain ⟨F0, H0, F, ρ, t, r, t', S, e, p⟩ := q
  obtain ⟨fl, t1, e1, e⟩ := bnd_some e
  refine ⟨F0, H0, F, ρ, t, fl, t1, S, e1, ?_⟩
  cases fl with
  | nx ρ' => exact fun σ' F' H' x S' => ⟨F0, H0, F', ρ', t1, r, t', S', e, p.on x⟩
  | rt v => cases e; exact p
  | bk ρ' => cases e; exact p
  | ct ρ' => cases e; exact p
theorem rs_frz {i : Nat} (h2 : PSs X s2 (mS c m2)) : PSs X s2 (mS c fun ρ => m2 (frzE ρ i)) := by
  refine PSs.weak h2 fun Dn σ H q => ?_
  obtain ⟨F0, H0, F, ρ, t, r, t', S, e, p⟩ := q
  obtain ⟨F', x, S'⟩ := S.frz (i := i)
  exact ⟨F0, H0, F', _, t, r, t', S', e, p.on x⟩
theorem rs_kil {bs : List Bool} (h2 : PSs X s2 (mS c m2)) : PSs X s2 (mS c fun ρ => m2 (keepE ρ bs)) := by
  refine PSs.weak h2 fun Dn σ H q => ?_
  obtain ⟨F0, H0, F, ρ, t, r, t', S, e, p⟩ := q
  exact ⟨F0, H0, F, _, t, r, t', S.kil, e, p⟩
theorem r_if {e : PySem.Expr} (ht : PT X e (mT c mt)) (h1 : PSs X s1 (mS c m1)) (h2 : PSs X s2 (mS c m2)) : PS X (.If e s1 s2 pos) (mS c fun ρ => bnd (mt ρ) fun k => if k then m1 ρ else m2 ρ) := by
  refine PS.weak (ps_if ht h1 h2) fun Dn σ H q => ?_
  obtain ⟨F0, H0, F, ρ, t, r, t', S, e, p⟩ := q
  obtain ⟨k, t1, e1, e⟩ := bnd_some e
  refine oneT S e1 fun F1 H1 gr tp S1 => ?_
  cases k with
  | true =>
    rw [if_pos rfl] at e ⊢
    exact ⟨F0, H0, F1, ρ, t1, r, t', S1, e, p.on gr.ex⟩
  | false =>
    rw [if_neg (by decide)] at e ⊢
    exact ⟨F0, H0, F1, ρ, t1, r, t', S1, e, p.on gr.ex⟩
theorem r_whl (G : GoodS X c g fs) {e : PySem.Expr} (ht : PT X e (mT c mt)) (h1 : PSs X s1 (mS c m1)) : PS X (.While e s1 [] pos) (mS c fun ρ => whileM big mt m1 ρ) := by
  refine PS.weak (ps_while (by rw [G.xe]; exact PassesOwn.never) ht h1) fun Dn σ H q => ?_
  obtain ⟨F0, H0, F, ρ, t, fl, t', S, e, p⟩ := q
  refine ⟨fun m σ H => ∃ F1 ρ t, Ext F F1 ∧ SR c F0 H0 F1 H σ ρ t ∧ whileM m mt m1 ρ t = some (fl, t'), ⟨big, F, ρ, t, Ext.refl _, S, e⟩, ?_⟩
  rintro m σ H ⟨F1, ρ, t, x, S, e⟩
  cases m with
  | zero => cases e
  | succ n =>
    unfold whileM at e
    obtain ⟨k, t1, e1, e⟩ := bnd_some e
    refine oneT S e1 fun F2 H2 gr tp S2 => ?_
    cases k with
    | false =>
      rw [if_neg (by decide)] at e ⊢
      cases e
      exact p σ F2 H2 (x.trans gr.ex) S2
    | true =>
      rw [if_pos rfl] at e ⊢
      obtain ⟨f1, t2, e2, e⟩ := bnd_some e
      refine ⟨fun σ' H' => ∃ F3 ρ3 t3, Ext F F3 ∧ SR c F0 H0 F3 H' σ' ρ3 t3 ∧ whileM n mt m1 ρ3 t3 = some (fl, t'), fun σ' H' h => ⟨n, Nat.lt_succ_self _, h⟩, F0, H0, F2, ρ, t1, f1, t2, S2, e2, ?_⟩
      cases f1 with
      | nx ρ' => exact fun σ' F3 H3 x3 S3 => ⟨F3, ρ', t2, (x.trans gr.ex).trans x3, S3, e⟩
      | ct ρ' => exact fun σ' F3 H3 x3 S3 => ⟨F3, ρ', t2, (x.trans gr.ex).trans x3, S3, e⟩
      | bk ρ' => cases e; exact fun σ' F3 H3 x3 S3 => p σ' F3 H3 ((x.trans gr.ex).trans x3) S3
      | rt v => cases e; exact fun v F3 H3 x3 g3 tp3 r3 => p v F3 H3 ((x.trans gr.ex).trans x3) g3 tp3 r3
theorem forM_at {xs : List D} {body : D → Env → M Fl} {i : Nat} {d : D} (h : xs[i]? = some d) {ρ : Env} {t : Nat} {r : Fl × Nat} (e : forM (xs.drop i) body ρ t = some r) :
    ∃ fl t1, body d ρ t = some (fl, t1) ∧ (match fl with
      | .nx ρ' => forM (xs.drop (i + 1)) body ρ'
      | .ct ρ' => forM (xs.drop (i + 1)) body ρ'
      | .bk ρ' => ret (.nx ρ')
      | .rt v => ret (.rt v)) t1 = some r := by
  obtain ⟨hi, hd⟩ := List.getElem?_eq_some_iff.mp h
  rw [List.drop_eq_getElem_cons hi, hd] at e
  unfold forM at e
  exact bnd_some e
theorem for_w {tg : Tg} {mi : Env → M (Bool × List D)} {m1 : Env → M Fl} (Dn : Ends) (σ : L2.St) (H : Hp)
    (q : mS c (fun ρ => bnd (mi ρ) fun xs => if xs.1 = false then fail else forM xs.2 (fun d ρ => bnd (opt (bind1 tg d ρ)) fun ρ' => m1 ρ') ρ) Dn σ H) : tFor (mI c mi) (mG c tg) (mS c m1) Dn σ H := by
  obtain ⟨F0, H0, F, ρ, t, fl, t', S, e, p⟩ := q
  obtain ⟨xs, t1, e1, e⟩ := bnd_some e
  split at e
  · cases e
  · rename_i hsf
    have hsf : xs.1 = true := by
      cases q : xs.1 with
      | true => rfl
      | false => exact absurd q hsf
    refine ⟨F0, H0, F, ρ, t, xs, t1, S, e1, fun J F1 H1 gr tp it => ?_⟩
    refine ⟨fun i m σ H => m = xs.2.length - i ∧ i ≤ xs.2.length ∧ ∃ F2 ρ t, Ext F1 F2 ∧ SR c F0 H0 F2 H σ ρ t ∧ forM (xs.2.drop i) (fun d ρ => bnd (opt (bind1 tg d ρ)) fun ρ' => m1 ρ') ρ t = some (fl, t'), ⟨xs.2.length, rfl, Nat.zero_le _, F1, ρ, t1, Ext.refl _, S.grow gr tp, e⟩, ?_⟩
    rintro i m σ H ⟨rfl, hi, F2, ρ, t, x2, S2, e2⟩
    have at_ := it.far hsf F2 H x2 S2.g.sub i
    by_cases hlt : i < xs.2.length
    · have hd := List.getElem?_eq_getElem hlt
      obtain ⟨hgo, hy⟩ := at_.1 _ hd
      obtain ⟨f1, t3, e3, e4⟩ := forM_at hd e2
      refine .inr ⟨hgo, fun σ' H' => ∃ F3 ρ3 t3, Ext F1 F3 ∧ SR c F0 H0 F3 H' σ' ρ3 t3 ∧ forM (xs.2.drop (i + 1)) (fun d ρ => bnd (opt (bind1 tg d ρ)) fun ρ' => m1 ρ') ρ3 t3 = some (fl, t'), fun σ' H' h => ⟨xs.2.length - (i + 1), by omega, rfl, hlt, h⟩, fun v H3 hv => ?_⟩
      obtain ⟨F3, g3, tp3, r3⟩ := (hy v H3 hv).rep S2.g.sub S2.tp
      obtain ⟨ρ2, q4, q5⟩ := opt_bnd e3
      refine ⟨F0, H0, F3, ρ, t, _, ρ2, S2.grow g3 tp3, r3, q4, fun σ2 S3 o2 => ⟨F0, H0, F3, ρ2, t, f1, t3, S3, q5, ?_⟩⟩
      have x3 := x2.trans g3.ex
      cases f1 with
      | nx ρ' => exact fun σ' F4 H4 x4 S4 => ⟨F4, ρ', t3, x3.trans x4, S4, e4⟩
      | ct ρ' => exact fun σ' F4 H4 x4 S4 => ⟨F4, ρ', t3, x3.trans x4, S4, e4⟩
      | bk ρ' => cases e4; exact fun σ' F4 H4 x4 S4 => p σ' F4 H4 (gr.ex.trans (x3.trans x4)) S4
      | rt v => cases e4; exact fun v F4 H4 x4 g4 tp4 r4 => p v F4 H4 (gr.ex.trans (x3.trans x4)) g4 tp4 r4
    · have e5 : i = xs.2.length := by omega
      subst e5
      rw [List.drop_length] at e2
      have e2 : some (Fl.nx ρ, t) = some (fl, t') := e2
      cases e2
      exact .inl ⟨at_.2 (Nat.le_refl _), p σ F2 H (gr.ex.trans x2) S2⟩
theorem SR.ul {F0 H0 F H F2 H2 : Hp} {a : Addr} {kvs : List (Key × V)} {od : Obj} {σ' : L2.St} {ρ ρ' : Env} {t t' : Nat} (S2 : SR c (lkH a kvs od F0) (lkH a kvs od H0) F2 H2 σ' ρ' t') (S : SR c F0 H0 F H σ ρ t) (h : F a = some (.dK kvs)) (ne : c.aw ≠ some a) (f2 : F2 a = some (.frz od (.dK kvs))) :
    SR c F0 H0 (ulH a kvs F2) (ulH a kvs H2) σ' ρ' t' := by
  have hH := S.g.sub _ _ h
  have hH2 := S2.g.sub _ _ f2
  have hF0 : F0 a = some (.dK kvs) ∨ F0 a = none := by
    cases q : F0 a with
    | none => exact .inr rfl
    | some o => exact .inl (by rw [← h, S.g.ex _ _ q])
  have hH0 : H0 a = some (.dK kvs) ∨ H0 a = none := by
    cases q : H0 a with
    | none => exact .inr rfl
    | some o => exact .inl (by rw [← hH, S.g.hx _ _ ne q])
  refine ⟨S2.g.ul hF0 hH0 f2 fun z => S.g.nw a z (by rw [h]; simp), S2.tp.ul f2 ne, S2.len, fun i s e => ?_, S2.ap⟩
  have k := S2.sl i s e
  cases s with
  | un => trivial
  | sh d =>
    obtain ⟨v, e, r⟩ := k
    exact ⟨v, e, r.near (near_ul f2)⟩
  | ow d =>
    obtain ⟨b, e, n, f, r⟩ := k
    have z : b ≠ a := fun z => by rw [z, f2] at f; cases f
    exact ⟨b, e, lk_none.mp n, by rw [ulH, upd_ne z]; exact f, r.lk (near_ul f2) (by rw [ulH, upd_ne z])⟩
  | ro d =>
    obtain ⟨b, vs, ds, e, e2, q, r⟩ := k
    refine ⟨b, vs, ds, e, e2, ?_, r.near (near_ul f2)⟩
    rcases q with ⟨ob, q⟩ | q
    · have z : b ≠ a := fun z => by rw [z, hH2] at q; cases q
      exact .inl ⟨ob, by rw [ulH, upd_ne z]; exact q⟩
    · exact .inr q
theorem r_for (G : GoodS X c g fs) {tg : Tg} {pg pi : PySem.Expr} {mi : Env → M (Bool × List D)} (hi : PI X pg pi (mI c mi)) (hg : chkG X.N X.env.scope (fun _ => true) tg pg = true) (hs : noSet pi = true) (h1 : PSs X s1 (mS c m1)) :
    PS X (.For pg pi s1 [] pos) (mS c fun ρ => bnd (mi ρ) fun xs => if xs.1 = false then fail else forM xs.2 (fun d ρ => bnd (opt (bind1 tg d ρ)) fun ρ' => m1 ρ') ρ) := by
  have hG := sound_g (X := X) (c := c) G.nd tg pg G.calm G.hK (by rw [G.hfn]; exact hg)
  exact PS.weak (ps_for (by rw [G.xe]; exact PassesOwn.never) G.calm hi hG h1 (fun x => set_plain _ x hs)) for_w
theorem r_frd (G : GoodS X c g fs) {tg : Tg} {pg pi : PySem.Expr} {i : Nat} (hi : chkN X.N X.env.scope i pi = true) (hg : chkG X.N X.env.scope (fun _ => true) tg pg = true) (hs : noSet pi = true) (h1 : PSs X s1 (mS c m1)) :
    PS X (.For pg pi s1 [] pos) (mS c fun ρ => bnd (opt (keysI ρ i)) fun xs => if xs.1 = false then fail else forM xs.2 (fun d ρ => bnd (opt (bind1 tg d ρ)) fun ρ' => m1 ρ') ρ) := by
  have hG := sound_g (X := X) (c := c) G.nd tg pg G.calm G.hK (by rw [G.hfn]; exact hg)
  have h0 := ps_for (pos := pos) (by rw [G.xe]; exact PassesOwn.never) G.calm (pi_lk (c := c) (tg := pg) hi) hG h1 (fun x => set_plain _ x hs)
  refine PS.weak (PS.or (ps_lock h0) h0) fun Dn σ H q => ?_
  have q0 := q
  obtain ⟨F0, H0, F, ρ, t, fl, t', S, e, p⟩ := q
  obtain ⟨xs, t1, e1, e2⟩ := bnd_some e
  obtain ⟨e1', rfl⟩ := opt_some e1
  obtain ⟨b, kvs, hb, ne, hF | ⟨od, hF⟩⟩ := dict_at S e1'
  · have hH := S.g.sub _ _ hF
    refine .inl ⟨b, .dK kvs, hH, trivial, fun od => ?_⟩
    rw [← lk_upd (by rw [hH]; simp)]
    have hl : LkAt i σ (lkH b kvs od H) := ⟨b, kvs, od, hb, lk_at (by rw [hH]; simp)⟩
    have ext : ∀ F2, Ext (lkH b kvs od F) F2 → Ext F (ulH b kvs F2) := fun F2 x d o w => by
      by_cases z : d = b
      · subst z
        rw [ulH, upd_same, ← hF, w]
      · rw [ulH, upd_ne z]
        exact x _ _ (by rw [lk_ne z]; exact w)
    have at2 : ∀ F2, Ext (lkH b kvs od F) F2 → F2 b = some (.frz od (.dK kvs)) := fun F2 x => x _ _ (lk_at (by rw [hF]; simp))
    have key := for_w (c := c) (mi := fun ρ => opt (keysI ρ i)) (tg := tg) (m1 := m1) ⟨fun σ' H' => H' b = some (.frz od (.dK kvs)) ∧ Dn.nx σ' (upd H' b (.dK kvs)), fun v H' => H' b = some (.frz od (.dK kvs)) ∧ Dn.rt v (upd H' b (.dK kvs)), fun σ' H' => H' b = some (.frz od (.dK kvs)) ∧ Dn.bk σ' (upd H' b (.dK kvs)), fun σ' H' => H' b = some (.frz od (.dK kvs)) ∧ Dn.ct σ' (upd H' b (.dK kvs))⟩ σ (lkH b kvs od H) ⟨_, _, _, ρ, _, fl, t', S.lk hF ne, e, by
      cases fl with
      | nx ρ' => exact fun σ' F2 H2 x2 S2 => ⟨S2.g.sub _ _ (at2 F2 x2), p σ' _ _ (ext F2 x2) (S2.ul S hF ne (at2 F2 x2))⟩
      | bk ρ' => exact fun σ' F2 H2 x2 S2 => ⟨S2.g.sub _ _ (at2 F2 x2), p σ' _ _ (ext F2 x2) (S2.ul S hF ne (at2 F2 x2))⟩
      | ct ρ' => exact fun σ' F2 H2 x2 S2 => ⟨S2.g.sub _ _ (at2 F2 x2), p σ' _ _ (ext F2 x2) (S2.ul S hF ne (at2 F2 x2))⟩
      | rt r =>
        intro v F2 H2 x2 g2 tp2 rr
        have f2 := at2 F2 x2
        have hF0 : F0 b = some (.dK kvs) ∨ F0 b = none := by
          cases q : F0 b with
          | none => exact .inr rfl
          | some o => exact .inl (by rw [← hF, S.g.ex _ _ q])
        have hH0 : H0 b = some (.dK kvs) ∨ H0 b = none := by
          cases q : H0 b with
          | none => exact .inr rfl
          | some o => exact .inl (by rw [← hH, S.g.hx _ _ ne q])
        exact ⟨g2.sub _ _ f2, p v _ _ (ext F2 x2) (g2.ul hF0 hH0 f2 fun z => S.g.nw b z (by rw [hF]; simp)) (tp2.ul f2 ne) (rr.ul f2 g2.sub)⟩⟩
    exact ⟨hl, key⟩
  · exact .inr ⟨⟨b, kvs, od, hb, S.g.sub _ _ hF⟩, for_w Dn σ H q0⟩
end
end Q
namespace Q
open PySem PySem.Spec PyProof.Rows L2 RZ
section
variable {fs N : List Str} {sc : Scope} {py : PySem.Stmt}
theorem inv_asg {tg : Tg} {e : E} (h : chkS fs N sc (.asg tg e) py = true) : ∃ gg x p, py = .Assign [gg] x p ∧ chkG N sc (fun _ => true) tg gg = true ∧ chkE fs N sc e x = true ∧ (isNm gg || !isTup x) = true ∧ (notLcd e || !lcOwn sc gg x) = true := by
  unfold chkS at h
  split at h <;> rename_i q <;> first | (cases h; done) | (cases q; done) | skip
  injection q with q1 q2
  subst q1 q2
  simp only [Bool.and_eq_true, decide_eq_true_eq] at h
  obtain ⟨⟨⟨h1, h2⟩, h3⟩, h4⟩ := h
  exact ⟨_, _, _, rfl, h1, h2, h3, h4⟩

theorem inv_par {ts : List Tt} {es : EL} (h : chkS fs N sc (.par ts es) py = true) : ∃ gs k p1 xs k2 p2 p, py = .Assign [.Tuple gs k p1] (.Tuple xs k2 p2) p ∧ chkTt fs N sc ts gs = true ∧ chkL fs N sc es xs = true ∧ parN sc gs xs = true ∧ fewT gs = true := by
  unfold chkS at h
  split at h <;> rename_i q <;> first | (cases h; done) | (cases q; done) | skip
  injection q with q1 q2
  subst q1 q2
  simp only [Bool.and_eq_true, decide_eq_true_eq] at h
  obtain ⟨⟨⟨h1, h2⟩, h3⟩, h4⟩ := h
  exact ⟨_, _, _, _, _, _, _, rfl, h1, h2, h3, h4⟩

theorem inv_aug {i : Nat} {op : Op} {e : E} (h : chkS fs N sc (.aug i op e) py = true) : ∃ x p1 q y p, py = .AugAssign (.Name x p1) q y p ∧ chkG N sc (fun _ => true) (.nm i) (.Name x p1) = true ∧ ipM op q = true ∧ chkE fs N sc e y = true := by
  unfold chkS at h
  split at h <;> rename_i q <;> first | (cases h; done) | (cases q; done) | skip
  injection q with q1 q2 q3
  subst q1 q2 q3
  simp only [Bool.and_eq_true, decide_eq_true_eq] at h
  obtain ⟨⟨h1, h2⟩, h3⟩ := h
  exact ⟨_, _, _, _, _, rfl, h1, h2, h3⟩

theorem inv_app {i : Nat} {e : E} (h : chkS fs N sc (.app i e) py = true) : ∃ x m ap y cp p, py = .Expr (.Call (.Attribute x m ap) [y] [] cp) p ∧ m = ("append" : Str) ∧ chkN N sc i x = true ∧ chkE fs N sc e y = true ∧ noStar y = true ∧ (ap.endLine == cp.line) = true := by
  unfold chkS at h
  split at h <;> rename_i q <;> first | (cases h; done) | (cases q; done) | skip
  injection q with q1 q2
  subst q1 q2
  simp only [Bool.and_eq_true, decide_eq_true_eq] at h
  obtain ⟨⟨⟨⟨h1, h2⟩, h3⟩, h4⟩, h5⟩ := h
  exact ⟨_, _, _, _, _, _, rfl, h1, h2, h3, h4, h5⟩

theorem inv_ext {i : Nat} {e : E} (h : chkS fs N sc (.ext i e) py = true) : ∃ x m ap y cp p, py = .Expr (.Call (.Attribute x m ap) [y] [] cp) p ∧ m = ("extend" : Str) ∧ chkN N sc i x = true ∧ chkE fs N sc e y = true ∧ noStar y = true ∧ (ap.endLine == cp.line) = true := by
  unfold chkS at h
  split at h <;> rename_i q <;> first | (cases h; done) | (cases q; done) | skip
  injection q with q1 q2
  subst q1 q2
  simp only [Bool.and_eq_true, decide_eq_true_eq] at h
  obtain ⟨⟨⟨⟨h1, h2⟩, h3⟩, h4⟩, h5⟩ := h
  exact ⟨_, _, _, _, _, _, rfl, h1, h2, h3, h4, h5⟩

theorem inv_augp {i : Nat} {op : Op} {k e : E} (h : chkS fs N sc (.augp i op k e) py = true) : ∃ x y p1 q z p, py = .AugAssign (.Subscript x y p1) q z p ∧ chkN N sc i x = true ∧ chkE fs N sc k y = true ∧ noSlice y = true ∧ ipM op q = true ∧ chkE fs N sc e z = true := by
  unfold chkS at h
  split at h <;> rename_i q <;> first | (cases h; done) | (cases q; done) | skip
  injection q with q1 q2 q3 q4
  subst q1 q2 q3 q4
  simp only [Bool.and_eq_true, decide_eq_true_eq] at h
  obtain ⟨⟨⟨⟨h1, h2⟩, h3⟩, h4⟩, h5⟩ := h
  exact ⟨_, _, _, _, _, _, rfl, h1, h2, h3, h4, h5⟩

theorem inv_put {i : Nat} {k e : E} (h : chkS fs N sc (.put i k e) py = true) : ∃ x y p1 z p, py = .Assign [.Subscript x y p1] z p ∧ chkN N sc i x = true ∧ chkE fs N sc k y = true ∧ noSlice y = true ∧ chkE fs N sc e z = true := by
  unfold chkS at h
  split at h <;> rename_i q <;> first | (cases h; done) | (cases q; done) | skip
  injection q with q1 q2 q3
  subst q1 q2 q3
  simp only [Bool.and_eq_true, decide_eq_true_eq] at h
  obtain ⟨⟨⟨h1, h2⟩, h3⟩, h4⟩ := h
  exact ⟨_, _, _, _, _, rfl, h1, h2, h3, h4⟩

theorem inv_popl {tg : Tg} {i : Nat} (h : chkS fs N sc (.popl tg i) py = true) : ∃ gg x m ap cp p, py = .Assign [gg] (.Call (.Attribute x m ap) [] [] cp) p ∧ m = ("pop" : Str) ∧ chkN N sc i x = true ∧ chkG N sc (fun _ => true) tg gg = true ∧ (ap.endLine == cp.line) = true := by
  unfold chkS at h
  split at h <;> rename_i q <;> first | (cases h; done) | (cases q; done) | skip
  injection q with q1 q2
  subst q1 q2
  simp only [Bool.and_eq_true, decide_eq_true_eq] at h
  obtain ⟨⟨⟨h1, h2⟩, h3⟩, h4⟩ := h
  exact ⟨_, _, _, _, _, _, rfl, h1, h2, h3, h4⟩

theorem inv_popat {tg : Tg} {i : Nat} {k : E} (h : chkS fs N sc (.popat tg i k) py = true) : ∃ gg x m ap y cp p, py = .Assign [gg] (.Call (.Attribute x m ap) [y] [] cp) p ∧ m = ("pop" : Str) ∧ chkN N sc i x = true ∧ chkE fs N sc k y = true ∧ noStar y = true ∧ chkG N sc (fun _ => true) tg gg = true ∧ (ap.endLine == cp.line) = true := by
  unfold chkS at h
  split at h <;> rename_i q <;> first | (cases h; done) | (cases q; done) | skip
  injection q with q1 q2 q3
  subst q1 q2 q3
  simp only [Bool.and_eq_true, decide_eq_true_eq] at h
  obtain ⟨⟨⟨⟨⟨h1, h2⟩, h3⟩, h4⟩, h5⟩, h6⟩ := h
  exact ⟨_, _, _, _, _, _, _, rfl, h1, h2, h3, h4, h5, h6⟩

theorem inv_exp {e : E} (h : chkS fs N sc (.exp e) py = true) : ∃ x p, py = .Expr x p ∧ chkE fs N sc e x = true ∧ noComp x = true := by
  unfold chkS at h
  split at h <;> rename_i q <;> first | (cases h; done) | (cases q; done) | skip
  injection q with q1
  subst q1
  simp only [Bool.and_eq_true, decide_eq_true_eq] at h
  obtain ⟨h1, h2⟩ := h
  exact ⟨_, _, rfl, h1, h2⟩

theorem inv_ret {e : E} (h : chkS fs N sc (.ret e) py = true) : ∃ x p, py = .Return (some x) p ∧ chkE fs N sc e x = true := by
  unfold chkS at h
  split at h <;> rename_i q <;> first | (cases h; done) | (cases q; done) | skip
  injection q with q1
  subst q1
  have h1 := h
  exact ⟨_, _, rfl, h1⟩

theorem inv_retv {i : Nat} (h : chkS fs N sc (.retv i) py = true) : ∃ x p, py = .Return (some x) p ∧ chkN N sc i x = true := by
  unfold chkS at h
  split at h <;> rename_i q <;> first | (cases h; done) | (cases q; done) | skip
  injection q with q1
  subst q1
  have h1 := h
  exact ⟨_, _, rfl, h1⟩

theorem inv_sif {t : T} {a b : SS} (h : chkS fs N sc (.ite t a b) py = true) : ∃ x y z p, py = .If x y z p ∧ chkT fs N sc t x = true ∧ chkSs fs N sc a y = true ∧ chkSs fs N sc b z = true := by
  unfold chkS at h
  split at h <;> rename_i q <;> first | (cases h; done) | (cases q; done) | skip
  injection q with q1 q2 q3
  subst q1 q2 q3
  simp only [Bool.and_eq_true, decide_eq_true_eq] at h
  obtain ⟨⟨h1, h2⟩, h3⟩ := h
  exact ⟨_, _, _, _, rfl, h1, h2, h3⟩

theorem inv_whl {t : T} {b : SS} (h : chkS fs N sc (.whl t b) py = true) : ∃ x y p, py = .While x y [] p ∧ chkT fs N sc t x = true ∧ chkSs fs N sc b y = true := by
  unfold chkS at h
  split at h <;> rename_i q <;> first | (cases h; done) | (cases q; done) | skip
  injection q with q1 q2
  subst q1 q2
  simp only [Bool.and_eq_true, decide_eq_true_eq] at h
  obtain ⟨h1, h2⟩ := h
  exact ⟨_, _, _, rfl, h1, h2⟩

theorem inv_frr {tg : Tg} {it : It} {b : SS} (h : chkS fs N sc (.frr tg it b) py = true) : ∃ gg i y p, py = .For gg i y [] p ∧ chkG N sc (fun _ => true) tg gg = true ∧ chkI fs N sc it gg i = true ∧ noSet i = true ∧ chkSs fs N sc b y = true := by
  unfold chkS at h
  split at h <;> rename_i q <;> first | (cases h; done) | (cases q; done) | skip
  injection q with q1 q2 q3
  subst q1 q2 q3
  simp only [Bool.and_eq_true, decide_eq_true_eq] at h
  obtain ⟨⟨⟨h1, h2⟩, h3⟩, h4⟩ := h
  exact ⟨_, _, _, _, rfl, h1, h2, h3, h4⟩
theorem inv_frd {tg : Tg} {j : Nat} {b : SS} (h : chkS fs N sc (.frd tg j b) py = true) : ∃ gg i y p, py = .For gg i y [] p ∧ chkG N sc (fun _ => true) tg gg = true ∧ chkN N sc j i = true ∧ noSet i = true ∧ chkSs fs N sc b y = true := by
  unfold chkS at h
  split at h <;> rename_i q <;> first | (cases h; done) | (cases q; done) | skip
  injection q with q1 q2 q3
  subst q1 q2 q3
  simp only [Bool.and_eq_true, decide_eq_true_eq] at h
  obtain ⟨⟨⟨h1, h2⟩, h3⟩, h4⟩ := h
  exact ⟨_, _, _, _, rfl, h1, h2, h3, h4⟩
theorem inv_retn (h : chkS fs N sc .retn py = true) : ∃ p, py = .Return none p := by
  unfold chkS at h
  split at h <;> rename_i q <;> first | (cases h; done) | (cases q; done) | skip
  exact ⟨_, rfl⟩
theorem inv_brk (h : chkS fs N sc .brk py = true) : ∃ p, py = .Break p := by
  unfold chkS at h
  split at h <;> rename_i q <;> first | (cases h; done) | (cases q; done) | skip
  exact ⟨_, rfl⟩
theorem inv_cnt (h : chkS fs N sc .cnt py = true) : ∃ p, py = .Continue p := by
  unfold chkS at h
  split at h <;> rename_i q <;> first | (cases h; done) | (cases q; done) | skip
  exact ⟨_, rfl⟩
theorem inv_pss (h : chkS fs N sc .pss py = true) : ∃ p, py = .Pass p := by
  unfold chkS at h
  split at h <;> rename_i q <;> first | (cases h; done) | (cases q; done) | skip
  exact ⟨_, rfl⟩
/-- only these comprehensions are read -/
theorem chkE_comp {e : E} {x : PySem.Expr} (h : chkE fs N sc e x = true) : noComp x = true ∨ (∃ vs elt tg j cond y gg i ifs sc2 p, e = .lcd vs elt tg j cond ∧ x = .ListComp y [⟨gg, i, ifs, 0⟩] sc2 p) ∨ (∃ vs elt tg it cond y gg i ifs sc2 p, e = .lc vs elt tg it cond ∧ x = .ListComp y [⟨gg, i, ifs, 0⟩] sc2 p) ∨
    ∃ vs vs1 elt tg it cond tg1 it1 cond1 y gg i ifs g1 i1 ifs1 sc2 p, e = .lc2 vs vs1 elt tg it cond tg1 it1 cond1 ∧ x = .ListComp y [⟨gg, i, ifs, 0⟩, ⟨g1, i1, ifs1, 0⟩] sc2 p := by
  cases x <;> first | exact .inl rfl | skip
  all_goals (cases e <;> first | (simp [chkE, chkN, noComp] at h; done) | skip)
  · obtain ⟨_, _, _, _, _, _, e1, _⟩ := inv_lc h
    exact .inr (.inr (.inl ⟨_, _, _, _, _, _, _, _, _, _, _, rfl, e1⟩))
  · obtain ⟨_, _, _, _, _, _, e1, _⟩ := inv_lcd h
    exact .inr (.inl ⟨_, _, _, _, _, _, _, _, _, _, _, rfl, e1⟩)
  · obtain ⟨_, _, _, _, _, _, _, _, _, e1, _⟩ := inv_lc2 h
    exact .inr (.inr (.inr ⟨_, _, _, _, _, _, _, _, _, _, _, _, _, _, _, _, _, _, rfl, e1⟩))
end
section
variable {X : Cx} {c : Pm} {g : Gl} {fs : List Str}
theorem swaps_lc {elt : PySem.Expr} {gs : List Comprehension} {sc2 : Scope} {q p : Pos} {x : Str} {l : Nat} {env : PySem.Env} (hb : env.blockKind = .function) : swapsWith (.ListComp elt gs sc2 q) (some (.Name x p)) l env = pure (lcOwn env.scope (.Name x p) (.ListComp elt gs sc2 q)) := by
  unfold swapsWith lcOwn locl
  simp only [hb, Expr.pos, PySem.Env.kindOf]
  have e1 : (ScopeKind.function == ScopeKind.function) = true := rfl
  rw [e1, Bool.true_and]
  congr 3
  cases q : env.scope.names.lookup x with
  | none => rfl
  | some k => cases k <;> rfl
theorem sound_asg (G : GoodS X c g fs) {tg : Tg} {e : E} {gg x : PySem.Expr} {p : Pos} (h1 : chkG X.N X.env.scope (fun _ => true) tg gg = true) (h2 : chkE fs X.N X.env.scope e x = true) (h3 : (isNm gg || !isTup x) = true) (h5 : (notLcd e || !lcOwn X.env.scope gg x) = true) :
    PS X (.Assign [gg] x p) (mS c fun ρ => bnd (ev g e ρ) fun r => bnd (opt (store tg r ρ)) fun ρ' => ret (.nx ρ')) := by
  by_cases hsw : lcOwn X.env.scope gg x = true
  · cases gg <;> first | (simp [lcOwn] at hsw; done) | skip
    rename_i y py
    cases tg with
    | tp ts => simp [chkG] at h1
    | nm i =>
      simp only [chkG, Bool.and_eq_true, decide_eq_true_eq] at h1
      rcases chkE_comp h2 with hn | ⟨vs, elt, tg, j, cond, z, g1, i1, ifs, sc2, p2, rfl, rfl⟩ | ⟨vs, elt, tg, it, cond, z, g1, i1, ifs, sc2, p2, rfl, rfl⟩ | ⟨vs, vs1, elt, tg, it, cond, tg1, it1, cond1, z, g0, i0, ifs, g1, i1, ifs1, sc2, p2, rfl, rfl⟩
      · cases x <;> first | (simp [lcOwn] at hsw; done) | cases hn
      · rw [hsw] at h5
        cases h5
      · have hyl : X.env.scope.names.lookup y = some .local := by
          simp only [lcOwn, Bool.and_eq_true, locl, decide_eq_true_eq] at hsw
          exact hsw.1.1
        obtain ⟨_, _, _, _, _, _, e1, q1, q2, q3, q4, q5, q6, q7⟩ := inv_lc h2
        cases e1
        exact r_asgLc G (fun hy hyl => ps_setLc G.calm G.nd hy hyl (by rw [swaps_lc (block_fn G), hsw]) (sound_i it X _ _ G.toGood q2) (blkOk_by q1)
          (fun s H C cl fp => sound_g (X := X.blk s H sc2 (compEnvC sc2 cl C X.env) fp) G.nd tg _ G.calm G.hK q4) (fun s H C cl fp => sound_to cond _ _ (G.toGood.blk s H sc2 _ fp) q6) (fun s H C cl fp => sound_e elt _ _ (G.toGood.blk s H sc2 _ fp) q7) fun x => set_plain _ x q3)
          (fun σ H Q q => by rw [own_snd]; exact lc_w q5 σ H Q q) h1.1 hyl
      · have hyl : X.env.scope.names.lookup y = some .local := by
          simp only [lcOwn, Bool.and_eq_true, locl, decide_eq_true_eq] at hsw
          exact hsw.1.1
        obtain ⟨_, _, _, _, _, _, _, _, _, e1, q1, q2, q3, q4, q5, q6, q7, q8, q9, q10, q11, q12, q13⟩ := inv_lc2 h2
        cases e1
        refine PS.weak (ps_setLc2 (vs1 := vs1) G.calm G.nd h1.1 hyl (by rw [swaps_lc (block_fn G), hsw]) (sound_i it X _ _ G.toGood q2) (blkOk_by q1) (by rw [own_snd]; exact subL_of q11)
          (fun s H C cl fp => sound_g (X := X.blk s H sc2 (compEnvC sc2 cl C X.env) fp) G.nd tg _ G.calm G.hK q4) (fun s H C cl fp => sound_to cond _ _ (G.toGood.blk s H sc2 _ fp) q6)
          (fun s H C cl fp => sound_i it1 _ _ _ (G.toGood.blk s H sc2 _ fp) q7) (fun s H C cl fp => sound_g (X := X.blk s H sc2 (compEnvC sc2 cl C X.env) fp) G.nd tg1 _ G.calm G.hK q9)
          (fun s H C cl fp => sound_to cond1 _ _ (G.toGood.blk s H sc2 _ fp) q12) (fun s H C cl fp => sound_e elt _ _ (G.toGood.blk s H sc2 _ fp) q13) (fun x => set_plain _ x q3) fun env x => set_plain env x q8) fun Dn σ H q => ?_
        obtain ⟨F0, H0, F, ρ, t, r, t', S, e, pp⟩ := q
        obtain ⟨x, t1, e1, e⟩ := bnd_some e
        obtain ⟨ρ', e2, e⟩ := opt_bnd e
        cases e
        rw [own_snd]
        exact lc2_w q5 q10 _ _ _ (one S e1 fun v F1 H1 gr tp S1 r1 => pp _ F1 H1 gr.ex (S1.setR r1 (fun a n => S.g.back a n) (S.older S1 r1) e2))
  · refine r_asg G h1 (sound_e e X x G.toGood h2) h3 ?_
    rcases chkE_comp h2 with hn | ⟨vs, elt, tg', j, cond, z, g1, i1, ifs, sc2, p2, rfl, rfl⟩ | ⟨vs, elt, tg', it, cond, z, g1, i1, ifs, sc2, p2, rfl, rfl⟩ | ⟨vs, vs1, elt, tg', it, cond, tg1, it1, cond1, z, g0, i0, ifs, g1, i1, ifs1, sc2, p2, rfl, rfl⟩
    · exact swaps_no hn
    · cases hnm : isNm gg with
      | false => exact swaps_notName hnm
      | true =>
        cases gg <;> first | cases hnm | skip
        rw [swaps_lc (block_fn G)]
        cases q : lcOwn X.env.scope _ _ with
        | true => exact absurd q hsw
        | false => rfl
    · cases hnm : isNm gg with
      | false => exact swaps_notName hnm
      | true =>
        cases gg <;> first | cases hnm | skip
        rw [swaps_lc (block_fn G)]
        cases q : lcOwn X.env.scope _ _ with
        | true => exact absurd q hsw
        | false => rfl
    · cases hnm : isNm gg with
      | false => exact swaps_notName hnm
      | true =>
        cases gg <;> first | cases hnm | skip
        rw [swaps_lc (block_fn G)]
        cases q : lcOwn X.env.scope _ _ with
        | true => exact absurd q hsw
        | false => rfl
mutual
theorem sound_s (G : GoodS X c g fs) : ∀ (s : S) (py : Stmt), chkS fs X.N X.env.scope s py = true → PS X py (mS c fun ρ => exec g s ρ)
  | .asg tg e, py, h => by
    obtain ⟨gg, x, p, rfl, h1, h2, h3, h5⟩ := inv_asg h
    exact sound_asg G h1 h2 h3 h5
  | .par ts es, py, h => by
    obtain ⟨gs, k, p1, xs, k2, p2, p, rfl, h1, h2, h3, h4⟩ := inv_par h
    exact r_par G h1 (sound_l es X xs G.toGood h2) (chkL_star h2) h3 h4
  | .aug i op e, py, h => by
    obtain ⟨x, p1, q, y, p, rfl, h1, h2, h3⟩ := inv_aug h
    exact r_aug G h1 h2 (sound_e e X y G.toGood h3)
  | .augp i op k e, py, h => by
    obtain ⟨x, y, p1, q, z, p, rfl, h1, h2, h3, h4, h5⟩ := inv_augp h
    exact r_augp G h1 (sound_e k X y G.toGood h2) h3 h4 (sound_e e X z G.toGood h5)
  | .app i e, py, h => by
    obtain ⟨x, m, ap, y, cp, p, rfl, rfl, h2, h3, h4, h5⟩ := inv_app h
    exact r_app G h2 (sound_e e X y G.toGood h3) h4 h5
  | .ext i e, py, h => by
    obtain ⟨x, m, ap, y, cp, p, rfl, rfl, h2, h3, h4, h5⟩ := inv_ext h
    exact r_ext G h2 (sound_e e X y G.toGood h3) h4 h5
  | .put i k e, py, h => by
    obtain ⟨x, y, p1, z, p, rfl, h1, h2, h3, h4⟩ := inv_put h
    exact r_put G h1 (sound_e k X y G.toGood h2) h3 (sound_e e X z G.toGood h4)
  | .popl tg i, py, h => by
    obtain ⟨gg, x, m, ap, cp, p, rfl, rfl, h2, h3, h4⟩ := inv_popl h
    exact r_popl G h2 h3 h4
  | .popat tg i k, py, h => by
    obtain ⟨gg, x, m, ap, y, cp, p, rfl, rfl, h2, h3, h4, h5, h6⟩ := inv_popat h
    exact r_popat G h2 (sound_e k X y G.toGood h3) h4 h5 h6
  | .exp e, py, h => by
    obtain ⟨x, p, rfl, h1, h2⟩ := inv_exp h
    exact r_exp G (sound_e e X x G.toGood h1) h2
  | .ret e, py, h => by
    obtain ⟨x, p, rfl, h1⟩ := inv_ret h
    exact r_ret G (sound_e e X x G.toGood h1)
  | .retv i, py, h => by
    obtain ⟨x, p, rfl, h1⟩ := inv_retv h
    exact r_retv G h1
  | .retn, py, h => by
    obtain ⟨p, rfl⟩ := inv_retn h
    exact r_retn
  | .ite t a b, py, h => by
    obtain ⟨x, y, z, p, rfl, h1, h2, h3⟩ := inv_sif h
    exact r_if (sound_t t X x G.toGood h1) (sound_ss G a y h2) (sound_ss G b z h3)
  | .whl t b, py, h => by
    obtain ⟨x, y, p, rfl, h1, h2⟩ := inv_whl h
    exact r_whl G (sound_t t X x G.toGood h1) (sound_ss G b y h2)
  | .frd tg j b, py, h => by
    obtain ⟨gg, i, y, p, rfl, h1, h2, h3, h4⟩ := inv_frd h
    exact r_frd G h2 h1 h3 (sound_ss G b y h4)
  | .frr tg it b, py, h => by
    obtain ⟨gg, i, y, p, rfl, h1, h2, h3, h4⟩ := inv_frr h
    exact r_for G (sound_i it X gg i G.toGood h2) h1 h3 (sound_ss G b y h4)
  | .brk, py, h => by
    obtain ⟨p, rfl⟩ := inv_brk h
    exact r_brk
  | .cnt, py, h => by
    obtain ⟨p, rfl⟩ := inv_cnt h
    exact r_cnt
  | .pss, py, h => by
    obtain ⟨p, rfl⟩ := inv_pss h
    exact r_pss
theorem sound_ss (G : GoodS X c g fs) : ∀ (s : SS) (xs : List Stmt), chkSs fs X.N X.env.scope s xs = true → PSs X xs (mS c fun ρ => execs g s ρ)
  | .nil, xs, h => by
    cases xs with
    | nil => exact rs_nil
    | cons _ _ => simp [chkSs] at h
  | .cons s r, xs, h => by
    cases xs with
    | nil => simp [chkSs] at h
    | cons x xs =>
      simp only [chkSs, Bool.and_eq_true] at h
      exact rs_cons (sound_s G s x h.1) (sound_ss G r xs h.2)
  | .frz i r, xs, h => by
    simp only [chkSs] at h
    exact rs_frz (sound_ss G r xs h)
  | .kil is r, xs, h => by
    simp only [chkSs] at h
    exact rs_kil (sound_ss G r xs h)
end
end
end Q
namespace Q
open PySem PySem.Spec PyProof.Rows L2 RZ
section
variable {P : Program} {w : World} {K : PySem.W.Frag} {mg : Str → Option Value} {base : Heap}
/-- a def of the text, known as a call -/
structure DefAt (P : Program) (w : World) (K : PySem.W.Frag) (mg : Str → Option Value) (base : Heap) (k : Nat) (x : Str) (sp : Sp) : Prop where
  ex : ∃ a fd ps, mg x = some (.ref a) ∧ PySem.W.keepIn K (.ref a) = true ∧ Binds K fd ps [] ∧ FnOk P w K mg base CX0 k a fd ps sp
structure Mods (mg : Str → Option Value) : Prop where
  bn : ∀ x, x ∈ bnames → mg x = none
  db : mg "__debug__" = none
/-- what stands behind a def's first row -/
theorem entry_SR {c : Pm} {F H : Hp} {vs : List V} {ds : List D} {t n sl np : Nat} {N : List Str} (e : Ext F H) (tp : Tape c F H t) (r : RepL c F vs ds) (hn : N.length = sl) (hl : ds.length = np) (hs : np ≤ sl) :
    SR c F H F H (L2.start N vs) (ds.map .sh ++ List.replicate (sl - np) .un) t := by
  have rl := r.length
  refine ⟨Grow.refl e tp.there, tp, ?_, fun i s q => ?_, fun i j d d' _ q _ => ?_⟩
  · simp only [L2.start, List.length_append, List.length_map, List.length_replicate]
    omega
  · by_cases hi : i < ds.length
    · rw [List.getElem?_append_left (by rw [List.length_map]; exact hi), List.getElem?_map] at q
      obtain ⟨d, hd, rfl⟩ := Option.map_eq_some_iff.mp q
      obtain ⟨v, hv, rv⟩ := r.get hd
      refine ⟨v, ?_, rv⟩
      unfold L2.start
      rw [List.getElem?_append_left (by rw [List.length_map, rl]; exact hi), List.getElem?_map, hv]
      rfl
    · rw [List.getElem?_append_right (by rw [List.length_map]; omega)] at q
      have := List.mem_of_getElem? q
      rw [List.mem_replicate] at this
      rw [this.2]
      trivial
  · by_cases hi : i < ds.length
    · rw [List.getElem?_append_left (by rw [List.length_map]; exact hi), List.getElem?_map] at q
      obtain ⟨d, hd, z⟩ := Option.map_eq_some_iff.mp q
      cases z
    · rw [List.getElem?_append_right (by rw [List.length_map]; omega)] at q
      have := List.mem_of_getElem? q
      rw [List.mem_replicate] at this
      cases this.2
theorem goodS_of {c : Pm} {fs : List Str} {g : Gl} {N ps : List Str} {x : Str} {sc : Scope} {f : Addr} {cdv : Value} {A : Around} {outer : List PySem.Env} {s : Shared} {H : Hp} {E : XK} {k : Nat} (hK : c.K = K) (S : FnScope N ps sc) (M : Mods mg) (hds : g.ds = c.ds)
    (hr : Room k (A.deeper (envOfC x sc s.heap.objs.size f cdv)))
    (calls : ∀ i y, fs[i]? = some y → DefAt P w K mg base k y (spF c (g.call i))) (nx : c.aw ≠ none → DefAt P w K mg base k "_law_next" (spN c)) :
    GoodS (cxOf CX0 P w K mg base N x sc f cdv A outer s H E).nox c g fs where
  calm := rfl
  nd := S.nd
  hK := hK.symm
  xe := rfl
  hu := by
    have := hr.un
    show (A.deeper (envOfC x sc s.heap.objs.size f cdv)).units + 200 < cLine
    omega
  ds := hds
  bn := M.bn
  db := M.db
  fn := ⟨k, hr, fun i y e => ⟨(calls i y e).ex⟩, fun n => ⟨(nx n).ex⟩⟩
  hfn := rfl
  kd := S.kind
theorem fn_ok {c : Pm} (hK : c.K = K) {fs : List Str} {x : Str} {st : Stmt} {f : Addr} {fd : FuncData} {N ps : List Str} {fn : Fn} {g : Gl} {k : Nat} (F : L2.Fun K x x st f fd) (S : FnScope N ps (defScope st)) (hn : N.length = fn.sl) (hp : ps.length = fn.np)
    (hc : chkSs fs N (defScope st) fn.body (defBody st) = true) (M : Mods mg) (hds : g.ds = c.ds) (calls : ∀ i y, fs[i]? = some y → DefAt P w K mg base k y (spF c (g.call i))) (nx : c.aw ≠ none → DefAt P w K mg base k "_law_next" (spN c)) :
    FnOk P w K mg base CX0 (k + 1) f fd ps (spF c (fun ds => runF g fn ds)) := by
  have hle : fn.np ≤ fn.sl := by
    have := S.pre
    rw [← hn, ← hp, ← this, List.length_take]
    exact Nat.min_le_right _ _
  refine F.ok S (fun vs H Q E h => ?_) (fun cdv A outer s H vs Q E hr h => ?_)
  · obtain ⟨F, t, ds, r, t', _, _, rr, e, _⟩ := h
    have e : runF g fn ds t = some (r, t') := e
    unfold runF at e
    split at e
    · rename_i hl
      rw [rr.length, hl, hp]
    · cases e
  · obtain ⟨F, t, ds, r, t', he, tp, rr, e, p⟩ := h
    have e : runF g fn ds t = some (r, t') := e
    unfold runF at e
    split at e
    · rename_i hl
      obtain ⟨fl, t1, e1, e⟩ := bnd_some e
      obtain ⟨e2, rfl⟩ := opt_some e
      have G := goodS_of (P := P) (w := w) (base := base) (outer := outer) (H := H) (E := E) hK S M hds hr calls nx
      have sd := sound_ss G fn.body (defBody st) hc
      refine ⟨_, sd, F, H, F, entry fn ds, t, fl, _, entry_SR (n := 0) he tp rr hn hl hle, e1, ?_⟩
      cases fl with
      | nx ρ' =>
        cases e2
        exact fun σ' F' H' x S' => p _ F' H' S'.g S'.tp .non
      | rt r' =>
        cases e2
        exact fun v F' H' x g tp rr => p v F' H' g tp rr
      | bk ρ' => cases e2
      | ct ρ' => cases e2
    · cases e
/-- the defs of a program -/
structure Row (K : PySem.W.Frag) (mg : Str → Option Value) (fs : List Str) (fns : Nat → Option Fn) (i : Nat) (x : Str) : Prop where
  ex : ∃ nm st f fd N ps fn, fns i = some fn ∧ mg x = some (.ref f) ∧ L2.Fun K nm nm st f fd ∧ FnScope N ps (defScope st) ∧ N.length = fn.sl ∧ ps.length = fn.np ∧ chkSs fs N (defScope st) fn.body (defBody st) = true ∧ Binds K fd ps []
theorem all_ok {c : Pm} (hK : c.K = K) {fs : List Str} {fns : Nat → Option Fn} (M : Mods mg) (rows : ∀ i x, fs[i]? = some x → Row K mg fs fns i x) (nx : c.aw ≠ none → DefAt P w K mg base 1 "_law_next" (spN c)) :
    ∀ (k i : Nat) (x : Str), fs[i]? = some x → DefAt P w K mg base (k + 1) x (spF c (callF fns c.ds k i))
  | 0, i, x, h => by
    obtain ⟨nm, st, f, fd, N, ps, fn, h1, h2, h3, h4, h5, h6, h7, h8⟩ := (rows i x h).ex
    refine ⟨f, fd, ps, h2, h3.kp, h8, ⟨fun vs H Q E q => ?_, fun A outer s H args us vs Q E hr e0 hb hv q => ?_⟩⟩
    · obtain ⟨_, _, _, _, _, _, _, _, e, _⟩ := q
      cases e
    · obtain ⟨_, _, _, _, _, _, _, _, e, _⟩ := q
      cases e
  | k + 1, i, x, h => by
    obtain ⟨nm, st, f, fd, N, ps, fn, h1, h2, h3, h4, h5, h6, h7, h8⟩ := (rows i x h).ex
    refine ⟨f, fd, ps, h2, h3.kp, h8, ?_⟩
    have q := fn_ok (P := P) (w := w) (base := base) (k := k + 1) hK h3 h4 h5 h6 h7 M (g := ⟨c.ds, callF fns c.ds k⟩) rfl (all_ok hK M rows nx k) fun n => by
      obtain ⟨a, fd, ps, q1, q2, q3, q4⟩ := (nx n).ex
      exact ⟨a, fd, ps, q1, q2, q3, q4.mono (by omega)⟩
    refine q.imp fun vs H Q E z => ?_
    obtain ⟨F, t, ds, r, t', z1, z2, z3, z4, z5⟩ := z
    refine ⟨F, t, ds, r, t', z1, z2, z3, ?_, z5⟩
    unfold callF at z4
    rw [h1] at z4
    exact z4
/-! ### the next draw -/
theorem next_ok {c : Pm} (hK : c.K = K) {st : Stmt} {f : Addr} {fd : FuncData} (F : L2.Fun K "_law_next" "_law_next" st f fd) (S : FnScope ["w", "many"] ["w", "many"] (defScope st)) (M : Mods mg)
    {p1 p2 p3 p4 p5 p6 p7 p8 p9 p10 p11 p12 p13 p14 p15 p16 p17 p18 p19 p20 p21 p22 p23 p24 p25 p26 p27 p28 p29 p30 p31 : Pos} {j1 j2 j3 j4 j5 j6 j7 j8 : Nat}
    (hg1 : gl (defScope st) "len" = true) (hg2 : gl (defScope st) "int" = true) (hv : vis (defScope st) "w" = true) (hv2 : vis (defScope st) "many" = true)
    (hb : defBody st = [.AugAssign (.Subscript (.Name "w" p1) (.Constant (.str "at") j1 p2) p3) .Add (.Constant (.int 1) j2 p4) p5,
      .If (.Compare (.Subscript (.Name "w" p6) (.Constant (.str "at") j3 p7) p8) [.Gt] [.Call (.Name "len" p9) [.Subscript (.Name "w" p10) (.Constant (.str "draws") j4 p11) p12] [] p13] p14) [.Return (some (.Constant (.int 0) j5 p15)) p16] [] p17,
      .Return (some (.BinOp (.Call (.Name "int" p18) [.Subscript (.Subscript (.Name "w" p19) (.Constant (.str "draws") j6 p20) p21) (.BinOp (.Subscript (.Name "w" p22) (.Constant (.str "at") j7 p23) p24) .Sub (.Constant (.int 1) j8 p25) p26) p27] [] p28) .Mod (.Name "many" p29) p30)) p31]) :
    FnOk P w K mg base CX0 1 f fd ["w", "many"] (spN c) := by
  refine F.ok S (fun vs H Q E h => ?_) (fun cdv A outer s H vs Q E hr h => ?_)
  · obtain ⟨F, t, a, m, i, t', rfl, _⟩ := h
    rfl
  · obtain ⟨F, t, a, m, i, t', rfl, haw, he, tp, e, p⟩ := h
    have hu := hu_of hr
    obtain ⟨t1, t2, t3⟩ := tp.som haw
    rw [hb]
    have V0 : ∀ pos, PE (cxOf CX0 P w K mg base ["w", "many"] "_law_next" (defScope st) f cdv A outer s H E).nox (.Name "w" pos) (tVar 0) := fun pos => pe_slot (X := (cxOf CX0 P w K mg base ["w", "many"] "_law_next" (defScope st) f cdv A outer s H E).nox) (by
      show chkN ["w", "many"] (defScope st) 0 (.Name "w" pos) = true
      simp only [chkN, hv]
      rfl)
    have V1 : ∀ pos, PE (cxOf CX0 P w K mg base ["w", "many"] "_law_next" (defScope st) f cdv A outer s H E).nox (.Name "many" pos) (tVar 1) := fun pos => pe_slot (X := (cxOf CX0 P w K mg base ["w", "many"] "_law_next" (defScope st) f cdv A outer s H E).nox) (by
      show chkN ["w", "many"] (defScope st) 1 (.Name "many" pos) = true
      simp only [chkN, hv2]
      rfl)
    have g1 : L2.Gl (cxOf CX0 P w K mg base ["w", "many"] "_law_next" (defScope st) f cdv A outer s H E).nox "len" := gl_of hg1
    have g2 : L2.Gl (cxOf CX0 P w K mg base ["w", "many"] "_law_next" (defScope st) f cdv A outer s H E).nox "int" := gl_of hg2
    have W : ∀ {k : Str} {j : Nat} {q1 q2 q3 : Pos}, PE (cxOf CX0 P w K mg base ["w", "many"] "_law_next" (defScope st) f cdv A outer s H E).nox (.Subscript (.Name "w" q1) (.Constant (.str k) j q2) q3) (tDGet (tVar 0) (tC (.str k))) := fun {k j q1 q2 q3} => pe_dget hu (V0 _) pe_str (fun _ _ => rfl)
    refine ⟨_, pss_cons (ps_daug hu (V0 _) pe_str pe_int in_add fun _ _ _ => rfl)
      (pss_cons (ps_if (pt_cmpR op_gt W (pe_callB call_len_seq g1 (M.bn _ (by decide)) PySem.boot_len (pa_cons W pa_nil)) (nomark _)) (pss_one (ps_ret pe_int)) pss_nil)
      (pss_one (ps_ret (pe_op op_mod (pe_callTy call_int1 g2 (M.bn _ (by decide)) PyProof.Rows.boot_int (pa_cons (pe_ix ix_list W (pe_op op_sub W pe_int) (fun _ _ => rfl)) pa_nil)) (V1 _))))), ?_⟩
    -- w['at'] += 1
    refine ⟨.ref a, rfl, a, .int t, rfl, ?_, t, 1, rfl, rfl, ?_⟩
    · have := DGet.k (k := .inr "at") t1
      exact this
    have hput := DPut.k (k := .inr "at") (v := V.int (t + 1)) t1 (by show 2 < sizeLine; decide)
    refine ⟨_, hput, ?_⟩
    generalize hH2 : upd H a (HO.dK (putK [(Sum.inr (Str.ofString "draws"), V.ref c.ad), (Sum.inr (Str.ofString "at"), V.int (t : Int))] (Sum.inr "at") (V.int (t + 1)))) = H2
    have t1' : H2 a = some (.dK [(.inr "draws", .ref c.ad), (.inr "at", .int ((t + 1 : Nat) : Int))]) := by
      rw [← hH2, upd_same]
      rfl
    have nad : c.ad ≠ a := fun z => by
      rw [z] at t3
      rw [t3] at t2
      cases t2
    have h3 : H2 c.ad = some (.lst (c.ds.map V.int)) := by
      rw [← hH2, upd_ne nad]
      exact he _ _ t3
    have gr : Grow c F H F H2 := by
      refine ⟨Ext.refl _, fun b o n q => ?_, fun b q q' => absurd q q', fun b o q => ?_, tp.there, fun b q => ?_⟩
      · rw [← hH2, upd_ne (fun z => n (by rw [z]; exact haw))]
        exact q
      · rw [← hH2, upd_ne (fun z => by rw [z, t2] at q; cases q)]
        exact he b o q
      · rw [haw] at q
        cases q
        rw [t1']
        simp
    have tp2 : Tape c F H2 (t + 1) := tp.of gr fun b q => by
      rw [haw] at q
      cases q
      exact t1'
    have gAt : DGet H2 a (.str "at") (some (.int ((t + 1 : Nat) : Int))) := DGet.k (k := .inr "at") t1'
    have gDr : DGet H2 a (.str "draws") (some (.ref c.ad)) := DGet.k (k := .inr "draws") t1'
    -- if w['at'] > len(w['draws'])
    unfold nextD at e
    split at e
    · rename_i hm
      refine ⟨.ref a, rfl, a, _, rfl, gAt, .ref a, rfl, a, _, rfl, gDr, c.ad, _, rfl, .inl (.inl (.inl h3)), _, _, rfl, rfl, _, rfl, ite2 (fun q => ?_) (fun q => ?_)⟩
      · rw [List.length_map] at q
        have q := of_decide_eq_true q
        split at e
        · cases e
          exact p _ F H2 gr tp2 (Rep.int _)
        · rename_i hn
          exact absurd (by omega) hn
      · rw [List.length_map] at q
        have q : ¬ ((c.ds.length : Int) < ((t + 1 : Nat) : Int)) := fun z => q (decide_eq_true z)
        split at e
        · rename_i hn
          exact absurd (by omega) q
        · obtain ⟨x, hx, e⟩ := Option.map_eq_some_iff.mp e
          cases e
          refine ⟨.ref a, rfl, a, _, rfl, gDr, .ref a, rfl, a, _, rfl, gAt, _, _, rfl, rfl, c.ad, _, _, .int x, rfl, rfl, .inl (.inl h3), ?_, .inl ⟨x, rfl, .int m, rfl, x, m, rfl, rfl, hm, p _ F H2 gr tp2 (Rep.int _)⟩⟩
          have e1 : (((t + 1 : Nat) : Int) - 1) = ((t : Nat) : Int) := by omega
          rw [e1]
          refine atI_nat ?_
          rw [List.getElem?_map, hx]
          rfl
    · cases e
end
end Q
namespace Q
open PySem
/-! ### what a run comes to -/
structure Yes {α : Type} (m : M α) (t : Nat) (P : α → Nat → Prop) : Prop where
  get : ∃ a t', m t = some (a, t') ∧ P a t'
theorem Yes.of {α : Type} {m : M α} {t : Nat} {P : α → Nat → Prop} {a : α} {t' : Nat} (e : m t = some (a, t')) (h : P a t') : Yes m t P := ⟨a, t', e, h⟩
theorem Yes.mono {α : Type} {m : M α} {t : Nat} {P P' : α → Nat → Prop} (h : Yes m t P) (i : ∀ a t', P a t' → P' a t') : Yes m t P' := by
  obtain ⟨a, t', e, p⟩ := h.get
  exact .of e (i _ _ p)
theorem Yes.eq {α : Type} {m : M α} {t : Nat} {a : α} {t' : Nat} (h : Yes m t fun b u => b = a ∧ u = t') : m t = some (a, t') := by
  obtain ⟨b, u, e, rfl, rfl⟩ := h.get
  exact e
theorem yes_bnd {α β : Type} {m : M α} {f : α → M β} {t : Nat} {P : β → Nat → Prop} : Yes (bnd m f) t P = Yes m t fun a t' => Yes (f a) t' P := by
  refine propext ⟨fun h => ?_, fun h => ?_⟩
  · obtain ⟨b, u, e, p⟩ := h.get
    unfold bnd at e
    split at e
    · cases e
    · rename_i a t' e1
      exact .of e1 (.of e p)
  · obtain ⟨a, t', e, h⟩ := h.get
    obtain ⟨b, u, e2, p⟩ := h.get
    refine .of (a := b) (t' := u) ?_ p
    unfold bnd
    rw [e]
    exact e2
theorem bnd_ap {α β : Type} (m : M α) (f : α → M β) (t : Nat) : bnd m f t = match m t with
  | none => none
  | some (a, t') => f a t' := rfl
theorem opt_ap {α : Type} (o : Option α) (t : Nat) : opt o t = match o with
  | none => none
  | some a => some (a, t) := rfl
theorem bol_ap (o : Option Bool) (t : Nat) : bol o t = match o with
  | none => none
  | some b => some (⟨.sh, .bool b⟩, t) := rfl
theorem lstR_ap (xs : List D) (t : Nat) : lstR xs t = if xs.length ≤ lim then some (⟨.fr, .list xs⟩, t) else none := rfl
theorem tupR_ap (xs : List D) (t : Nat) : tupR xs t = if xs.length ≤ lim then some (⟨.sh, .tuple xs⟩, t) else none := rfl
theorem ite_ap {α : Type} (c : Prop) [Decidable c] (m n : M α) (t : Nat) : (if c then m else n) t = if c then m t else n t := by
  split <;> rfl
/-- what the rest of a block comes to, once a statement has ended so -/
structure Cont (g : Gl) (r : SS) (P : Fl → Nat → Prop) (fl : Fl) (t : Nat) : Prop where
  get : Yes (match fl with
    | .nx ρ' => execs g r ρ'
    | .rt v => ret (.rt v)
    | .bk ρ' => ret (.bk ρ')
    | .ct ρ' => ret (.ct ρ')) t P
theorem cont_nx {g : Gl} {r : SS} {P : Fl → Nat → Prop} {ρ : Env} {t : Nat} (h : Yes (execs g r ρ) t P) : Cont g r P (.nx ρ) t := ⟨h⟩
theorem cont_rt {g : Gl} {r : SS} {P : Fl → Nat → Prop} {v : R} {t : Nat} (h : P (.rt v) t) : Cont g r P (.rt v) t := ⟨.of rfl h⟩
theorem cont_bk {g : Gl} {r : SS} {P : Fl → Nat → Prop} {ρ : Env} {t : Nat} (h : P (.bk ρ) t) : Cont g r P (.bk ρ) t := ⟨.of rfl h⟩
theorem cont_ct {g : Gl} {r : SS} {P : Fl → Nat → Prop} {ρ : Env} {t : Nat} (h : P (.ct ρ) t) : Cont g r P (.ct ρ) t := ⟨.of rfl h⟩
section
variable {g : Gl} {s : S} {r x y b : SS} {ρ ρ' : Env} {t t' : Nat} {P : Fl → Nat → Prop} {c : T} {tg : Tg} {it : It}
theorem yes_cons (h : Yes (exec g s ρ) t (Cont g r P)) : Yes (execs g (.cons s r) ρ) t P := by
  rw [show execs g (.cons s r) ρ = bnd (exec g s ρ) fun fl => match fl with
    | .nx ρ' => execs g r ρ'
    | .rt v => ret (.rt v)
    | .bk ρ' => ret (.bk ρ')
    | .ct ρ' => ret (.ct ρ') by rw [execs] <;> rfl, yes_bnd]
  exact h.mono fun fl u q => q.get
theorem step (e : exec g s ρ t = some (.nx ρ', t')) (k : Yes (execs g r ρ') t' P) : Yes (execs g (.cons s r) ρ) t P := yes_cons (.of e (cont_nx k))
theorem step_rt {v : R} (e : exec g s ρ t = some (.rt v, t')) (k : P (.rt v) t') : Yes (execs g (.cons s r) ρ) t P := yes_cons (.of e (cont_rt k))
theorem step_bk (e : exec g s ρ t = some (.bk ρ', t')) (k : P (.bk ρ') t') : Yes (execs g (.cons s r) ρ) t P := yes_cons (.of e (cont_bk k))
theorem step_ct (e : exec g s ρ t = some (.ct ρ', t')) (k : P (.ct ρ') t') : Yes (execs g (.cons s r) ρ) t P := yes_cons (.of e (cont_ct k))
theorem step_frz {i : Nat} (k : Yes (execs g r (frzE ρ i)) t P) : Yes (execs g (.frz i r) ρ) t P := by
  rw [execs]
  exact k
theorem step_nil (k : P (.nx ρ) t) : Yes (execs g .nil ρ) t P := by
  rw [execs]
  exact .of rfl k
theorem step_ite {k : Bool} (e : evT g c ρ t = some (k, t')) (h1 : k = true → Yes (execs g x ρ) t' (Cont g r P)) (h2 : k = false → Yes (execs g y ρ) t' (Cont g r P)) : Yes (execs g (.cons (.ite c x y) r) ρ) t P := by
  refine yes_cons ?_
  rw [exec, yes_bnd]
  refine .of e ?_
  cases k with
  | true => exact h1 rfl
  | false => exact h2 rfl
/-- what a turn of a loop must come to -/
structure Turn (I : Env → Nat → Prop) (K : Env → Nat → Prop) (P : Fl → Nat → Prop) (fl : Fl) (t : Nat) : Prop where
  get : match fl with
    | .nx ρ' => I ρ' t
    | .ct ρ' => I ρ' t
    | .bk ρ' => K ρ' t
    | .rt v => P (.rt v) t
theorem turn_nx {I K : Env → Nat → Prop} (h : I ρ t) : Turn I K P (.nx ρ) t := ⟨h⟩
theorem turn_ct {I K : Env → Nat → Prop} (h : I ρ t) : Turn I K P (.ct ρ) t := ⟨h⟩
theorem turn_bk {I K : Env → Nat → Prop} (h : K ρ t) : Turn I K P (.bk ρ) t := ⟨h⟩
theorem turn_rt {I K : Env → Nat → Prop} {v : R} (h : P (.rt v) t) : Turn I K P (.rt v) t := ⟨h⟩
theorem step_for {xs : List D} (e : evI g it ρ t = some ((true, xs), t')) (I : Nat → Env → Nat → Prop) (h0 : I 0 ρ t')
    (hs : ∀ i d ρ t, xs[i]? = some d → I i ρ t → ∃ ρ1, bind1 tg d ρ = some ρ1 ∧ Yes (execs g b ρ1) t (Turn (I (i + 1)) (fun ρ t => Yes (execs g r ρ) t P) P))
    (he : ∀ ρ t, I xs.length ρ t → Yes (execs g r ρ) t P) : Yes (execs g (.cons (.frr tg it b) r) ρ) t P := by
  refine yes_cons ?_
  rw [exec, yes_bnd]
  refine .of e ?_
  show Yes (forM xs _ ρ) t' _
  clear e
  induction xs generalizing ρ t' I with
  | nil => exact .of rfl (cont_nx (he _ _ h0))
  | cons d xs ih =>
    unfold forM
    rw [yes_bnd, yes_bnd]
    obtain ⟨ρ1, e1, h1⟩ := hs 0 d ρ t' rfl h0
    rw [e1]
    refine .of rfl (h1.mono fun fl t' q => ?_)
    have q := q.get
    cases fl with
    | nx ρ' => exact ih (fun i => I (i + 1)) q (fun i x ρ t e => hs (i + 1) x ρ t e) he
    | ct ρ' => exact ih (fun i => I (i + 1)) q (fun i x ρ t e => hs (i + 1) x ρ t e) he
    | bk ρ' => exact .of rfl (cont_nx q)
    | rt v => exact .of rfl (cont_rt q)
end
/-! ### the operators by their cases -/
section
variable {k k' : Kd} {a b : Int} {x y : D} {xs ys : List D}
theorem op_add : opD .add ⟨k, .int a⟩ ⟨k', .int b⟩ = some ⟨.sh, .int (a + b)⟩ := rfl
theorem op_sub : opD .sub ⟨k, .int a⟩ ⟨k', .int b⟩ = some ⟨.sh, .int (a - b)⟩ := rfl
theorem op_mulR (h : intB b = true) : opD .mul ⟨k, .int a⟩ ⟨k', .int b⟩ = some ⟨.sh, .int (a * b)⟩ := by
  show (if (intB a || intB b) = true then _ else _) = _
  rw [h, Bool.or_true]
  rfl
theorem op_mulL (h : intB a = true) : opD .mul ⟨k, .int a⟩ ⟨k', .int b⟩ = some ⟨.sh, .int (a * b)⟩ := by
  show (if (intB a || intB b) = true then _ else _) = _
  rw [h, Bool.true_or]
  rfl
theorem op_fdiv (h : 0 < b) (h2 : b < 1073741824) : opD .fdiv ⟨k, .int a⟩ ⟨k', .int b⟩ = some ⟨.sh, .int (a / b)⟩ := if_pos ⟨h, by omega⟩
theorem op_mod (h : 0 < b) : opD .mod ⟨k, .int a⟩ ⟨k', .int b⟩ = some ⟨.sh, .int (a % b)⟩ := if_pos h
theorem op_mulRi (h1 : -18446744073709551616 < b) (h2 : b < 18446744073709551616) : opD .mul ⟨k, .int a⟩ ⟨k', .int b⟩ = some ⟨.sh, .int (a * b)⟩ := op_mulR (intB_iff.mpr ⟨h1, h2⟩)
theorem op_mulLi (h1 : -18446744073709551616 < a) (h2 : a < 18446744073709551616) : opD .mul ⟨k, .int a⟩ ⟨k', .int b⟩ = some ⟨.sh, .int (a * b)⟩ := op_mulL (intB_iff.mpr ⟨h1, h2⟩)
theorem cp_lt : cpD .lt (.int a) (.int b) = some (decide (a < b)) := rfl
theorem cp_le : cpD .le (.int a) (.int b) = some (decide (a ≤ b)) := rfl
theorem cp_gt : cpD .gt (.int a) (.int b) = some (decide (b < a)) := rfl
theorem cp_ge : cpD .ge (.int a) (.int b) = some (decide (b ≤ a)) := rfl
theorem int_small (h1 : -18446744073709551616 < a) (h2 : a < 18446744073709551616) : intB a = true := intB_iff.mpr ⟨h1, h2⟩
end
/-! ### the draws -/
def drawsB : SS :=
  (.cons (.asg (.nm 2) (.lst .nil)) (.cons (.asg (.nm 3) (.cst (.int 7))) (.cons (.frr (.nm 4) (.rng1 (.blt .len (.cons (.var 0) .nil))) (.cons (.asg (.nm 5) (.blt .abs (.cons (.blt .int (.cons (.ix (.var 0) (.var 4)) .nil)) .nil))) (.cons (.asg (.nm 3) (.bin .mod (.blt .int (.cons (.bin .add (.bin .add (.bin .mul (.var 3) (.cst (.int 48271))) (.bin .mod (.var 5) (.cst (.int 1000003)))) (.var 4)) .nil)) (.cst (.int 65537)))) (.cons (.asg (.nm 6) (.cst (.int 0))) (.cons (.ite (.cmp .ge (.var 5) (.bin .pow (.cst (.int 10)) (.cst (.int 18)))) (.cons (.asg (.nm 6) (.var 5)) .nil) (.cons (.app 2 (.bin .mod (.blt .int (.cons (.var 5) .nil)) (.cst (.int 997)))) (.cons (.app 2 (.bin .mod (.bin .mod (.blt .int (.cons (.bin .add (.bin .mul (.var 3) (.cst (.int 69621))) (.cst (.int 5))) .nil)) (.cst (.int 65521))) (.cst (.int 997)))) .nil))) (.cons (.frr (.nm 7) (.rng1 (.cst (.int 60))) (.cons (.ite (.cmp .gt (.var 6) (.cst (.int 0))) (.cons (.app 2 (.bin .mod (.blt .int (.cons (.var 6) .nil)) (.cst (.int 997)))) (.cons (.asg (.nm 6) (.bin .fdiv (.var 6) (.cst (.int 997)))) .nil)) .nil) .nil)) .nil)))))) (.cons (.frr (.nm 4) (.rng1 (.var 1)) (.cons (.asg (.nm 3) (.bin .mod (.blt .int (.cons (.bin .add (.bin .add (.bin .mul (.var 3) (.cst (.int 16807))) (.var 4)) (.cst (.int 1))) .nil)) (.cst (.int 65537)))) (.cons (.app 2 (.bin .mod (.blt .int (.cons (.var 3) .nil)) (.cst (.int 997)))) .nil))) (.cons (.ret (.sl (.var 2) .no (.so (.var 1)))) .nil)))))
def IsDraws (l : List D) : Prop := ∃ ds : List Int, l = ds.map .int ∧ ∀ d ∈ ds, 0 ≤ d ∧ d < 997
theorem IsDraws.nil : IsDraws [] := ⟨[], rfl, fun _ h => nomatch h⟩
theorem IsDraws.snoc {l : List D} {x : Int} (h : IsDraws l) (h1 : 0 ≤ x) (h2 : x < 997) : IsDraws (l ++ [.int x]) := by
  obtain ⟨ds, rfl, q⟩ := h
  refine ⟨ds ++ [x], by rw [List.map_append]; rfl, fun d hd => ?_⟩
  rcases List.mem_append.mp hd with hd | hd
  · exact q d hd
  · cases List.mem_singleton.mp hd
    exact ⟨h1, h2⟩
theorem IsDraws.mod {l : List D} {x : Int} (h : IsDraws l) : IsDraws (l ++ [.int (x % 997)]) := h.snoc (Int.emod_nonneg _ (by decide)) (Int.emod_lt_of_pos _ (by decide))
theorem rangeL_get {a b : Int} {i : Nat} {x : D} (h : (rangeL a b)[i]? = some x) : x = .int (a + i) ∧ i < (b - a).toNat := by
  unfold rangeL at h
  rw [List.getElem?_map] at h
  obtain ⟨j, h1, h2⟩ := Option.map_eq_some_iff.mp h
  obtain ⟨h3, h4⟩ := List.getElem?_eq_some_iff.mp h1
  rw [List.length_range] at h3
  rw [List.getElem_range] at h4
  subst h4
  exact ⟨h2.symm, h3⟩
theorem rangeL_len {a b : Int} : (rangeL a b).length = (b - a).toNat := by simp [rangeL]
theorem it_rng1 {g : Gl} {a : E} {i : Int} {k : Kd} {ρ : Env} {t t' : Nat} (e : ev g a ρ t = some (⟨k, .int i⟩, t')) (h : rngB i = true) : evI g (.rng1 a) ρ t = some ((true, rangeL 0 i), t') := by
  rw [evI, bnd_ap, e]
  show ((if rngB i = true then ret (true, rangeL 0 i) else fail : M (Bool × List D)) t') = _
  rw [if_pos h]
theorem it_rng2 {g : Gl} {a b : E} {i j : Int} {k k' : Kd} {ρ : Env} {t t' t2 : Nat} (e : ev g a ρ t = some (⟨k, .int i⟩, t')) (e2 : ev g b ρ t' = some (⟨k', .int j⟩, t2)) (h : rngB i = true) (h2 : rngB j = true) :
    evI g (.rng2 a b) ρ t = some ((true, rangeL i j), t2) := by
  rw [evI, bnd_ap, e]
  show bnd (ev g b ρ) _ t' = _
  rw [bnd_ap, e2]
  show ((if (rngB i && rngB j) = true then ret (true, rangeL i j) else fail : M (Bool × List D)) t2) = _
  rw [h, h2]
  rfl
theorem rng_ok {i : Int} (h1 : -4611686018427387904 < i) (h2 : i < 4611686018427387904) : rngB i = true := by
  have : i.natAbs < 4611686018427387904 := by omega
  exact decide_eq_true this
/-- the state of the loop over the script -/
def DI (ns : List Int) (n : Int) (top : Nat) (ρ : Env) : Prop := ∃ l m s4 s5 s6 s7, ρ = [.ro (.list (ns.map .int)), .sh (.int n), .ow (.list l), .sh (.int m), s4, s5, s6, s7] ∧ IsDraws l ∧ l.length ≤ top
theorem app_ok {ρ : Env} {i : Nat} {y : D} {xs : List D} (e : ρ[i]? = some (.ow (.list xs))) (h : xs.length < lim) : appD ρ i y = some (ρ.set i (.ow (.list (xs ++ [y])))) := by
  unfold appD
  rw [e]
  exact if_pos h
theorem step_app {g : Gl} {i : Nat} {e : E} {r : SS} {ρ : Env} {t t' : Nat} {P : Fl → Nat → Prop} {y : D} {xs : List D} (he : ev g e ρ t = some (⟨.sh, y⟩, t')) (hi : ρ[i]? = some (.ow (.list xs))) (h : xs.length < lim)
    (k : Yes (execs g r (ρ.set i (.ow (.list (xs ++ [y]))))) t' P) : Yes (execs g (.cons (.app i e) r) ρ) t P := by
  refine step (ρ' := ρ.set i (.ow (.list (xs ++ [y])))) (t' := t') ?_ k
  rw [exec, bnd_ap, he]
  show bnd (opt (some y)) _ t' = _
  rw [bnd_ap, opt_ap]
  show bnd (opt (appD ρ i y)) _ t' = _
  rw [app_ok hi h]
  rfl
theorem pow_1018 {k k' : Kd} : opD .pow ⟨k, .int 10⟩ ⟨k', .int 18⟩ = some ⟨.sh, .int 1000000000000000000⟩ := by
  show (if (0 : Int) ≤ 18 ∧ (18 : Int).natAbs ≤ 1000000 ∧ (10 : Int).natAbs < 18446744073709551616 then some (shd (.int (10 ^ (18 : Int).toNat))) else none) = _
  rw [if_pos (by decide)]
  have : (10 : Int) ^ (18 : Int).toNat = 1000000000000000000 := by decide
  rw [this]
  rfl
theorem draws_run (g : Gl) (ns : List Int) (n : Nat) (hn : n ≤ 1000) (hl : ns.length ≤ 63) (t : Nat) :
    ∃ ds : List Int, ds.length = n ∧ (∀ d ∈ ds, 0 ≤ d ∧ d < 997) ∧ execs g drawsB [.ro (.list (ns.map .int)), .sh (.int n), .un, .un, .un, .un, .un, .un] t = some (.rt ⟨.fr, .list (ds.map .int)⟩, t) := by
  have key : Yes (execs g drawsB [.ro (.list (ns.map .int)), .sh (.int n), .un, .un, .un, .un, .un, .un]) t fun fl t' => t' = t ∧ ∃ ds : List Int, ds.length = n ∧ (∀ d ∈ ds, 0 ≤ d ∧ d < 997) ∧ fl = .rt ⟨.fr, .list (ds.map .int)⟩ := by
    unfold drawsB
    have hr60 : rngB 60 = true := by decide
    have hpow : ∀ k k' : Kd, opD .pow ⟨k, .int 10⟩ ⟨k', .int 18⟩ = some ⟨.sh, .int 1000000000000000000⟩ := fun _ _ => pow_1018
    refine step (by simp only [↓Q.exec, ↓ev, ↓evL, ↓evT, ↓evO, ↓evI, ↓bnd_ap, ↓opt_ap, ↓bol_ap, ↓ite_ap, ↓lstR_ap, ↓tupR_ap, Q.ret, getS, List.getElem?_cons_succ, List.getElem?_cons_zero, op_add, op_sub, op_mod, op_fdiv, Int.reduceLT, shd, bltD, store, shared, Q.bind1, Q.bindL, Option.bind_some, List.set_cons_succ, List.set_cons_zero, Bool.or_true, Bool.true_or, Bool.and_self, decide_true, op_mulRi, op_mulLi, op_mulR, op_mulL, Int.reduceNeg, List.mapM_nil, List.mapM_cons, Option.pure_def, Option.bind_eq_bind, List.length_nil, lim, Nat.zero_le, ↓reduceIte, List.length_cons, Nat.reduceAdd, Nat.reduceLeDiff]; rfl) ?_
    refine step (by simp only [↓Q.exec, ↓ev, ↓evL, ↓evT, ↓evO, ↓evI, ↓bnd_ap, ↓opt_ap, ↓bol_ap, ↓ite_ap, ↓lstR_ap, ↓tupR_ap, Q.ret, getS, List.getElem?_cons_succ, List.getElem?_cons_zero, op_add, op_sub, op_mod, op_fdiv, Int.reduceLT, shd, bltD, store, shared, Q.bind1, Q.bindL, Option.bind_some, List.set_cons_succ, List.set_cons_zero, Bool.or_true, Bool.true_or, Bool.and_self, decide_true, op_mulRi, op_mulLi, op_mulR, op_mulL, Int.reduceNeg, List.mapM_nil, List.mapM_cons, Option.pure_def, Option.bind_eq_bind, List.length_nil, lim, Nat.zero_le, ↓reduceIte, List.length_cons, Nat.reduceAdd, Nat.reduceLeDiff]; rfl) ?_
    have hlen : (ns.map PyData.int).length = ns.length := List.length_map ..
    have hr : rngB (ns.map PyData.int).length = true := by
      rw [hlen]
      exact rng_ok (by omega) (by omega)
    refine step_for (xs := rangeL 0 ((ns.map PyData.int).length : Nat)) (t' := t) ?_ (fun i ρ t' => t' = t ∧ DI ns n (60 * i) ρ) ⟨rfl, [], 7, .un, .un, .un, .un, rfl, .nil, Nat.le_refl _⟩ ?_ ?_
    · rw [evI, bnd_ap]
      show (bnd (opt (some (((ns.map PyData.int).length : Nat) : Int))) _ t) = _
      rw [bnd_ap, opt_ap]
      show ((if rngB (ns.map PyData.int).length = true then ret (true, rangeL 0 ((ns.map PyData.int).length : Nat)) else fail : M (Bool × List D)) t) = _
      rw [if_pos hr]
    · rintro i d ρ u hd ⟨rfl, l, m, s4, s5, s6, s7, rfl, hI, hle⟩
      obtain ⟨rfl, hi⟩ := rangeL_get hd
      have hi' : i < ns.length := by rw [hlen] at hi; omega
      refine ⟨_, rfl, ?_⟩
      have hx : L2.atI (ns.map PyData.int) ((0 : Int) + (i : Nat)) = some (.int ns[i]) := by
        rw [Int.zero_add]
        refine L2.atI_nat ?_
        rw [List.getElem?_map, List.getElem?_eq_getElem hi']
        rfl
      refine step (ρ' := [.ro (.list (ns.map .int)), .sh (.int n), .ow (.list l), .sh (.int m), .sh (.int (0 + (i : Nat))), .sh (.int (if ns[i] < 0 then -ns[i] else ns[i])), s6, s7]) (t' := u) ?_ ?_
      · simp only [↓Q.exec, ↓ev, ↓evL, ↓evT, ↓evO, ↓evI, ↓bnd_ap, ↓opt_ap, ↓bol_ap, ↓ite_ap, ↓lstR_ap, ↓tupR_ap, Q.ret, getS, List.getElem?_cons_succ, List.getElem?_cons_zero, op_add, op_sub, op_mod, op_fdiv, Int.reduceLT, shd, bltD, store, shared, Q.bind1, Q.bindL, Option.bind_some, List.set_cons_succ, List.set_cons_zero, Bool.or_true, Bool.true_or, Bool.and_self, decide_true, op_mulRi, op_mulLi, op_mulR, op_mulL, Int.reduceNeg, List.mapM_nil, List.mapM_cons, Option.pure_def, Option.bind_eq_bind, List.length_nil, lim, Nat.zero_le, ↓reduceIte, List.length_cons, Nat.reduceAdd, Nat.reduceLeDiff, ixD, hx, Option.map_some]
      refine step (by simp only [↓Q.exec, ↓ev, ↓evL, ↓evT, ↓evO, ↓evI, ↓bnd_ap, ↓opt_ap, ↓bol_ap, ↓ite_ap, ↓lstR_ap, ↓tupR_ap, Q.ret, getS, List.getElem?_cons_succ, List.getElem?_cons_zero, op_add, op_sub, op_mod, op_fdiv, Int.reduceLT, shd, bltD, store, shared, Q.bind1, Q.bindL, Option.bind_some, List.set_cons_succ, List.set_cons_zero, Bool.or_true, Bool.true_or, Bool.and_self, decide_true, op_mulRi, op_mulLi, op_mulR, op_mulL, Int.reduceNeg, List.mapM_nil, List.mapM_cons, Option.pure_def, Option.bind_eq_bind, List.length_nil, lim, Nat.zero_le, ↓reduceIte, List.length_cons, Nat.reduceAdd, Nat.reduceLeDiff]; rfl) ?_
      refine step (by simp only [↓Q.exec, ↓ev, ↓evL, ↓evT, ↓evO, ↓evI, ↓bnd_ap, ↓opt_ap, ↓bol_ap, ↓ite_ap, ↓lstR_ap, ↓tupR_ap, Q.ret, getS, List.getElem?_cons_succ, List.getElem?_cons_zero, op_add, op_sub, op_mod, op_fdiv, Int.reduceLT, shd, bltD, store, shared, Q.bind1, Q.bindL, Option.bind_some, List.set_cons_succ, List.set_cons_zero, Bool.or_true, Bool.true_or, Bool.and_self, decide_true, op_mulRi, op_mulLi, op_mulR, op_mulL, Int.reduceNeg, List.mapM_nil, List.mapM_cons, Option.pure_def, Option.bind_eq_bind, List.length_nil, lim, Nat.zero_le, ↓reduceIte, List.length_cons, Nat.reduceAdd, Nat.reduceLeDiff]; rfl) ?_
      generalize (if ns[i] < 0 then -ns[i] else ns[i]) = cell
      refine step_ite (k := decide ((1000000000000000000 : Int) ≤ cell)) (t' := u) (by simp only [↓Q.exec, ↓ev, ↓evL, ↓evT, ↓evO, ↓evI, ↓bnd_ap, ↓opt_ap, ↓bol_ap, ↓ite_ap, ↓lstR_ap, ↓tupR_ap, Q.ret, getS, List.getElem?_cons_succ, List.getElem?_cons_zero, op_add, op_sub, op_mod, op_fdiv, Int.reduceLT, shd, bltD, store, shared, Q.bind1, Q.bindL, Option.bind_some, List.set_cons_succ, List.set_cons_zero, Bool.or_true, Bool.true_or, Bool.and_self, decide_true, op_mulRi, op_mulLi, op_mulR, op_mulL, Int.reduceNeg, List.mapM_nil, List.mapM_cons, Option.pure_def, Option.bind_eq_bind, List.length_nil, lim, Nat.zero_le, ↓reduceIte, List.length_cons, Nat.reduceAdd, Nat.reduceLeDiff, hpow, cp_ge]) (fun _ => ?_) (fun _ => ?_)
      · refine step (by simp only [↓Q.exec, ↓ev, ↓evL, ↓evT, ↓evO, ↓evI, ↓bnd_ap, ↓opt_ap, ↓bol_ap, ↓ite_ap, ↓lstR_ap, ↓tupR_ap, Q.ret, getS, List.getElem?_cons_succ, List.getElem?_cons_zero, op_add, op_sub, op_mod, op_fdiv, Int.reduceLT, shd, bltD, store, shared, Q.bind1, Q.bindL, Option.bind_some, List.set_cons_succ, List.set_cons_zero, Bool.or_true, Bool.true_or, Bool.and_self, decide_true, op_mulRi, op_mulLi, op_mulR, op_mulL, Int.reduceNeg, List.mapM_nil, List.mapM_cons, Option.pure_def, Option.bind_eq_bind, List.length_nil, lim, Nat.zero_le, ↓reduceIte, List.length_cons, Nat.reduceAdd, Nat.reduceLeDiff]; rfl) ?_
        refine step_nil (cont_nx ?_)
        refine step_for (xs := rangeL 0 60) (t' := u) (by simp only [↓Q.exec, ↓ev, ↓evL, ↓evT, ↓evO, ↓evI, ↓bnd_ap, ↓opt_ap, ↓bol_ap, ↓ite_ap, ↓lstR_ap, ↓tupR_ap, Q.ret, getS, List.getElem?_cons_succ, List.getElem?_cons_zero, op_add, op_sub, op_mod, op_fdiv, Int.reduceLT, shd, bltD, store, shared, Q.bind1, Q.bindL, Option.bind_some, List.set_cons_succ, List.set_cons_zero, Bool.or_true, Bool.true_or, Bool.and_self, decide_true, op_mulRi, op_mulLi, op_mulR, op_mulL, Int.reduceNeg, List.mapM_nil, List.mapM_cons, Option.pure_def, Option.bind_eq_bind, List.length_nil, lim, Nat.zero_le, ↓reduceIte, List.length_cons, Nat.reduceAdd, Nat.reduceLeDiff, intOf, hr60]) (fun j ρ t' => t' = u ∧ ∃ l m s4 s5 z s7, ρ = [.ro (.list (ns.map .int)), .sh (.int n), .ow (.list l), .sh (.int m), s4, s5, .sh (.int z), s7] ∧ IsDraws l ∧ l.length ≤ 60 * i + j) ⟨rfl, l, _, _, _, _, _, rfl, hI, hle⟩ ?_ ?_
        · rintro j d ρ u' hd' ⟨rfl, l, m, s4, s5, z, s7, rfl, hI, hle⟩
          obtain ⟨rfl, hj⟩ := rangeL_get hd'
          refine ⟨_, rfl, ?_⟩
          refine step_ite (k := decide ((0 : Int) < z)) (t' := u') (by simp only [↓Q.exec, ↓ev, ↓evL, ↓evT, ↓evO, ↓evI, ↓bnd_ap, ↓opt_ap, ↓bol_ap, ↓ite_ap, ↓lstR_ap, ↓tupR_ap, Q.ret, getS, List.getElem?_cons_succ, List.getElem?_cons_zero, op_add, op_sub, op_mod, op_fdiv, Int.reduceLT, shd, bltD, store, shared, Q.bind1, Q.bindL, Option.bind_some, List.set_cons_succ, List.set_cons_zero, Bool.or_true, Bool.true_or, Bool.and_self, decide_true, op_mulRi, op_mulLi, op_mulR, op_mulL, Int.reduceNeg, List.mapM_nil, List.mapM_cons, Option.pure_def, Option.bind_eq_bind, List.length_nil, lim, Nat.zero_le, ↓reduceIte, List.length_cons, Nat.reduceAdd, Nat.reduceLeDiff, cp_gt]) (fun _ => ?_) (fun _ => ?_)
          · refine step_app (y := .int (z % 997)) (xs := l) (by simp only [↓Q.exec, ↓ev, ↓evL, ↓evT, ↓evO, ↓evI, ↓bnd_ap, ↓opt_ap, ↓bol_ap, ↓ite_ap, ↓lstR_ap, ↓tupR_ap, Q.ret, getS, List.getElem?_cons_succ, List.getElem?_cons_zero, op_add, op_sub, op_mod, op_fdiv, Int.reduceLT, shd, bltD, store, shared, Q.bind1, Q.bindL, Option.bind_some, List.set_cons_succ, List.set_cons_zero, Bool.or_true, Bool.true_or, Bool.and_self, decide_true, op_mulRi, op_mulLi, op_mulR, op_mulL, Int.reduceNeg, List.mapM_nil, List.mapM_cons, Option.pure_def, Option.bind_eq_bind, List.length_nil, lim, Nat.zero_le, ↓reduceIte, List.length_cons, Nat.reduceAdd, Nat.reduceLeDiff]; rfl) rfl ?_ ?_
            · have : lim = 16777216 := rfl
              omega
            refine step (by simp only [↓Q.exec, ↓ev, ↓evL, ↓evT, ↓evO, ↓evI, ↓bnd_ap, ↓opt_ap, ↓bol_ap, ↓ite_ap, ↓lstR_ap, ↓tupR_ap, Q.ret, getS, List.getElem?_cons_succ, List.getElem?_cons_zero, op_add, op_sub, op_mod, op_fdiv, Int.reduceLT, shd, bltD, store, shared, Q.bind1, Q.bindL, Option.bind_some, List.set_cons_succ, List.set_cons_zero, Bool.or_true, Bool.true_or, Bool.and_self, decide_true, op_mulRi, op_mulLi, op_mulR, op_mulL, Int.reduceNeg, List.mapM_nil, List.mapM_cons, Option.pure_def, Option.bind_eq_bind, List.length_nil, lim, Nat.zero_le, ↓reduceIte, List.length_cons, Nat.reduceAdd, Nat.reduceLeDiff]; rfl) ?_
            refine step_nil (cont_nx ?_)
            refine step_nil (turn_nx ?_)
            exact ⟨rfl, _, _, _, _, _, _, rfl, hI.mod, by rw [List.length_append]; show l.length + 1 ≤ _; omega⟩
          · refine step_nil (cont_nx ?_)
            refine step_nil (turn_nx ?_)
            exact ⟨rfl, _, _, _, _, _, _, rfl, hI, by omega⟩
        · rintro ρ u' ⟨rfl, l, m, s4, s5, z, s7, rfl, hI, hle⟩
          refine step_nil (turn_nx ?_)
          refine ⟨rfl, _, _, _, _, _, _, rfl, hI, ?_⟩
          have : (rangeL 0 60).length = 60 := rangeL_len
          omega
      · have hlm : lim = 16777216 := rfl
        refine step_app (y := .int (cell % 997)) (xs := l) (by simp only [↓Q.exec, ↓ev, ↓evL, ↓evT, ↓evO, ↓evI, ↓bnd_ap, ↓opt_ap, ↓bol_ap, ↓ite_ap, ↓lstR_ap, ↓tupR_ap, Q.ret, getS, List.getElem?_cons_succ, List.getElem?_cons_zero, op_add, op_sub, op_mod, op_fdiv, Int.reduceLT, shd, bltD, store, shared, Q.bind1, Q.bindL, Option.bind_some, List.set_cons_succ, List.set_cons_zero, Bool.or_true, Bool.true_or, Bool.and_self, decide_true, op_mulRi, op_mulLi, op_mulR, op_mulL, Int.reduceNeg, List.mapM_nil, List.mapM_cons, Option.pure_def, Option.bind_eq_bind, List.length_nil, lim, Nat.zero_le, ↓reduceIte, List.length_cons, Nat.reduceAdd, Nat.reduceLeDiff]; rfl) rfl (by omega) ?_
        refine step_app (y := .int (_ % 65521 % 997)) (xs := l ++ [.int (cell % 997)]) (by simp only [↓Q.exec, ↓ev, ↓evL, ↓evT, ↓evO, ↓evI, ↓bnd_ap, ↓opt_ap, ↓bol_ap, ↓ite_ap, ↓lstR_ap, ↓tupR_ap, Q.ret, getS, List.getElem?_cons_succ, List.getElem?_cons_zero, op_add, op_sub, op_mod, op_fdiv, Int.reduceLT, shd, bltD, store, shared, Q.bind1, Q.bindL, Option.bind_some, List.set_cons_succ, List.set_cons_zero, Bool.or_true, Bool.true_or, Bool.and_self, decide_true, op_mulRi, op_mulLi, op_mulR, op_mulL, Int.reduceNeg, List.mapM_nil, List.mapM_cons, Option.pure_def, Option.bind_eq_bind, List.length_nil, lim, Nat.zero_le, ↓reduceIte, List.length_cons, Nat.reduceAdd, Nat.reduceLeDiff]; rfl) rfl (by rw [List.length_append]; show l.length + 1 < _; omega) ?_
        refine step_nil (cont_nx ?_)
        refine step_for (xs := rangeL 0 60) (t' := u) (by simp only [↓Q.exec, ↓ev, ↓evL, ↓evT, ↓evO, ↓evI, ↓bnd_ap, ↓opt_ap, ↓bol_ap, ↓ite_ap, ↓lstR_ap, ↓tupR_ap, Q.ret, getS, List.getElem?_cons_succ, List.getElem?_cons_zero, op_add, op_sub, op_mod, op_fdiv, Int.reduceLT, shd, bltD, store, shared, Q.bind1, Q.bindL, Option.bind_some, List.set_cons_succ, List.set_cons_zero, Bool.or_true, Bool.true_or, Bool.and_self, decide_true, op_mulRi, op_mulLi, op_mulR, op_mulL, Int.reduceNeg, List.mapM_nil, List.mapM_cons, Option.pure_def, Option.bind_eq_bind, List.length_nil, lim, Nat.zero_le, ↓reduceIte, List.length_cons, Nat.reduceAdd, Nat.reduceLeDiff, intOf, hr60]) (fun j ρ t' => t' = u ∧ ∃ l m s4 s5 s7, ρ = [.ro (.list (ns.map .int)), .sh (.int n), .ow (.list l), .sh (.int m), s4, s5, .sh (.int 0), s7] ∧ IsDraws l ∧ l.length ≤ 60 * i + 2) ⟨rfl, _, _, _, _, _, rfl, hI.mod.mod, by rw [List.length_append, List.length_append]; show l.length + 1 + 1 ≤ _; omega⟩ ?_ ?_
        · rintro j d ρ u' hd' ⟨rfl, l, m, s4, s5, s7, rfl, hI, hle⟩
          refine ⟨_, rfl, ?_⟩
          refine step_ite (k := false) (t' := u') (by simp only [↓Q.exec, ↓ev, ↓evL, ↓evT, ↓evO, ↓evI, ↓bnd_ap, ↓opt_ap, ↓bol_ap, ↓ite_ap, ↓lstR_ap, ↓tupR_ap, Q.ret, getS, List.getElem?_cons_succ, List.getElem?_cons_zero, op_add, op_sub, op_mod, op_fdiv, Int.reduceLT, shd, bltD, store, shared, Q.bind1, Q.bindL, Option.bind_some, List.set_cons_succ, List.set_cons_zero, Bool.or_true, Bool.true_or, Bool.and_self, decide_true, op_mulRi, op_mulLi, op_mulR, op_mulL, Int.reduceNeg, List.mapM_nil, List.mapM_cons, Option.pure_def, Option.bind_eq_bind, List.length_nil, lim, Nat.zero_le, ↓reduceIte, List.length_cons, Nat.reduceAdd, Nat.reduceLeDiff, cp_gt, Int.lt_irrefl, decide_false]) (fun h => nomatch h) (fun _ => ?_)
          refine step_nil (cont_nx ?_)
          refine step_nil (turn_nx ?_)
          exact ⟨rfl, _, _, _, _, _, rfl, hI, by omega⟩
        · rintro ρ u' ⟨rfl, l, m, s4, s5, s7, rfl, hI, hle⟩
          refine step_nil (turn_nx ?_)
          exact ⟨rfl, _, _, _, _, _, _, rfl, hI, by omega⟩
    · rintro ρ u ⟨rfl, l, m, s4, s5, s6, s7, rfl, hI, hle⟩
      rw [rangeL_len] at hle
      have hle : l.length ≤ 3780 := by omega
      have hlm : lim = 16777216 := rfl
      have hr2 : rngB (n : Nat) = true := by
        exact rng_ok (by omega) (by omega)
      refine step_for (xs := rangeL 0 (n : Nat)) (t' := u) ?_ (fun j ρ t' => t' = u ∧ ∃ l m s4 s5 s6 s7, ρ = [.ro (.list (ns.map .int)), .sh (.int n), .ow (.list l), .sh (.int m), s4, s5, s6, s7] ∧ IsDraws l ∧ l.length ≤ 3780 + j ∧ j ≤ l.length) ⟨rfl, l, _, _, _, _, _, rfl, hI, hle, Nat.zero_le _⟩ ?_ ?_
      · exact it_rng1 (by simp only [↓Q.exec, ↓ev, ↓evL, ↓evT, ↓evO, ↓evI, ↓bnd_ap, ↓opt_ap, ↓bol_ap, ↓ite_ap, ↓lstR_ap, ↓tupR_ap, Q.ret, getS, List.getElem?_cons_succ, List.getElem?_cons_zero, op_add, op_sub, op_mod, op_fdiv, Int.reduceLT, shd, bltD, store, shared, Q.bind1, Q.bindL, Option.bind_some, List.set_cons_succ, List.set_cons_zero, Bool.or_true, Bool.true_or, Bool.and_self, decide_true, op_mulRi, op_mulLi, op_mulR, op_mulL, Int.reduceNeg, List.mapM_nil, List.mapM_cons, Option.pure_def, Option.bind_eq_bind, List.length_nil, lim, Nat.zero_le, ↓reduceIte, List.length_cons, Nat.reduceAdd, Nat.reduceLeDiff]; rfl) hr2
      · rintro j d ρ u' hd' ⟨rfl, l, m, s4, s5, s6, s7, rfl, hI, hle, hge⟩
        obtain ⟨rfl, hj⟩ := rangeL_get hd'
        refine ⟨_, rfl, ?_⟩
        refine step (by simp only [↓Q.exec, ↓ev, ↓evL, ↓evT, ↓evO, ↓evI, ↓bnd_ap, ↓opt_ap, ↓bol_ap, ↓ite_ap, ↓lstR_ap, ↓tupR_ap, Q.ret, getS, List.getElem?_cons_succ, List.getElem?_cons_zero, op_add, op_sub, op_mod, op_fdiv, Int.reduceLT, shd, bltD, store, shared, Q.bind1, Q.bindL, Option.bind_some, List.set_cons_succ, List.set_cons_zero, Bool.or_true, Bool.true_or, Bool.and_self, decide_true, op_mulRi, op_mulLi, op_mulR, op_mulL, Int.reduceNeg, List.mapM_nil, List.mapM_cons, Option.pure_def, Option.bind_eq_bind, List.length_nil, lim, Nat.zero_le, ↓reduceIte, List.length_cons, Nat.reduceAdd, Nat.reduceLeDiff]; rfl) ?_
        refine step_app (y := .int (_ % 997)) (xs := l) (by simp only [↓Q.exec, ↓ev, ↓evL, ↓evT, ↓evO, ↓evI, ↓bnd_ap, ↓opt_ap, ↓bol_ap, ↓ite_ap, ↓lstR_ap, ↓tupR_ap, Q.ret, getS, List.getElem?_cons_succ, List.getElem?_cons_zero, op_add, op_sub, op_mod, op_fdiv, Int.reduceLT, shd, bltD, store, shared, Q.bind1, Q.bindL, Option.bind_some, List.set_cons_succ, List.set_cons_zero, Bool.or_true, Bool.true_or, Bool.and_self, decide_true, op_mulRi, op_mulLi, op_mulR, op_mulL, Int.reduceNeg, List.mapM_nil, List.mapM_cons, Option.pure_def, Option.bind_eq_bind, List.length_nil, lim, Nat.zero_le, ↓reduceIte, List.length_cons, Nat.reduceAdd, Nat.reduceLeDiff]; rfl) rfl (by omega) ?_
        refine step_nil (turn_nx ?_)
        refine ⟨rfl, _, _, _, _, _, _, rfl, hI.mod, ?_, ?_⟩
        · rw [List.length_append]; show l.length + 1 ≤ _; omega
        · rw [List.length_append]; show _ ≤ l.length + 1; omega
      · rintro ρ u' ⟨rfl, l, m, s4, s5, s6, s7, rfl, ⟨ds, rfl, hd⟩, hle, hge⟩
        rw [rangeL_len] at hge
        rw [List.length_map] at hge
        have hn' : n ≤ ds.length := by omega
        refine step_rt (v := ⟨.fr, .list ((ds.take n).map .int)⟩) (t' := u') ?_ ⟨rfl, ds.take n, by rw [List.length_take]; omega, fun d h => hd d (List.mem_of_mem_take h), rfl⟩
        have : cut (ds.map PyData.int) none (some (n : Nat)) = (ds.take n).map .int := by
          unfold cut
          rw [HT.sIx_none, HT.sIx_nat, List.length_map, Nat.min_eq_left hn', Nat.sub_zero, List.drop_zero, List.map_take]
        simp only [↓Q.exec, ↓ev, ↓evL, ↓evT, ↓evO, ↓evI, ↓bnd_ap, ↓opt_ap, ↓bol_ap, ↓ite_ap, ↓lstR_ap, ↓tupR_ap, Q.ret, getS, List.getElem?_cons_succ, List.getElem?_cons_zero, op_add, op_sub, op_mod, op_fdiv, Int.reduceLT, shd, bltD, store, shared, Q.bind1, Q.bindL, Option.bind_some, List.set_cons_succ, List.set_cons_zero, Bool.or_true, Bool.true_or, Bool.and_self, decide_true, op_mulRi, op_mulLi, op_mulR, op_mulL, Int.reduceNeg, List.mapM_nil, List.mapM_cons, Option.pure_def, Option.bind_eq_bind, List.length_nil, lim, Nat.zero_le, ↓reduceIte, List.length_cons, Nat.reduceAdd, Nat.reduceLeDiff, slD, intOf, this, backR]
  obtain ⟨a, t', e, rfl, ds, h1, h2, rfl⟩ := key.get
  exact ⟨ds, h1, h2, e⟩
end Q
namespace Q
open PySem PySem.Spec PyProof.Rows L2 RZ
section
variable {P : Program} {w : World} {K : PySem.W.Frag} {mg : Str → Option Value} {base : Heap}
/-- a list that nobody changes -/
def RoL (K : PySem.W.Frag) (H : Hp) (a : Addr) (vs : List V) : Prop := (∃ ob, H a = some (.frz ob (.lst vs))) ∨ SqL K (fun _ => none) a vs
theorem RoL.mono {H H' : Hp} {a : Addr} {vs : List V} (h : RoL K H a vs) (e : ∀ b o, H b = some o → H' b = some o) : RoL K H' a vs := by
  rcases h with ⟨ob, h⟩ | h
  · exact .inl ⟨ob, e _ _ h⟩
  · exact .inr h
def spD (K : PySem.W.Frag) : Sp := fun vs H Q _ => ∃ (a : Addr) (ns : List Int) (n : Nat), vs = [.ref a, .int n] ∧ RoL K H a (ns.map V.int) ∧ ns.length ≤ 63 ∧ n ≤ 1000 ∧
  ∀ ds : List Int, ds.length = n → (∀ d ∈ ds, 0 ≤ d ∧ d < 997) → ∀ H' p, (∀ b o, H b = some o → H' b = some o) → H p = none → H' p = some (.lst (ds.map V.int)) → Q (.ref p) H'
def cD (K : PySem.W.Frag) : Pm := ⟨K, none, 0, []⟩
def repInts {c : Pm} {F : Hp} : ∀ ns : List Int, RepL c F (ns.map V.int) (ns.map PyData.int)
  | [] => .nil
  | n :: ns => .cons (.int n) (repInts ns)
theorem repInts_inv {c : Pm} {F : Hp} : ∀ {ns : List Int} {vs : List V}, RepL c F vs (ns.map PyData.int) → vs = ns.map V.int
  | [], _, .nil => rfl
  | n :: ns, _, .cons h r => by
    cases h
    rw [repInts_inv r]
    rfl
theorem draws_ok {st : Stmt} {f : Addr} {fd : FuncData} {k : Nat} (F : L2.Fun K "_law_draws" "_law_draws" st f fd) (S : FnScope ["script", "many", "draws", "mixed", "k", "cell", "rest", "turn"] ["script", "many"] (defScope st))
    (hc : chkSs [] ["script", "many", "draws", "mixed", "k", "cell", "rest", "turn"] (defScope st) drawsB (defBody st) = true) (M : Mods mg) :
    FnOk P w K mg base CX0 (k + 1) f fd ["script", "many"] (spD K) := by
  refine F.ok S (fun vs H Q E h => ?_) (fun cdv A outer s H vs Q E hr h => ?_)
  · obtain ⟨a, ns, n, rfl, _⟩ := h
    rfl
  · obtain ⟨a, ns, n, rfl, ha, hl, hn, p⟩ := h
    have G := goodS_of (P := P) (w := w) (base := base) (outer := outer) (H := H) (E := E) (c := cD K) (fs := []) (g := ⟨[], fun _ _ => fail⟩) rfl S M rfl hr (fun i y e => by simp at e) (fun n => absurd rfl n)
    refine ⟨_, sound_ss G drawsB (defBody st) hc, fun _ => none, H, fun _ => none, [.ro (.list (ns.map .int)), .sh (.int n), .un, .un, .un, .un, .un, .un], 0, ?_⟩
    obtain ⟨ds, h1, h2, e⟩ := draws_run ⟨[], fun _ _ => fail⟩ ns n hn hl 0
    refine ⟨_, _, ?_, e, ?_⟩
    · refine ⟨Grow.refl (fun _ _ q => nomatch q) (fun _ q => nomatch q), trivial, rfl, fun i s q => ?_, fun i j d d' _ q => ?_⟩
      · match i, q with
        | 0, q =>
          cases q
          exact ⟨a, ns.map V.int, ns.map .int, rfl, rfl, ha, repInts ns⟩
        | 1, q =>
          cases q
          exact ⟨.int n, rfl, .int n⟩
        | 2, q => cases q; trivial
        | 3, q => cases q; trivial
        | 4, q => cases q; trivial
        | 5, q => cases q; trivial
        | 6, q => cases q; trivial
        | 7, q => cases q; trivial
        | i + 8, q => cases q
      · match i, q with
        | 0, q => cases q
        | 1, q => cases q
        | 2, q => cases q
        | 3, q => cases q
        | 4, q => cases q
        | 5, q => cases q
        | 6, q => cases q
        | 7, q => cases q
        | i + 8, q => cases q
    · intro v F' H' x gr tp rr
      obtain ⟨b, rfl, e1, e2, vs, e3, r3⟩ := rr
      rw [repInts_inv r3] at e3
      exact p ds h1 h2 H' b (fun b o q => gr.hx b o (fun z => nomatch z) q) e1 e3
theorem DefAt.mono {k k' : Nat} {x : Str} {sp : Sp} (h : DefAt P w K mg base k x sp) (e : k ≤ k') : DefAt P w K mg base k' x sp := by
  obtain ⟨a, fd, ps, q1, q2, q3, q4⟩ := h.ex
  exact ⟨a, fd, ps, q1, q2, q3, q4.mono e⟩
theorem pss_ex {X : Cx} {xs : List Stmt} {α : Type} {t : α → TS} (h : ∀ c, PSs X xs (t c)) : PSs X xs fun D σ H => ∃ c, t c D σ H :=
  ⟨fun pins s σ H D I ⟨c, q⟩ => (h c).run pins s σ H D I q⟩
/-! ### the law -/
def spLaw (K : PySem.W.Frag) : Sp := fun vs H Q _ => ∃ (a : Addr) (ns : List Int), vs = [.ref a] ∧ RoL K H a (ns.map V.int) ∧ ns.length ≤ 63 ∧ ∀ H', Q (.bl true) H'
theorem spLaw_of {H : Hp} {a : Addr} {ns : List Int} (hl : ns.length ≤ 63) (hO : Only H) (hS : SqL K H a (ns.map V.int)) : spLaw K [.ref a] H (fun v _ => v = .bl true) fun _ _ _ => False := by
  refine ⟨a, ns, rfl, ?_, hl, fun _ => rfl⟩
  rcases hS with (h | h) | h
  · rcases hO a with q | ⟨o, xs, q⟩
    · rw [q] at h
      cases h
    · rw [q] at h
      cases h
  · exact .inl h
  · exact .inr (.inr h)
/-- the entry of the rest of the law: script, the draws' token, nothing else -/
def lawEnv (ns : List Int) (sl : Nat) : Env := .ro (.list (ns.map .int)) :: .sh tapeD :: List.replicate (sl - 2) .un
theorem lawEnv_len {ns : List Int} {sl : Nat} (h : 2 ≤ sl) : (lawEnv ns sl).length = sl := by
  unfold lawEnv
  rw [List.length_cons, List.length_cons, List.length_replicate]
  omega
theorem law_ok {k m : Nat} {fs : List Str} {fns : Nat → Option Fn} {st std : Stmt} {f fD : Addr} {fd fdD : FuncData} {N : List Str} {rest : SS} {rs : List Stmt}
    {p1 p2 p3 p4 p5 p6 p7 p8 p9 p10 : Pos} {j1 j2 j3 j4 : Nat}
    (F : L2.Fun K "law" "law" st f fd) (S : FnScope N ["script"] (defScope st)) (hN1 : N[1]? = some ("w" : Str)) (hm : m ≤ 1000)
    (hb : defBody st = .Assign [.Name "w" p1] (.Dict [some (.Constant (.str "draws") j1 p2), some (.Constant (.str "at") j2 p3)] [.Call (.Name "_law_draws" p4) [.Name "script" p5, .Constant (.int m) j3 p6] [] p7, .Constant (.int 0) j4 p8] p9) p10 :: rs)
    (hc : chkSs fs N (defScope st) rest rs = true)
    (hw : (defScope st).names.lookup ("w" : Str) = some NameKind.local ∨ (defScope st).names.lookup ("w" : Str) = some NameKind.cell) (hsc : vis (defScope st) "script" = true) (hgd : gl (defScope st) "_law_draws" = true)
    (M : Mods mg) (rows : ∀ i x, fs[i]? = some x → Row K mg fs fns i x)
    (FD : L2.Fun K "_law_draws" "_law_draws" std fD fdD) (SD : FnScope ["script", "many", "draws", "mixed", "k", "cell", "rest", "turn"] ["script", "many"] (defScope std))
    (hcD : chkSs [] ["script", "many", "draws", "mixed", "k", "cell", "rest", "turn"] (defScope std) drawsB (defBody std) = true) (bD : Binds K fdD ["script", "many"] []) (gD : mg "_law_draws" = some (.ref fD))
    (nx : ∀ c : Pm, c.K = K → DefAt P w K mg base 1 "_law_next" (spN c))
    (run : ∀ (ns ds : List Int), ns.length ≤ 63 → ds.length = m → (∀ d ∈ ds, 0 ≤ d ∧ d < 997) → Yes (execs ⟨ds, callF fns ds (k + 1)⟩ rest (lawEnv ns N.length)) 0 fun fl _ => fl = .rt ⟨.sh, .bool true⟩) :
    FnOk P w K mg base CX0 (k + 3) f fd ["script"] (spLaw K) := by
  have hpre : N.take 1 = [("script" : Str)] := S.pre
  have hN0 : N[0]? = some ("script" : Str) := by
    have := congrArg (fun l => l[0]?) hpre
    simpa using this
  have hlen2 : 2 ≤ N.length := (List.getElem?_eq_some_iff.mp hN1).1
  refine F.ok S (fun vs H Q E h => ?_) (fun cdv A outer s H vs Q E hr h => ?_)
  · obtain ⟨a, ns, rfl, _⟩ := h
    rfl
  · obtain ⟨a, ns, rfl, ha, hl, q⟩ := h
    rw [hb]
    have hu := hu_of hr
    have GD : FnOk P w K mg base CX0 (k + 2) fD fdD ["script", "many"] (spD K) := draws_ok FD SD hcD M
    have V0 : PE (cxOf CX0 P w K mg base N "law" (defScope st) f cdv A outer s H E).nox (.Name "script" p5) (tVar 0) := pe_slot (X := (cxOf CX0 P w K mg base N "law" (defScope st) f cdv A outer s H E).nox) (by
      show chkN N (defScope st) 0 (.Name "script" p5) = true
      simp only [chkN, hsc, hN0]
      rfl)
    have hdb : mg "__debug__" = none := M.db
    have G : ∀ c : Pm, c.K = K → GoodS (cxOf CX0 P w K mg base N "law" (defScope st) f cdv A outer s H E).nox c ⟨c.ds, callF fns c.ds (k + 1)⟩ fs := fun c hK =>
      goodS_of hK S M rfl hr (all_ok hK M rows (fun _ => nx c hK) (k + 1)) fun _ => (nx c hK).mono (by omega)
    refine ⟨_, pss_cons (ps_set (i := 1) S.nd hN1 hw (pe_disp (pps_cons pe_str (pe_call GD hr (gl_of hgd) gD FD.kp bD .nil pass0 (pa_cons V0 (pa_cons pe_int pa_nil))) (pps_cons pe_str pe_int pps_nil)) rfl rfl (by simp) (by simp)))
      (pss_ex fun c : { c : Pm // c.K = K } => sound_ss (G c.1 c.2) rest rs hc), ?_⟩
    refine fun pd hpd => ?_
    have hup : ∀ b o, H b = some o → upd H pd (HO.dK []) b = some o := fun b o e => by
      have n : b ≠ pd := fun z => by
        rw [z, hpd] at e
        cases e
      rw [upd_ne n]
      exact e
    refine ⟨.ref a, rfl, a, ns, m, rfl, ha.mono hup, hl, hm, fun ds h1 h2 H2 p x e1 e2 => ?_⟩
    have hpd2 : H2 pd = some (.dK []) := x _ _ upd_same
    have npd : p ≠ pd := fun z => by
      rw [z, upd_same] at e1
      cases e1
    refine ⟨hpd2, [(.inr "draws", .ref p), (.inr "at", .int 0)], rfl, by show 2 ≤ 15; decide, ?_⟩
    generalize hH3 : upd H2 pd (HO.dK (mergeK [] [(Sum.inr "draws", V.ref p), (Sum.inr "at", V.int 0)])) = H3
    have h3pd : H3 pd = some (.dK [(.inr "draws", .ref p), (.inr "at", .int ((0 : Nat) : Int))]) := by
      rw [← hH3, upd_same]
      rfl
    have h3p : H3 p = some (.lst (ds.map V.int)) := by
      rw [← hH3, upd_ne npd]
      exact e2
    have h3 : ∀ b o, H b = some o → H3 b = some o := fun b o e => by
      have n : b ≠ pd := fun z => by
        rw [z, hpd] at e
        cases e
      rw [← hH3, upd_ne n]
      exact x _ _ (hup _ _ e)
    let c : Pm := ⟨K, some pd, p, ds⟩
    let F : Hp := fun b => if b = p then some (.lst (ds.map V.int)) else none
    have hFp : F p = some (.lst (ds.map V.int)) := if_pos rfl
    have hFd : F pd = none := if_neg fun z => npd z.symm
    have hext : Ext F H3 := fun b o e => by
      by_cases z : b = p
      · subst z
        rw [hFp] at e
        rw [← e]
        exact h3p
      · rw [show F b = none from if_neg z] at e
        cases e
    have tp : Tape c F H3 0 := ⟨h3pd, hFd, hFp⟩
    refine ⟨⟨c, rfl⟩, F, H3, F, lawEnv ns N.length, 0, ?_⟩
    obtain ⟨fl, t', e, rfl⟩ := (run ns ds hl h1 h2).get
    refine ⟨_, _, ⟨Grow.refl hext tp.there, tp, ?_, fun i s q => ?_, fun i j d d' _ q => ?_⟩, e, ?_⟩
    · rw [lawEnv_len hlen2, List.length_set]
      show N.length = (L2.start N [V.ref a]).length
      simp only [L2.start, List.length_append, List.length_map, List.length_cons, List.length_nil, List.length_replicate]
      omega
    · match i, q with
      | 0, q =>
        cases q
        refine ⟨a, ns.map V.int, ns.map .int, rfl, rfl, ?_, repInts ns⟩
        rcases ha with ⟨ob, ha⟩ | ha
        · exact .inl ⟨ob, h3 _ _ ha⟩
        · exact .inr ha
      | 1, q =>
        cases q
        refine ⟨.ref pd, ?_, .tape rfl⟩
        rw [List.getElem?_set_self]
        simp only [L2.start, List.length_append, List.length_map, List.length_cons, List.length_nil, List.length_replicate]
        omega
      | i + 2, q =>
        have q : (List.replicate (N.length - 2) Sl.un)[i]? = some s := q
        have := List.mem_of_getElem? q
        rw [List.mem_replicate] at this
        rw [this.2]
        trivial
    · match i, q with
      | 0, q => cases q
      | 1, q => cases q
      | i + 2, q =>
        have q : (List.replicate (N.length - 2) Sl.un)[i]? = some (.ow d) := q
        have := List.mem_of_getElem? q
        rw [List.mem_replicate] at this
        cases this.2
    · intro v F' H' x gr tp rr
      cases rr
      exact q H'
end
end Q
namespace Q
open PySem
/-! ### words for the plain laws -/
section
variable {fns : Nat → Option Fn} {ds : List Int} {k i : Nat} {fn : Fn} {args : List D} {t t' : Nat} {r : R}
theorem callF_fn (h : fns i = some fn) (hl : args.length = fn.np) : callF fns ds (k + 1) i args t = bnd (execs ⟨ds, callF fns ds k⟩ fn.body (entry fn args)) (fun fl => opt (endR fl)) t := by
  rw [callF, h]
  show runF _ fn args t = _
  unfold runF
  rw [if_pos hl]
theorem call_yes (h : fns i = some fn) (hl : args.length = fn.np) (y : Yes (execs ⟨ds, callF fns ds k⟩ fn.body (entry fn args)) t fun fl u => endR fl = some r ∧ u = t') : callF fns ds (k + 1) i args t = some (r, t') := by
  rw [callF_fn h hl]
  obtain ⟨fl, u, e, e2, rfl⟩ := y.get
  rw [bnd_ap, e]
  show opt (endR fl) u = _
  rw [opt_ap, e2]
theorem callKd_nil : callKd [] r = some r := rfl
theorem callKd_sh {d : D} {as : List R} : callKd (⟨.sh, d⟩ :: as) r = callKd as r := by
  simp [callKd]
theorem callKd_fr {d : D} {as : List R} : callKd (⟨.fr, d⟩ :: as) r = callKd as r := by
  simp [callKd]
end
section
variable {a b : Int} {x : D} {p q : Bool}
theorem eqv_int : PyData.eqv (.int a) (.int b) = decide (a = b) := by
  show (a == b) = decide (a = b)
  rw [Bool.eq_iff_iff]
  simp
theorem okD_int : okD (.int a) = true := rfl
theorem cp_eqI : cpD .eq (.int a) (.int b) = some (decide (a = b)) := by
  simp [cpD, okD_int, eqv_int]
theorem cp_neI : cpD .ne (.int a) (.int b) = some (!decide (a = b)) := by
  simp [cpD, okD_int, eqv_int]
theorem eqv_self (h : okD x = true) : PyData.eqv x x = true := by
  simp only [okD, Bool.and_eq_true] at h
  exact PySem.SeqAt.eqv_refl_plain x h.1
theorem cp_eq_self (h : okD x = true) : cpD .eq x x = some true := by
  simp [cpD, h, eqv_self h]
theorem cp_ne_self (h : okD x = true) : cpD .ne x x = some false := by
  simp [cpD, h, eqv_self h]
theorem cp_isB : cpD .iss (.bool p) (.bool q) = some (decide (p = q)) := rfl
end
section
variable {a b c d : D} {xs : List D}
theorem atI_0 : L2.atI (a :: xs) 0 = some a := L2.atI_nat rfl
theorem atI_1 : L2.atI (a :: b :: xs) 1 = some b := L2.atI_nat rfl
theorem atI_2 : L2.atI (a :: b :: c :: xs) 2 = some c := L2.atI_nat rfl
theorem atI_3 : L2.atI (a :: b :: c :: d :: xs) 3 = some d := L2.atI_nat rfl
end
theorem step_frz' {g : Gl} {i : Nat} {r : SS} {ρ ρ' : Env} {t : Nat} {P : Fl → Nat → Prop} (e : frzE ρ i = ρ') (k : Yes (execs g r ρ') t P) : Yes (execs g (.frz i r) ρ) t P := by
  subst e
  exact step_frz k
/-! ### rows of ints -/
def irange (a b : Int) : List Int := (List.range (b - a).toNat).map fun (k : Nat) => a + k
theorem rangeL_eq {a b : Int} : rangeL a b = (irange a b).map .int := by
  unfold rangeL irange
  rw [List.map_map]
  rfl
theorem mem_irange {a b x : Int} : x ∈ irange a b ↔ a ≤ x ∧ x < b := by
  unfold irange
  simp only [List.mem_map, List.mem_range]
  constructor
  · rintro ⟨k, h, rfl⟩
    omega
  · rintro ⟨h1, h2⟩
    exact ⟨(x - a).toNat, by omega, by omega⟩
theorem irange_len {a b : Int} : (irange a b).length = (b - a).toNat := by simp [irange]
theorem irange_split {a b c : Int} (h1 : a ≤ b) (h2 : b ≤ c) : irange a c = irange a b ++ irange b c := by
  unfold irange
  rw [show (c - a).toNat = (b - a).toNat + (c - b).toNat by omega, List.range_add, List.map_append, List.map_map]
  congr 1
  refine List.map_congr_left fun k _ => ?_
  show a + (((b - a).toNat + k : Nat) : Int) = b + k
  omega
theorem plain_ints : ∀ ns : List Int, PyData.plainAll (ns.map .int) = true
  | [] => rfl
  | n :: ns => by
    rw [List.map_cons, PyData.plainAll, plain_ints ns]
    rfl
theorem depth_ints : ∀ ns : List Int, PyData.depthAll (ns.map .int) = 0
  | [] => rfl
  | n :: ns => by
    rw [List.map_cons, PyData.depthAll, depth_ints ns]
    rfl
theorem okD_ints {ns : List Int} : okD (.list (ns.map .int)) = true := by
  simp only [okD, PyData.plain, plain_ints, PyData.depth, depth_ints]
  decide
theorem alike_ints {ns : List Int} : ((ns.map PyData.int).all fun x => (ns.map PyData.int).all fun y => PySem.W.alike x y) = true := by
  simp [List.all_eq_true, PySem.W.alike]
theorem ordD_ints {ns : List Int} : ordD (ns.map .int) = true := by
  simp only [ordD, alk, alike_ints, plain_ints, depth_ints, Bool.and_eq_true, decide_eq_true_eq]
  refine ⟨⟨⟨trivial, trivial⟩, by omega⟩, ?_⟩
  simp [List.all_eq_true, nnoD]
theorem max1_ints {k : Kd} {n : Int} {ns : List Int} : bltD .max1 [⟨k, .list ((n :: ns).map .int)⟩] = some ⟨.sh, .int (ns.foldl max n)⟩ := by
  show (if ordD ((n :: ns).map .int) then some (shd (PySem.W.maxD (.int n) (ns.map .int))) else none) = _
  rw [ordD_ints, if_pos rfl, PySem.W.maxD_ints]
  rfl
theorem min1_ints {k : Kd} {n : Int} {ns : List Int} : bltD .min1 [⟨k, .list ((n :: ns).map .int)⟩] = some ⟨.sh, .int (ns.foldl min n)⟩ := by
  show (if ordD ((n :: ns).map .int) then some (shd (PySem.W.minD (.int n) (ns.map .int))) else none) = _
  rw [ordD_ints, if_pos rfl, PySem.W.minD_ints]
  rfl
theorem eqv_nil {xs : List D} : PyData.eqv (.list xs) (.list []) = xs.isEmpty := by
  cases xs with
  | nil => rfl
  | cons x r => simp [PyData.eqv, PyData.eqvAll]
theorem cp_ne_nil {xs : List D} (h : okD (.list xs) = true) : cpD .ne (.list xs) (.list []) = some (!xs.isEmpty) := by
  simp only [cpD, h, eqv_nil]
  rfl
theorem cp_eq_nil {xs : List D} (h : okD (.list xs) = true) : cpD .eq (.list xs) (.list []) = some xs.isEmpty := by
  simp only [cpD, h, eqv_nil]
  rfl
theorem atI_neg1 {xs : List D} {d : D} (h : xs.getLast? = some d) : L2.atI xs (-1) = some d := by
  cases xs with
  | nil => cases h
  | cons x r =>
    have := List.dropLast_concat_getLast (List.cons_ne_nil x r)
    rw [← this, L2.atI_last]
    rw [List.getLast?_eq_getLast (List.cons_ne_nil x r)] at h
    exact h
/-! ### comprehensions -/
theorem compM_pure {xs : List D} {f : D → M (Option D)} {t : Nat} (h : D → Option D) (e : ∀ d, d ∈ xs → f d t = some (h d, t)) : compM xs f t = some (xs.filterMap h, t) := by
  induction xs with
  | nil => rfl
  | cons x r ih =>
    unfold compM
    rw [bnd_ap, e x List.mem_cons_self]
    show bnd (compM r f) _ t = _
    rw [bnd_ap, ih fun d hd => e d (List.mem_cons_of_mem _ hd)]
    cases hx : h x with
    | none => rw [List.filterMap_cons_none hx]
    | some y => rw [List.filterMap_cons_some hx]
def lcB (g : Gl) (vs : List Nat) (elt : E) (tg : Tg) (cond : TO) (ρ : Env) (d : D) : M (Option D) :=
  bnd (opt (bind1 tg d (wipeE ρ vs))) fun ρ2 => bnd (evTO g cond ρ2) fun k => if k then bnd (ev g elt ρ2) fun r => bnd (opt (shared r)) fun y => ret (some y) else ret none
theorem ev_lc {g : Gl} {vs : List Nat} {elt : E} {tg : Tg} {it : It} {cond : TO} {ρ : Env} {t t' : Nat} {b : Bool} {xs : List D} (e : evI g it ρ t = some ((b, xs), t')) (h : D → Option D)
    (hh : ∀ d, d ∈ xs → lcB g vs elt tg cond ρ d t' = some (h d, t')) (hl : xs.length ≤ lim) : ev g (.lc vs elt tg it cond) ρ t = some (⟨.fr, .list (xs.filterMap h)⟩, t') := by
  rw [ev, bnd_ap, e]
  show bnd (compM xs (lcB g vs elt tg cond ρ)) lstR t' = _
  rw [bnd_ap, compM_pure h hh]
  show lstR _ t' = _
  rw [lstR_ap, if_pos (Nat.le_trans (List.length_filterMap_le h xs) hl)]
/-- over a row of ints, to a row of ints -/
theorem ev_lcI {g : Gl} {vs : List Nat} {elt : E} {tg : Tg} {it : It} {cond : TO} {ρ : Env} {t t' : Nat} {b : Bool} {ns : List Int} (e : evI g it ρ t = some ((b, ns.map .int), t')) (p : Int → Bool) (f : Int → D)
    (hh : ∀ n, n ∈ ns → lcB g vs elt tg cond ρ (.int n) t' = some (if p n then some (f n) else none, t')) (hl : ns.length ≤ lim) : ev g (.lc vs elt tg it cond) ρ t = some (⟨.fr, .list ((ns.filter p).map f)⟩, t') := by
  have := ev_lc (g := g) (vs := vs) (elt := elt) (tg := tg) (cond := cond) e (fun d => match d with | .int n => if p n then some (f n) else none | _ => none) (fun d hd => by
    obtain ⟨n, hn, rfl⟩ := List.mem_map.mp hd
    exact hh n hn) (by rw [List.length_map]; exact hl)
  rw [this]
  congr 4
  clear this hh e hl
  induction ns with
  | nil => rfl
  | cons n ns ih =>
    rw [List.map_cons, List.filter_cons, List.filterMap_cons]
    cases hp : p n with
    | true => simp [hp, ih]
    | false => simp [hp, ih]
theorem next_ok' {ds : List Int} (hd : ∀ d ∈ ds, 0 ≤ d ∧ d < 997) {m : Int} (hm : 0 < m) (t : Nat) : ∃ x, nextD ds m t = some (x, t + 1) ∧ 0 ≤ x ∧ x < m := by
  unfold nextD
  rw [if_pos hm]
  split
  · exact ⟨0, rfl, Int.le_refl _, hm⟩
  · rename_i h
    have h : t < ds.length := by omega
    rw [List.getElem?_eq_getElem h]
    exact ⟨_, rfl, Int.emod_nonneg _ (by omega), Int.emod_lt_of_pos _ hm⟩
theorem ev_nxt {ds : List Int} {c : Nat → List D → M R} {w : Nat} {e : E} {ρ : Env} {t t' t2 : Nat} {m x : Int} {k : Kd} (he : ev ⟨ds, c⟩ e ρ t = some (⟨k, .int m⟩, t')) (hw : ρ[w]? = some (.sh tapeD)) (hn : nextD ds m t' = some (x, t2)) :
    ev ⟨ds, c⟩ (.nxt w e) ρ t = some (⟨.sh, .int x⟩, t2) := by
  rw [ev, bnd_ap, he]
  show bnd (opt (some m)) _ t' = _
  rw [bnd_ap, opt_ap]
  have : isTape (getS ρ w) = true := by
    unfold getS
    rw [hw]
    rfl
  show (if isTape (getS ρ w) = true then bnd (nextD ds m) _ else fail : M R) t' = _
  rw [if_pos this, bnd_ap, hn]
  rfl
/-! ### while -/
theorem step_whl {g : Gl} {c : T} {b r : SS} {ρ : Env} {t : Nat} {P : Fl → Nat → Prop} (I : Nat → Env → Nat → Prop) (n : Nat) (hn : n < big) (h0 : I n ρ t)
    (hs : ∀ n ρ t, I n ρ t → ∃ k, evT g c ρ t = some (k, t) ∧ (k = false → Yes (execs g r ρ) t P) ∧ (k = true → 0 < n ∧ Yes (execs g b ρ) t (Turn (I (n - 1)) (fun ρ t => Yes (execs g r ρ) t P) P))) :
    Yes (execs g (.cons (.whl c b) r) ρ) t P := by
  refine yes_cons ?_
  rw [exec]
  have : ∀ m n ρ t, n < m → I n ρ t → Yes (whileM m (fun ρ => evT g c ρ) (fun ρ => execs g b ρ) ρ) t (Cont g r P) := by
    intro m
    induction m with
    | zero => intro n ρ t h; omega
    | succ m ih =>
      intro n ρ t h hI
      obtain ⟨k, e, h1, h2⟩ := hs n ρ t hI
      unfold whileM
      rw [yes_bnd]
      refine .of e ?_
      cases k with
      | false => exact .of rfl (cont_nx (h1 rfl))
      | true =>
        obtain ⟨hp, h2⟩ := h2 rfl
        rw [if_pos rfl, yes_bnd]
        refine h2.mono fun fl u q => ?_
        have q := q.get
        cases fl with
        | nx ρ' => exact ih (n - 1) ρ' u (by omega) q
        | ct ρ' => exact ih (n - 1) ρ' u (by omega) q
        | bk ρ' => exact .of rfl (cont_nx q)
        | rt v => exact .of rfl (cont_rt q)
  exact this _ n ρ t hn h0
end Q
/-! ### fractions, as many laws have them -/
namespace Q
abbrev tp (a b : Int) : D := .tuple [.int a, .int b]
def nrm (a b : Int) : D := tp (a / (Int.gcd a b : Nat)) (b / (Int.gcd a b : Nat))
theorem gcd_step (a b : Nat) : Nat.gcd b (a % b) = Nat.gcd a b := by
  rw [Nat.gcd_comm b, ← Nat.gcd_rec, Nat.gcd_comm]
theorem modC (a b : Nat) : ((a : Int) % (b : Int)) = ((a % b : Nat) : Int) := by omega
theorem gcd_mod (x y : Int) : Int.gcd y (x % y) = Int.gcd x y := by
  rw [Int.gcd_comm]
  have h : x = x % y + y * (x / y) := (Int.emod_add_mul_ediv x y).symm
  conv => rhs; rw [h]
  exact (Int.gcd_add_mul_left_left y _ _).symm
def bDiv : SS := (.cons (.whl (.cmp .ne (.var 1) (.cst (.int 0))) (.cons (.par [.tg (.nm 0), .tg (.nm 1)] (.cons (.var 1) (.cons (.bin .mod (.var 0) (.var 1)) .nil))) .nil)) (.cons (.ret (.ite (.cmp .ne (.var 0) (.cst (.int 0))) (.var 0) (.cst (.int 1)))) .nil))
def bFr (i : Nat) : SS := (.cons (.asg (.nm 2) (.bin .mul (.call i (.cons (.blt .abs (.cons (.var 0) .nil)) (.cons (.blt .abs (.cons (.var 1) .nil)) .nil))) (.ite (.cmp .gt (.var 1) (.cst (.int 0))) (.cst (.int 1)) (.neg (.cst (.int 1)))))) (.cons (.ret (.tup (.cons (.bin .fdiv (.var 0) (.var 2)) (.cons (.bin .fdiv (.var 1) (.var 2)) .nil)))) .nil))
def bLt : SS := (.cons (.ret (.cmp .lt (.bin .mul (.ix (.var 0) (.cst (.int 0))) (.ix (.var 1) (.cst (.int 1)))) (.bin .mul (.ix (.var 1) (.cst (.int 0))) (.ix (.var 0) (.cst (.int 1)))))) .nil)
section
variable {fns : Nat → Option Fn} {ds : List Int} {k t i j : Nat} {a b c d : Int} {e f : D}
theorem lt_ok (h : fns i = some ⟨2, 2, bLt⟩) (ha : intB a = true) (hc : intB c = true) : callF fns ds (k + 1) i [tp a b, tp c d] t = some (⟨.sh, .bool (decide (a * d < c * b))⟩, t) := by
  rw [callF_fn h rfl]
  simp only [bLt, ↓Q.exec, ↓ev, ↓evL, ↓evT, ↓evO, ↓evI, ↓bnd_ap, ↓opt_ap, ↓bol_ap, ↓ite_ap, ↓lstR_ap, ↓tupR_ap, Q.ret, getS, List.getElem?_cons_succ, List.getElem?_cons_zero, op_add, op_sub, op_mod, op_fdiv, Int.reduceLT, shd, bltD, store, shared, Q.bind1, Q.bindL, Option.bind_some, List.set_cons_succ, List.set_cons_zero, Bool.or_true, Bool.true_or, Bool.and_self, decide_true, op_mulRi, op_mulLi, op_mulR, op_mulL, Int.reduceNeg, List.mapM_nil, List.mapM_cons, Option.pure_def, Option.bind_eq_bind, List.length_nil, lim, Nat.zero_le, ↓reduceIte, List.length_cons, Nat.reduceAdd, Nat.reduceLeDiff, ↓Q.execs, ↓evAnd, ↓evOr, ↓evTA, ↓evTR, ↓evTO, callKd_nil, callKd_sh, callKd_fr, cp_lt, cp_le, cp_gt, cp_ge, cp_eqI, cp_neI, cp_isB, tru, entry, endR, backR, List.map_cons, List.map_nil, List.replicate, List.cons_append, List.nil_append, Nat.reduceSub, ixD, atI_0, atI_1, atI_2, atI_3, Option.map_some, intOf, Nat.sub_self, retS, storesM, List.all_cons, List.all_nil, Option.isSome_some, Bool.and_true, Bool.true_and, reduceCtorEq, ↓callKd_nil, backR, List.all_cons, op_sub, List.mapM_cons, Bool.not_true, Bool.not_false, Bool.false_eq_true, Bool.true_eq_false, decide_false, eq_self, slD, ha, hc]
theorem div_ok (h : fns i = some ⟨2, 2, bDiv⟩) {a b : Nat} (hb : b < 1000000000) (hg : Nat.gcd a b ≠ 0) : callF fns ds (k + 1) i [.int a, .int b] t = some (⟨.sh, .int (Nat.gcd a b : Nat)⟩, t) := by
  refine call_yes h rfl ?_
  show Yes (Q.execs _ bDiv _) _ _
  unfold bDiv
  refine step_whl (fun n ρ u => u = t ∧ ∃ x y : Nat, ρ = [.sh (.int x), .sh (.int y)] ∧ y ≤ n ∧ Nat.gcd x y = Nat.gcd a b) b hb ⟨rfl, a, b, rfl, Nat.le_refl _, rfl⟩ ?_
  rintro n ρ u ⟨rfl, x, y, rfl, hy, hxy⟩
  refine ⟨!decide ((y : Int) = 0), by simp only [↓Q.exec, ↓ev, ↓evL, ↓evT, ↓evO, ↓evI, ↓bnd_ap, ↓opt_ap, ↓bol_ap, ↓ite_ap, ↓lstR_ap, ↓tupR_ap, Q.ret, getS, List.getElem?_cons_succ, List.getElem?_cons_zero, op_add, op_sub, op_mod, op_fdiv, Int.reduceLT, shd, bltD, store, shared, Q.bind1, Q.bindL, Option.bind_some, List.set_cons_succ, List.set_cons_zero, Bool.or_true, Bool.true_or, Bool.and_self, decide_true, op_mulRi, op_mulLi, op_mulR, op_mulL, Int.reduceNeg, List.mapM_nil, List.mapM_cons, Option.pure_def, Option.bind_eq_bind, List.length_nil, lim, Nat.zero_le, ↓reduceIte, List.length_cons, Nat.reduceAdd, Nat.reduceLeDiff, ↓Q.execs, ↓evAnd, ↓evOr, ↓evTA, ↓evTR, ↓evTO, callKd_nil, callKd_sh, callKd_fr, cp_lt, cp_le, cp_gt, cp_ge, cp_eqI, cp_neI, cp_isB, tru, entry, endR, backR, List.map_cons, List.map_nil, List.replicate, List.cons_append, List.nil_append, Nat.reduceSub, ixD, atI_0, atI_1, atI_2, atI_3, Option.map_some, intOf, Nat.sub_self, retS, storesM, List.all_cons, List.all_nil, Option.isSome_some, Bool.and_true, Bool.true_and, reduceCtorEq, ↓callKd_nil, backR, List.all_cons, op_sub, List.mapM_cons, Bool.not_true, Bool.not_false, Bool.false_eq_true, Bool.true_eq_false, decide_false, eq_self, slD], fun hq => ?_, fun hq => ?_⟩
  · have h0 : y = 0 := by simpa using hq
    subst h0
    rw [Nat.gcd_zero_right] at hxy
    have hx : ((x : Int) = 0) = False := by
      simp only [eq_iff_iff, iff_false]
      omega
    refine step_rt (v := ⟨.sh, .int x⟩) (t' := u) (by simp only [↓Q.exec, ↓ev, ↓evL, ↓evT, ↓evO, ↓evI, ↓bnd_ap, ↓opt_ap, ↓bol_ap, ↓ite_ap, ↓lstR_ap, ↓tupR_ap, Q.ret, getS, List.getElem?_cons_succ, List.getElem?_cons_zero, op_add, op_sub, op_mod, op_fdiv, Int.reduceLT, shd, bltD, store, shared, Q.bind1, Q.bindL, Option.bind_some, List.set_cons_succ, List.set_cons_zero, Bool.or_true, Bool.true_or, Bool.and_self, decide_true, op_mulRi, op_mulLi, op_mulR, op_mulL, Int.reduceNeg, List.mapM_nil, List.mapM_cons, Option.pure_def, Option.bind_eq_bind, List.length_nil, lim, Nat.zero_le, ↓reduceIte, List.length_cons, Nat.reduceAdd, Nat.reduceLeDiff, ↓Q.execs, ↓evAnd, ↓evOr, ↓evTA, ↓evTR, ↓evTO, callKd_nil, callKd_sh, callKd_fr, cp_lt, cp_le, cp_gt, cp_ge, cp_eqI, cp_neI, cp_isB, tru, entry, endR, backR, List.map_cons, List.map_nil, List.replicate, List.cons_append, List.nil_append, Nat.reduceSub, ixD, atI_0, atI_1, atI_2, atI_3, Option.map_some, intOf, Nat.sub_self, retS, storesM, List.all_cons, List.all_nil, Option.isSome_some, Bool.and_true, Bool.true_and, reduceCtorEq, ↓callKd_nil, backR, List.all_cons, op_sub, List.mapM_cons, Bool.not_true, Bool.not_false, Bool.false_eq_true, Bool.true_eq_false, decide_false, eq_self, slD, hx, decide_false, Bool.not_false]) ?_
    rw [hxy]
    exact ⟨rfl, rfl⟩
  · have h0 : y ≠ 0 := by simpa using hq
    refine ⟨by omega, ?_⟩
    have hp : (0 : Int) < (y : Int) := by omega
    refine step (ρ' := [.sh (.int y), .sh (.int ((x % y : Nat) : Int))]) (t' := u) (by simp only [↓Q.exec, ↓ev, ↓evL, ↓evT, ↓evO, ↓evI, ↓bnd_ap, ↓opt_ap, ↓bol_ap, ↓ite_ap, ↓lstR_ap, ↓tupR_ap, Q.ret, getS, List.getElem?_cons_succ, List.getElem?_cons_zero, op_add, op_sub, op_mod, op_fdiv, Int.reduceLT, shd, bltD, store, shared, Q.bind1, Q.bindL, Option.bind_some, List.set_cons_succ, List.set_cons_zero, Bool.or_true, Bool.true_or, Bool.and_self, decide_true, op_mulRi, op_mulLi, op_mulR, op_mulL, Int.reduceNeg, List.mapM_nil, List.mapM_cons, Option.pure_def, Option.bind_eq_bind, List.length_nil, lim, Nat.zero_le, ↓reduceIte, List.length_cons, Nat.reduceAdd, Nat.reduceLeDiff, ↓Q.execs, ↓evAnd, ↓evOr, ↓evTA, ↓evTR, ↓evTO, callKd_nil, callKd_sh, callKd_fr, cp_lt, cp_le, cp_gt, cp_ge, cp_eqI, cp_neI, cp_isB, tru, entry, endR, backR, List.map_cons, List.map_nil, List.replicate, List.cons_append, List.nil_append, Nat.reduceSub, ixD, atI_0, atI_1, atI_2, atI_3, Option.map_some, intOf, Nat.sub_self, retS, storesM, List.all_cons, List.all_nil, Option.isSome_some, Bool.and_true, Bool.true_and, reduceCtorEq, ↓callKd_nil, backR, List.all_cons, op_sub, List.mapM_cons, Bool.not_true, Bool.not_false, Bool.false_eq_true, Bool.true_eq_false, decide_false, eq_self, slD, hp, modC]) ?_
    refine step_nil (turn_nx ?_)
    have := Nat.mod_lt x (Nat.pos_of_ne_zero h0)
    exact ⟨rfl, y, x % y, rfl, by omega, by rw [gcd_step]; exact hxy⟩

/-- the greatest common divisor is above 0 -/
theorem gpos {a b : Int} (hb : 0 < b) : 0 < Int.gcd a b ∧ (Int.gcd a b : Int) ≤ b := by
  have h1 : (Int.gcd a b : Int) ∣ b := Int.gcd_dvd_right ..
  have h2 : 0 < Int.gcd a b := Int.gcd_pos_of_ne_zero_right a (by omega)
  exact ⟨h2, Int.le_of_dvd hb h1⟩
theorem abs_cast (a : Int) : (if a < 0 then -a else a) = ((a.natAbs : Nat) : Int) := by
  split <;> omega
theorem fr_ok (h : fns i = some ⟨2, 2, bDiv⟩) (h' : fns j = some ⟨2, 3, bFr i⟩) (hb : 0 < b) (hb2 : b < 1000000000) : callF fns ds (k + 2) j [.int a, .int b] t = some (⟨.sh, nrm a b⟩, t) := by
  obtain ⟨g1, g2⟩ := gpos (a := a) hb
  have e0 : callF fns ds (k + 1) i [.int (a.natAbs : Nat), .int (b.natAbs : Nat)] t = some (⟨.sh, .int (Int.gcd a b : Nat)⟩, t) := div_ok h (by omega) (by
    have : Nat.gcd a.natAbs b.natAbs = Int.gcd a b := rfl
    omega)
  have p1 : (0 : Int) < (Int.gcd a b : Nat) := by omega
  have p2 : ((Int.gcd a b : Nat) : Int) < 1073741824 := by omega
  rw [callF_fn h' rfl]
  simp only [bFr, ↓Q.exec, ↓ev, ↓evL, ↓evT, ↓evO, ↓evI, ↓bnd_ap, ↓opt_ap, ↓bol_ap, ↓ite_ap, ↓lstR_ap, ↓tupR_ap, Q.ret, getS, List.getElem?_cons_succ, List.getElem?_cons_zero, op_add, op_sub, op_mod, op_fdiv, Int.reduceLT, shd, bltD, store, shared, Q.bind1, Q.bindL, Option.bind_some, List.set_cons_succ, List.set_cons_zero, Bool.or_true, Bool.true_or, Bool.and_self, decide_true, op_mulRi, op_mulLi, op_mulR, op_mulL, Int.reduceNeg, List.mapM_nil, List.mapM_cons, Option.pure_def, Option.bind_eq_bind, List.length_nil, lim, Nat.zero_le, ↓reduceIte, List.length_cons, Nat.reduceAdd, Nat.reduceLeDiff, ↓Q.execs, ↓evAnd, ↓evOr, ↓evTA, ↓evTR, ↓evTO, callKd_nil, callKd_sh, callKd_fr, cp_lt, cp_le, cp_gt, cp_ge, cp_eqI, cp_neI, cp_isB, tru, entry, endR, backR, List.map_cons, List.map_nil, List.replicate, List.cons_append, List.nil_append, Nat.reduceSub, ixD, atI_0, atI_1, atI_2, atI_3, Option.map_some, intOf, Nat.sub_self, retS, storesM, List.all_cons, List.all_nil, Option.isSome_some, Bool.and_true, Bool.true_and, reduceCtorEq, ↓callKd_nil, backR, List.all_cons, op_sub, List.mapM_cons, Bool.not_true, Bool.not_false, Bool.false_eq_true, Bool.true_eq_false, decide_false, eq_self, slD, abs_cast, e0, hb, Int.mul_one, p1, p2, nrm]
theorem nrm_scale (hg : 0 < c) : nrm (a * c) (b * c) = nrm a b := by
  have h : ((Int.gcd (a * c) (b * c) : Nat) : Int) = (Int.gcd a b : Nat) * c := by
    rw [Int.gcd_mul_right, Int.natCast_mul]
    congr 1
    omega
  unfold nrm
  rw [h, Int.mul_ediv_mul_of_pos_left _ _ hg, Int.mul_ediv_mul_of_pos_left _ _ hg]
theorem nrm_parts (a : Int) {b : Int} (hb : 0 < b) : ∃ p q g : Int, nrm a b = tp p q ∧ a = p * g ∧ b = q * g ∧ 0 < g ∧ 0 < q := by
  obtain ⟨g1, g2⟩ := gpos (a := a) hb
  have e1 := Int.ediv_mul_cancel (Int.gcd_dvd_left a b)
  have e2 := Int.ediv_mul_cancel (Int.gcd_dvd_right a b)
  refine ⟨_, _, (Int.gcd a b : Nat), rfl, e1.symm, e2.symm, by omega, ?_⟩
  by_cases h : 0 < b / (Int.gcd a b : Nat)
  · exact h
  · have : b / (Int.gcd a b : Nat) * (Int.gcd a b : Nat) ≤ 0 := Int.mul_nonpos_of_nonpos_of_nonneg (by omega) (by omega)
    omega
theorem part_le {a p g : Int} (h : a = p * g) (hg : 0 < g) (ha : 0 ≤ a) : 0 ≤ p ∧ p ≤ a := by
  have hp : 0 ≤ p := by
    by_cases q : 0 ≤ p
    · exact q
    · have : p * g < 0 := Int.mul_neg_of_neg_of_pos (by omega) hg
      omega
  refine ⟨hp, ?_⟩
  rw [h]
  have := Int.mul_le_mul_of_nonneg_left (show 1 ≤ g by omega) hp
  omega
theorem less_iff {a b c d p q p' q' g h : Int} (ea : a = p * g) (eb : b = q * g) (ec : c = p' * h) (ed : d = q' * h) (hg : 0 < g) (hh : 0 < h) : (p * q' < p' * q) ↔ (a * d < c * b) := by
  subst ea eb ec ed
  rw [show p * g * (q' * h) = p * q' * (g * h) by ac_rfl, show p' * h * (q * g) = p' * q * (g * h) by ac_rfl]
  exact (Int.mul_lt_mul_right (Int.mul_pos hg hh)).symm
theorem ltn_ok (hi : fns i = some ⟨2, 2, bLt⟩) (ha : 0 ≤ a) (ha2 : a < 1000000) (hb : 0 < b) (hc : 0 ≤ c) (hc2 : c < 1000000) (hd : 0 < d) : callF fns ds (k + 1) i [nrm a b, nrm c d] t = some (⟨.sh, .bool (decide (a * d < c * b))⟩, t) := by
  obtain ⟨p, q, g, e1, e2, e3, e4, e5⟩ := nrm_parts a hb
  obtain ⟨p', q', h, f1, f2, f3, f4, f5⟩ := nrm_parts c hd
  have l1 := part_le e2 e4 ha
  have l2 := part_le f2 f4 hc
  rw [e1, f1, lt_ok hi (int_small (by omega) (by omega)) (int_small (by omega) (by omega)), decide_eq_decide.mpr (less_iff e2 e3 f2 f3 e4 f4)]
theorem okn {a b : Int} : okD (nrm a b) = true := rfl
theorem okn1 {a b : Int} : okD (.list [nrm a b]) = true := rfl
theorem okn2 {a b c d : Int} : okD (.list [nrm a b, nrm c d]) = true := rfl
theorem isTape_t : isTape (some ⟨.sh, tapeD⟩) = true := rfl
end
/-! ### rows of anything -/
theorem filterMap_enc {α : Type} (enc : α → D) (h : D → Option D) (p : α → Bool) (f : α → D) : ∀ {l : List α}, (∀ x, x ∈ l → h (enc x) = if p x then some (f x) else none) → (l.map enc).filterMap h = (l.filter p).map f
  | [], _ => rfl
  | x :: l, q => by
    have ih := filterMap_enc enc h p f (l := l) fun y hy => q y (List.mem_cons_of_mem _ hy)
    rw [List.map_cons, List.filterMap_cons, q x List.mem_cons_self, List.filter_cons]
    cases p x with
    | true => simp [ih]
    | false => simp [ih]
/-- a comprehension over a row that is told by what it is made of -/
theorem ev_lcM {α : Type} (enc : α → D) {g : Gl} {vs : List Nat} {elt : E} {tg : Tg} {it : It} {cond : TO} {ρ : Env} {t t' : Nat} {b : Bool} {l : List α} (e : evI g it ρ t = some ((b, l.map enc), t')) (p : α → Bool) (f : α → D)
    (hh : ∀ x, x ∈ l → lcB g vs elt tg cond ρ (enc x) t' = some (if p x then some (f x) else none, t')) (hl : l.length ≤ lim) : ev g (.lc vs elt tg it cond) ρ t = some (⟨.fr, .list ((l.filter p).map f)⟩, t') := by
  have all : ∀ d, d ∈ l.map enc → lcB g vs elt tg cond ρ d t' = some (((lcB g vs elt tg cond ρ d t').map (·.1)).getD none, t') := fun d hd => by
    obtain ⟨x, hx, rfl⟩ := List.mem_map.mp hd
    rw [hh x hx]
    rfl
  rw [ev_lc e _ all (by rw [List.length_map]; exact hl), filterMap_enc enc _ p f fun x hx => by rw [hh x hx]; rfl]
theorem ev_lcA {α : Type} (enc : α → D) {g : Gl} {vs : List Nat} {elt : E} {tg : Tg} {it : It} {cond : TO} {ρ : Env} {t t' : Nat} {b : Bool} {l : List α} (e : evI g it ρ t = some ((b, l.map enc), t')) (f : α → D)
    (hh : ∀ x, x ∈ l → lcB g vs elt tg cond ρ (enc x) t' = some (some (f x), t')) (hl : l.length ≤ lim) : ev g (.lc vs elt tg it cond) ρ t = some (⟨.fr, .list (l.map f)⟩, t') := by
  rw [ev_lcM enc e (fun _ => true) f (fun x hx => by rw [hh x hx]; rfl) hl, List.filter_eq_self.mpr fun _ _ => rfl]
theorem intsOf_map : ∀ ns : List Int, intsOf (ns.map .int) = some ns
  | [] => rfl
  | n :: ns => by
    rw [List.map_cons, intsOf, intsOf_map ns]
    rfl
theorem blt_sumI {k : Kd} {ns : List Int} : bltD .sum [⟨k, .list (ns.map .int)⟩] = some ⟨.sh, .int ns.sum⟩ := by
  show (intsOf (ns.map .int)).map _ = _
  rw [intsOf_map]
  rfl
theorem blt_sumM {α : Type} {k : Kd} {l : List α} {f : α → Int} : bltD .sum [⟨k, .list (l.map fun x => .int (f x))⟩] = some ⟨.sh, .int (l.map f).sum⟩ := by
  have := blt_sumI (k := k) (ns := l.map f)
  rw [List.map_map] at this
  exact this
theorem cut_map {α β : Type} (f : α → β) (xs : List α) (lo hi : Option Int) : cut (xs.map f) lo hi = (cut xs lo hi).map f := by
  unfold cut
  rw [List.length_map, List.map_take, List.map_drop]
theorem cut_len {α : Type} (xs : List α) (lo hi : Option Int) : (cut xs lo hi).length ≤ xs.length := by
  unfold cut
  rw [List.length_take, List.length_drop]
  omega
theorem mem_cut {α : Type} {xs : List α} {lo hi : Option Int} {x : α} (h : x ∈ cut xs lo hi) : x ∈ xs := List.mem_of_mem_drop (List.mem_of_mem_take h)
theorem plainAll_of : ∀ {xs : List D}, (∀ x, x ∈ xs → x.plain = true) → PySem.PyData.plainAll xs = true
  | [], _ => rfl
  | x :: xs, h => by
    rw [PySem.PyData.plainAll, h x List.mem_cons_self, plainAll_of fun y hy => h y (List.mem_cons_of_mem _ hy)]
    rfl
theorem depthAll_le {n : Nat} : ∀ {xs : List D}, (∀ x, x ∈ xs → x.depth ≤ n) → PySem.PyData.depthAll xs ≤ n
  | [], _ => Nat.zero_le _
  | x :: xs, h => by
    rw [PySem.PyData.depthAll]
    exact Nat.max_le.mpr ⟨h x List.mem_cons_self, depthAll_le fun y hy => h y (List.mem_cons_of_mem _ hy)⟩
theorem okD_lst {xs : List D} (h : ∀ x, x ∈ xs → x.plain = true ∧ x.depth ≤ 59) : okD (.list xs) = true := by
  have h2 := depthAll_le (n := 59) fun x hx => (h x hx).2
  simp only [okD, PySem.PyData.plain, plainAll_of fun x hx => (h x hx).1, PySem.PyData.depth, Bool.true_and, decide_eq_true_eq]
  exact decide_eq_true (Nat.succ_le_succ h2)
theorem okD_tupl {xs : List D} (h : ∀ x, x ∈ xs → x.plain = true ∧ x.depth ≤ 59) : okD (.tuple xs) = true := by
  have h2 := depthAll_le (n := 59) fun x hx => (h x hx).2
  simp only [okD, PySem.PyData.plain, plainAll_of fun x hx => (h x hx).1, PySem.PyData.depth, Bool.true_and, decide_eq_true_eq]
  exact decide_eq_true (Nat.succ_le_succ h2)
theorem boolsOf_map {α : Type} (p : α → Bool) : ∀ l : List α, boolsOf (l.map fun x => .bool (p x)) = some (l.map p)
  | [] => rfl
  | x :: l => by
    rw [List.map_cons, boolsOf, boolsOf_map p l]
    rfl
theorem blt_allM {α : Type} {k : Kd} {l : List α} {p : α → Bool} : bltD .all [⟨k, .list (l.map fun x => .bool (p x))⟩] = some ⟨.sh, .bool (l.all p)⟩ := by
  show (boolsOf _).map _ = _
  rw [boolsOf_map]
  simp [List.all_map, Function.comp_def, shd]
theorem blt_anyM {α : Type} {k : Kd} {l : List α} {p : α → Bool} : bltD .any [⟨k, .list (l.map fun x => .bool (p x))⟩] = some ⟨.sh, .bool (l.any p)⟩ := by
  show (boolsOf _).map _ = _
  rw [boolsOf_map]
  simp [List.any_map, Function.comp_def, shd]
theorem isEmpty_filter {α : Type} (p : α → Bool) : ∀ l : List α, (l.filter p).isEmpty = l.all fun x => !p x
  | [] => rfl
  | x :: l => by
    rw [List.filter_cons, List.all_cons, ← isEmpty_filter p l]
    cases p x <;> rfl
theorem irange_snoc {a b : Int} (h : a ≤ b) : irange a (b + 1) = irange a b ++ [b] := by
  rw [irange_split (a := a) (b := b) (c := b + 1) h (by omega)]
  congr 1
  unfold irange
  rw [show (b + 1 - b).toNat = 1 by omega]
  simp [List.range_succ]
end Q
/-! ### typed programs: what a def computes, in plain Lean, and that the evaluator follows it -/
namespace Q
open PySem
/-- m's answers are n's -/
def Le {α : Type} (m n : M α) : Prop := ∀ t p, m t = some p → n t = some p
def mp {α β : Type} (r : α → β) (m : M α) : M β := fun t => match m t with
  | none => none
  | some (a, t') => some (r a, t')
section
variable {α β γ : Type}
theorem Le.refl (m : M α) : Le m m := fun _ _ h => h
theorem Le.trans {m n o : M α} (h : Le m n) (h2 : Le n o) : Le m o := fun t p e => h2 t p (h t p e)
theorem le_mb {m : M α} {n : M β} {ra : α → β} {f : α → M γ} {δ : Type} {rc : γ → δ} {F : β → M δ} (ha : Le (mp ra m) n) (k : ∀ x, Le (mp rc (f x)) (F (ra x))) : Le (mp rc (bnd m f)) (bnd n F) := by
  intro t p e
  unfold mp bnd at e
  cases h : m t with
  | none => rw [h] at e; cases e
  | some q =>
    obtain ⟨a, t'⟩ := q
    rw [h] at e
    have h1 : n t = some (ra a, t') := ha t _ (by unfold mp; rw [h])
    unfold bnd
    rw [h1]
    exact k a t' p e
theorem le_of {m : M α} {n : M β} {r : α → β} (h : ∀ t a t', m t = some (a, t') → n t = some (r a, t')) : Le (mp r m) n := by
  intro t p e
  unfold mp at e
  cases q : m t with
  | none => rw [q] at e; cases e
  | some x =>
    obtain ⟨a, t'⟩ := x
    rw [q] at e
    cases e
    exact h t a t' q
theorem Le.at {m : M α} {n : M β} {r : α → β} (h : Le (mp r m) n) {t t' : Nat} {a : α} (e : m t = some (a, t')) : n t = some (r a, t') := h t _ (by unfold mp; rw [e])
theorem bnd_inv {m : M α} {f : α → M β} {t : Nat} {p : β × Nat} (e : bnd m f t = some p) : ∃ a t', m t = some (a, t') ∧ f a t' = some p := by
  unfold bnd at e
  cases q : m t with
  | none => rw [q] at e; cases e
  | some x => rw [q] at e; exact ⟨x.1, x.2, rfl, e⟩
@[simp] theorem bnd_ret {a : α} {f : α → M β} : bnd (ret a) f = f a := rfl
@[simp] theorem bnd_bnd {m : M α} {f : α → M β} {h : β → M γ} : bnd (bnd m f) h = bnd m fun a => bnd (f a) h := by
  funext t
  unfold bnd
  cases m t <;> rfl
end
/-! ### encoders -/
abbrev eI : Int → D := PyData.int
abbrev eB : Bool → D := PyData.bool
abbrev eS : Str → D := PyData.str
abbrev eN : Unit → D := fun _ => .none
abbrev eD : D → D := fun d => d
abbrev eW : Unit → D := fun _ => tapeD
def eL {α : Type} (f : α → D) : List α → D := fun xs => .list (xs.map f)
def eT {α : Type} (f : α → D) : List α → D := fun xs => .tuple (xs.map f)
def eP {α : Type} (f : α → List D) : α → D := fun x => .tuple (f x)
def eO {α : Type} (f : α → D) : Option α → D
  | none => .none
  | some x => f x
def r0 : Unit → List D := fun _ => []
def r1 {α : Type} (f : α → D) : α → List D := fun x => [f x]
def rC {α β : Type} (f : α → D) (h : β → List D) : α × β → List D := fun p => f p.1 :: h p.2
abbrev en {α : Type} (k : Kd) (f : α → D) (x : α) : R := ⟨k, f x⟩
/-- == is Lean's = -/
structure EqC {α : Type} [DecidableEq α] (f : α → D) : Prop where
  pl : ∀ x, (f x).plain = true
  dp : ∃ n, n ≤ 20 ∧ ∀ x, (f x).depth ≤ n
  eq : ∀ x y, PyData.eqv (f x) (f y) = decide (x = y)
structure EqC' {α : Type} [DecidableEq α] (f : α → D) (n : Nat) : Prop where
  pl : ∀ x, (f x).plain = true
  dp : ∀ x, (f x).depth ≤ n
  eq : ∀ x y, PyData.eqv (f x) (f y) = decide (x = y)
structure EqR {α : Type} [DecidableEq α] (f : α → List D) (n : Nat) : Prop where
  pl : ∀ x, PyData.plainAll (f x) = true
  dp : ∀ x, PyData.depthAll (f x) ≤ n
  eq : ∀ x y, PyData.eqvAll (f x) (f y) = decide (x = y)
theorem beq_dec {α : Type} [BEq α] [LawfulBEq α] [DecidableEq α] (a b : α) : (a == b) = decide (a = b) := by
  rw [Bool.eq_iff_iff, beq_iff_eq, decide_eq_true_eq]
theorem qI : EqC' eI 0 := ⟨fun _ => rfl, fun _ => Nat.le_refl _, fun a b => by simp only [PyData.eqv]; exact beq_dec a b⟩
theorem qB : EqC' eB 0 := ⟨fun _ => rfl, fun _ => Nat.le_refl _, fun a b => by simp only [PyData.eqv]; exact beq_dec a b⟩
theorem qS : EqC' eS 0 := ⟨fun _ => rfl, fun _ => Nat.le_refl _, fun a b => by simp only [PyData.eqv]; exact beq_dec a b⟩
theorem qN : EqC' eN 0 := ⟨fun _ => rfl, fun _ => Nat.le_refl _, fun a b => by simp only [PyData.eqv]; rfl⟩
section
variable {α β : Type} [DecidableEq α] [DecidableEq β] {f : α → D} {n m : Nat}
theorem qm (h : EqC' f n) : EqR (fun xs : List α => xs.map f) n := by
  refine ⟨fun xs => ?_, fun xs => ?_, fun xs ys => ?_⟩
  · exact plainAll_of fun x hx => by
      obtain ⟨y, _, rfl⟩ := List.mem_map.mp hx
      exact h.pl y
  · exact depthAll_le fun x hx => by
      obtain ⟨y, _, rfl⟩ := List.mem_map.mp hx
      exact h.dp y
  · induction xs generalizing ys with
    | nil => cases ys <;> simp [PyData.eqvAll]
    | cons x xs ih =>
      cases ys with
      | nil => simp [PyData.eqvAll]
      | cons y ys =>
        simp only [List.map_cons]
        rw [PyData.eqvAll, h.eq, ih, ← Bool.decide_and]
        exact decide_eq_decide.mpr (by rw [List.cons.injEq])
theorem qL (h : EqC' f n) : EqC' (eL f) (n + 1) := by
  have q := qm h
  refine ⟨fun xs => ?_, fun xs => ?_, fun xs ys => ?_⟩
  · show PyData.plain (.list _) = true
    rw [PyData.plain]
    exact q.pl xs
  · show PyData.depth (.list _) ≤ _
    rw [PyData.depth]
    exact Nat.succ_le_succ (q.dp xs)
  · show PyData.eqv (.list _) (.list _) = _
    rw [PyData.eqv]
    exact q.eq xs ys
theorem qT (h : EqC' f n) : EqC' (eT f) (n + 1) := by
  have q := qm h
  refine ⟨fun xs => ?_, fun xs => ?_, fun xs ys => ?_⟩
  · show PyData.plain (.tuple _) = true
    rw [PyData.plain]
    exact q.pl xs
  · show PyData.depth (.tuple _) ≤ _
    rw [PyData.depth]
    exact Nat.succ_le_succ (q.dp xs)
  · show PyData.eqv (.tuple _) (.tuple _) = _
    rw [PyData.eqv]
    exact q.eq xs ys
theorem qr0 : EqR r0 0 := ⟨fun _ => rfl, fun _ => Nat.le_refl _, fun a b => rfl⟩
theorem qr1 (h : EqC' f n) : EqR (r1 f) n := by
  refine ⟨fun x => ?_, fun x => ?_, fun x y => ?_⟩
  · show PyData.plainAll [f x] = true
    rw [PyData.plainAll, h.pl]
    rfl
  · show PyData.depthAll [f x] ≤ n
    rw [PyData.depthAll]
    exact Nat.max_le.mpr ⟨h.dp x, Nat.zero_le _⟩
  · show PyData.eqvAll [f x] [f y] = _
    rw [PyData.eqvAll, h.eq]
    simp [PyData.eqvAll]
theorem qrC {g : β → List D} (h : EqC' f n) (k : EqR g m) : EqR (rC f g) (max n m) := by
  refine ⟨fun x => ?_, fun x => ?_, fun x y => ?_⟩
  · show PyData.plainAll (f x.1 :: g x.2) = true
    rw [PyData.plainAll, h.pl, k.pl]
    rfl
  · show PyData.depthAll (f x.1 :: g x.2) ≤ _
    rw [PyData.depthAll]
    exact Nat.max_le.mpr ⟨Nat.le_trans (h.dp _) (Nat.le_max_left ..), Nat.le_trans (k.dp _) (Nat.le_max_right ..)⟩
  · show PyData.eqvAll (f x.1 :: g x.2) (f y.1 :: g y.2) = _
    rw [PyData.eqvAll, h.eq, k.eq, ← Bool.decide_and]
    exact decide_eq_decide.mpr (by rw [Prod.ext_iff])
theorem qP {g : α → List D} (k : EqR g m) : EqC' (eP g) (m + 1) := by
  refine ⟨fun x => ?_, fun x => ?_, fun x y => ?_⟩
  · show PyData.plain (.tuple _) = true
    rw [PyData.plain]
    exact k.pl x
  · show PyData.depth (.tuple _) ≤ _
    rw [PyData.depth]
    exact Nat.succ_le_succ (k.dp x)
  · show PyData.eqv (.tuple _) (.tuple _) = _
    rw [PyData.eqv]
    exact k.eq x y
/-- never None -/
class NN {α : Type} (f : α → D) : Prop where
  nn : ∀ x, f x ≠ .none
instance : NN eI := ⟨fun _ h => nomatch h⟩
instance : NN eB := ⟨fun _ h => nomatch h⟩
instance : NN eS := ⟨fun _ h => nomatch h⟩
instance {f : α → D} : NN (eL f) := ⟨fun _ h => nomatch h⟩
instance {f : α → D} : NN (eT f) := ⟨fun _ h => nomatch h⟩
instance {f : α → List D} : NN (eP f) := ⟨fun _ h => nomatch h⟩
theorem eqv_none_l : ∀ {x : D}, x ≠ .none → PyData.eqv .none x = false := fun {x} h => by cases x <;> first | exact absurd rfl h | simp [PyData.eqv]
theorem eqv_none_r : ∀ {x : D}, x ≠ .none → PyData.eqv x .none = false := fun {x} h => by cases x <;> first | exact absurd rfl h | simp [PyData.eqv]
theorem qO [NN f] (h : EqC' f n) : EqC' (eO f) n := by
  refine ⟨fun x => ?_, fun x => ?_, fun x y => ?_⟩
  · cases x
    · rfl
    · exact h.pl _
  · cases x
    · exact Nat.zero_le _
    · exact h.dp _
  · cases x with
    | none =>
      cases y with
      | none => simp [eO, PyData.eqv]
      | some y => simp [eO, eqv_none_l (NN.nn (f := f) y)]
    | some x =>
      cases y with
      | none => simp [eO, eqv_none_r (NN.nn (f := f) x)]
      | some y =>
        show PyData.eqv (f x) (f y) = _
        rw [h.eq]
        exact decide_eq_decide.mpr (by rw [Option.some.injEq])
theorem EqC'.okD (h : EqC' f n) (hn : n ≤ 59) (x : α) : okD (f x) = true := by
  simp only [Q.okD, h.pl x, Bool.true_and, decide_eq_true_eq]
  exact Nat.le_trans (h.dp x) (by omega)
end
/-! ### what the typed programs are made of -/
def mulM (a b : Int) : M Int := fun t => if intB a || intB b then some (a * b, t) else none
def fdivM (a b : Int) : M Int := fun t => if 0 < b ∧ b.natAbs < 1073741824 then some (a / b, t) else none
def modM (a b : Int) : M Int := fun t => if 0 < b then some (a % b, t) else none
def powM (a b : Int) : M Int := fun t => if 0 ≤ b ∧ b.natAbs ≤ 1000000 ∧ a.natAbs < 18446744073709551616 then some (a ^ b.toNat, t) else none
def catM' {α : Type} (xs ys : List α) : M (List α) := fun t => if xs.length + ys.length ≤ lim then some (xs ++ ys, t) else none
def repM {α : Type} (xs : List α) (n : Int) : M (List α) := fun t => if n.natAbs ≤ 1000 ∧ xs.length ≤ 1000 then some ((List.replicate n.toNat xs).flatten, t) else none
def atM {α : Type} (xs : List α) (i : Int) : M α := opt (L2.atI xs i)
def unwM {α : Type} (x : Option α) : M α := opt x
/-- a row that is not too long -/
def smM {α : Type} (xs : List α) : M (List α) := fun t => if xs.length ≤ lim then some (xs, t) else none
def rngM (a b : Int) : M (List Int) := fun t => if rngB a ∧ rngB b then some (irange a b, t) else none
def hdM {α : Type} (xs : List α) (f : α → List α → α) : M α := match xs with
  | [] => fail
  | a :: r => ret (f a r)
def maxI (xs : List Int) : M Int := hdM xs fun a r => r.foldl max a
def minI (xs : List Int) : M Int := hdM xs fun a r => r.foldl min a
def maxB {α : Type} (lt : α → α → Bool) (xs : List α) : M α := hdM xs fun a r => r.foldl (fun x y => if lt x y then y else x) a
def minB {α : Type} (lt : α → α → Bool) (xs : List α) : M α := hdM xs fun a r => r.foldl (fun x y => if lt y x then y else x) a
def srtM {α : Type} (lt : α → α → Bool) (xs : List α) : M (List α) := smM (xs.mergeSort fun a b => !lt b a)
def idxM {α : Type} [DecidableEq α] (xs : List α) (y : α) : M Int := opt ((xs.findIdx? fun x => decide (x = y)).map fun j => (j : Int))
def putM {α : Type} (xs : List α) (i : Int) (y : α) : M (List α) := opt ((L2.ixN xs.length i).map fun n => xs.set n y)
def popM {α : Type} (xs : List α) : M (α × List α) := opt (xs.getLast?.map fun y => (y, xs.dropLast))
def popAtM {α : Type} (xs : List α) (i : Int) : M (α × List α) := if rngB i then opt ((L2.ixN xs.length i).bind fun n => xs[n]?.map fun y => (y, xs.eraseIdx n)) else fail
def appM {α : Type} (xs : List α) (y : α) : M (List α) := fun t => if xs.length < lim then some (xs ++ [y], t) else none
def cmpM {α β : Type} (xs : List α) (f : α → M (Option β)) : M (List β) := match xs with
  | [] => ret []
  | x :: r => bnd (f x) fun o => bnd (cmpM r f) fun ys => ret (match o with | none => ys | some y => y :: ys)
def mapM' {α β : Type} (xs : List α) (f : α → M β) : M (List β) := match xs with
  | [] => ret []
  | x :: r => bnd (f x) fun y => bnd (mapM' r f) fun ys => ret (y :: ys)
def catsM {α β : Type} (xs : List α) (f : α → M (List β)) : M (List β) := match xs with
  | [] => ret []
  | x :: r => bnd (f x) fun o => bnd (catsM r f) fun ys => ret (o ++ ys)
def forS {α σ : Type} (xs : List α) (f : α → σ → M σ) (s : σ) : M σ := match xs with
  | [] => ret s
  | x :: r => bnd (f x s) fun s' => forS r f s'
/-- a turn's end: on | on (continue) | out | back with a result -/
inductive Stp (σ τ : Type) where
  | nx (s : σ) | ct (s : σ) | bk (s : σ) | rt (v : τ)
inductive Out (σ τ : Type) where
  | go (s : σ) | rt (v : τ)
def forR {α σ τ : Type} (xs : List α) (f : α → σ → M (Stp σ τ)) (s : σ) : M (Out σ τ) := match xs with
  | [] => ret (.go s)
  | x :: r => bnd (f x s) fun o => match o with
    | .nx s' => forR r f s'
    | .ct s' => forR r f s'
    | .bk s' => ret (.go s')
    | .rt v => ret (.rt v)
def whlR {σ τ : Type} (n : Nat) (test : σ → M Bool) (f : σ → M (Stp σ τ)) (s : σ) : M (Out σ τ) := match n with
  | 0 => fail
  | n + 1 => bnd (test s) fun k => if k then bnd (f s) fun o => match o with
    | .nx s' => whlR n test f s'
    | .ct s' => whlR n test f s'
    | .bk s' => ret (.go s')
    | .rt v => ret (.rt v)
    else ret (.go s)
/-- with no result from within -/
def goS {σ : Type} : Out σ Empty → σ
  | .go s => s
end Q
namespace Q
open PySem
/-! ### expressions -/
structure VE {α : Type} (g : Gl) (e : E) (ρ : Env) (m : M α) (r : α → R) : Prop where
  get : Le (mp r m) (ev g e ρ)
structure VL {α : Type} (g : Gl) (es : EL) (ρ : Env) (m : M α) (rs : α → List R) : Prop where
  get : Le (mp rs m) (evL g es ρ)
structure VT (g : Gl) (c : T) (ρ : Env) (m : M Bool) : Prop where
  get : Le (mp (fun x => x) m) (evT g c ρ)
structure VO (g : Gl) (e : EO) (ρ : Env) (m : M (Option Int)) : Prop where
  get : Le (mp (fun x => x) m) (evO g e ρ)
structure VA (g : Gl) (es : EL) (ρ : Env) (m : M Bool) : Prop where
  get : Le (mp (en .sh eB) m) (evAnd g es ρ)
structure VR (g : Gl) (es : EL) (ρ : Env) (m : M Bool) : Prop where
  get : Le (mp (en .sh eB) m) (evOr g es ρ)
structure VTA (g : Gl) (es : TL) (ρ : Env) (m : M Bool) : Prop where
  get : Le (mp (fun x => x) m) (evTA g es ρ)
structure VTR (g : Gl) (es : TL) (ρ : Env) (m : M Bool) : Prop where
  get : Le (mp (fun x => x) m) (evTR g es ρ)
structure VI {α : Type} (g : Gl) (it : It) (ρ : Env) (b : Bool) (m : M (List α)) (f : α → D) : Prop where
  get : Le (mp (fun xs => (b, xs.map f)) m) (evI g it ρ)
theorem le_ret {α β : Type} {r : α → β} {a : α} {n : M β} (h : ∀ t, n t = some (r a, t)) : Le (mp r (ret a)) n := by
  intro t p e
  cases e
  exact h t
section
variable {α β γ δ : Type} {g : Gl} {ρ : Env} {e a b c : E}
theorem ve_var {v : α} {i : Nat} {r : α → R} (h : getS ρ i = some (r v)) : VE g (.var i) ρ (ret v) r := ⟨le_ret fun t => by rw [ev, h, opt_ap]⟩
theorem ve_cst {v : α} {d : D} {r : α → R} (h : shd d = r v) : VE g (.cst d) ρ (ret v) r := ⟨le_ret fun t => by rw [ev, h]⟩
/-- the same value, told otherwise -/
theorem ve_as {m : M α} {r : α → R} {r' : β → R} {f : α → β} (h : VE g e ρ m r) (q : ∀ x, r x = r' (f x)) : VE g e ρ (bnd m fun x => ret (f x)) r' := by
  refine ⟨le_of fun t a t' h2 => ?_⟩
  obtain ⟨x, t1, e1, e2⟩ := bnd_inv h2
  cases e2
  rw [h.get.at e1, q]
/-- only where it is not None -/
theorem ve_unw {m : M (Option α)} {k : Kd} {f : α → D} (h : VE g e ρ m (en k (eO f))) : VE g e ρ (bnd m unwM) (en k f) := by
  refine ⟨le_of fun t a t' h2 => ?_⟩
  obtain ⟨x, t1, e1, e2⟩ := bnd_inv h2
  unfold unwM opt at e2
  cases x with
  | none => cases e2
  | some x =>
    cases e2
    rw [h.get.at e1]
    rfl
theorem ve_neg {m : M Int} {k : Kd} (h : VE g a ρ m (en k eI)) : VE g (.neg a) ρ (bnd m fun x => ret (-x)) (en .sh eI) :=
  ⟨by rw [ev]; exact le_mb h.get fun x => le_ret fun t => rfl⟩
theorem ve_bin {op : Op} {oa : M α} {ob : M β} {ra : α → R} {rb : β → R} {rc : γ → R} {f : α → β → M γ} (ha : VE g a ρ oa ra) (hb : VE g b ρ ob rb) (h : ∀ x y, Le (mp rc (f x y)) (opt (opD op (ra x) (rb y)))) :
    VE g (.bin op a b) ρ (bnd oa fun x => bnd ob fun y => f x y) rc := ⟨by rw [ev]; exact le_mb ha.get fun x => le_mb hb.get fun y => h x y⟩
/-- what a comparison tells -/
def CpOk (op : Cp) (x y : D) (m : M Bool) : Prop := ∀ t b t', m t = some (b, t') → t' = t ∧ cpD op x y = some b
theorem CpOk.bol {op : Cp} {x y : D} {m : M Bool} (h : CpOk op x y m) : Le (mp (en .sh eB) m) (bol (cpD op x y)) := le_of fun t b t' e => by
  obtain ⟨rfl, q⟩ := h t b t' e
  rw [bol_ap, q]
theorem CpOk.opt {op : Cp} {x y : D} {m : M Bool} (h : CpOk op x y m) : Le (mp (fun x => x) m) (opt (cpD op x y)) := le_of fun t b t' e => by
  obtain ⟨rfl, q⟩ := h t b t' e
  rw [opt_ap, q]
theorem cp_ret {op : Cp} {x y : D} {b : Bool} (h : cpD op x y = some b) : CpOk op x y (ret b) := fun t b' t' e => by
  cases e
  exact ⟨rfl, h⟩
theorem ve_cmp {op : Cp} {oa : M α} {ob : M β} {ra : α → R} {rb : β → R} {f : α → β → M Bool} (ha : VE g a ρ oa ra) (hb : VE g b ρ ob rb) (h : ∀ x y, CpOk op (ra x).d (rb y).d (f x y)) :
    VE g (.cmp op a b) ρ (bnd oa fun x => bnd ob fun y => f x y) (en .sh eB) := ⟨by rw [ev]; exact le_mb ha.get fun x => le_mb hb.get fun y => (h x y).bol⟩
theorem vt_cmp {op : Cp} {oa : M α} {ob : M β} {ra : α → R} {rb : β → R} {f : α → β → M Bool} (ha : VE g a ρ oa ra) (hb : VE g b ρ ob rb) (h : ∀ x y, CpOk op (ra x).d (rb y).d (f x y)) :
    VT g (.cmp op a b) ρ (bnd oa fun x => bnd ob fun y => f x y) := ⟨by rw [evT]; exact le_mb ha.get fun x => le_mb hb.get fun y => (h x y).opt⟩
theorem le_ite {σ τ : Type} {r : σ → τ} {m1 m2 : M σ} {n1 n2 : M τ} {k : Bool} (h1 : k = true → Le (mp r m1) n1) (h2 : k = false → Le (mp r m2) n2) : Le (mp r (if k then m1 else m2)) (if k then n1 else n2) := by
  cases k with
  | true => exact h1 rfl
  | false => exact h2 rfl
theorem ve_chn {op op' : Cp} {oa : M α} {ob : M β} {oc : M γ} {ra : α → R} {rb : β → R} {rc : γ → R} {f : α → β → M Bool} {f' : β → γ → M Bool} (ha : VE g a ρ oa ra) (hb : VE g b ρ ob rb) (hc : VE g c ρ oc rc)
    (h : ∀ x y, CpOk op (ra x).d (rb y).d (f x y)) (h' : ∀ y z, CpOk op' (rb y).d (rc z).d (f' y z)) :
    VE g (.chn op op' a b c) ρ (bnd oa fun x => bnd ob fun y => bnd (f x y) fun k => if k then bnd oc fun z => f' y z else ret false) (en .sh eB) :=
  ⟨by rw [ev]; exact le_mb ha.get fun x => le_mb hb.get fun y => le_mb (h x y).opt fun k => le_ite (fun _ => le_mb hc.get fun z => (h' y z).bol) fun _ => le_ret fun t => rfl⟩
theorem vt_chn {op op' : Cp} {oa : M α} {ob : M β} {oc : M γ} {ra : α → R} {rb : β → R} {rc : γ → R} {f : α → β → M Bool} {f' : β → γ → M Bool} (ha : VE g a ρ oa ra) (hb : VE g b ρ ob rb) (hc : VE g c ρ oc rc)
    (h : ∀ x y, CpOk op (ra x).d (rb y).d (f x y)) (h' : ∀ y z, CpOk op' (rb y).d (rc z).d (f' y z)) :
    VT g (.chn op op' a b c) ρ (bnd oa fun x => bnd ob fun y => bnd (f x y) fun k => if k then bnd oc fun z => f' y z else ret false) :=
  ⟨by rw [evT]; exact le_mb ha.get fun x => le_mb hb.get fun y => le_mb (h x y).opt fun k => le_ite (fun _ => le_mb hc.get fun z => (h' y z).opt) fun _ => le_ret fun t => rfl⟩
/-- all three plain -/
theorem ve_chnP {op op' : Cp} {x : α} {y : β} {z : γ} {ra : α → R} {rb : β → R} {rc : γ → R} {p q : Bool} (ha : VE g a ρ (ret x) ra) (hb : VE g b ρ (ret y) rb) (hc : VE g c ρ (ret z) rc)
    (h : cpD op (ra x).d (rb y).d = some p) (h' : cpD op' (rb y).d (rc z).d = some q) : VE g (.chn op op' a b c) ρ (ret (p && q)) (en .sh eB) := by
  refine ⟨le_ret fun t => ?_⟩
  rw [ev, bnd_ap, ha.get.at rfl]
  show bnd (ev g b ρ) _ t = _
  rw [bnd_ap, hb.get.at rfl]
  show bnd (opt (cpD op (ra x).d (rb y).d)) _ t = _
  rw [bnd_ap, opt_ap, h]
  cases p with
  | false => rfl
  | true =>
    show bnd (ev g c ρ) _ t = _
    rw [bnd_ap, hc.get.at rfl]
    show bol (cpD op' (rb y).d (rc z).d) t = _
    rw [bol_ap, h']
    rfl
theorem vt_chnP {op op' : Cp} {x : α} {y : β} {z : γ} {ra : α → R} {rb : β → R} {rc : γ → R} {p q : Bool} (ha : VE g a ρ (ret x) ra) (hb : VE g b ρ (ret y) rb) (hc : VE g c ρ (ret z) rc)
    (h : cpD op (ra x).d (rb y).d = some p) (h' : cpD op' (rb y).d (rc z).d = some q) : VT g (.chn op op' a b c) ρ (ret (p && q)) := by
  refine ⟨le_ret fun t => ?_⟩
  rw [evT, bnd_ap, ha.get.at rfl]
  show bnd (ev g b ρ) _ t = _
  rw [bnd_ap, hb.get.at rfl]
  show bnd (opt (cpD op (ra x).d (rb y).d)) _ t = _
  rw [bnd_ap, opt_ap, h]
  cases p with
  | false => rfl
  | true =>
    show bnd (ev g c ρ) _ t = _
    rw [bnd_ap, hc.get.at rfl]
    show opt (cpD op' (rb y).d (rc z).d) t = _
    rw [opt_ap, h']
    rfl
variable {es : EL} {m m2 : M Bool} {k : Kd}
theorem va_one (h : VE g e ρ m (en k eB)) (hk : k = .sh) : VA g (.cons e .nil) ρ m := ⟨by subst hk; rw [evAnd]; exact h.get⟩
theorem va_cons {e2 : E} (h : VE g e ρ m (en k eB)) (h2 : VA g (.cons e2 es) ρ m2) : VA g (.cons e (.cons e2 es)) ρ (bnd m fun x => if x then m2 else ret false) :=
  ⟨by rw [evAnd.eq_3 _ _ _ _ (by intro h; cases h)]; exact le_mb h.get fun x => (by intro t p q; show (if x then evAnd g (.cons e2 es) ρ else ret (shd (.bool false)) : M R) t = _; exact le_ite (fun _ => h2.get) (fun _ => le_ret fun t => rfl) t p q)⟩
theorem vo_one (h : VE g e ρ m (en k eB)) (hk : k = .sh) : VR g (.cons e .nil) ρ m := ⟨by subst hk; rw [evOr]; exact h.get⟩
theorem vo_cons {e2 : E} (h : VE g e ρ m (en k eB)) (h2 : VR g (.cons e2 es) ρ m2) : VR g (.cons e (.cons e2 es)) ρ (bnd m fun x => if x then ret true else m2) :=
  ⟨by rw [evOr.eq_3 _ _ _ _ (by intro h; cases h)]; exact le_mb h.get fun x => (by intro t p q; show (if x then ret (shd (.bool true)) else evOr g (.cons e2 es) ρ : M R) t = _; exact le_ite (fun _ => le_ret fun t => rfl) (fun _ => h2.get) t p q)⟩
theorem iteT {x y : Bool} : (if x then ret y else ret false : M Bool) = ret (x && y) := by cases x <;> rfl
theorem iteF {x y : Bool} : (if x then ret true else ret y : M Bool) = ret (x || y) := by cases x <;> rfl
theorem va_consP {e2 : E} {x y : Bool} (h : VE g e ρ (ret x) (en k eB)) (h2 : VA g (.cons e2 es) ρ (ret y)) : VA g (.cons e (.cons e2 es)) ρ (ret (x && y)) := by
  have := va_cons h h2
  rw [bnd_ret, iteT] at this
  exact this
theorem vo_consP {e2 : E} {x y : Bool} (h : VE g e ρ (ret x) (en k eB)) (h2 : VR g (.cons e2 es) ρ (ret y)) : VR g (.cons e (.cons e2 es)) ρ (ret (x || y)) := by
  have := vo_cons h h2
  rw [bnd_ret, iteF] at this
  exact this
theorem ve_land (h : VA g es ρ m) : VE g (.land es) ρ m (en .sh eB) := ⟨by rw [ev]; exact h.get⟩
theorem ve_lor (h : VR g es ρ m) : VE g (.lor es) ρ m (en .sh eB) := ⟨by rw [ev]; exact h.get⟩
theorem ve_not (h : VE g e ρ m (en k eB)) : VE g (.lnot e) ρ (bnd m fun x => ret (!x)) (en .sh eB) := ⟨by rw [ev]; exact le_mb h.get fun x => le_ret fun t => rfl⟩
variable {c' : T} {ts : TL}
theorem vt_val (h : VE g e ρ m (en k eB)) : VT g (.val e) ρ m := by
  refine ⟨le_of fun t x t' q => ?_⟩
  rw [evT, bnd_ap, h.get.at q]
  rfl
theorem vt_not (h : VT g c' ρ m) : VT g (.not c') ρ (bnd m fun x => ret (!x)) := ⟨by rw [evT]; exact le_mb h.get fun x => le_ret fun t => rfl⟩
theorem vt_and (h : VTA g ts ρ m) : VT g (.and ts) ρ m := ⟨by rw [evT]; exact h.get⟩
theorem vt_or (h : VTR g ts ρ m) : VT g (.or ts) ρ m := ⟨by rw [evT]; exact h.get⟩
theorem vta_one (h : VT g c' ρ m) : VTA g (.cons c' .nil) ρ m := ⟨by rw [evTA]; exact h.get⟩
theorem vto_one (h : VT g c' ρ m) : VTR g (.cons c' .nil) ρ m := ⟨by rw [evTR]; exact h.get⟩
theorem vta_cons {c2 : T} (h : VT g c' ρ m) (h2 : VTA g (.cons c2 ts) ρ m2) : VTA g (.cons c' (.cons c2 ts)) ρ (bnd m fun x => if x then m2 else ret false) :=
  ⟨by rw [evTA.eq_3 _ _ _ _ (by intro h; cases h)]; exact le_mb h.get fun x => le_ite (fun _ => h2.get) (fun _ => le_ret fun t => rfl)⟩
theorem vto_cons {c2 : T} (h : VT g c' ρ m) (h2 : VTR g (.cons c2 ts) ρ m2) : VTR g (.cons c' (.cons c2 ts)) ρ (bnd m fun x => if x then ret true else m2) :=
  ⟨by rw [evTR.eq_3 _ _ _ _ (by intro h; cases h)]; exact le_mb h.get fun x => le_ite (fun _ => le_ret fun t => rfl) (fun _ => h2.get)⟩
theorem vta_consP {c2 : T} {x y : Bool} (h : VT g c' ρ (ret x)) (h2 : VTA g (.cons c2 ts) ρ (ret y)) : VTA g (.cons c' (.cons c2 ts)) ρ (ret (x && y)) := by
  have := vta_cons h h2
  rw [bnd_ret, iteT] at this
  exact this
theorem vto_consP {c2 : T} {x y : Bool} (h : VT g c' ρ (ret x)) (h2 : VTR g (.cons c2 ts) ρ (ret y)) : VTR g (.cons c' (.cons c2 ts)) ρ (ret (x || y)) := by
  have := vto_cons h h2
  rw [bnd_ret, iteF] at this
  exact this
theorem ve_ite {r : α → R} {ma mb : M α} (hc : VT g c' ρ m) (ha : VE g a ρ ma r) (hb : VE g b ρ mb r) : VE g (.ite c' a b) ρ (bnd m fun k => if k then ma else mb) r :=
  ⟨by rw [ev]; exact le_mb hc.get fun k => le_ite (fun _ => ha.get) (fun _ => hb.get)⟩
theorem iteP {k : Bool} {x y : α} : (if k then ret x else ret y : M α) = ret (if k then x else y) := by cases k <;> rfl
theorem ve_iteP {r : α → R} {k : Bool} {x y : α} (hc : VT g c' ρ (ret k)) (ha : VE g a ρ (ret x) r) (hb : VE g b ρ (ret y) r) : VE g (.ite c' a b) ρ (ret (if k then x else y)) r := by
  have := ve_ite hc ha hb
  rw [bnd_ret, iteP] at this
  exact this
/-! rows of expressions -/
variable {l : M α} {rs : α → List R}
theorem vl_nil : VL g .nil ρ (ret ()) fun _ => [] := ⟨le_ret fun t => by rw [evL]⟩
theorem vl_one {m : M α} {r : α → R} (h : VE g e ρ m r) : VL g (.cons e .nil) ρ m fun x => [r x] := by
  refine ⟨le_of fun t x t' q => ?_⟩
  rw [evL, bnd_ap, h.get.at q]
  show bnd (evL g .nil ρ) _ t' = _
  rw [evL]
  rfl
theorem vl_cons {e2 : E} {m : M α} {r : α → R} {m2 : M β} {rs : β → List R} (h : VE g e ρ m r) (h2 : VL g (.cons e2 es) ρ m2 rs) : VL g (.cons e (.cons e2 es)) ρ (bnd m fun x => bnd m2 fun y => ret (x, y)) fun p => r p.1 :: rs p.2 :=
  ⟨by rw [evL]; exact le_mb h.get fun x => le_mb h2.get fun y => le_ret fun t => rfl⟩
theorem ve_tup {f : α → List D} (h : VL g es ρ l rs) (hs : ∀ v, (rs v).mapM shared = some (f v)) (hl : ∀ v, (f v).length ≤ lim) : VE g (.tup es) ρ l (en .sh (eP f)) := by
  refine ⟨le_of fun t x t' q => ?_⟩
  rw [ev, bnd_ap, h.get.at q]
  show bnd (opt ((rs x).mapM shared)) _ t' = _
  rw [bnd_ap, hs]
  show tupR (f x) t' = _
  rw [tupR_ap, if_pos (hl x)]
  rfl
theorem ve_lst {f : β → D} {h' : α → List β} (h : VL g es ρ l rs) (hs : ∀ v, (rs v).mapM shared = some ((h' v).map f)) (hl : ∀ v, (h' v).length ≤ lim) : VE g (.lst es) ρ (bnd l fun v => ret (h' v)) (en .fr (eL f)) := by
  refine ⟨le_of fun t x t' q => ?_⟩
  obtain ⟨v, t1, e1, e2⟩ := bnd_inv q
  cases e2
  rw [ev, bnd_ap, h.get.at e1]
  show bnd (opt ((rs v).mapM shared)) _ _ = _
  rw [bnd_ap, hs]
  show lstR _ _ = _
  rw [lstR_ap, if_pos (by rw [List.length_map]; exact hl v)]
  rfl
theorem ve_call {i : Nat} {F : α → M β} {r : β → R} (h : VL g es ρ l rs) (hc : ∀ v, Le (mp r (F v)) (g.call i ((rs v).map (·.d)))) (hk : ∀ v w, callKd (rs v) (r w) = some (r w)) : VE g (.call i es) ρ (bnd l F) r := by
  refine ⟨le_of fun t x t' q => ?_⟩
  obtain ⟨v, t1, e1, e2⟩ := bnd_inv q
  rw [ev, bnd_ap, h.get.at e1]
  show bnd (g.call i ((rs v).map (·.d))) _ t1 = _
  rw [bnd_ap, (hc v).at e2]
  show opt (callKd (rs v) (r x)) t' = _
  rw [hk]
  rfl
theorem ve_nxt {w : Nat} {m : M Int} {k : Kd} (h : VE g e ρ m (en k eI)) (hw : getS ρ w = some (shd tapeD)) : VE g (.nxt w e) ρ (bnd m (nextD g.ds)) (en .sh eI) := by
  refine ⟨le_of fun t x t' q => ?_⟩
  obtain ⟨v, t1, e1, e2⟩ := bnd_inv q
  rw [ev, bnd_ap, h.get.at e1]
  show bnd (opt (some v)) _ t1 = _
  rw [bnd_ap, opt_ap]
  have : isTape (getS ρ w) = true := by
    rw [hw]
    rfl
  show (if isTape (getS ρ w) = true then bnd (nextD g.ds v) _ else fail : M R) t1 = _
  rw [if_pos this, bnd_ap, e2]
  rfl
theorem ve_blt {f : B} {F : α → M β} {r : β → R} (h : VL g es ρ l rs) (hb : ∀ v, Le (mp r (F v)) (opt (bltD f (rs v)))) : VE g (.blt f es) ρ (bnd l F) r := ⟨by rw [ev]; exact le_mb h.get hb⟩
theorem ve_mth {f : Me} {oa : M α} {ob : M β} {ra : α → R} {rb : β → R} {rc : γ → R} {F : α → β → M γ} (ha : VE g a ρ oa ra) (hb : VE g b ρ ob rb) (h : ∀ x y, Le (mp rc (F x y)) (opt (mthD f (ra x).d (rb y).d))) :
    VE g (.mth f a b) ρ (bnd oa fun x => bnd ob fun y => F x y) rc := ⟨by rw [ev]; exact le_mb ha.get fun x => le_mb hb.get fun y => h x y⟩
theorem ve_ix {oa : M α} {ob : M β} {ra : α → R} {rb : β → R} {f : γ → D} {F : α → β → M γ} (ha : VE g a ρ oa ra) (hb : VE g b ρ ob rb) (h : ∀ x y, Le (mp f (F x y)) (opt (ixD (ra x).d (rb y).d))) :
    VE g (.ix a b) ρ (bnd oa fun x => bnd ob fun y => F x y) (en .sh f) := by
  refine ⟨le_of fun t z t' q => ?_⟩
  obtain ⟨x, t1, e1, q⟩ := bnd_inv q
  obtain ⟨y, t2, e2, q⟩ := bnd_inv q
  rw [ev, bnd_ap, ha.get.at e1]
  show bnd (ev g b ρ) _ t1 = _
  rw [bnd_ap, hb.get.at e2]
  have h3 := (h x y).at q
  rw [opt_ap] at h3
  cases h4 : ixD (ra x).d (rb y).d with
  | none => rw [h4] at h3; cases h3
  | some d =>
    rw [h4] at h3
    cases h3
    show opt ((ixD (ra x).d (rb y).d).map shd) _ = _
    rw [h4]
    rfl
theorem vo_no : VO g .no ρ (ret none) := ⟨le_ret fun t => by rw [evO]⟩
theorem vo_so {m : M Int} {k : Kd} (h : VE g e ρ m (en k eI)) : VO g (.so e) ρ (bnd m fun x => ret (some x)) := ⟨by rw [evO]; exact le_mb h.get fun x => le_ret fun t => rfl⟩
theorem ve_slL {lo hi : EO} {oa : M (List α)} {ol oh : M (Option Int)} {k : Kd} {f : α → D} (ha : VE g a ρ oa (en k (eL f))) (hl : VO g lo ρ ol) (hh : VO g hi ρ oh) :
    VE g (.sl a lo hi) ρ (bnd oa fun x => bnd ol fun l => bnd oh fun h => ret (cut x l h)) (en .fr (eL f)) :=
  ⟨by rw [ev]; exact le_mb ha.get fun x => le_mb hl.get fun l => le_mb hh.get fun h => le_ret fun t => (by show opt (some (⟨.fr, .list (cut (x.map f) l h)⟩ : R)) t = _; rw [cut_map]; rfl)⟩
theorem ve_slT {lo hi : EO} {oa : M (List α)} {ol oh : M (Option Int)} {k : Kd} {f : α → D} (ha : VE g a ρ oa (en k (eT f))) (hl : VO g lo ρ ol) (hh : VO g hi ρ oh) :
    VE g (.sl a lo hi) ρ (bnd oa fun x => bnd ol fun l => bnd oh fun h => ret (cut x l h)) (en .sh (eT f)) :=
  ⟨by rw [ev]; exact le_mb ha.get fun x => le_mb hl.get fun l => le_mb hh.get fun h => le_ret fun t => (by show opt (some (⟨.sh, .tuple (cut (x.map f) l h)⟩ : R)) t = _; rw [cut_map]; rfl)⟩
/-! what is walked over -/
theorem vi_L {m : M (List α)} {k : Kd} {f : α → D} (h : VE g e ρ m (en k (eL f))) : VI g (.seq e) ρ (safe k) m f := by
  refine ⟨le_of fun t x t' q => ?_⟩
  rw [evI, bnd_ap, h.get.at q]
  rfl
theorem vi_T {m : M (List α)} {k : Kd} {f : α → D} (h : VE g e ρ m (en k (eT f))) : VI g (.seq e) ρ true m f := by
  refine ⟨le_of fun t x t' q => ?_⟩
  rw [evI, bnd_ap, h.get.at q]
  rfl
theorem le_rng {a b : Int} : Le (mp (fun xs : List Int => (true, xs.map eI)) (rngM a b)) (if rngB a && rngB b then ret (true, rangeL a b) else fail) := le_of fun t x t' q => by
  unfold rngM at q
  split at q
  · rename_i h
    cases q
    rw [h.1, h.2, rangeL_eq]
    rfl
  · cases q
theorem vi_1 {m : M Int} {k : Kd} (h : VE g e ρ m (en k eI)) : VI g (.rng1 e) ρ true (bnd m fun n => rngM 0 n) eI := by
  refine ⟨le_of fun t x t' q => ?_⟩
  obtain ⟨n, t1, e1, q⟩ := bnd_inv q
  rw [evI, bnd_ap, h.get.at e1]
  show (if rngB n = true then ret (true, rangeL 0 n) else fail : M (Bool × List D)) t1 = _
  have := le_rng.at q
  have h0 : rngB 0 = true := by decide
  rw [h0, Bool.true_and] at this
  exact this
theorem vi_2 {m n : M Int} {k k' : Kd} (h : VE g a ρ m (en k eI)) (h2 : VE g b ρ n (en k' eI)) : VI g (.rng2 a b) ρ true (bnd m fun x => bnd n fun y => rngM x y) eI :=
  ⟨by rw [evI]; exact le_mb h.get fun x => le_mb h2.get fun y => le_rng⟩
theorem zipD_map {f : α → D} {h : β → D} : ∀ (xs : List α) (ys : List β), zipD (xs.map f) (ys.map h) = (xs.zip ys).map (eP (rC f (r1 h)))
  | [], _ => rfl
  | _ :: _, [] => rfl
  | x :: xs, y :: ys => by
    show PyData.tuple [f x, h y] :: zipD (xs.map f) (ys.map h) = _
    rw [zipD_map xs ys]
    rfl
theorem vi_zL {m : M (List α)} {n : M (List β)} {k k' : Kd} {f : α → D} {h : β → D} (h1 : VE g a ρ m (en k (eL f))) (h2 : VE g b ρ n (en k' (eL h))) : VI g (.zip a b) ρ (safe k && safe k') (bnd m fun x => bnd n fun y => ret (x.zip y)) (eP (rC f (r1 h))) :=
  ⟨by rw [evI]; exact le_mb h1.get fun x => le_mb h2.get fun y => le_ret fun t => (by show opt (some (safe k && safe k', zipD (x.map f) (y.map h))) t = _; rw [zipD_map]; rfl)⟩
theorem vi_zT {m : M (List α)} {n : M (List β)} {k k' : Kd} {f : α → D} {h : β → D} (h1 : VE g a ρ m (en k (eT f))) (h2 : VE g b ρ n (en k' (eT h))) : VI g (.zip a b) ρ true (bnd m fun x => bnd n fun y => ret (x.zip y)) (eP (rC f (r1 h))) :=
  ⟨by rw [evI]; exact le_mb h1.get fun x => le_mb h2.get fun y => le_ret fun t => (by show opt (some (true, zipD (x.map f) (y.map h))) t = _; rw [zipD_map]; rfl)⟩
/-! rows told by their items -/
theorem VTO.no : Le (mp (fun x => x) (ret true)) (evTO g .no ρ) := le_ret fun t => by rw [evTO]
theorem VTO.so {c : T} {m : M Bool} (h : VT g c ρ m) : Le (mp (fun x => x) m) (evTO g (.so c) ρ) := by rw [evTO]; exact h.get
theorem cmp_le {f : α → D} {h : β → D} {F : D → M (Option D)} {F' : α → M (Option β)} : ∀ xs : List α, (∀ x, x ∈ xs → Le (mp (Option.map h) (F' x)) (F (f x))) → Le (mp (List.map h) (cmpM xs F')) (compM (xs.map f) F)
  | [], _ => le_ret fun t => rfl
  | x :: xs, k => by
    rw [List.map_cons, compM, cmpM]
    refine le_mb (k x List.mem_cons_self) fun o => le_mb (cmp_le xs fun y hy => k y (List.mem_cons_of_mem _ hy)) fun ys => le_ret fun t => ?_
    cases o <;> rfl
/-- the body of a comprehension -/
structure VB {α β : Type} (g : Gl) (vs : List Nat) (elt : E) (tg : Tg) (cond : TO) (ρ : Env) (f : α → D) (h : β → D) (F : α → M (Option β)) : Prop where
  get : ∀ x, Le (mp (Option.map h) (F x)) (lcB g vs elt tg cond ρ (f x))
variable {vs : List Nat} {elt : E} {tg : Tg} {it : It} {bb : Bool} {f : α → D} {h : β → D} {ρ2 : α → Env}
theorem vb_mk {cond : TO} {c : α → M Bool} {v : α → M β} {r : β → R} (hb : ∀ x, bind1 tg (f x) (wipeE ρ vs) = some (ρ2 x)) (hc : ∀ x, Le (mp (fun x => x) (c x)) (evTO g cond (ρ2 x))) (he : ∀ x, VE g elt (ρ2 x) (v x) r) (hs : ∀ y, shared (r y) = some (h y)) :
    VB g vs elt tg cond ρ f h fun x => bnd (c x) fun k => if k then bnd (v x) fun y => ret (some y) else ret none := by
  refine ⟨fun x => le_of fun t y t' q => ?_⟩
  obtain ⟨k, t1, e1, q⟩ := bnd_inv q
  unfold lcB
  rw [bnd_ap, hb]
  show bnd (evTO g cond (ρ2 x)) _ t = _
  rw [bnd_ap, (hc x).at e1]
  cases k with
  | false =>
    cases q
    rfl
  | true =>
    obtain ⟨y, t2, e2, q⟩ := bnd_inv q
    cases q
    show bnd (ev g elt (ρ2 x)) _ t1 = _
    rw [bnd_ap, (he x).get.at e2]
    show bnd (opt (shared (r y))) _ _ = _
    rw [hs]
    rfl
theorem ev_lcB {g : Gl} {vs : List Nat} {elt : E} {tg : Tg} {it : It} {cond : TO} {ρ : Env} : ev g (.lc vs elt tg it cond) ρ = bnd (evI g it ρ) fun xs => bnd (compM xs.2 fun d => lcB g vs elt tg cond ρ d) lstR := by
  rw [ev]
  rfl
theorem ve_lc {cond : TO} {mx : M (List α)} {F : α → M (Option β)} (hi : VI g it ρ bb mx f) (hb : VB g vs elt tg cond ρ f h F) : VE g (.lc vs elt tg it cond) ρ (bnd mx fun xs => bnd (cmpM xs F) smM) (en .fr (eL h)) := by
  refine ⟨?_⟩
  rw [ev_lcB]
  refine le_mb hi.get fun xs => le_mb (cmp_le xs fun x _ => hb.get x) fun ys => le_of fun t z t' q => ?_
  unfold smM at q
  split at q
  · cases q
    rw [lstR_ap, if_pos (by rw [List.length_map]; assumption)]
    rfl
  · cases q
theorem cmp_pure {p : α → Bool} {v : α → β} : ∀ xs : List α, cmpM xs (fun x => if p x then ret (some (v x)) else ret none) = ret ((xs.filter p).map v)
  | [] => rfl
  | x :: xs => by
    rw [cmpM, cmp_pure xs, List.filter_cons]
    cases p x <;> rfl
theorem cmp_all {v : α → β} (xs : List α) : cmpM xs (fun x => ret (some (v x))) = ret (xs.map v) := by
  have := cmp_pure (p := fun _ => true) (v := v) xs
  rw [List.filter_eq_self.mpr fun _ _ => rfl] at this
  exact this
theorem cmp_map {v : α → M β} : ∀ (xs : List α), cmpM xs (fun x => bnd (v x) fun y => ret (some y)) = mapM' xs v
  | [] => rfl
  | x :: xs => by
    rw [cmpM, mapM', cmp_map xs]
    simp only [bnd_bnd, bnd_ret]
/-- all plain -/
theorem ve_lcP {c : T} {mx : M (List α)} {p : α → Bool} {v : α → β} {r : β → R} (hi : VI g it ρ bb mx f) (hb : ∀ x, bind1 tg (f x) (wipeE ρ vs) = some (ρ2 x)) (hc : ∀ x, VT g c (ρ2 x) (ret (p x))) (he : ∀ x, VE g elt (ρ2 x) (ret (v x)) r) (hs : ∀ y, shared (r y) = some (h y)) :
    VE g (.lc vs elt tg it (.so c)) ρ (bnd mx fun xs => smM ((xs.filter p).map v)) (en .fr (eL h)) := by
  have := ve_lc hi (vb_mk hb (fun x => VTO.so (hc x)) he hs)
  simp only [bnd_ret, cmp_pure] at this
  exact this
theorem ve_lcA {mx : M (List α)} {v : α → β} {r : β → R} (hi : VI g it ρ bb mx f) (hb : ∀ x, bind1 tg (f x) (wipeE ρ vs) = some (ρ2 x)) (he : ∀ x, VE g elt (ρ2 x) (ret (v x)) r) (hs : ∀ y, shared (r y) = some (h y)) :
    VE g (.lc vs elt tg it .no) ρ (bnd mx fun xs => smM (xs.map v)) (en .fr (eL h)) := by
  have := ve_lc hi (vb_mk hb (fun x => VTO.no) he hs)
  simp only [bnd_ret, ↓reduceIte, cmp_all] at this
  exact this
/-- no condition -/
theorem ve_lcM {mx : M (List α)} {v : α → M β} {r : β → R} (hi : VI g it ρ bb mx f) (hb : ∀ x, bind1 tg (f x) (wipeE ρ vs) = some (ρ2 x)) (he : ∀ x, VE g elt (ρ2 x) (v x) r) (hs : ∀ y, shared (r y) = some (h y)) :
    VE g (.lc vs elt tg it .no) ρ (bnd mx fun xs => bnd (mapM' xs v) smM) (en .fr (eL h)) := by
  have := ve_lc hi (vb_mk hb (fun x => VTO.no) he hs)
  simp only [bnd_ret, ↓reduceIte, cmp_map] at this
  exact this
theorem cats_le {f : α → D} {h : β → D} {F : D → M (List D)} {F' : α → M (List β)} : ∀ xs : List α, (∀ x, x ∈ xs → Le (mp (List.map h) (F' x)) (F (f x))) → Le (mp (List.map h) (catsM xs F')) (catM (xs.map f) F)
  | [], _ => le_ret fun t => rfl
  | x :: xs, k => by
    rw [List.map_cons, catM, catsM]
    refine le_mb (k x List.mem_cons_self) fun o => le_mb (cats_le xs fun y hy => k y (List.mem_cons_of_mem _ hy)) fun ys => le_ret fun t => ?_
    rw [List.map_append]
theorem ve_lc2 {vs1 : List Nat} {cond cond1 : TO} {tg1 : Tg} {it1 : It} {mx : M (List α)} {f1 : γ → D} {c : α → M Bool} {my : α → M (List γ)} {F : α → γ → M (Option β)} (hi : VI g it ρ bb mx f) (hb : ∀ x, bind1 tg (f x) (wipeE ρ vs) = some (ρ2 x))
    (hc : ∀ x, Le (mp (fun x => x) (c x)) (evTO g cond (ρ2 x))) (hi1 : ∀ x, VI g it1 (ρ2 x) true (my x) f1) (hb1 : ∀ x, VB g vs1 elt tg1 cond1 (ρ2 x) f1 h (F x)) :
    VE g (.lc2 vs vs1 elt tg it cond tg1 it1 cond1) ρ (bnd mx fun xs => bnd (catsM xs fun x => bnd (c x) fun k => if k then bnd (my x) fun ys => cmpM ys (F x) else ret []) smM) (en .fr (eL h)) := by
  refine ⟨?_⟩
  rw [ev]
  refine le_mb hi.get fun xs => le_mb (ra := List.map h) (cats_le xs fun x _ => ?_) fun ys => le_of fun t z t' q => ?_
  · show Le _ (bnd (opt (bind1 tg (f x) (wipeE ρ vs))) _)
    rw [hb]
    show Le _ (bnd (evTO g cond (ρ2 x)) _)
    refine le_mb (hc x) fun k => le_ite (fun hk => le_mb (hi1 x).get fun ys => ?_) (fun hk => le_ret fun t => rfl)
    exact cmp_le ys fun y _ => (hb1 x).get y
  · unfold smM at q
    split at q
    · cases q
      rw [lstR_ap, if_pos (by rw [List.length_map]; assumption)]
      rfl
    · cases q
end
end Q
namespace Q
open PySem
/-! ### the operators -/
section
variable {α β γ : Type} {k k' : Kd} {f : α → D} {xs ys : List α} {a b : Int}
theorem o_add : Le (mp (en .sh eI) (ret (a + b))) (opt (opD .add (en k eI a) (en k' eI b))) := le_ret fun t => rfl
theorem o_sub : Le (mp (en .sh eI) (ret (a - b))) (opt (opD .sub (en k eI a) (en k' eI b))) := le_ret fun t => rfl
theorem o_mul : Le (mp (en .sh eI) (mulM a b)) (opt (opD .mul (en k eI a) (en k' eI b))) := le_of fun t x t' q => by
  unfold mulM at q
  split at q
  · rename_i h
    cases q
    show opt (if (intB a || intB b) = true then _ else _) t = _
    rw [h]
    rfl
  · cases q
theorem o_fdiv : Le (mp (en .sh eI) (fdivM a b)) (opt (opD .fdiv (en k eI a) (en k' eI b))) := le_of fun t x t' q => by
  unfold fdivM at q
  split at q
  · rename_i h
    cases q
    show opt (if 0 < b ∧ b.natAbs < 1073741824 then _ else _) t = _
    rw [if_pos h]
    rfl
  · cases q
theorem o_mod : Le (mp (en .sh eI) (modM a b)) (opt (opD .mod (en k eI a) (en k' eI b))) := le_of fun t x t' q => by
  unfold modM at q
  split at q
  · rename_i h
    cases q
    show opt (if 0 < b then _ else _) t = _
    rw [if_pos h]
    rfl
  · cases q
theorem o_pow : Le (mp (en .sh eI) (powM a b)) (opt (opD .pow (en k eI a) (en k' eI b))) := le_of fun t x t' q => by
  unfold powM at q
  split at q
  · rename_i h
    cases q
    show opt (if 0 ≤ b ∧ b.natAbs ≤ 1000000 ∧ a.natAbs < 18446744073709551616 then _ else _) t = _
    rw [if_pos h]
    rfl
  · cases q
theorem o_addL (h1 : k ≠ .ro) (h2 : k' ≠ .ro) : Le (mp (en .fr (eL f)) (catM' xs ys)) (opt (opD .add (en k (eL f) xs) (en k' (eL f) ys))) := le_of fun t x t' q => by
  unfold catM' at q
  split at q
  · rename_i h
    cases q
    show opt (if k ≠ .ro ∧ k' ≠ .ro ∧ (xs.map f).length + (ys.map f).length ≤ lim then _ else _) t = _
    rw [List.length_map, List.length_map, if_pos ⟨h1, h2, h⟩, ← List.map_append]
    rfl
  · cases q
theorem o_addT : Le (mp (en .sh (eT f)) (catM' xs ys)) (opt (opD .add (en k (eT f) xs) (en k' (eT f) ys))) := le_of fun t x t' q => by
  unfold catM' at q
  split at q
  · rename_i h
    cases q
    show opt (if (xs.map f).length + (ys.map f).length ≤ lim then _ else _) t = _
    rw [List.length_map, List.length_map, if_pos h, ← List.map_append]
    rfl
  · cases q
theorem map_rep (n : Nat) : (List.replicate n (xs.map f)).flatten = ((List.replicate n xs).flatten).map f := by
  rw [List.map_flatten, List.map_replicate]
theorem o_mulL (h1 : k ≠ .ro) : Le (mp (en .fr (eL f)) (repM xs b)) (opt (opD .mul (en k (eL f) xs) (en k' eI b))) := le_of fun t x t' q => by
  unfold repM at q
  split at q
  · rename_i h
    cases q
    show opt (if k ≠ .ro ∧ b.natAbs < 9223372036854775808 ∧ (xs.map f).length * b.toNat ≤ lim then _ else _) t = _
    have : xs.length * b.toNat ≤ 1000 * 1000 := Nat.mul_le_mul h.2 (by omega)
    rw [List.length_map, if_pos ⟨h1, by omega, Nat.le_trans this (by decide)⟩, map_rep]
    rfl
  · cases q
theorem o_mulT : Le (mp (en .sh (eT f)) (repM xs b)) (opt (opD .mul (en k (eT f) xs) (en k' eI b))) := le_of fun t x t' q => by
  unfold repM at q
  split at q
  · rename_i h
    cases q
    show opt (if (xs.map f).length ≤ 1000 ∧ b.natAbs ≤ 1000 then _ else _) t = _
    rw [List.length_map, if_pos ⟨h.2, h.1⟩, map_rep]
    rfl
  · cases q
/-! comparisons -/
def eqB {α : Type} [DecidableEq α] (x y : α) : Bool := decide (x = y)
def memB {α : Type} [DecidableEq α] (x : α) (ys : List α) : Bool := ys.any fun z => decide (z = x)
theorem eqB_iff {α : Type} [DecidableEq α] {x y : α} : eqB x y = true ↔ x = y := by simp [eqB]
theorem memB_iff {α : Type} [DecidableEq α] {x : α} {ys : List α} : memB x ys = true ↔ x ∈ ys := by simp [memB]
theorem c_lt : CpOk .lt (eI a) (eI b) (ret (decide (a < b))) := cp_ret rfl
theorem c_le : CpOk .le (eI a) (eI b) (ret (decide (a ≤ b))) := cp_ret rfl
theorem c_gt : CpOk .gt (eI a) (eI b) (ret (decide (b < a))) := cp_ret rfl
theorem c_ge : CpOk .ge (eI a) (eI b) (ret (decide (b ≤ a))) := cp_ret rfl
section
variable [DecidableEq α] {n : Nat} {x y : α}
theorem d_eq (h : EqC' f n) (hn : n ≤ 58) : cpD .eq (f x) (f y) = some (eqB x y) := by
  simp [eqB, cpD, h.okD (show n ≤ 59 by omega), h.eq]
theorem d_ne (h : EqC' f n) (hn : n ≤ 58) : cpD .ne (f x) (f y) = some (!eqB x y) := by
  simp [eqB, cpD, h.okD (show n ≤ 59 by omega), h.eq]
theorem any_in (h : EqC' f n) : ((ys.map f).any fun z => PyData.eqv z (f x)) = memB x ys := by
  rw [List.any_map, Bool.eq_iff_iff]
  simp [Function.comp_def, h.eq, memB]
theorem d_inL (h : EqC' f n) (hn : n ≤ 58) : cpD .inn (f x) (eL f ys) = some (memB x ys) := by
  show inD (f x) (.list (ys.map f)) = _
  have h2 := (qL h).okD (show n + 1 ≤ 59 by omega) ys
  unfold eL at h2
  unfold inD
  simp [h.okD (show n ≤ 59 by omega), h2]
  simpa using any_in h
theorem d_inT (h : EqC' f n) (hn : n ≤ 58) : cpD .inn (f x) (eT f ys) = some (memB x ys) := by
  show inD (f x) (.tuple (ys.map f)) = _
  have h2 := (qL h).okD (show n + 1 ≤ 59 by omega) ys
  unfold eL at h2
  unfold inD
  simp [h.okD (show n ≤ 59 by omega), h2]
  simpa using any_in h
theorem c_eq (h : EqC' f n) (hn : n ≤ 58) : CpOk .eq (f x) (f y) (ret (eqB x y)) := cp_ret (d_eq h hn)
theorem c_ne (h : EqC' f n) (hn : n ≤ 58) : CpOk .ne (f x) (f y) (ret (!eqB x y)) := cp_ret (d_ne h hn)
theorem c_inL (h : EqC' f n) (hn : n ≤ 58) : CpOk .inn (f x) (eL f ys) (ret (memB x ys)) := cp_ret (d_inL h hn)
theorem c_inT (h : EqC' f n) (hn : n ≤ 58) : CpOk .inn (f x) (eT f ys) (ret (memB x ys)) := cp_ret (d_inT h hn)
theorem c_ninL (h : EqC' f n) (hn : n ≤ 58) : CpOk .nin (f x) (eL f ys) (ret (!memB x ys)) := cp_ret (by
  show (cpD .inn (f x) (eL f ys)).map _ = _
  rw [d_inL h hn]
  rfl)
theorem c_ninT (h : EqC' f n) (hn : n ≤ 58) : CpOk .nin (f x) (eT f ys) (ret (!memB x ys)) := cp_ret (by
  show (cpD .inn (f x) (eT f ys)).map _ = _
  rw [d_inT h hn]
  rfl)
end
theorem d_isN {f : α → D} [NN f] {x : Option α} : cpD .iss (eO f x) .none = some x.isNone := by
  cases x with
  | none => rfl
  | some x =>
    show isD (f x) .none = some false
    have := NN.nn (f := f) x
    cases h : f x <;> first | exact absurd h this | rfl
theorem d_isX {f : α → D} [NN f] {x : α} : cpD .iss (f x) .none = some false := by
  show isD (f x) .none = some false
  have := NN.nn (f := f) x
  cases h : f x <;> first | exact absurd h this | rfl
theorem d_nisN {f : α → D} [NN f] {x : Option α} : cpD .isn (eO f x) .none = some x.isSome := by
  show (cpD .iss (eO f x) .none).map _ = _
  rw [d_isN]
  cases x <;> rfl
theorem d_nisX {f : α → D} [NN f] {x : α} : cpD .isn (f x) .none = some true := by
  show (cpD .iss (f x) .none).map _ = _
  rw [d_isX]
  rfl
theorem c_isN {f : α → D} [NN f] {x : Option α} {u : Unit} : CpOk .iss (eO f x) (eN u) (ret x.isNone) := cp_ret d_isN
theorem c_nisN {f : α → D} [NN f] {x : Option α} {u : Unit} : CpOk .isn (eO f x) (eN u) (ret x.isSome) := cp_ret d_nisN
theorem c_isX {f : α → D} [NN f] {x : α} {u : Unit} : CpOk .iss (f x) (eN u) (ret false) := cp_ret d_isX
theorem c_nisX {f : α → D} [NN f] {x : α} {u : Unit} : CpOk .isn (f x) (eN u) (ret true) := cp_ret d_nisX
theorem c_isU {x u : Unit} : CpOk .iss (eN x) (eN u) (ret true) := cp_ret rfl
theorem c_nisU {x u : Unit} : CpOk .isn (eN x) (eN u) (ret false) := cp_ret rfl
theorem c_isB {x y : Bool} : CpOk .iss (eB x) (eB y) (ret (eqB x y)) := cp_ret rfl
theorem c_nisB {x y : Bool} : CpOk .isn (eB x) (eB y) (ret (!eqB x y)) := cp_ret rfl
/-! items -/
theorem ixN_map : L2.atI (xs.map f) a = (L2.atI xs a).map f := by
  unfold L2.atI
  rw [List.length_map]
  cases L2.ixN xs.length a with
  | none => rfl
  | some n =>
    show (xs.map f)[n]? = xs[n]?.map f
    rw [List.getElem?_map]
theorem i_L : Le (mp f (atM xs a)) (opt (ixD (eL f xs) (eI a))) := le_of fun t x t' q => by
  show opt (L2.atI (xs.map f) a) t = _
  rw [ixN_map]
  unfold atM opt at q
  unfold opt
  cases h : L2.atI xs a with
  | none => rw [h] at q; cases q
  | some z => rw [h] at q; cases q; rfl
theorem i_T : Le (mp f (atM xs a)) (opt (ixD (eT f xs) (eI a))) := i_L
theorem i_P {g : α → List D} {h : β → D} {x : α} {z : β} (n : Nat) (e : (g x)[n]? = some (h z)) : Le (mp h (ret z)) (opt (ixD (eP g x) (eI (n : Int)))) := le_ret fun t => by
  show opt (L2.atI (g x) (n : Int)) t = _
  rw [L2.atI_nat e]
  rfl
/-! builtins -/
theorem b_lenL : Le (mp (en .sh eI) (ret (xs.length : Int))) (opt (bltD .len [en k (eL f) xs])) := le_ret fun t => by
  show opt (some (shd (.int ((xs.map f).length : Nat)))) t = _
  rw [List.length_map]
  rfl
theorem b_lenT : Le (mp (en .sh eI) (ret (xs.length : Int))) (opt (bltD .len [en k (eT f) xs])) := le_ret fun t => by
  show opt (some (shd (.int ((xs.map f).length : Nat)))) t = _
  rw [List.length_map]
  rfl
theorem b_abs : Le (mp (en .sh eI) (ret (a.natAbs : Int))) (opt (bltD .abs [en k eI a])) := le_ret fun t => by
  show opt (some (shd (.int (if a < 0 then -a else a)))) t = _
  rw [show (if a < 0 then -a else a) = (a.natAbs : Int) by split <;> omega]
  rfl
theorem b_int : Le (mp (en .sh eI) (ret a)) (opt (bltD .int [en k eI a])) := le_ret fun t => rfl
theorem b_intB {p : Bool} : Le (mp (en .sh eI) (ret (if p then 1 else 0))) (opt (bltD .int [en k eB p])) := le_ret fun t => rfl
theorem b_max2 : Le (mp (en .sh eI) (ret (max a b))) (opt (bltD .max2 [en k eI a, en k' eI b])) := le_ret fun t => by
  show opt (some (shd (.int (if b > a then b else a)))) t = _
  rw [show (if b > a then b else a) = max a b by rw [Int.max_def]; split <;> split <;> omega]
  rfl
theorem b_min2 : Le (mp (en .sh eI) (ret (min a b))) (opt (bltD .min2 [en k eI a, en k' eI b])) := le_ret fun t => by
  show opt (some (shd (.int (if b < a then b else a)))) t = _
  rw [show (if b < a then b else a) = min a b by rw [Int.min_def]; split <;> split <;> omega]
  rfl
theorem b_sum {ns : List Int} : Le (mp (en .sh eI) (ret ns.sum)) (opt (bltD .sum [en k (eL eI) ns])) := le_ret fun t => by
  show opt (bltD .sum [⟨k, .list (ns.map .int)⟩]) t = _
  rw [blt_sumI]
  rfl
theorem boolsOf_id : ∀ ps : List Bool, boolsOf (ps.map .bool) = some ps
  | [] => rfl
  | p :: ps => by
    rw [List.map_cons, boolsOf, boolsOf_id ps]
    rfl
theorem b_sumT {ns : List Int} : Le (mp (en .sh eI) (ret ns.sum)) (opt (bltD .sum [en k (eT eI) ns])) := b_sum (k := k)
theorem b_all {ps : List Bool} : Le (mp (en .sh eB) (ret (ps.all id))) (opt (bltD .all [en k (eL eB) ps])) := le_ret fun t => by
  show opt ((boolsOf (ps.map .bool)).map fun bs => shd (.bool (bs.all id))) t = _
  rw [boolsOf_id]
  rfl
theorem b_any {ps : List Bool} : Le (mp (en .sh eB) (ret (ps.any id))) (opt (bltD .any [en k (eL eB) ps])) := le_ret fun t => by
  show opt ((boolsOf (ps.map .bool)).map fun bs => shd (.bool (bs.any id))) t = _
  rw [boolsOf_id]
  rfl
theorem b_tupL : Le (mp (en .sh (eT f)) (ret xs)) (opt (bltD .tuple [en k (eL f) xs])) := le_ret fun t => rfl
theorem b_tupT : Le (mp (en .sh (eT f)) (ret xs)) (opt (bltD .tuple [en k (eT f) xs])) := le_ret fun t => rfl
theorem b_listL : Le (mp (en .fr (eL f)) (ret xs)) (opt (bltD .list [en k (eL f) xs])) := le_ret fun t => rfl
theorem b_listT : Le (mp (en .fr (eL f)) (ret xs)) (opt (bltD .list [en k (eT f) xs])) := le_ret fun t => rfl
/-! what is less -/
structure LtC {α : Type} (f : α → D) (lt : α → α → Bool) : Prop where
  al : ∀ x y, PySem.W.alike (f x) (f y) = true
  lt : ∀ x y, PySem.W.dataLt (f x) (f y) = lt x y
  nn : ∀ x, nnoD (f x) = true
structure LtR {α : Type} (f : α → List D) (lt : α → α → Bool) : Prop where
  al : ∀ x y, PySem.W.alikeAll (f x) (f y) = true
  lt : ∀ x y, PyProof.Rows.lexLt PyProof.Rows.itemOrd (PySem.W.keyToksAll (f x)) (PySem.W.keyToksAll (f y)) = lt x y
def ltI (a b : Int) : Bool := decide (a < b)
def ltS (a b : Str) : Bool := decide (a.cps.toList < b.cps.toList)
def ltP {α β : Type} [DecidableEq α] (l : α → α → Bool) (m : β → β → Bool) (p q : α × β) : Bool := if p.1 = q.1 then m p.2 q.2 else l p.1 q.1
theorem lI : LtC eI ltI := ⟨fun _ _ => rfl, fun x y => PySem.W.dataLt_int x y, fun _ => rfl⟩
theorem lS : LtC eS ltS := ⟨fun _ _ => rfl, fun x y => PySem.W.dataLt_str x y, fun _ => rfl⟩
theorem lr1 [DecidableEq α] {l : α → α → Bool} {n : Nat} (e : EqC' f n) (h : LtC f l) : LtR (r1 f) l := by
  refine ⟨fun x y => ?_, fun x y => ?_⟩
  · show PySem.W.alikeAll [f x] [f y] = true
    rw [PySem.W.alikeAll, h.al]
    rfl
  · show PyProof.Rows.lexLt PyProof.Rows.itemOrd (PySem.W.keyToksAll [f x]) (PySem.W.keyToksAll [f y]) = _
    rw [PySem.W.dataLt_cons (h.al x y), e.eq]
    by_cases q : x = y
    · subst q
      rw [if_pos (by simp), ← h.lt, show PySem.W.dataLt (f x) (f x) = false from PyProof.Rows.lex_irrefl _]
      exact PyProof.Rows.lex_irrefl _
    · rw [if_neg (by simpa using q)]
      exact h.lt x y
theorem lrC [DecidableEq α] {l : α → α → Bool} {n : Nat} {g : β → List D} {m : β → β → Bool} (e : EqC' f n) (h : LtC f l) (k : LtR g m) : LtR (rC f g) (ltP l m) := by
  refine ⟨fun x y => ?_, fun x y => ?_⟩
  · show PySem.W.alikeAll (f x.1 :: g x.2) (f y.1 :: g y.2) = true
    rw [PySem.W.alikeAll, h.al, k.al]
    rfl
  · show PyProof.Rows.lexLt PyProof.Rows.itemOrd (PySem.W.keyToksAll (f x.1 :: g x.2)) (PySem.W.keyToksAll (f y.1 :: g y.2)) = _
    rw [PySem.W.dataLt_cons (h.al x.1 y.1), e.eq]
    unfold ltP
    by_cases q : x.1 = y.1
    · rw [if_pos (by simpa using q), if_pos q]
      exact k.lt x.2 y.2
    · rw [if_neg (by simpa using q), if_neg q]
      exact h.lt x.1 y.1
theorem lP {g : α → List D} {m : α → α → Bool} (k : LtR g m) : LtC (eP g) m := by
  refine ⟨fun x y => ?_, fun x y => ?_, fun _ => rfl⟩
  · show PySem.W.alike (.tuple (g x)) (.tuple (g y)) = true
    rw [PySem.W.alike]
    exact k.al x y
  · exact (PySem.W.dataLt_tuple _ _).trans (k.lt x y)
theorem lTnil (y : D) (ys : List D) : PyProof.Rows.lexLt PyProof.Rows.itemOrd (PySem.W.keyToksAll []) (PySem.W.keyToksAll (y :: ys)) = true := by
  simp only [PySem.W.keyToksAll]
  rw [PyProof.Rows.lex_diff (by intro h; cases h)]
  rfl
theorem lTnil' (y : D) (ys : List D) : PyProof.Rows.lexLt PyProof.Rows.itemOrd (PySem.W.keyToksAll (y :: ys)) (PySem.W.keyToksAll []) = false := by
  simp only [PySem.W.keyToksAll]
  rw [PyProof.Rows.lex_diff (by intro h; cases h)]
  rfl
def ltL {α : Type} [DecidableEq α] (l : α → α → Bool) : List α → List α → Bool
  | [], [] => false
  | [], _ :: _ => true
  | _ :: _, [] => false
  | x :: xs, y :: ys => if x = y then ltL l xs ys else l x y
theorem lTa [DecidableEq α] {l : α → α → Bool} (h : LtC f l) : ∀ x y : List α, PySem.W.alikeAll (x.map f) (y.map f) = true
  | [], [] => by simp [PySem.W.alikeAll]
  | [], _ :: _ => by simp [PySem.W.alikeAll]
  | _ :: _, [] => by simp [PySem.W.alikeAll]
  | x :: xs, y :: ys => by
    rw [List.map_cons, List.map_cons, PySem.W.alikeAll, h.al, lTa h xs ys]
    rfl
theorem lTl [DecidableEq α] {l : α → α → Bool} {n : Nat} (e : EqC' f n) (h : LtC f l) : ∀ x y : List α, PyProof.Rows.lexLt PyProof.Rows.itemOrd (PySem.W.keyToksAll (x.map f)) (PySem.W.keyToksAll (y.map f)) = ltL l x y
  | [], [] => PyProof.Rows.lex_irrefl _
  | [], y :: ys => by
    rw [List.map_cons]
    exact lTnil _ _
  | x :: xs, [] => by
    rw [List.map_cons]
    exact lTnil' _ _
  | x :: xs, y :: ys => by
    rw [List.map_cons, List.map_cons, PySem.W.dataLt_cons (h.al x y), e.eq, ltL]
    by_cases q : x = y
    · rw [if_pos (by simpa using q), if_pos q]
      exact lTl e h xs ys
    · rw [if_neg (by simpa using q), if_neg q]
      exact h.lt x y
theorem lT [DecidableEq α] {l : α → α → Bool} {n : Nat} (e : EqC' f n) (h : LtC f l) : LtC (eT f) (ltL l) := by
  refine ⟨fun x y => ?_, fun x y => ?_, fun _ => rfl⟩
  · show PySem.W.alike (.tuple (x.map f)) (.tuple (y.map f)) = true
    rw [PySem.W.alike]
    exact lTa h x y
  · exact (PySem.W.dataLt_tuple _ _).trans (lTl e h x y)
section
variable [DecidableEq α] {n : Nat} {l : α → α → Bool}
theorem alk_ok (e : EqC' f n) (hn : n ≤ 50) (h : LtC f l) : alk (xs.map f) = true := by
  have q := qm e
  unfold alk
  rw [q.pl xs, Bool.and_true, Bool.and_eq_true]
  refine ⟨?_, by simpa using Nat.le_trans (q.dp xs) hn⟩
  rw [List.all_eq_true]
  intro x hx
  obtain ⟨x', _, rfl⟩ := List.mem_map.mp hx
  rw [List.all_eq_true]
  intro y hy
  obtain ⟨y', _, rfl⟩ := List.mem_map.mp hy
  exact h.al x' y'
theorem ord_ok (e : EqC' f n) (hn : n ≤ 50) (h : LtC f l) : ordD (xs.map f) = true := by
  unfold ordD
  rw [alk_ok e hn h, Bool.true_and, List.all_eq_true]
  intro x hx
  obtain ⟨x', _, rfl⟩ := List.mem_map.mp hx
  exact h.nn x'
theorem maxD_map (h : LtC f l) (a : α) (r : List α) : PySem.W.maxD (f a) (r.map f) = f (r.foldl (fun x y => if l x y then y else x) a) := by
  unfold PySem.W.maxD
  induction r generalizing a with
  | nil => rfl
  | cons z r ih =>
    rw [List.map_cons, List.foldl_cons, List.foldl_cons, h.lt, ← ih]
    cases l a z <;> rfl
theorem minD_map (h : LtC f l) (a : α) (r : List α) : PySem.W.minD (f a) (r.map f) = f (r.foldl (fun x y => if l y x then y else x) a) := by
  unfold PySem.W.minD
  induction r generalizing a with
  | nil => rfl
  | cons z r ih =>
    rw [List.map_cons, List.foldl_cons, List.foldl_cons, h.lt, ← ih]
    cases l z a <;> rfl
theorem b_maxL (e : EqC' f n) (hn : n ≤ 50) (h : LtC f l) : Le (mp (en .sh f) (maxB l xs)) (opt (bltD .max1 [en k (eL f) xs])) := le_of fun t x t' q => by
  cases xs with
  | nil => cases q
  | cons a r =>
    cases q
    show opt (if ordD ((a :: r).map f) then some (shd (PySem.W.maxD (f a) (r.map f))) else none) t = _
    rw [ord_ok e hn h, maxD_map h]
    rfl
theorem b_minL (e : EqC' f n) (hn : n ≤ 50) (h : LtC f l) : Le (mp (en .sh f) (minB l xs)) (opt (bltD .min1 [en k (eL f) xs])) := le_of fun t x t' q => by
  cases xs with
  | nil => cases q
  | cons a r =>
    cases q
    show opt (if ordD ((a :: r).map f) then some (shd (PySem.W.minD (f a) (r.map f))) else none) t = _
    rw [ord_ok e hn h, minD_map h]
    rfl
theorem b_maxT (e : EqC' f n) (hn : n ≤ 50) (h : LtC f l) : Le (mp (en .sh f) (maxB l xs)) (opt (bltD .max1 [en k (eT f) xs])) := le_of fun t x t' q => by
  cases xs with
  | nil => cases q
  | cons a r => exact (b_maxL e hn h (k := k) (xs := a :: r)).at q
theorem b_minT (e : EqC' f n) (hn : n ≤ 50) (h : LtC f l) : Le (mp (en .sh f) (minB l xs)) (opt (bltD .min1 [en k (eT f) xs])) := le_of fun t x t' q => by
  cases xs with
  | nil => cases q
  | cons a r => exact (b_minL e hn h (k := k) (xs := a :: r)).at q
theorem max_int (a b : Int) : max a b = if ltI a b then b else a := by
  unfold ltI
  rw [Int.max_def]
  simp only [decide_eq_true_eq]
  split <;> split <;> omega
theorem min_int (a b : Int) : min a b = if ltI b a then b else a := by
  unfold ltI
  rw [Int.min_def]
  simp only [decide_eq_true_eq]
  split <;> split <;> omega
theorem maxI_eq : maxI = maxB ltI := by
  funext xs
  unfold maxI maxB
  congr 1
  funext a r
  congr 1
  funext x y
  exact max_int x y
theorem minI_eq : minI = minB ltI := by
  funext xs
  unfold minI minB
  congr 1
  funext a r
  congr 1
  funext x y
  exact min_int x y
theorem b_maxLI {ns : List Int} : Le (mp (en .sh eI) (maxI ns)) (opt (bltD .max1 [en k (eL eI) ns])) := by rw [maxI_eq]; exact b_maxL qI (by decide) lI
theorem b_minLI {ns : List Int} : Le (mp (en .sh eI) (minI ns)) (opt (bltD .min1 [en k (eL eI) ns])) := by rw [minI_eq]; exact b_minL qI (by decide) lI
theorem b_maxTI {ns : List Int} : Le (mp (en .sh eI) (maxI ns)) (opt (bltD .max1 [en k (eT eI) ns])) := by rw [maxI_eq]; exact b_maxT qI (by decide) lI
theorem b_minTI {ns : List Int} : Le (mp (en .sh eI) (minI ns)) (opt (bltD .min1 [en k (eT eI) ns])) := by rw [minI_eq]; exact b_minT qI (by decide) lI
theorem sortD_map (h : LtC f l) : sortD (xs.map f) = (xs.mergeSort fun a b => !l b a).map f := by
  unfold sortD
  refine (List.map_mergeSort fun a _ b _ => ?_).symm
  unfold leD
  rw [h.lt]
theorem b_sort (e : EqC' f n) (hn : n ≤ 50) (h : LtC f l) (hk : (∀ x, neT (f x) = true) ∨ ∀ x, ntD (f x) = true) : Le (mp (en .fr (eL f)) (srtM l xs)) (opt (bltD .sorted [en k (eL f) xs])) := le_of fun t x t' q => by
  unfold srtM smM at q
  split at q
  · rename_i hl
    cases q
    show opt (if srtOk (xs.map f) then some (⟨.fr, .list (sortD (xs.map f))⟩ : R) else none) t = _
    have : srtOk (xs.map f) = true := by
      unfold srtOk
      rw [alk_ok e hn h, List.length_map, Bool.true_and]
      rw [List.length_mergeSort] at hl
      rw [Bool.and_eq_true]
      refine ⟨?_, by simpa using hl⟩
      rw [Bool.or_eq_true]
      rcases hk with hk | hk
      · left
        rw [List.all_eq_true]
        intro x hx
        obtain ⟨x', _, rfl⟩ := List.mem_map.mp hx
        exact hk x'
      · right
        rw [List.all_eq_true]
        intro x hx
        obtain ⟨x', _, rfl⟩ := List.mem_map.mp hx
        exact hk x'
    rw [this, sortD_map h]
    rfl
  · cases q
theorem b_sortT (e : EqC' f n) (hn : n ≤ 50) (h : LtC f l) (hk : (∀ x, neT (f x) = true) ∨ ∀ x, ntD (f x) = true) : Le (mp (en .fr (eL f)) (srtM l xs)) (opt (bltD .sorted [en k (eT f) xs])) := b_sort (k := k) e hn h hk
theorem m_index (e : EqC' f n) (hn : n ≤ 59) {y : α} : Le (mp (en .sh eI) (idxM xs y)) (opt (mthD .index (eL f xs) (f y))) := le_of fun t x t' q => by
  unfold idxM at q
  show opt (if okD (f y) = true ∧ PyData.plainAll (xs.map f) = true then ((xs.map f).findIdx? fun z => PyData.eqv z (f y)).map (fun j => shd (.int (j : Nat))) else none) t = _
  rw [if_pos ⟨e.okD hn y, (qm e).pl xs⟩, List.findIdx?_map]
  have : ((fun z => PyData.eqv z (f y)) ∘ f) = fun x => decide (x = y) := funext fun z => e.eq z y
  rw [this]
  cases h : xs.findIdx? fun x => decide (x = y) with
  | none => rw [h] at q; cases q
  | some j => rw [h] at q; cases q; rfl
theorem m_count (e : EqC' f n) (hn : n ≤ 59) {y : α} : Le (mp (en .sh eI) (ret ((xs.countP fun x => decide (x = y) : Nat) : Int))) (opt (mthD .count (eL f xs) (f y))) := le_ret fun t => by
  show opt (if okD (f y) = true ∧ PyData.plainAll (xs.map f) = true then some (shd (.int (((xs.map f).countP fun z => PyData.eqv z (f y) : Nat) : Int))) else none) t = _
  rw [if_pos ⟨e.okD hn y, (qm e).pl xs⟩, List.countP_map]
  have : ((fun z => PyData.eqv z (f y)) ∘ f) = fun x => decide (x = y) := funext fun z => e.eq z y
  rw [this]
  rfl
end
end
/-! ### list(range(..)), range with a step, enumerate -/
def lrgT (a b : Int) : M (List Int) := fun t => if smlB a ∧ smlB b then some (irange a b, t) else none
def irangeC (a b c : Int) : List Int := (List.range (Builtin.Range.rangeSize a b c).toNat).map fun (k : Nat) => a + k * c
def rngCM (a b c : Int) : M (List Int) := fun t => if rngC a b c then some (irangeC a b c, t) else none
def enumT {α : Type} : Nat → List α → List (Int × α)
  | _, [] => []
  | n, x :: xs => ((n : Int), x) :: enumT (n + 1) xs
section
variable {g : Gl} {a b c e : E} {ρ : Env} {k k' k'' : Kd}
theorem le_lrgL {i j : Int} : Le (mp (en .fr (eL eI)) (lrgT i j)) (lrgM false i j) := le_of fun t x t' q => by
  unfold lrgT at q
  split at q
  · rename_i h
    cases q
    unfold lrgM
    rw [h.1, h.2, rangeL_eq]
    rfl
  · cases q
theorem le_lrgT {i j : Int} : Le (mp (en .sh (eT eI)) (lrgT i j)) (lrgM true i j) := le_of fun t x t' q => by
  unfold lrgT at q
  split at q
  · rename_i h
    cases q
    unfold lrgM
    rw [h.1, h.2, rangeL_eq]
    rfl
  · cases q
theorem ve_lrgL {m : M Int} (h : VE g a ρ m (en k eI)) : VE g (.lrg false a) ρ (bnd m fun x => lrgT 0 x) (en .fr (eL eI)) := ⟨by rw [ev]; exact le_mb h.get fun x => le_lrgL⟩
theorem ve_lrgT {m : M Int} (h : VE g a ρ m (en k eI)) : VE g (.lrg true a) ρ (bnd m fun x => lrgT 0 x) (en .sh (eT eI)) := ⟨by rw [ev]; exact le_mb h.get fun x => le_lrgT⟩
theorem ve_lrg2L {m n : M Int} (h : VE g a ρ m (en k eI)) (h2 : VE g b ρ n (en k' eI)) : VE g (.lrg2 false a b) ρ (bnd m fun x => bnd n fun y => lrgT x y) (en .fr (eL eI)) := ⟨by rw [ev]; exact le_mb h.get fun x => le_mb h2.get fun y => le_lrgL⟩
theorem ve_lrg2T {m n : M Int} (h : VE g a ρ m (en k eI)) (h2 : VE g b ρ n (en k' eI)) : VE g (.lrg2 true a b) ρ (bnd m fun x => bnd n fun y => lrgT x y) (en .sh (eT eI)) := ⟨by rw [ev]; exact le_mb h.get fun x => le_mb h2.get fun y => le_lrgT⟩
theorem le_rngC {i j l : Int} : Le (mp (fun xs : List Int => (true, xs.map eI)) (rngCM i j l)) (if rngC i j l then ret (true, rangeC i j l) else fail) := le_of fun t x t' q => by
  unfold rngCM at q
  split at q
  · rename_i h
    cases q
    rw [h]
    show some ((true, rangeC i j l), t) = some ((true, (irangeC i j l).map eI), t)
    unfold rangeC irangeC
    rw [List.map_map]
    rfl
  · cases q
theorem vi_3 {m n o : M Int} (h : VE g a ρ m (en k eI)) (h2 : VE g b ρ n (en k' eI)) (h3 : VE g c ρ o (en k'' eI)) : VI g (.rng3 a b c) ρ true (bnd m fun x => bnd n fun y => bnd o fun z => rngCM x y z) eI :=
  ⟨by rw [evI]; exact le_mb h.get fun x => le_mb h2.get fun y => le_mb h3.get fun z => le_rngC⟩
theorem enmD_map {α : Type} {f : α → D} : ∀ (n : Nat) (xs : List α), enmD n (xs.map f) = (enumT n xs).map (eP (rC eI (r1 f)))
  | _, [] => rfl
  | n, x :: xs => by
    show PyData.tuple [.int (n : Nat), f x] :: enmD (n + 1) (xs.map f) = _
    rw [enmD_map (n + 1) xs]
    rfl
theorem vi_e {α : Type} {m : M (List α)} {f : α → D} (h : VE g a ρ m (en k (eL f))) : VI g (.enm a) ρ (safe k) (bnd m fun x => ret (enumT 0 x)) (eP (rC eI (r1 f))) :=
  ⟨by rw [evI]; exact le_mb h.get fun x => le_ret fun t => (by show opt (some (safe k, enmD 0 (x.map f))) t = _; rw [enmD_map]; rfl)⟩
end
/-! ### dicts -/
structure KeyC {κ : Type} (f : κ → D) (dk : κ → DK) : Prop where
  of : ∀ k, kOf (f k) = some (dk k)
  inj : ∀ a b, dk a = dk b → a = b
theorem kI : KeyC eI .inl := ⟨fun _ => rfl, fun _ _ h => Sum.inl.inj h⟩
theorem kS : KeyC eS .inr := ⟨fun _ => rfl, fun _ _ h => Sum.inr.inj h⟩
def eM {κ β : Type} (f : κ → D) (h : β → D) (kvs : List (κ × β)) : D := .dict (kvs.map fun p => (f p.1, h p.2))
instance {κ β : Type} {f : κ → D} {h : β → D} : NN (eM f h) := ⟨fun _ h => nomatch h⟩
section
variable {κ β : Type} [DecidableEq κ]
def dputT (kvs : List (κ × β)) (k : κ) (v : β) : List (κ × β) := if (kvs.any fun p => decide (p.1 = k)) = true then kvs.map (fun p => if p.1 = k then (p.1, v) else p) else kvs ++ [(k, v)]
def dmk (ps : List (κ × β)) : List (κ × β) := ps.foldl (fun acc p => dputT acc p.1 p.2) []
def dicM (ps : List (κ × β)) : M (List (κ × β)) := fun t => if ps.length ≤ 1000000 then some (dmk ps, t) else none
end
def srtKM {β : Type} (kvs : List (Int × β)) : M (List Int) := fun t => if kvs.length < 64 then some (isort (kvs.map (·.1)), t) else none
section
variable {κ β : Type} {f : κ → D} {h : β → D} {dk : κ → DK} {k : Kd}
def entT (dk : κ → DK) (h : β → D) (kvs : List (κ × β)) : List (DK × D) := kvs.map fun p => (dk p.1, h p.2)
theorem kTo_of {d : D} {x : DK} (e : kOf d = some x) : kTo x = d := by
  unfold kOf at e
  split at e <;> cases e <;> rfl
theorem KeyC.ents (K : KeyC f dk) : ∀ kvs : List (κ × β), entries (kvs.map fun p => (f p.1, h p.2)) = some (entT dk h kvs)
  | [] => rfl
  | p :: r => by
    rw [List.map_cons, entries, K.of, Option.bind_some, K.ents r]
    rfl
theorem KeyC.pairs (K : KeyC f dk) : ∀ kvs : List (κ × β), pairsD (kvs.map (eP (rC f (r1 h)))) = some (entT dk h kvs)
  | [] => rfl
  | p :: r => by
    rw [List.map_cons]
    show pairsD (.tuple [f p.1, h p.2] :: _) = _
    rw [pairsD, K.of, Option.bind_some, K.pairs r]
    rfl
theorem KeyC.unent (K : KeyC f dk) (kvs : List (κ × β)) : Q.unent (entT dk h kvs) = kvs.map fun p => (f p.1, h p.2) := by
  unfold Q.unent entT
  rw [List.map_map]
  exact List.map_congr_left fun p _ => by
    show (kTo (dk p.1), h p.2) = _
    rw [kTo_of (K.of p.1)]
variable [DecidableEq κ]
theorem KeyC.put (K : KeyC f dk) (kvs : List (κ × β)) (x : κ) (v : β) : dPut (entT dk h kvs) (dk x) (h v) = entT dk h (dputT kvs x v) := by
  have hd : ∀ y : κ, decide (dk y = dk x) = decide (y = x) := fun y => decide_eq_decide.mpr ⟨K.inj _ _, fun e => by rw [e]⟩
  have ha : ((entT dk h kvs).any fun p => decide (p.1 = dk x)) = kvs.any fun p => decide (p.1 = x) := by
    unfold entT
    rw [List.any_map]
    congr 1
    funext p
    exact hd p.1
  unfold dPut dputT
  rw [ha]
  split
  · unfold entT
    rw [List.map_map, List.map_map]
    refine List.map_congr_left fun p _ => ?_
    show (if dk p.1 = dk x then (dk p.1, h v) else (dk p.1, h p.2)) = _
    by_cases e : p.1 = x
    · rw [if_pos (by rw [e])]
      show _ = (dk (if p.1 = x then (p.1, v) else p).1, h (if p.1 = x then (p.1, v) else p).2)
      rw [if_pos e]
    · rw [if_neg (fun z => e (K.inj _ _ z))]
      show _ = (dk (if p.1 = x then (p.1, v) else p).1, h (if p.1 = x then (p.1, v) else p).2)
      rw [if_neg e]
  · unfold entT
    rw [List.map_append]
    rfl
theorem KeyC.mergeA (K : KeyC f dk) : ∀ (ps acc : List (κ × β)), dMerge (entT dk h acc) (entT dk h ps) = entT dk h (ps.foldl (fun acc p => dputT acc p.1 p.2) acc)
  | [], _ => rfl
  | p :: r, acc => by
    show dMerge (dPut (entT dk h acc) (dk p.1) (h p.2)) (entT dk h r) = _
    rw [K.put, K.mergeA r]
    rfl
theorem KeyC.merge (K : KeyC f dk) (ps : List (κ × β)) : dMerge [] (entT dk h ps) = entT dk h (dmk ps) := K.mergeA ps []
theorem b_dict (K : KeyC f dk) {ps : List (κ × β)} : Le (mp (en .fr (eM f h)) (dicM ps)) (opt (bltD .dict [en k (eL (eP (rC f (r1 h)))) ps])) := le_of fun t x t' q => by
  unfold dicM at q
  split at q
  · rename_i hl
    cases q
    show opt ((pairsD (ps.map (eP (rC f (r1 h))))).bind fun kvs => if kvs.length ≤ 1000000 then some (⟨.fr, .dict (Q.unent (dMerge [] kvs))⟩ : R) else none) t = _
    rw [K.pairs, Option.bind_some, if_pos (by unfold entT; rw [List.length_map]; exact hl), K.merge, K.unent]
    rfl
  · cases q
omit [DecidableEq κ] in
theorem b_lenD (K : KeyC f dk) {kvs : List (κ × β)} : Le (mp (en .sh eI) (ret (kvs.length : Int))) (opt (bltD .len [en k (eM f h) kvs])) := le_ret fun t => by
  show opt ((entries (kvs.map fun p => (f p.1, h p.2))).map fun kvs => shd (.int (kvs.length : Nat))) t = _
  rw [K.ents, Option.map_some]
  show some (shd (.int ((entT dk h kvs).length : Nat)), t) = _
  unfold entT
  rw [List.length_map]
  rfl
theorem intKeys_ent : ∀ kvs : List (Int × β), intKeys (entT .inl h kvs) = some (kvs.map (·.1))
  | [] => rfl
  | p :: r => by
    show (intKeys (entT .inl h r)).map (p.1 :: ·) = _
    rw [intKeys_ent r]
    rfl
theorem b_sortD {kvs : List (Int × β)} : Le (mp (en .fr (eL eI)) (srtKM kvs)) (opt (bltD .sorted [en k (eM eI h) kvs])) := le_of fun t x t' q => by
  unfold srtKM at q
  split at q
  · rename_i hl
    cases q
    have e : bltD .sorted [en k (eM eI h) kvs] = some (en .fr (eL eI) (isort (kvs.map (·.1)))) := by
      have e1 : entries (kvs.map fun p => (eI p.1, h p.2)) = some (entT .inl h kvs) := kI.ents kvs
      show (entries (kvs.map fun p => (eI p.1, h p.2))).bind _ = _
      rw [e1, Option.bind_some]
      have e2 := intKeys_ent (h := h) kvs
      simp only [e2]
      exact if_pos (by rw [List.length_map]; exact hl)
    rw [e]
    rfl
  · cases q
end
/-! ### data of no one type -/
def cpA (op : Cp) (x y : D) : M Bool := opt (cpD op x y)
theorem c_A {op : Cp} {x y : D} : CpOk op x y (cpA op x y) := fun t b t' e => by
  unfold cpA at e
  obtain ⟨h, rfl⟩ := opt_some e
  exact ⟨rfl, h⟩
def noneB : D → Bool
  | .none => true
  | _ => false
theorem isD_none (x : D) : isD x .none = some (noneB x) := by cases x <;> rfl
theorem c_isA {x : D} {u : Unit} : CpOk .iss x (eN u) (ret (noneB x)) := cp_ret (isD_none x)
theorem c_nisA {x : D} {u : Unit} : CpOk .isn x (eN u) (ret (!noneB x)) := cp_ret (by
  show (isD x .none).map (!·) = _
  rw [isD_none]
  rfl)
def ixA (x y : D) : M D := opt (ixD x y)
theorem i_A {x y : D} : Le (mp eD (ixA x y)) (opt (ixD x y)) := le_of fun t z t' q => q
def lenA (x : D) : M Int := match x with
  | .list a => ret (a.length : Int)
  | .tuple a => ret (a.length : Int)
  | _ => fail
theorem b_lenA {k : Kd} {x : D} : Le (mp (en .sh eI) (lenA x)) (opt (bltD .len [en k eD x])) := le_of fun t z t' q => by
  cases x <;> first | (cases q; done) | (cases q; rfl)
def seqA (x : D) : M (List D) := match x with
  | .str s => ret (s.cps.toList.map fun c => .str ⟨#[c]⟩)
  | .list xs => ret xs
  | .tuple xs => ret xs
  | _ => fail
theorem vi_A {g : Gl} {e : E} {ρ : Env} {m : M D} (h : VE g e ρ m (en .sh eD)) : VI g (.seq e) ρ true (bnd m seqA) eD := by
  refine ⟨le_of fun t x t' q => ?_⟩
  obtain ⟨n, t1, e1, q⟩ := bnd_inv q
  rw [evI, bnd_ap, h.get.at e1]
  show opt (seqI ⟨.sh, n⟩) t1 = _
  cases n <;> first | (cases q; done) | (cases q; show some ((true, _), _) = some ((true, _), _); rw [List.map_id'])
structure Dec {α : Type} (f : α → D) (g : D → Option α) : Prop where
  ok : ∀ d v, g d = some v → f v = d
structure DecR {α : Type} (f : α → List D) (g : List D → Option α) : Prop where
  ok : ∀ d v, g d = some v → f v = d
def gI : D → Option Int
  | .int i => some i
  | _ => none
def gB : D → Option Bool
  | .bool i => some i
  | _ => none
def gS : D → Option Str
  | .str i => some i
  | _ => none
def gN : D → Option Unit
  | .none => some ()
  | _ => none
def mapO {α : Type} (g : D → Option α) : List D → Option (List α)
  | [] => some []
  | d :: ds => (g d).bind fun v => (mapO g ds).map (v :: ·)
def gL {α : Type} (g : D → Option α) : D → Option (List α)
  | .list xs => mapO g xs
  | _ => none
def gT {α : Type} (g : D → Option α) : D → Option (List α)
  | .tuple xs => mapO g xs
  | _ => none
def gP {α : Type} (g : List D → Option α) : D → Option α
  | .tuple xs => g xs
  | _ => none
def gO {α : Type} (g : D → Option α) (d : D) : Option (Option α) := match d with
  | .none => some none
  | d => (g d).map some
def g1 {α : Type} (g : D → Option α) : List D → Option α
  | [d] => g d
  | _ => none
def gC {α β : Type} (g : D → Option α) (h : List D → Option β) : List D → Option (α × β)
  | d :: ds => (g d).bind fun v => (h ds).map fun w => (v, w)
  | _ => none
theorem kdI : Dec eI gI := ⟨fun d v h => by cases d <;> cases h; rfl⟩
theorem kdB : Dec eB gB := ⟨fun d v h => by cases d <;> cases h; rfl⟩
theorem kdS : Dec eS gS := ⟨fun d v h => by cases d <;> cases h; rfl⟩
theorem kdN : Dec eN gN := ⟨fun d v h => by cases d <;> cases h; rfl⟩
theorem kdD : Dec eD some := ⟨fun d v h => by cases h; rfl⟩
section
variable {α β : Type} {f : α → D} {g : D → Option α} {fr : β → List D} {gr : List D → Option β}
theorem mapO_ok (k : Dec f g) : ∀ (ds : List D) (vs : List α), mapO g ds = some vs → vs.map f = ds
  | [], vs, h => by cases h; rfl
  | d :: ds, vs, h => by
    obtain ⟨v, h1, h⟩ := Option.bind_eq_some_iff.mp h
    obtain ⟨ws, h2, rfl⟩ := Option.map_eq_some_iff.mp h
    rw [List.map_cons, k.ok _ _ h1, mapO_ok k _ _ h2]
theorem kdL (k : Dec f g) : Dec (eL f) (gL g) := ⟨fun d v h => by
  cases d <;> first | (cases h; done) | skip
  exact congrArg PyData.list (mapO_ok k _ _ h)⟩
theorem kdT (k : Dec f g) : Dec (eT f) (gT g) := ⟨fun d v h => by
  cases d <;> first | (cases h; done) | skip
  exact congrArg PyData.tuple (mapO_ok k _ _ h)⟩
theorem kdP (k : DecR fr gr) : Dec (eP fr) (gP gr) := ⟨fun d v h => by
  cases d <;> first | (cases h; done) | skip
  exact congrArg PyData.tuple (k.ok _ _ h)⟩
theorem kdO (k : Dec f g) : Dec (eO f) (gO g) := ⟨fun d v h => by
  cases d <;> first | (cases h; rfl) | (obtain ⟨w, h1, rfl⟩ := Option.map_eq_some_iff.mp h; exact k.ok _ _ h1)⟩
theorem kd1 (k : Dec f g) : DecR (r1 f) (g1 g) := ⟨fun d v h => by
  match d, h with
  | [x], h => exact congrArg (fun z => [z]) (k.ok _ _ h)⟩
theorem kdC (k : Dec f g) (l : DecR fr gr) : DecR (rC f fr) (gC g gr) := ⟨fun d v h => by
  match d, h with
  | x :: xs, h =>
    obtain ⟨v, h1, h⟩ := Option.bind_eq_some_iff.mp h
    obtain ⟨ws, h2, rfl⟩ := Option.map_eq_some_iff.mp h
    show f v :: fr ws = _
    rw [k.ok _ _ h1, l.ok _ _ h2]⟩
def decM (g : D → Option α) (x : D) : M α := opt (g x)
theorem ve_dec {gl : Gl} {e : E} {ρ : Env} {m : M D} {k : Kd} (q : Dec f g) (h : VE gl e ρ m (en k eD)) : VE gl e ρ (bnd m (decM g)) (en k f) := by
  refine ⟨le_of fun t x t' w => ?_⟩
  obtain ⟨n, t1, e1, w⟩ := bnd_inv w
  rw [h.get.at e1]
  unfold decM opt at w
  cases hg : g n with
  | none => rw [hg] at w; cases w
  | some y =>
    rw [hg] at w
    cases w
    show some (R.mk k n, _) = some (R.mk k (f x), _)
    rw [q.ok _ _ hg]
theorem eL_any {xs : List α} : eL eD (xs.map f) = eL f xs := by
  unfold eL
  rw [List.map_map]
  rfl
theorem eT_any {xs : List α} : eT eD (xs.map f) = eT f xs := by
  unfold eT
  rw [List.map_map]
  rfl
end
/-! ### one value told in two ways -/
structure Cv {α β : Type} (f : α → D) (f' : β → D) (c : α → β) : Prop where
  ok : ∀ x, f' (c x) = f x
structure CvR {α β : Type} (f : α → List D) (f' : β → List D) (c : α → β) : Prop where
  ok : ∀ x, f' (c x) = f x
section
variable {α β γ δ : Type} {f : α → D} {f' : β → D} {c : α → β} {r : γ → List D} {r' : δ → List D} {cr : γ → δ}
theorem cvI : Cv f f (fun x => x) := ⟨fun _ => rfl⟩
theorem cvA : Cv f eD f := ⟨fun _ => rfl⟩
theorem cvS (h : Cv f f' c) : Cv f (eO f') (fun x => some (c x)) := ⟨fun x => h.ok x⟩
theorem cvN : Cv eN (eO f') (fun _ => none) := ⟨fun x => rfl⟩
theorem cvO (h : Cv f f' c) : Cv (eO f) (eO f') (Option.map c) := ⟨fun x => by
  cases x
  · rfl
  · exact h.ok _⟩
theorem cvL (h : Cv f f' c) : Cv (eL f) (eL f') (List.map c) := ⟨fun x => by
  show PyData.list ((x.map c).map f') = .list (x.map f)
  rw [List.map_map]
  exact congrArg _ (List.map_congr_left fun z _ => h.ok z)⟩
theorem cvT (h : Cv f f' c) : Cv (eT f) (eT f') (List.map c) := ⟨fun x => by
  show PyData.tuple ((x.map c).map f') = .tuple (x.map f)
  rw [List.map_map]
  exact congrArg _ (List.map_congr_left fun z _ => h.ok z)⟩
theorem cvP (h : CvR r r' cr) : Cv (eP r) (eP r') cr := ⟨fun x => congrArg PyData.tuple (h.ok x)⟩
theorem cv1 (h : Cv f f' c) : CvR (r1 f) (r1 f') c := ⟨fun x => congrArg (fun z => [z]) (h.ok x)⟩
theorem cvC (h : Cv f f' c) (k : CvR r r' cr) : CvR (rC f r) (rC f' r') (fun x => (c x.1, cr x.2)) := ⟨fun x => by
  show f' (c x.1) :: r' (cr x.2) = f x.1 :: r x.2
  rw [h.ok, k.ok]⟩
/-- a row of few told as a tuple of one kind -/
structure CvT {α β : Type} (f : α → List D) (f' : β → D) (c : α → List β) : Prop where
  ok : ∀ x, (c x).map f' = f x
theorem cvt1 (h : Cv f f' c) : CvT (r1 f) f' (fun x => [c x]) := ⟨fun x => congrArg (fun z => [z]) (h.ok x)⟩
theorem cvtC {ct : γ → List β} (h : Cv f f' c) (k : CvT r f' ct) : CvT (rC f r) f' (fun x => c x.1 :: ct x.2) := ⟨fun x => by
  show f' (c x.1) :: (ct x.2).map f' = f x.1 :: r x.2
  rw [h.ok, k.ok]⟩
theorem cvQ {ct : γ → List β} (k : CvT r f' ct) : Cv (eP r) (eT f') ct := ⟨fun x => congrArg PyData.tuple (k.ok x)⟩
theorem ve_cv {g : Gl} {e : E} {ρ : Env} {m : M α} {k : Kd} (q : Cv f f' c) (h : VE g e ρ m (en k f)) : VE g e ρ (bnd m fun x => ret (c x)) (en k f') :=
  ve_as (f := c) h fun x => by
    show R.mk k (f x) = R.mk k (f' (c x))
    rw [q.ok]
end
end Q
namespace Q
open PySem
/-! ### statements -/
structure X {α : Type} (g : Gl) (ss : SS) (ρ : Env) (m : M α) (F : α → Fl) : Prop where
  get : Le (mp F m) (execs g ss ρ)
def SS.app : SS → SS → SS
  | .nil, r => r
  | .cons s a, r => .cons s (a.app r)
  | .frz i a, r => .frz i (a.app r)
  | .kil is a, r => .kil is (a.app r)
abbrev andThen (g : Gl) (r : SS) : Fl → M Fl := fun fl => match fl with
  | .nx ρ' => execs g r ρ'
  | .rt v => ret (.rt v)
  | .bk ρ' => ret (.bk ρ')
  | .ct ρ' => ret (.ct ρ')
theorem execs_cons (g : Gl) (s : S) (r : SS) (ρ : Env) : execs g (.cons s r) ρ = bnd (exec g s ρ) (andThen g r) := by rw [execs] <;> rfl
theorem execs_app (g : Gl) : ∀ (a r : SS) (ρ : Env), execs g (a.app r) ρ = bnd (execs g a ρ) (andThen g r)
  | .nil, r, ρ => by
    rw [SS.app, show execs g .nil ρ = ret (.nx ρ) by rw [execs]]
    rfl
  | .cons s a, r, ρ => by
    rw [SS.app, execs_cons, execs_cons, bnd_bnd]
    congr 1
    funext fl
    cases fl with
    | nx ρ' => exact execs_app g a r ρ'
    | rt v => rfl
    | bk ρ' => rfl
    | ct ρ' => rfl
  | .frz i a, r, ρ => by
    rw [SS.app, execs, execs, execs_app g a r]
  | .kil is a, r, ρ => by
    rw [SS.app, execs, execs, execs_app g a r]
theorem List.eraseIdx_map' {α β : Type} (f : α → β) : ∀ (xs : List α) (n : Nat), (xs.map f).eraseIdx n = (xs.eraseIdx n).map f
  | [], n => by cases n <;> rfl
  | x :: xs, 0 => rfl
  | x :: xs, n + 1 => by
    show f x :: (xs.map f).eraseIdx n = f x :: (xs.eraseIdx n).map f
    rw [List.eraseIdx_map' f xs n]
section
variable {α β γ σ τ : Type} {g : Gl} {rest b : SS} {ρ ρ' : Env} {e : E} {F : β → Fl} {m : M α} {r : α → R} {h : α → M β} {i : Nat}
theorem x_nil {v : β} (hF : F v = .nx ρ) : X g .nil ρ (ret v) F := ⟨le_ret fun t => by rw [execs, hF]⟩
theorem le_cons {s : S} {G : α → Fl} (h1 : Le (mp G m) (exec g s ρ)) (k : ∀ v, Le (mp F (h v)) (andThen g rest (G v))) : X g (.cons s rest) ρ (bnd m h) F := ⟨by rw [execs_cons]; exact le_mb h1 k⟩
theorem x_asg {tg : Tg} {ρ1 : α → Env} (hv : VE g e ρ m r) (hs : ∀ v, store tg (r v) ρ = some (ρ1 v)) (k : ∀ v, X g rest (ρ1 v) (h v) F) : X g (.cons (.asg tg e) rest) ρ (bnd m h) F := by
  refine le_cons (G := fun v => .nx (ρ1 v)) (le_of fun t v t' q => ?_) fun v => (k v).get
  rw [Q.exec, bnd_ap, hv.get.at q]
  show bnd (opt (store tg (r v) ρ)) _ t' = _
  rw [hs]
  first | done | rfl
theorem x_par {ts : List Tt} {es : EL} {rs : α → List R} {n : α → M γ} {ρ1 : γ → Env} (hv : VL g es ρ m rs) (sh : ∀ v, ((rs v).all fun r => (shared r).isSome) = true) (hs : ∀ v, Le (mp ρ1 (n v)) (storesM g ts (rs v) ρ)) {h : γ → M β} (k : ∀ w, X g rest (ρ1 w) (h w) F) :
    X g (.cons (.par ts es) rest) ρ (bnd m fun v => bnd (n v) h) F := by
  have : (bnd m fun v => bnd (n v) h) = bnd (bnd m n) h := by rw [bnd_bnd]
  rw [this]
  refine le_cons (G := fun w => .nx (ρ1 w)) (le_of fun t w t' q => ?_) fun w => (k w).get
  obtain ⟨v, t1, e1, e2⟩ := bnd_inv q
  rw [Q.exec, bnd_ap, hv.get.at e1]
  show (if ((rs v).all fun r => (shared r).isSome) = false then fail else bnd (storesM g ts (rs v) ρ) _ : M Fl) t1 = _
  rw [sh v, if_neg (by decide), bnd_ap, (hs v).at e2]
theorem st_nil : Le (mp (fun _ : Unit => ρ) (ret ())) (storesM g [] [] ρ) := le_ret fun t => rfl
theorem st_tg {t : Tg} {ts : List Tt} {q : R} {rs : List R} {n : M γ} {ρ2 : γ → Env} (hs : store t q ρ = some ρ') (k : Le (mp ρ2 n) (storesM g ts rs ρ')) : Le (mp ρ2 n) (storesM g (.tg t :: ts) (q :: rs) ρ) := by
  rw [storesM, hs]
  exact k
theorem st_put {ki : E} {ts : List Tt} {q : R} {rs : List R} {f : α → D} {xs : List α} {y : α} {mi : M Int} {k : Kd} {n : List α → M γ} {ρ2 : γ → Env} (h0 : ρ[i]? = some (.ow (eL f xs))) (hs : shared q = some (f y)) (hk : VE g ki ρ mi (en k eI))
    (kk : ∀ zs, Le (mp ρ2 (n zs)) (storesM g ts rs (ρ.set i (.ow (eL f zs))))) : Le (mp ρ2 (bnd mi fun j => bnd (putM xs j y) n)) (storesM g (.put i ki :: ts) (q :: rs) ρ) := by
  refine le_of fun t v t' w => ?_
  obtain ⟨j, t1, e1, w2⟩ := bnd_inv w
  obtain ⟨zs, t2, e2, w3⟩ := bnd_inv w2
  rw [storesM, hs]
  show bnd (ev g ki ρ) _ t = _
  rw [bnd_ap, hk.get.at e1]
  show bnd (opt (putD ρ i (.int j) (f y))) _ t1 = _
  have : putD ρ i (.int j) (f y) = some (ρ.set i (.ow (eL f zs))) ∧ t2 = t1 := by
    unfold putD
    rw [h0]
    show (L2.ixN (xs.map f).length j).map (fun n => ρ.set i (.ow (.list ((xs.map f).set n (f y))))) = _ ∧ _
    unfold putM opt at e2
    rw [List.length_map]
    cases hx : L2.ixN xs.length j with
    | none => rw [hx] at e2; cases e2
    | some n =>
      rw [hx] at e2
      cases e2
      refine ⟨?_, rfl⟩
      show some (ρ.set i (.ow (.list ((xs.map f).set n (f y))))) = _
      rw [← List.map_set]
      rfl
  rw [this.1]
  obtain ⟨_, rfl⟩ := this
  exact (kk zs).at w3
theorem x_aug {op : Op} {q : R} {z : α → M γ} {rz : γ → R} {h : γ → M β} (h0 : getS ρ i = some q) (hv : VE g e ρ m r) (ho : ∀ v, Le (mp rz (z v)) (opt (augD op q (r v)))) (k : ∀ w, X g rest (ρ.set i (.sh (rz w).d)) (h w) F) :
    X g (.cons (.aug i op e) rest) ρ (bnd m fun v => bnd (z v) h) F := by
  have : (bnd m fun v => bnd (z v) h) = bnd (bnd m z) h := by rw [bnd_bnd]
  rw [this]
  refine le_cons (G := fun w => .nx (ρ.set i (.sh (rz w).d))) (le_of fun t w t' q => ?_) fun w => (k w).get
  obtain ⟨v, t1, e1, e2⟩ := bnd_inv q
  rw [Q.exec, h0]
  show bnd (ev g e ρ) _ t = _
  rw [bnd_ap, hv.get.at e1]
  show bnd (opt (augD op _ (r v))) _ t1 = _
  rw [bnd_ap, (ho v).at e2]
  first | done | rfl
theorem x_app {f : α → D} {xs : List α} {h : List α → M β} (h0 : ρ[i]? = some (.ow (eL f xs))) (hv : VE g e ρ m r) (hs : ∀ v, shared (r v) = some (f v)) (k : ∀ ys, X g rest (ρ.set i (.ow (eL f ys))) (h ys) F) :
    X g (.cons (.app i e) rest) ρ (bnd m fun v => bnd (appM xs v) h) F := by
  have : (bnd m fun v => bnd (appM xs v) h) = bnd (bnd m fun v => appM xs v) h := by rw [bnd_bnd]
  rw [this]
  refine le_cons (G := fun ys => .nx (ρ.set i (.ow (eL f ys)))) (le_of fun t w t' q => ?_) fun w => (k w).get
  obtain ⟨v, t1, e1, e2⟩ := bnd_inv q
  rw [Q.exec, bnd_ap, hv.get.at e1]
  show bnd (opt (shared (r v))) _ t1 = _
  rw [hs]
  show bnd (opt (appD ρ i (f v))) _ t1 = _
  unfold appM at e2
  split at e2
  · cases e2
    rw [app_ok h0 (by rw [List.length_map]; assumption)]
    show some (Fl.nx (ρ.set i (.ow (.list (xs.map f ++ [f v])))), _) = _
    unfold eL
    rw [List.map_append]
    rfl
  · cases e2
theorem x_ext {f : γ → D} {xs : List γ} {m : M (List γ)} {h : List γ → M β} {k' : Kd} (h0 : ρ[i]? = some (.ow (eL f xs))) (hv : VE g e ρ m (en k' (eL f))) (hk : k' = .sh ∨ k' = .fr) (k : ∀ ys, X g rest (ρ.set i (.ow (eL f ys))) (h ys) F) :
    X g (.cons (.ext i e) rest) ρ (bnd m fun v => bnd (catM' xs v) h) F := by
  have : (bnd m fun v => bnd (catM' xs v) h) = bnd (bnd m fun v => catM' xs v) h := by rw [bnd_bnd]
  rw [this]
  refine le_cons (G := fun ys => .nx (ρ.set i (.ow (eL f ys)))) (le_of fun t w t' q => ?_) fun w => (k w).get
  obtain ⟨v, t1, e1, e2⟩ := bnd_inv q
  rw [Q.exec, bnd_ap, hv.get.at e1]
  show bnd (opt (extD ρ i _)) _ t1 = _
  unfold catM' at e2
  split at e2
  · rename_i hl
    cases e2
    have : extD ρ i (en k' (eL f) v) = some (ρ.set i (.ow (.list (xs.map f ++ v.map f)))) := by
      unfold extD
      rw [h0]
      rcases hk with rfl | rfl
      · show (if (xs.map f).length + (v.map f).length ≤ lim then _ else _) = _
        rw [List.length_map, List.length_map, if_pos hl]
      · show (if (xs.map f).length + (v.map f).length ≤ lim then _ else _) = _
        rw [List.length_map, List.length_map, if_pos hl]
    rw [this]
    unfold eL
    rw [List.map_append]
    rfl
  · cases e2
theorem x_put {f : α → D} {xs : List α} {ki : E} {mi : M Int} {k' : Kd} {h : List α → M β} (h0 : ρ[i]? = some (.ow (eL f xs))) (hv : VE g e ρ m r) (hs : ∀ v, shared (r v) = some (f v)) (hk : VE g ki ρ mi (en k' eI)) (k : ∀ ys, X g rest (ρ.set i (.ow (eL f ys))) (h ys) F) :
    X g (.cons (.put i ki e) rest) ρ (bnd m fun v => bnd mi fun j => bnd (putM xs j v) h) F := by
  have : (bnd m fun v => bnd mi fun j => bnd (putM xs j v) h) = bnd (bnd m fun v => bnd mi fun j => putM xs j v) h := by simp only [bnd_bnd]
  rw [this]
  refine le_cons (G := fun ys => .nx (ρ.set i (.ow (eL f ys)))) (le_of fun t w t' q => ?_) fun w => (k w).get
  obtain ⟨v, t1, e1, q⟩ := bnd_inv q
  obtain ⟨j, t2, e2, e3⟩ := bnd_inv q
  rw [Q.exec, bnd_ap, hv.get.at e1]
  show bnd (opt (shared (r v))) _ t1 = _
  rw [hs]
  show bnd (ev g ki ρ) _ t1 = _
  rw [bnd_ap, hk.get.at e2]
  show bnd (opt (putD ρ i (.int j) (f v))) _ t2 = _
  unfold putD
  rw [h0]
  show bnd (opt ((L2.ixN (xs.map f).length j).map fun n => ρ.set i (.ow (.list ((xs.map f).set n (f v)))))) _ t2 = _
  unfold putM opt at e3
  rw [List.length_map]
  cases hx : L2.ixN xs.length j with
  | none => rw [hx] at e3; cases e3
  | some n =>
    rw [hx] at e3
    cases e3
    show some (Fl.nx (ρ.set i (.ow (.list ((xs.map f).set n (f v))))), _) = _
    rw [← List.map_set]
    rfl
theorem x_popl {tg : Tg} {f : α → D} {xs : List α} {ρ1 : α × List α → Env} {h : α × List α → M β} (h0 : ρ[i]? = some (.ow (eL f xs))) (hb : ∀ p, bind1 tg (f p.1) (ρ.set i (.ow (eL f p.2))) = some (ρ1 p)) (k : ∀ p, X g rest (ρ1 p) (h p) F) :
    X g (.cons (.popl tg i) rest) ρ (bnd (popM xs) h) F := by
  refine le_cons (G := fun p => .nx (ρ1 p)) (le_of fun t p t' q => ?_) fun w => (k w).get
  have hp : popD ρ i = ((xs.map f)[(xs.map f).length - 1]?).map fun y => (y, ρ.set i (.ow (.list (xs.map f).dropLast))) := by
    unfold popD
    rw [h0]
    rfl
  rw [Q.exec, bnd_ap, hp]
  unfold popM opt at q
  rw [← List.getLast?_eq_getElem?, List.getLast?_map]
  cases hx : xs.getLast? with
  | none => rw [hx] at q; cases q
  | some y =>
    rw [hx] at q
    cases q
    show bnd (opt (bind1 tg (f y) (ρ.set i (.ow (.list (xs.map f).dropLast))))) _ _ = _
    have := hb (y, xs.dropLast)
    unfold eL at this
    rw [← List.map_dropLast, this]
    rfl
theorem x_popat {tg : Tg} {ki : E} {mi : M Int} {k' : Kd} {f : α → D} {xs : List α} {ρ1 : α × List α → Env} {h : α × List α → M β} (h0 : ρ[i]? = some (.ow (eL f xs))) (hk : VE g ki ρ mi (en k' eI)) (hb : ∀ p, bind1 tg (f p.1) (ρ.set i (.ow (eL f p.2))) = some (ρ1 p))
    (k : ∀ p, X g rest (ρ1 p) (h p) F) : X g (.cons (.popat tg i ki) rest) ρ (bnd mi fun j => bnd (popAtM xs j) h) F := by
  have : (bnd mi fun j => bnd (popAtM xs j) h) = bnd (bnd mi fun j => popAtM xs j) h := by simp only [bnd_bnd]
  rw [this]
  refine le_cons (G := fun p => .nx (ρ1 p)) (le_of fun t p t' q => ?_) fun w => (k w).get
  obtain ⟨j, t1, e1, q⟩ := bnd_inv q
  rw [Q.exec, bnd_ap, hk.get.at e1]
  show bnd (opt (popAtD ρ i (.int j))) _ t1 = _
  unfold popAtD
  rw [h0]
  unfold popAtM at q
  split at q
  · rename_i hr
    show bnd (opt (if rngB j then (L2.ixN (xs.map f).length j).bind fun n => ((xs.map f)[n]?).map fun y => (y, ρ.set i (.ow (.list ((xs.map f).eraseIdx n)))) else none)) _ t1 = _
    rw [if_pos hr, List.length_map]
    unfold opt at q
    cases hx : L2.ixN xs.length j with
    | none => rw [hx] at q; cases q
    | some n =>
      rw [hx] at q
      show bnd (opt (((xs.map f)[n]?).map fun y => (y, ρ.set i (.ow (.list ((xs.map f).eraseIdx n)))))) _ t1 = _
      rw [List.getElem?_map]
      cases hy : xs[n]? with
      | none =>
        simp only [Option.bind_some, hy, Option.map_none] at q
        cases q
      | some y =>
        simp only [Option.bind_some, hy, Option.map_some] at q
        cases q
        show bnd (opt (bind1 tg (f y) (ρ.set i (.ow (.list ((xs.map f).eraseIdx n)))))) _ _ = _
        have := hb (y, xs.eraseIdx n)
        unfold eL at this
        rw [List.eraseIdx_map' , this]
        rfl
  · cases q
theorem x_exp (hv : VE g e ρ m r) (k : ∀ v, X g rest ρ (h v) F) : X g (.cons (.exp e) rest) ρ (bnd m h) F := by
  refine le_cons (G := fun v => .nx ρ) (le_of fun t v t' q => ?_) fun v => (k v).get
  rw [Q.exec, bnd_ap, hv.get.at q]
  first | done | rfl
theorem x_retF {F : α → Fl} (hv : VE g e ρ m r) (hb : ∀ v, backR (r v) = some (r v)) (hF : ∀ v, F v = .rt (r v)) : X g (.cons (.ret e) rest) ρ m F := by
  refine ⟨le_of fun t v t' q => ?_⟩
  have : exec g (.ret e) ρ t = some (.rt (r v), t') := by
    rw [Q.exec, bnd_ap, hv.get.at q]
    show bnd (opt (backR (r v))) (fun r => ret (Fl.rt r)) t' = _
    rw [hb]
    rfl
  rw [execs_cons, bnd_ap, this, hF]
theorem x_ret {j : α → β} (hv : VE g e ρ m r) (hb : ∀ v, backR (r v) = some (r v)) (hF : ∀ v, F (j v) = .rt (r v)) : X g (.cons (.ret e) rest) ρ (bnd m fun v => ret (j v)) F := by
  have := x_retF (F := fun v => F (j v)) (rest := rest) hv hb hF
  refine ⟨le_of fun t v t' q => ?_⟩
  obtain ⟨w, t1, e1, e2⟩ := bnd_inv q
  cases e2
  exact this.get.at e1
theorem x_retv {v : β} {q : R} (h0 : retS ρ[i]? = some q) (hF : F v = .rt q) : X g (.cons (.retv i) rest) ρ (ret v) F := by
  refine ⟨le_ret fun t => ?_⟩
  rw [execs_cons, bnd_ap, Q.exec, h0, hF]
  first | done | rfl
theorem x_retn {v : β} (hF : F v = .rt (shd .none)) : X g (.cons .retn rest) ρ (ret v) F := by
  refine ⟨le_ret fun t => ?_⟩
  rw [execs_cons, bnd_ap, Q.exec, hF]
  first | done | rfl
theorem x_ite {c : T} {x y : SS} {k : M Bool} {m1 m2 : M β} (hc : VT g c ρ k) (h1 : X g (x.app rest) ρ m1 F) (h2 : X g (y.app rest) ρ m2 F) : X g (.cons (.ite c x y) rest) ρ (bnd k fun k => if k then m1 else m2) F := by
  refine ⟨le_of fun t v t' q => ?_⟩
  obtain ⟨kb, t1, e1, e2⟩ := bnd_inv q
  rw [execs_cons, bnd_ap, Q.exec, bnd_ap, hc.get.at e1]
  cases kb with
  | true =>
    have := h1.get.at e2
    rw [execs_app] at this
    exact this
  | false =>
    have := h2.get.at e2
    rw [execs_app] at this
    exact this
theorem execs_one (s : S) : execs g (.cons s .nil) ρ = exec g s ρ := by
  rw [execs_cons]
  funext t
  unfold bnd
  cases hx : exec g s ρ t with
  | none => rfl
  | some p =>
    obtain ⟨fl, t'⟩ := p
    cases fl <;> first | rfl | (show execs g .nil _ t' = _; rw [execs])
/-- a statement alone, which goes on | what is behind it -/
theorem x_blk {s : S} {env : α → Env} (h1 : X g (.cons s .nil) ρ m fun v => .nx (env v)) (k : ∀ v, X g rest (env v) (h v) F) : X g (.cons s rest) ρ (bnd m h) F := by
  refine le_cons (G := fun v => .nx (env v)) ?_ fun v => (k v).get
  have := h1.get
  rw [execs_one] at this
  exact this
theorem x_frz (he : frzE ρ i = ρ') {m : M β} (k : X g rest ρ' m F) : X g (.frz i rest) ρ m F := ⟨by rw [execs, he]; exact k.get⟩
theorem x_kil {is : List Bool} (he : keepE ρ is = ρ') {m : M β} (k : X g rest ρ' m F) : X g (.kil is rest) ρ m F := ⟨by rw [execs, he]; exact k.get⟩
theorem x_brk {v : β} (hF : F v = .bk ρ) : X g (.cons .brk rest) ρ (ret v) F := by
  refine ⟨le_ret fun t => ?_⟩
  rw [execs_cons, bnd_ap, Q.exec, hF]
theorem x_cnt {v : β} (hF : F v = .ct ρ) : X g (.cons .cnt rest) ρ (ret v) F := by
  refine ⟨le_ret fun t => ?_⟩
  rw [execs_cons, bnd_ap, Q.exec, hF]
theorem x_pss {m : M β} (k : X g rest ρ m F) : X g (.cons .pss rest) ρ m F := ⟨by rw [execs_cons, Q.exec]; exact k.get⟩
/-! loops -/
def stF (env : σ → Env) (r : τ → R) : Stp σ τ → Fl
  | .nx s => .nx (env s)
  | .ct s => .ct (env s)
  | .bk s => .bk (env s)
  | .rt v => .rt (r v)
def outF (env : σ → Env) (r : τ → R) : Out σ τ → Fl
  | .go s => .nx (env s)
  | .rt v => .rt (r v)
def outC (o : Out σ τ) (h : σ → M β) (j : τ → M β) : M β := match o with
  | .go s => h s
  | .rt v => j v
theorem forR_le {f : α → D} {body : D → Env → M Fl} {n : α → σ → M (Stp σ τ)} {env : σ → Env} {r : τ → R} (hb : ∀ x s, Le (mp (stF env r) (n x s)) (body (f x) (env s))) : ∀ (xs : List α) (s : σ), Le (mp (outF env r) (forR xs n s)) (forM (xs.map f) body (env s))
  | [], s => le_ret fun t => rfl
  | x :: xs, s => by
    rw [List.map_cons, forM, forR]
    refine le_mb (hb x s) fun o => ?_
    cases o with
    | nx s' => exact forR_le hb xs s'
    | ct s' => exact forR_le hb xs s'
    | bk s' => exact le_ret fun t => rfl
    | rt v => exact le_ret fun t => rfl
theorem forS_le {f : α → D} {body : D → Env → M Fl} {n : α → σ → M σ} {env : σ → Env} (hb : ∀ x s, Le (mp (fun s' => Fl.nx (env s')) (n x s)) (body (f x) (env s))) : ∀ (xs : List α) (s : σ), Le (mp (fun s' => Fl.nx (env s')) (forS xs n s)) (forM (xs.map f) body (env s))
  | [], s => le_ret fun t => rfl
  | x :: xs, s => by
    rw [List.map_cons, forM, forS]
    exact le_mb (hb x s) fun s' => forS_le hb xs s'
variable {tg : Tg} {it : It} {mx : M (List γ)} {f : γ → D} {env : σ → Env} {ρ1 : γ → σ → Env} {s0 : σ}
theorem le_for {G : α → Fl} {n : List γ → M α} (hi : VI g it ρ true mx f) (hb : ∀ x s, bind1 tg (f x) (env s) = some (ρ1 x s)) (h0 : ρ = env s0) (hl : ∀ xs : List γ, Le (mp G (n xs)) (forM (xs.map f) (fun d ρ => bnd (opt (bind1 tg d ρ)) fun ρ' => execs g b ρ') (env s0))) : Le (mp G (bnd mx n)) (exec g (.frr tg it b) ρ) := by
  rw [Q.exec]
  refine le_mb hi.get fun xs => ?_
  subst h0
  exact hl xs
theorem x_forS {n : γ → σ → M σ} {h : σ → M β} (hi : VI g it ρ true mx f) (h0 : ρ = env s0) (hb : ∀ x s, bind1 tg (f x) (env s) = some (ρ1 x s)) (body : ∀ x s, X g b (ρ1 x s) (n x s) fun s' => .nx (env s')) (k : ∀ s, X g rest (env s) (h s) F) :
    X g (.cons (.frr tg it b) rest) ρ (bnd mx fun xs => bnd (forS xs n s0) h) F := by
  have : (bnd mx fun xs => bnd (forS xs n s0) h) = bnd (bnd mx fun xs => forS xs n s0) h := by rw [bnd_bnd]
  rw [this]
  refine le_cons (G := fun s => .nx (env s)) (le_for hi hb h0 fun xs => forS_le (fun x s => ?_) xs s0) fun s => (k s).get
  rw [hb]
  exact (body x s).get
theorem x_forR {n : γ → σ → M (Stp σ τ)} {h : σ → M β} {j : τ → β} {r : τ → R} (hi : VI g it ρ true mx f) (h0 : ρ = env s0) (hb : ∀ x s, bind1 tg (f x) (env s) = some (ρ1 x s)) (body : ∀ x s, X g b (ρ1 x s) (n x s) (stF env r)) (hF : ∀ v, F (j v) = .rt (r v)) (k : ∀ s, X g rest (env s) (h s) F) :
    X g (.cons (.frr tg it b) rest) ρ (bnd mx fun xs => bnd (forR xs n s0) fun o => outC o h fun v => ret (j v)) F := by
  have : (bnd mx fun xs => bnd (forR xs n s0) fun o => outC o h fun v => ret (j v)) = bnd (bnd mx fun xs => forR xs n s0) (fun o => outC o h fun v => ret (j v)) := by rw [bnd_bnd]
  rw [this]
  refine le_cons (G := outF env r) (le_for hi hb h0 fun xs => forR_le (fun x s => ?_) xs s0) fun o => ?_
  · rw [hb]
    exact (body x s).get
  · cases o with
    | go s => exact (k s).get
    | rt v => exact le_ret fun t => by rw [hF]; rfl
theorem x_forK {n : γ → σ → M (Stp σ Empty)} {h : σ → M β} (hi : VI g it ρ true mx f) (h0 : ρ = env s0) (hb : ∀ x s, bind1 tg (f x) (env s) = some (ρ1 x s)) (body : ∀ x s, X g b (ρ1 x s) (n x s) (stF env (fun v => nomatch v))) (k : ∀ s, X g rest (env s) (h s) F) :
    X g (.cons (.frr tg it b) rest) ρ (bnd mx fun xs => bnd (forR xs n s0) fun o => h (goS o)) F := by
  have : (bnd mx fun xs => bnd (forR xs n s0) fun o => h (goS o)) = bnd (bnd mx fun xs => forR xs n s0) (fun o => h (goS o)) := by rw [bnd_bnd]
  rw [this]
  refine le_cons (G := outF env (fun v => nomatch v)) (le_for hi hb h0 fun xs => forR_le (fun x s => ?_) xs s0) fun o => ?_
  · rw [hb]
    exact (body x s).get
  · cases o with
    | go s => exact (k s).get
    | rt v => exact nomatch v
theorem whlR_le {test : Env → M Bool} {body : Env → M Fl} {tm : σ → M Bool} {n : σ → M (Stp σ τ)} {env : σ → Env} {r : τ → R} (ht : ∀ s, Le (mp (fun x => x) (tm s)) (test (env s))) (hb : ∀ s, Le (mp (stF env r) (n s)) (body (env s))) : ∀ (m : Nat) (s : σ), Le (mp (outF env r) (whlR m tm n s)) (whileM m test body (env s))
  | 0, s => fun t p h => by cases h
  | m + 1, s => by
    rw [whileM, whlR]
    refine le_mb (ht s) fun k => le_ite (fun _ => le_mb (hb s) fun o => ?_) fun _ => le_ret fun t => rfl
    cases o with
    | nx s' => exact whlR_le ht hb m s'
    | ct s' => exact whlR_le ht hb m s'
    | bk s' => exact le_ret fun t => rfl
    | rt v => exact le_ret fun t => rfl
theorem x_whlR {c : T} {tm : σ → M Bool} {n : σ → M (Stp σ τ)} {h : σ → M β} {j : τ → β} {r : τ → R} (h0 : ρ = env s0) (ht : ∀ s, VT g c (env s) (tm s)) (body : ∀ s, X g b (env s) (n s) (stF env r)) (hF : ∀ v, F (j v) = .rt (r v)) (k : ∀ s, X g rest (env s) (h s) F) :
    X g (.cons (.whl c b) rest) ρ (bnd (whlR big tm n s0) fun o => outC o h fun v => ret (j v)) F := by
  refine le_cons (G := outF env r) ?_ fun o => ?_
  · rw [Q.exec, h0]
    exact whlR_le (fun s => (ht s).get) (fun s => (body s).get) big s0
  · cases o with
    | go s => exact (k s).get
    | rt v => exact le_ret fun t => by rw [hF]; rfl
theorem x_whlK {c : T} {tm : σ → M Bool} {n : σ → M (Stp σ Empty)} {h : σ → M β} (h0 : ρ = env s0) (ht : ∀ s, VT g c (env s) (tm s)) (body : ∀ s, X g b (env s) (n s) (stF env (fun v => nomatch v))) (k : ∀ s, X g rest (env s) (h s) F) :
    X g (.cons (.whl c b) rest) ρ (bnd (whlR big tm n s0) fun o => h (goS o)) F := by
  refine le_cons (G := outF env (fun v => nomatch v)) ?_ fun o => ?_
  · rw [Q.exec, h0]
    exact whlR_le (fun s => (ht s).get) (fun s => (body s).get) big s0
  · cases o with
    | go s => exact (k s).get
    | rt v => exact nomatch v
end
/-! ### defs -/
theorem fnT_ok {τ : Type} {fns : Nat → Option Fn} {ds : List Int} {k i : Nat} {fn : Fn} {args : List D} {m : M τ} {r : τ → R} (hf : fns i = some fn) (hl : args.length = fn.np) (h : X ⟨ds, callF fns ds k⟩ fn.body (entry fn args) m fun v => .rt (r v)) :
    Le (mp r m) (callF fns ds (k + 1) i args) := by
  refine le_of fun t v t' q => ?_
  rw [callF_fn hf hl, bnd_ap, h.get.at q]
  rfl
theorem law_run {fns : Nat → Option Fn} {ds ns : List Int} {k sl : Nat} {b : SS} {m : M Bool} (h : X ⟨ds, callF fns ds k⟩ b (lawEnv ns sl) m fun v => .rt (en .sh eB v)) (y : Yes m 0 fun v _ => v = true) :
    Yes (execs ⟨ds, callF fns ds k⟩ b (lawEnv ns sl)) 0 fun fl _ => fl = .rt ⟨.sh, .bool true⟩ := by
  obtain ⟨v, t', e, rfl⟩ := y.get
  exact .of (h.get.at e) rfl
end Q
namespace Q
open PySem
section
variable {α β γ : Type} {g : Gl} {rest : SS} {ρ ρ' : Env} {e a : E} {F : β → Fl} {m : M α} {r : α → R} {h : α → M β} {i : Nat}
/-- a value that is plain -/
theorem ve_is {x : M α} (hv : VE g e ρ m r) (q : m = x) : VE g e ρ x r := q ▸ hv
theorem ve_ixC {oa : M α} {ra : α → R} {p : α → γ} {f : γ → D} {j : Int} (ha : VE g a ρ oa ra) (q : ∀ x, ixD (ra x).d (.int j) = some (f (p x))) : VE g (.ix a (.cst (.int j))) ρ (bnd oa fun x => ret (p x)) (en .sh f) := by
  refine ⟨le_of fun t z t' w => ?_⟩
  obtain ⟨x, t1, e1, w⟩ := bnd_inv w
  cases w
  rw [ev, bnd_ap, ha.get.at e1]
  show bnd (ev g (.cst (.int j)) ρ) _ _ = _
  rw [ev]
  show opt ((ixD (ra x).d (.int j)).map shd) _ = _
  rw [q]
  rfl
theorem ve_ixN {oa : M α} {ra : α → R} {p : α → γ} {f : γ → D} {j : Int} (ha : VE g a ρ oa ra) (q : ∀ x, ixD (ra x).d (.int (-j)) = some (f (p x))) : VE g (.ix a (.neg (.cst (.int j)))) ρ (bnd oa fun x => ret (p x)) (en .sh f) := by
  refine ⟨le_of fun t z t' w => ?_⟩
  obtain ⟨x, t1, e1, w⟩ := bnd_inv w
  cases w
  rw [ev, bnd_ap, ha.get.at e1]
  show bnd (ev g (.neg (.cst (.int j))) ρ) _ _ = _
  rw [ev, ev]
  show opt ((ixD (ra x).d (.int (-j))).map shd) _ = _
  rw [q]
  rfl
theorem ve_lcF {vs : List Nat} {elt : E} {tg : Tg} {it : It} {bb : Bool} {f : α → D} {ρ2 : α → Env} {c : T} {mx : M (List α)} {p : α → Bool} {r : α → R} (hi : VI g it ρ bb mx f) (hb : ∀ x, bind1 tg (f x) (wipeE ρ vs) = some (ρ2 x)) (hc : ∀ x, VT g c (ρ2 x) (ret (p x))) (he : ∀ x, VE g elt (ρ2 x) (ret x) r) (hs : ∀ y, shared (r y) = some (f y)) :
    VE g (.lc vs elt tg it (.so c)) ρ (bnd mx fun xs => smM (xs.filter p)) (en .fr (eL f)) := by
  have := ve_lcP (v := fun x => x) hi hb hc he hs
  simp only [List.map_id'] at this
  exact this
/-- stores to a row of places -/
structure SX (g : Gl) (ts : List Tt) (rs : List R) (ρ : Env) (rest : SS) (m : M β) (F : β → Fl) : Prop where
  get : Le (mp F m) (bnd (storesM g ts rs ρ) fun ρ' => execs g rest ρ')
theorem sx_nil {m : M β} (k : X g rest ρ m F) : SX g [] [] ρ rest m F := ⟨k.get⟩
theorem sx_tg {t : Tg} {ts : List Tt} {q : R} {rs : List R} {m : M β} (hs : store t q ρ = some ρ') (k : SX g ts rs ρ' rest m F) : SX g (.tg t :: ts) (q :: rs) ρ rest m F := ⟨by rw [storesM, hs]; exact k.get⟩
theorem sx_put {ki : E} {ts : List Tt} {q : R} {rs : List R} {f : α → D} {xs : List α} {y : α} {mi : M Int} {k : Kd} {h : List α → M β} (h0 : ρ[i]? = some (.ow (eL f xs))) (hs : shared q = some (f y)) (hk : VE g ki ρ mi (en k eI))
    (kk : ∀ zs, SX g ts rs (ρ.set i (.ow (eL f zs))) rest (h zs) F) : SX g (.put i ki :: ts) (q :: rs) ρ rest (bnd mi fun j => bnd (putM xs j y) h) F := by
  have : (bnd mi fun j => bnd (putM xs j y) h) = bnd (bnd mi fun j => bnd (putM xs j y) fun zs => ret zs) h := by
    simp only [bnd_bnd, bnd_ret]
  rw [this]
  have q1 := st_put (g := g) (n := fun zs => ret zs) (ρ2 := fun zs => ρ.set i (.ow (eL f zs))) (ts := []) (rs := []) h0 hs hk fun zs => le_ret fun t => rfl
  refine ⟨?_⟩
  have q2 : storesM g (.put i ki :: ts) (q :: rs) ρ = bnd (storesM g [.put i ki] [q] ρ) fun ρ' => storesM g ts rs ρ' := by
    rw [storesM, storesM]
    simp only [bnd_bnd, storesM, bnd_ret]
  have q3 : (bnd (storesM g (.put i ki :: ts) (q :: rs) ρ) fun ρ' => execs g rest ρ') = bnd (storesM g [.put i ki] [q] ρ) fun ρ' => bnd (storesM g ts rs ρ') fun ρ' => execs g rest ρ' := by rw [q2, bnd_bnd]
  rw [q3]
  exact le_mb q1 fun zs => (kk zs).get
theorem x_parX {ts : List Tt} {es : EL} {rs : α → List R} (hv : VL g es ρ m rs) (sh : ∀ v, ((rs v).all fun r => (shared r).isSome) = true) (k : ∀ v, SX g ts (rs v) ρ rest (h v) F) : X g (.cons (.par ts es) rest) ρ (bnd m h) F := by
  refine ⟨?_⟩
  have : execs g (.cons (.par ts es) rest) ρ = bnd (evL g es ρ) fun rs => if (rs.all fun r => (shared r).isSome) = false then fail else bnd (storesM g ts rs ρ) fun ρ' => execs g rest ρ' := by
    rw [execs_cons, Q.exec, bnd_bnd]
    congr 1
    funext rs
    split
    · rfl
    · rw [bnd_bnd]
      rfl
  rw [this]
  refine le_mb hv.get fun v => ?_
  rw [sh v, if_neg (by decide)]
  exact (k v).get
end
end Q
namespace Q
open PySem
theorem lenle {α : Type} {xs : List α} (h : Nat.ble xs.length lim = true := by exact rfl) : xs.length ≤ lim := Nat.le_of_ble_eq_true h
theorem le_fail {α β : Type} {r : α → β} {n : M β} : Le (mp r fail) n := fun t p h => by cases h
section
variable {α β γ σ : Type} {g : Gl} {rest b : SS} {ρ ρ' : Env} {e a : E} {F : β → Fl} {i : Nat}
/-! nothing of lists within -/
theorem nI (x : Int) : noL (eI x) = true := rfl
theorem nB (x : Bool) : noL (eB x) = true := rfl
theorem nS (x : Str) : noL (eS x) = true := rfl
theorem nN (x : Unit) : noL (eN x) = true := rfl
theorem nO {f : α → D} (h : ∀ x, noL (f x) = true) (x : Option α) : noL (eO f x) = true := by
  cases x with
  | none => rfl
  | some x => exact h x
theorem nol_map {f : α → D} (h : ∀ x, noL (f x) = true) : ∀ xs : List α, noLs (xs.map f) = true
  | [] => rfl
  | x :: xs => by
    rw [List.map_cons, noLs, h x, nol_map h xs]
    rfl
theorem nT {f : α → D} (h : ∀ x, noL (f x) = true) (xs : List α) : noL (eT f xs) = true := by
  show noL (.tuple _) = true
  rw [noL]
  exact nol_map h xs
theorem nP {f : α → List D} (h : ∀ x, noLs (f x) = true) (x : α) : noL (eP f x) = true := by
  show noL (.tuple _) = true
  rw [noL]
  exact h x
theorem nr0 (x : Unit) : noLs (r0 x) = true := rfl
theorem nr1 {f : α → D} (h : ∀ x, noL (f x) = true) (x : α) : noLs (r1 f x) = true := by
  show noLs [f x] = true
  rw [noLs, h]
  rfl
theorem nrC {f : α → D} {k : β → List D} (h : ∀ x, noL (f x) = true) (h2 : ∀ x, noLs (k x) = true) (x : α × β) : noLs (rC f k x) = true := by
  show noLs (f x.1 :: k x.2) = true
  rw [noLs, h, h2]
  rfl
theorem callKd_n {rs : List R} {d : D} (h1 : rs.all (fun a => decide (a.kd ≠ .ro)) = true) (h2 : noL d = true) : callKd rs ⟨.sh, d⟩ = some ⟨.sh, d⟩ := by
  unfold callKd
  split
  · rfl
  · rw [if_pos]
    rw [h1, Bool.true_and]
    exact h2
theorem callKd_f {rs : List R} {f : α → D} (h1 : rs.all (fun a => decide (a.kd ≠ .ro)) = true) (h : ∀ x, noL (f x) = true) (w : List α) : callKd rs (en .fr (eL f) w) = some (en .fr (eL f) w) := by
  unfold callKd
  split
  · rfl
  · rw [if_pos]
    rw [h1, Bool.true_and]
    exact nol_map h w
/-! only where none is None -/
def unwL {α : Type} (xs : List (Option α)) : M (List α) := mapM' xs unwM
theorem unwL_map {f : α → D} : ∀ {xs : List (Option α)} {ys : List α} {t t' : Nat}, unwL xs t = some (ys, t') → t' = t ∧ xs.map (eO f) = ys.map f
  | [], ys, t, t', h => by
    cases h
    exact ⟨rfl, rfl⟩
  | x :: xs, ys, t, t', h => by
    unfold unwL at h
    rw [mapM'] at h
    obtain ⟨y, t1, e1, h⟩ := bnd_inv h
    obtain ⟨zs, t2, e2, h⟩ := bnd_inv h
    cases h
    cases x with
    | none => cases e1
    | some x =>
      cases e1
      obtain ⟨rfl, q⟩ := unwL_map (f := f) (xs := xs) e2
      exact ⟨rfl, by rw [List.map_cons, List.map_cons, q]; rfl⟩
theorem ve_unwLL {m : M (List (Option α))} {k : Kd} {f : α → D} (h : VE g e ρ m (en k (eL (eO f)))) : VE g e ρ (bnd m unwL) (en k (eL f)) := by
  refine ⟨le_of fun t a t' h2 => ?_⟩
  obtain ⟨x, t1, e1, e2⟩ := bnd_inv h2
  obtain ⟨rfl, q⟩ := unwL_map (f := f) e2
  rw [h.get.at e1]
  show some ((⟨k, .list (x.map (eO f))⟩ : R), _) = some ((⟨k, .list (a.map f)⟩ : R), _)
  rw [q]
theorem ve_unwLT {m : M (List (Option α))} {k : Kd} {f : α → D} (h : VE g e ρ m (en k (eT (eO f)))) : VE g e ρ (bnd m unwL) (en k (eT f)) := by
  refine ⟨le_of fun t a t' h2 => ?_⟩
  obtain ⟨x, t1, e1, e2⟩ := bnd_inv h2
  obtain ⟨rfl, q⟩ := unwL_map (f := f) e2
  rw [h.get.at e1]
  show some ((⟨k, .tuple (x.map (eO f))⟩ : R), _) = some ((⟨k, .tuple (a.map f)⟩ : R), _)
  rw [q]
theorem ve_isa {ty : Ty} {m : M α} {r : α → R} {p : α → Bool} (h : VE g e ρ m r) (q : ∀ x, isaD ty (r x).d = p x) : VE g (.isa ty e) ρ (bnd m fun x => ret (p x)) (en .sh eB) := by
  refine ⟨le_of fun t a t' h2 => ?_⟩
  obtain ⟨x, t1, e1, e2⟩ := bnd_inv h2
  cases e2
  rw [ev, bnd_ap, h.get.at e1]
  show some ((⟨.sh, .bool (isaD ty (r x).d)⟩ : R), _) = _
  rw [q]
theorem x_iteT {c : T} {x y : SS} {m : M β} (hc : VT g c ρ (ret true)) (h : X g (x.app rest) ρ m F) : X g (.cons (.ite c x y) rest) ρ m F := by
  refine ⟨le_of fun t v t' q => ?_⟩
  rw [execs_cons, bnd_ap, Q.exec, bnd_ap, hc.get.at rfl]
  have := h.get.at q
  rw [execs_app] at this
  exact this
theorem x_iteF {c : T} {x y : SS} {m : M β} (hc : VT g c ρ (ret false)) (h : X g (y.app rest) ρ m F) : X g (.cons (.ite c x y) rest) ρ m F := by
  refine ⟨le_of fun t v t' q => ?_⟩
  rw [execs_cons, bnd_ap, Q.exec, bnd_ap, hc.get.at rfl]
  have := h.get.at q
  rw [execs_app] at this
  exact this
/-- loops with no result from within -/
def forK {α σ : Type} (xs : List α) (f : α → σ → M (Stp σ Empty)) (s : σ) : M σ := bnd (forR xs f s) fun o => ret (goS o)
def whlK {σ : Type} (n : Nat) (test : σ → M Bool) (f : σ → M (Stp σ Empty)) (s : σ) : M σ := bnd (whlR n test f s) fun o => ret (goS o)
variable {tg : Tg} {it : It} {mx : M (List γ)} {f : γ → D} {env : σ → Env} {ρ1 : γ → σ → Env} {s0 : σ}
theorem x_forK' {n : γ → σ → M (Stp σ Empty)} {h : σ → M β} (hi : VI g it ρ true mx f) (h0 : ρ = env s0) (hb : ∀ x s, bind1 tg (f x) (env s) = some (ρ1 x s)) (body : ∀ x s, X g b (ρ1 x s) (n x s) (stF env (fun v => nomatch v))) (k : ∀ s, X g rest (env s) (h s) F) :
    X g (.cons (.frr tg it b) rest) ρ (bnd mx fun xs => bnd (forK xs n s0) h) F := by
  have := x_forK hi h0 hb body k
  unfold forK
  simp only [bnd_bnd, bnd_ret]
  exact this
theorem x_whlK' {c : T} {tm : σ → M Bool} {n : σ → M (Stp σ Empty)} {h : σ → M β} (h0 : ρ = env s0) (ht : ∀ s, VT g c (env s) (tm s)) (body : ∀ s, X g b (env s) (n s) (stF env (fun v => nomatch v))) (k : ∀ s, X g rest (env s) (h s) F) :
    X g (.cons (.whl c b) rest) ρ (bnd (whlK big tm n s0) h) F := by
  have := x_whlK h0 ht body k
  unfold whlK
  simp only [bnd_bnd, bnd_ret]
  exact this
end
end Q
namespace Q
open PySem
/-! ### a law's own look whether two values are the same -/
mutual
def tre : D → Bool
  | .tuple ds => decide (ds.length ≤ lim) && tres ds
  | .list _ => false
  | .dict _ => false
  | .none => true
  | .bool _ => true
  | .int _ => true
  | .str _ => true
def tres : List D → Bool
  | [] => true
  | d :: ds => tre d && tres ds
end
def sameM {α : Type} [DecidableEq α] (sz : α → Bool) (x y : α) : M Bool := fun t => if x = y ∧ sz x = true then some (true, t) else none
theorem sameM_eq {α : Type} [DecidableEq α] {sz : α → Bool} {x : α} (h : sz x = true) : sameM sz x x = ret true := by
  funext t
  show (if x = x ∧ sz x = true then some (true, t) else none) = _
  rw [if_pos ⟨rfl, h⟩]
def z0 {α : Type} : α → Bool := fun _ => true
def zO {α : Type} (s : α → Bool) : Option α → Bool
  | none => true
  | some x => s x
def zT {α : Type} (s : α → Bool) : List α → Bool := fun xs => decide (xs.length ≤ lim) && xs.all s
def zC {α β : Type} (s : α → Bool) (u : β → Bool) : α × β → Bool := fun p => s p.1 && u p.2
structure SamC {α : Type} (f : α → D) (sz : α → Bool) : Prop where
  ok : ∀ x, sz x = true → tre (f x) = true
structure SamR {α : Type} (f : α → List D) (sz : α → Bool) : Prop where
  ok : ∀ x, sz x = true → tres (f x) = true
  len : ∀ x, (f x).length ≤ lim
section
variable {α β : Type} {f : α → D} {s : α → Bool}
theorem uI : SamC eI z0 := ⟨fun _ _ => rfl⟩
theorem uB : SamC eB z0 := ⟨fun _ _ => rfl⟩
theorem uS : SamC eS z0 := ⟨fun _ _ => rfl⟩
theorem uN : SamC eN z0 := ⟨fun _ _ => rfl⟩
theorem uO (h : SamC f s) : SamC (eO f) (zO s) := ⟨fun x q => by
  cases x with
  | none => rfl
  | some x => exact h.ok x q⟩
theorem tres_map (h : SamC f s) : ∀ xs : List α, xs.all s = true → tres (xs.map f) = true
  | [], _ => rfl
  | x :: xs, q => by
    rw [List.all_cons, Bool.and_eq_true] at q
    rw [List.map_cons, tres, h.ok x q.1, tres_map h xs q.2]
    rfl
theorem uT (h : SamC f s) : SamC (eT f) (zT s) := ⟨fun xs q => by
  unfold zT at q
  rw [Bool.and_eq_true] at q
  show tre (.tuple (xs.map f)) = true
  rw [tre, tres_map h xs q.2, List.length_map, q.1]
  rfl⟩
theorem ur0 : SamR r0 z0 := ⟨fun _ _ => rfl, fun _ => Nat.zero_le _⟩
theorem ur1 (h : SamC f s) : SamR (r1 f) s := ⟨fun x q => by
  show tres [f x] = true
  rw [tres, h.ok x q]
  rfl, fun x => by show 1 ≤ lim; decide⟩
theorem urC {g : β → List D} {u : β → Bool} {n : Nat} (h : SamC f s) (k : SamR g u) (hn : ∀ x, (g x).length ≤ n) (hn2 : n + 1 ≤ lim) : SamR (rC f g) (zC s u) := ⟨fun x q => by
  unfold zC at q
  rw [Bool.and_eq_true] at q
  show tres (f x.1 :: g x.2) = true
  rw [tres, h.ok _ q.1, k.ok _ q.2]
  rfl, fun x => Nat.le_trans (Nat.succ_le_succ (hn x.2)) hn2⟩
theorem uP {g : α → List D} {u : α → Bool} (k : SamR g u) : SamC (eP g) u := ⟨fun x q => by
  show tre (.tuple (g x)) = true
  rw [tre, k.ok x q, Bool.and_true]
  exact decide_eq_true (k.len x)⟩
end
theorem tres_mem : ∀ {ds : List D}, tres ds = true → ∀ {d : D}, d ∈ ds → tre d = true
  | d :: ds, h, e, m => by
    rw [tres, Bool.and_eq_true] at h
    rcases List.mem_cons.mp m with rfl | m
    · exact h.1
    · exact tres_mem h.2 m
theorem depth_mem : ∀ {ds : List D} {d : D}, d ∈ ds → d.depth ≤ PyData.depthAll ds
  | d :: ds, e, m => by
    rw [PyData.depthAll]
    rcases List.mem_cons.mp m with rfl | m
    · exact Nat.le_max_left ..
    · exact Nat.le_trans (depth_mem m) (Nat.le_max_right ..)
theorem tre_plain : ∀ (n : Nat) (d : D), d.depth ≤ n → tre d = true → d.plain = true
  | n, .none, _, _ => rfl
  | n, .bool _, _, _ => rfl
  | n, .int _, _, _ => rfl
  | n, .str _, _, _ => rfl
  | n, .list _, _, h => by simp [tre] at h
  | n, .dict _, _, h => by simp [tre] at h
  | 0, .tuple ds, h, _ => by
    rw [PyData.depth] at h
    omega
  | n + 1, .tuple ds, h, q => by
    rw [PyData.depth] at h
    rw [tre, Bool.and_eq_true] at q
    rw [PyData.plain]
    exact plainAll_of fun x hx => tre_plain n x (Nat.le_trans (depth_mem hx) (by omega)) (tres_mem q.2 hx)
def bd_law_alike (i : Nat) : SS := (.cons (.ite (.val (.isa .tuple (.var 1))) (.cons (.ite (.or (.cons (.not (.val (.isa .tuple (.var 0)))) (.cons (.cmp .ne (.blt .len (.cons (.var 0) .nil)) (.blt .len (.cons (.var 1) .nil))) .nil))) (.cons (.ret (.cst (.bool false))) .nil) .nil) (.cons (.ret (.cmp .eq (.lc [2] (.var 2) (.nm 2) (.rng1 (.blt .len (.cons (.var 1) .nil))) (.so (.not (.val (.call i (.cons (.ix (.var 0) (.var 2)) (.cons (.ix (.var 1) (.var 2)) .nil))))))) (.lst .nil))) .nil)) .nil) (.cons (.ite (.cmp .iss (.var 1) (.cst .none)) (.cons (.ret (.cmp .iss (.var 0) (.cst .none))) .nil) .nil) (.cons (.ite (.val (.isa .bool (.var 1))) (.cons (.ret (.land (.cons (.isa .bool (.var 0)) (.cons (.cmp .eq (.var 0) (.var 1)) .nil)))) .nil) .nil) (.cons (.ite (.val (.isa .int (.var 1))) (.cons (.ret (.land (.cons (.isa .int (.var 0)) (.cons (.lnot (.isa .bool (.var 0))) (.cons (.cmp .eq (.var 0) (.var 1)) .nil))))) .nil) .nil) (.cons (.ret (.land (.cons (.isa .str (.var 0)) (.cons (.cmp .eq (.var 0) (.var 1)) .nil)))) .nil)))))
def bd_law_same (i : Nat) : SS := (.cons (.ite (.val (.isa .tuple (.var 1))) (.cons (.ite (.or (.cons (.not (.val (.isa .tuple (.var 0)))) (.cons (.cmp .ne (.blt .len (.cons (.var 0) .nil)) (.blt .len (.cons (.var 1) .nil))) .nil))) (.cons (.ret (.cst (.bool false))) .nil) .nil) (.cons (.ret (.cmp .eq (.lc [2] (.var 2) (.nm 2) (.rng1 (.blt .len (.cons (.var 1) .nil))) (.so (.not (.val (.call i (.cons (.ix (.var 0) (.var 2)) (.cons (.ix (.var 1) (.var 2)) .nil))))))) (.lst .nil))) .nil)) .nil) (.cons (.ite (.cmp .iss (.var 1) (.cst .none)) (.cons (.ret (.cmp .iss (.var 0) (.cst .none))) .nil) .nil) (.cons (.ite (.val (.isa .str (.var 1))) (.cons (.ret (.land (.cons (.isa .str (.var 0)) (.cons (.cmp .eq (.var 0) (.var 1)) .nil)))) .nil) .nil) (.cons (.ret (.land (.cons (.isa .int (.var 0)) (.cons (.cmp .eq (.isa .bool (.var 0)) (.isa .bool (.var 1))) (.cons (.cmp .eq (.var 0) (.var 1)) .nil))))) .nil))))
section
variable {fns : Nat → Option Fn} {ds : List Int} {i : Nat}
/-- the comprehension over the places comes to nothing -/
theorem same_lc {g : Gl} {xs : List D} {t : Nat} (hl : xs.length ≤ lim) (h : ∀ x, x ∈ xs → g.call i [x, x] t = some (⟨.sh, .bool true⟩, t)) :
    ev g (.lc [2] (.var 2) (.nm 2) (.rng1 (.blt .len (.cons (.var 1) .nil))) (.so (.not (.val (.call i (.cons (.ix (.var 0) (.var 2)) (.cons (.ix (.var 1) (.var 2)) .nil))))))) [.sh (.tuple xs), .sh (.tuple xs), .un] t = some (⟨.fr, .list []⟩, t) := by
  have hi : evI g (.rng1 (.blt .len (.cons (.var 1) .nil))) [.sh (.tuple xs), .sh (.tuple xs), .un] t = some ((true, (irange 0 xs.length).map .int), t) := by
    rw [← rangeL_eq]
    have : lim = 16777216 := rfl
    exact it_rng1 (by simp only [↓Q.exec, ↓ev, ↓evL, ↓evT, ↓evO, ↓evI, ↓bnd_ap, ↓opt_ap, ↓bol_ap, ↓ite_ap, ↓lstR_ap, ↓tupR_ap, Q.ret, getS, List.getElem?_cons_succ, List.getElem?_cons_zero, op_add, op_sub, op_mod, op_fdiv, Int.reduceLT, shd, bltD, store, shared, Q.bind1, Q.bindL, Option.bind_some, List.set_cons_succ, List.set_cons_zero, Bool.or_true, Bool.true_or, Bool.and_self, decide_true, op_mulRi, op_mulLi, op_mulR, op_mulL, Int.reduceNeg, List.mapM_nil, List.mapM_cons, Option.pure_def, Option.bind_eq_bind, List.length_nil, lim, Nat.zero_le, ↓reduceIte, List.length_cons, Nat.reduceAdd, Nat.reduceLeDiff, ↓Q.execs, ↓evAnd, ↓evOr, ↓evTA, ↓evTR, ↓evTO, callKd_nil, callKd_sh, callKd_fr, cp_lt, cp_le, cp_gt, cp_ge, cp_eqI, cp_neI, cp_isB, tru, entry, endR, backR, List.map_cons, List.map_nil, List.replicate, List.cons_append, List.nil_append, Nat.reduceSub, ixD, atI_0, atI_1, atI_2, atI_3, Option.map_some, intOf, Nat.sub_self, retS, storesM, List.all_cons, List.all_nil, Option.isSome_some, Bool.and_true, Bool.true_and, reduceCtorEq, ↓callKd_nil, backR, List.all_cons, op_sub, List.mapM_cons, Bool.not_true, Bool.not_false, Bool.false_eq_true, Bool.true_eq_false, decide_false, eq_self, slD]; rfl) (rng_ok (by omega) (by omega))
  have := ev_lcI (vs := [2]) (elt := .var 2) (tg := .nm 2) (cond := .so (.not (.val (.call i (.cons (.ix (.var 0) (.var 2)) (.cons (.ix (.var 1) (.var 2)) .nil)))))) hi (fun _ => false) .int (fun n hn => by
    obtain ⟨h1, h2⟩ := mem_irange.mp hn
    have h3 : n.toNat < xs.length := by omega
    have hx : L2.atI xs n = some xs[n.toNat] := by
      have := L2.atI_nat (List.getElem?_eq_getElem h3)
      rwa [show ((n.toNat : Nat) : Int) = n by omega] at this
    have hc := h _ (List.getElem_mem h3)
    simp only [lcB, wipeE, ↓Q.exec, ↓ev, ↓evL, ↓evT, ↓evO, ↓evI, ↓bnd_ap, ↓opt_ap, ↓bol_ap, ↓ite_ap, ↓lstR_ap, ↓tupR_ap, Q.ret, getS, List.getElem?_cons_succ, List.getElem?_cons_zero, op_add, op_sub, op_mod, op_fdiv, Int.reduceLT, shd, bltD, store, shared, Q.bind1, Q.bindL, Option.bind_some, List.set_cons_succ, List.set_cons_zero, Bool.or_true, Bool.true_or, Bool.and_self, decide_true, op_mulRi, op_mulLi, op_mulR, op_mulL, Int.reduceNeg, List.mapM_nil, List.mapM_cons, Option.pure_def, Option.bind_eq_bind, List.length_nil, lim, Nat.zero_le, ↓reduceIte, List.length_cons, Nat.reduceAdd, Nat.reduceLeDiff, ↓Q.execs, ↓evAnd, ↓evOr, ↓evTA, ↓evTR, ↓evTO, callKd_nil, callKd_sh, callKd_fr, cp_lt, cp_le, cp_gt, cp_ge, cp_eqI, cp_neI, cp_isB, tru, entry, endR, backR, List.map_cons, List.map_nil, List.replicate, List.cons_append, List.nil_append, Nat.reduceSub, ixD, atI_0, atI_1, atI_2, atI_3, Option.map_some, intOf, Nat.sub_self, retS, storesM, List.all_cons, List.all_nil, Option.isSome_some, Bool.and_true, Bool.true_and, reduceCtorEq, ↓callKd_nil, backR, List.all_cons, op_sub, List.mapM_cons, Bool.not_true, Bool.not_false, Bool.false_eq_true, Bool.true_eq_false, decide_false, eq_self, slD, hx, hc]) (by
    rw [irange_len]
    omega)
  rw [this]
  simp
theorem same_run (F : Nat → SS) (hF : F = bd_law_alike ∨ F = bd_law_same) (hf : fns i = some ⟨2, 3, F i⟩) : ∀ (n : Nat) (d : D), d.depth ≤ n → tre d = true → ∀ k t, callF fns ds (k + n + 1) i [d, d] t = some (⟨.sh, .bool true⟩, t) := by
  intro n
  induction n with
  | zero =>
    intro d hd ht k t
    have hok : okD d = true := by
      unfold okD
      rw [tre_plain 0 d hd ht, Bool.true_and]
      exact decide_eq_true (by omega)
    have hq := cp_eq_self hok
    have hb : ∀ p, cpD .eq (.bool p) (.bool p) = some true := fun p => cp_eq_self rfl
    rw [callF_fn hf rfl]
    rcases hF with rfl | rfl
    · cases d with
      | none =>
        have hi : cpD .iss .none .none = some true := rfl
        simp only [bd_law_alike, ↓Q.exec, ↓ev, ↓evL, ↓evT, ↓evO, ↓evI, ↓bnd_ap, ↓opt_ap, ↓bol_ap, ↓ite_ap, ↓lstR_ap, ↓tupR_ap, Q.ret, getS, List.getElem?_cons_succ, List.getElem?_cons_zero, op_add, op_sub, op_mod, op_fdiv, Int.reduceLT, shd, bltD, store, shared, Q.bind1, Q.bindL, Option.bind_some, List.set_cons_succ, List.set_cons_zero, Bool.or_true, Bool.true_or, Bool.and_self, decide_true, op_mulRi, op_mulLi, op_mulR, op_mulL, Int.reduceNeg, List.mapM_nil, List.mapM_cons, Option.pure_def, Option.bind_eq_bind, List.length_nil, lim, Nat.zero_le, ↓reduceIte, List.length_cons, Nat.reduceAdd, Nat.reduceLeDiff, ↓Q.execs, ↓evAnd, ↓evOr, ↓evTA, ↓evTR, ↓evTO, callKd_nil, callKd_sh, callKd_fr, cp_lt, cp_le, cp_gt, cp_ge, cp_eqI, cp_neI, cp_isB, tru, entry, endR, backR, List.map_cons, List.map_nil, List.replicate, List.cons_append, List.nil_append, Nat.reduceSub, ixD, atI_0, atI_1, atI_2, atI_3, Option.map_some, intOf, Nat.sub_self, retS, storesM, List.all_cons, List.all_nil, Option.isSome_some, Bool.and_true, Bool.true_and, reduceCtorEq, ↓callKd_nil, backR, List.all_cons, op_sub, List.mapM_cons, Bool.not_true, Bool.not_false, Bool.false_eq_true, Bool.true_eq_false, decide_false, eq_self, slD, isaD, hi]
      | bool b =>
        have hi : cpD .iss (.bool b) .none = some false := rfl
        simp only [bd_law_alike, ↓Q.exec, ↓ev, ↓evL, ↓evT, ↓evO, ↓evI, ↓bnd_ap, ↓opt_ap, ↓bol_ap, ↓ite_ap, ↓lstR_ap, ↓tupR_ap, Q.ret, getS, List.getElem?_cons_succ, List.getElem?_cons_zero, op_add, op_sub, op_mod, op_fdiv, Int.reduceLT, shd, bltD, store, shared, Q.bind1, Q.bindL, Option.bind_some, List.set_cons_succ, List.set_cons_zero, Bool.or_true, Bool.true_or, Bool.and_self, decide_true, op_mulRi, op_mulLi, op_mulR, op_mulL, Int.reduceNeg, List.mapM_nil, List.mapM_cons, Option.pure_def, Option.bind_eq_bind, List.length_nil, lim, Nat.zero_le, ↓reduceIte, List.length_cons, Nat.reduceAdd, Nat.reduceLeDiff, ↓Q.execs, ↓evAnd, ↓evOr, ↓evTA, ↓evTR, ↓evTO, callKd_nil, callKd_sh, callKd_fr, cp_lt, cp_le, cp_gt, cp_ge, cp_eqI, cp_neI, cp_isB, tru, entry, endR, backR, List.map_cons, List.map_nil, List.replicate, List.cons_append, List.nil_append, Nat.reduceSub, ixD, atI_0, atI_1, atI_2, atI_3, Option.map_some, intOf, Nat.sub_self, retS, storesM, List.all_cons, List.all_nil, Option.isSome_some, Bool.and_true, Bool.true_and, reduceCtorEq, ↓callKd_nil, backR, List.all_cons, op_sub, List.mapM_cons, Bool.not_true, Bool.not_false, Bool.false_eq_true, Bool.true_eq_false, decide_false, eq_self, slD, isaD, hq, hi, hb]
      | int b =>
        have hi : cpD .iss (.int b) .none = some false := rfl
        simp only [bd_law_alike, ↓Q.exec, ↓ev, ↓evL, ↓evT, ↓evO, ↓evI, ↓bnd_ap, ↓opt_ap, ↓bol_ap, ↓ite_ap, ↓lstR_ap, ↓tupR_ap, Q.ret, getS, List.getElem?_cons_succ, List.getElem?_cons_zero, op_add, op_sub, op_mod, op_fdiv, Int.reduceLT, shd, bltD, store, shared, Q.bind1, Q.bindL, Option.bind_some, List.set_cons_succ, List.set_cons_zero, Bool.or_true, Bool.true_or, Bool.and_self, decide_true, op_mulRi, op_mulLi, op_mulR, op_mulL, Int.reduceNeg, List.mapM_nil, List.mapM_cons, Option.pure_def, Option.bind_eq_bind, List.length_nil, lim, Nat.zero_le, ↓reduceIte, List.length_cons, Nat.reduceAdd, Nat.reduceLeDiff, ↓Q.execs, ↓evAnd, ↓evOr, ↓evTA, ↓evTR, ↓evTO, callKd_nil, callKd_sh, callKd_fr, cp_lt, cp_le, cp_gt, cp_ge, cp_eqI, cp_neI, cp_isB, tru, entry, endR, backR, List.map_cons, List.map_nil, List.replicate, List.cons_append, List.nil_append, Nat.reduceSub, ixD, atI_0, atI_1, atI_2, atI_3, Option.map_some, intOf, Nat.sub_self, retS, storesM, List.all_cons, List.all_nil, Option.isSome_some, Bool.and_true, Bool.true_and, reduceCtorEq, ↓callKd_nil, backR, List.all_cons, op_sub, List.mapM_cons, Bool.not_true, Bool.not_false, Bool.false_eq_true, Bool.true_eq_false, decide_false, eq_self, slD, isaD, hq, hi, hb]
      | str b =>
        have hi : cpD .iss (.str b) .none = some false := rfl
        simp only [bd_law_alike, ↓Q.exec, ↓ev, ↓evL, ↓evT, ↓evO, ↓evI, ↓bnd_ap, ↓opt_ap, ↓bol_ap, ↓ite_ap, ↓lstR_ap, ↓tupR_ap, Q.ret, getS, List.getElem?_cons_succ, List.getElem?_cons_zero, op_add, op_sub, op_mod, op_fdiv, Int.reduceLT, shd, bltD, store, shared, Q.bind1, Q.bindL, Option.bind_some, List.set_cons_succ, List.set_cons_zero, Bool.or_true, Bool.true_or, Bool.and_self, decide_true, op_mulRi, op_mulLi, op_mulR, op_mulL, Int.reduceNeg, List.mapM_nil, List.mapM_cons, Option.pure_def, Option.bind_eq_bind, List.length_nil, lim, Nat.zero_le, ↓reduceIte, List.length_cons, Nat.reduceAdd, Nat.reduceLeDiff, ↓Q.execs, ↓evAnd, ↓evOr, ↓evTA, ↓evTR, ↓evTO, callKd_nil, callKd_sh, callKd_fr, cp_lt, cp_le, cp_gt, cp_ge, cp_eqI, cp_neI, cp_isB, tru, entry, endR, backR, List.map_cons, List.map_nil, List.replicate, List.cons_append, List.nil_append, Nat.reduceSub, ixD, atI_0, atI_1, atI_2, atI_3, Option.map_some, intOf, Nat.sub_self, retS, storesM, List.all_cons, List.all_nil, Option.isSome_some, Bool.and_true, Bool.true_and, reduceCtorEq, ↓callKd_nil, backR, List.all_cons, op_sub, List.mapM_cons, Bool.not_true, Bool.not_false, Bool.false_eq_true, Bool.true_eq_false, decide_false, eq_self, slD, isaD, hq, hi, hb]
      | list _ => simp [tre] at ht
      | dict _ => simp [tre] at ht
      | tuple xs => simp [PyData.depth] at hd
    · cases d with
      | none =>
        have hi : cpD .iss .none .none = some true := rfl
        simp only [bd_law_same, ↓Q.exec, ↓ev, ↓evL, ↓evT, ↓evO, ↓evI, ↓bnd_ap, ↓opt_ap, ↓bol_ap, ↓ite_ap, ↓lstR_ap, ↓tupR_ap, Q.ret, getS, List.getElem?_cons_succ, List.getElem?_cons_zero, op_add, op_sub, op_mod, op_fdiv, Int.reduceLT, shd, bltD, store, shared, Q.bind1, Q.bindL, Option.bind_some, List.set_cons_succ, List.set_cons_zero, Bool.or_true, Bool.true_or, Bool.and_self, decide_true, op_mulRi, op_mulLi, op_mulR, op_mulL, Int.reduceNeg, List.mapM_nil, List.mapM_cons, Option.pure_def, Option.bind_eq_bind, List.length_nil, lim, Nat.zero_le, ↓reduceIte, List.length_cons, Nat.reduceAdd, Nat.reduceLeDiff, ↓Q.execs, ↓evAnd, ↓evOr, ↓evTA, ↓evTR, ↓evTO, callKd_nil, callKd_sh, callKd_fr, cp_lt, cp_le, cp_gt, cp_ge, cp_eqI, cp_neI, cp_isB, tru, entry, endR, backR, List.map_cons, List.map_nil, List.replicate, List.cons_append, List.nil_append, Nat.reduceSub, ixD, atI_0, atI_1, atI_2, atI_3, Option.map_some, intOf, Nat.sub_self, retS, storesM, List.all_cons, List.all_nil, Option.isSome_some, Bool.and_true, Bool.true_and, reduceCtorEq, ↓callKd_nil, backR, List.all_cons, op_sub, List.mapM_cons, Bool.not_true, Bool.not_false, Bool.false_eq_true, Bool.true_eq_false, decide_false, eq_self, slD, isaD, hi]
      | bool b =>
        have hi : cpD .iss (.bool b) .none = some false := rfl
        simp only [bd_law_same, ↓Q.exec, ↓ev, ↓evL, ↓evT, ↓evO, ↓evI, ↓bnd_ap, ↓opt_ap, ↓bol_ap, ↓ite_ap, ↓lstR_ap, ↓tupR_ap, Q.ret, getS, List.getElem?_cons_succ, List.getElem?_cons_zero, op_add, op_sub, op_mod, op_fdiv, Int.reduceLT, shd, bltD, store, shared, Q.bind1, Q.bindL, Option.bind_some, List.set_cons_succ, List.set_cons_zero, Bool.or_true, Bool.true_or, Bool.and_self, decide_true, op_mulRi, op_mulLi, op_mulR, op_mulL, Int.reduceNeg, List.mapM_nil, List.mapM_cons, Option.pure_def, Option.bind_eq_bind, List.length_nil, lim, Nat.zero_le, ↓reduceIte, List.length_cons, Nat.reduceAdd, Nat.reduceLeDiff, ↓Q.execs, ↓evAnd, ↓evOr, ↓evTA, ↓evTR, ↓evTO, callKd_nil, callKd_sh, callKd_fr, cp_lt, cp_le, cp_gt, cp_ge, cp_eqI, cp_neI, cp_isB, tru, entry, endR, backR, List.map_cons, List.map_nil, List.replicate, List.cons_append, List.nil_append, Nat.reduceSub, ixD, atI_0, atI_1, atI_2, atI_3, Option.map_some, intOf, Nat.sub_self, retS, storesM, List.all_cons, List.all_nil, Option.isSome_some, Bool.and_true, Bool.true_and, reduceCtorEq, ↓callKd_nil, backR, List.all_cons, op_sub, List.mapM_cons, Bool.not_true, Bool.not_false, Bool.false_eq_true, Bool.true_eq_false, decide_false, eq_self, slD, isaD, hq, hi, hb]
      | int b =>
        have hi : cpD .iss (.int b) .none = some false := rfl
        simp only [bd_law_same, ↓Q.exec, ↓ev, ↓evL, ↓evT, ↓evO, ↓evI, ↓bnd_ap, ↓opt_ap, ↓bol_ap, ↓ite_ap, ↓lstR_ap, ↓tupR_ap, Q.ret, getS, List.getElem?_cons_succ, List.getElem?_cons_zero, op_add, op_sub, op_mod, op_fdiv, Int.reduceLT, shd, bltD, store, shared, Q.bind1, Q.bindL, Option.bind_some, List.set_cons_succ, List.set_cons_zero, Bool.or_true, Bool.true_or, Bool.and_self, decide_true, op_mulRi, op_mulLi, op_mulR, op_mulL, Int.reduceNeg, List.mapM_nil, List.mapM_cons, Option.pure_def, Option.bind_eq_bind, List.length_nil, lim, Nat.zero_le, ↓reduceIte, List.length_cons, Nat.reduceAdd, Nat.reduceLeDiff, ↓Q.execs, ↓evAnd, ↓evOr, ↓evTA, ↓evTR, ↓evTO, callKd_nil, callKd_sh, callKd_fr, cp_lt, cp_le, cp_gt, cp_ge, cp_eqI, cp_neI, cp_isB, tru, entry, endR, backR, List.map_cons, List.map_nil, List.replicate, List.cons_append, List.nil_append, Nat.reduceSub, ixD, atI_0, atI_1, atI_2, atI_3, Option.map_some, intOf, Nat.sub_self, retS, storesM, List.all_cons, List.all_nil, Option.isSome_some, Bool.and_true, Bool.true_and, reduceCtorEq, ↓callKd_nil, backR, List.all_cons, op_sub, List.mapM_cons, Bool.not_true, Bool.not_false, Bool.false_eq_true, Bool.true_eq_false, decide_false, eq_self, slD, isaD, hq, hi, hb]
      | str b =>
        have hi : cpD .iss (.str b) .none = some false := rfl
        simp only [bd_law_same, ↓Q.exec, ↓ev, ↓evL, ↓evT, ↓evO, ↓evI, ↓bnd_ap, ↓opt_ap, ↓bol_ap, ↓ite_ap, ↓lstR_ap, ↓tupR_ap, Q.ret, getS, List.getElem?_cons_succ, List.getElem?_cons_zero, op_add, op_sub, op_mod, op_fdiv, Int.reduceLT, shd, bltD, store, shared, Q.bind1, Q.bindL, Option.bind_some, List.set_cons_succ, List.set_cons_zero, Bool.or_true, Bool.true_or, Bool.and_self, decide_true, op_mulRi, op_mulLi, op_mulR, op_mulL, Int.reduceNeg, List.mapM_nil, List.mapM_cons, Option.pure_def, Option.bind_eq_bind, List.length_nil, lim, Nat.zero_le, ↓reduceIte, List.length_cons, Nat.reduceAdd, Nat.reduceLeDiff, ↓Q.execs, ↓evAnd, ↓evOr, ↓evTA, ↓evTR, ↓evTO, callKd_nil, callKd_sh, callKd_fr, cp_lt, cp_le, cp_gt, cp_ge, cp_eqI, cp_neI, cp_isB, tru, entry, endR, backR, List.map_cons, List.map_nil, List.replicate, List.cons_append, List.nil_append, Nat.reduceSub, ixD, atI_0, atI_1, atI_2, atI_3, Option.map_some, intOf, Nat.sub_self, retS, storesM, List.all_cons, List.all_nil, Option.isSome_some, Bool.and_true, Bool.true_and, reduceCtorEq, ↓callKd_nil, backR, List.all_cons, op_sub, List.mapM_cons, Bool.not_true, Bool.not_false, Bool.false_eq_true, Bool.true_eq_false, decide_false, eq_self, slD, isaD, hq, hi, hb]
      | list _ => simp [tre] at ht
      | dict _ => simp [tre] at ht
      | tuple xs => simp [PyData.depth] at hd
  | succ n ih =>
    intro d hd ht k t
    by_cases hz : d.depth ≤ n
    · have := ih d hz ht (k + 1) t
      rwa [show k + 1 + n + 1 = k + (n + 1) + 1 by omega] at this
    · cases d with
      | none => exact absurd (Nat.zero_le _) hz
      | bool b => exact absurd (Nat.zero_le _) hz
      | int b => exact absurd (Nat.zero_le _) hz
      | str b => exact absurd (Nat.zero_le _) hz
      | list _ => simp [tre] at ht
      | dict _ => simp [tre] at ht
      | tuple xs =>
        rw [tre, Bool.and_eq_true, decide_eq_true_eq] at ht
        rw [PyData.depth] at hd
        have hc : ∀ x, x ∈ xs → callF fns ds (k + (n + 1)) i [x, x] t = some (⟨.sh, .bool true⟩, t) := fun x hx => by
          have := ih x (Nat.le_trans (depth_mem hx) (by omega)) (tres_mem ht.2 hx) k t
          rwa [show k + n + 1 = k + (n + 1) by omega] at this
        have hlc := same_lc (g := ⟨ds, callF fns ds (k + (n + 1))⟩) ht.1 hc
        have hne : cpD .ne (.int ((xs.length : Nat) : Int)) (.int ((xs.length : Nat) : Int)) = some false := cp_ne_self rfl
        have heq : cpD .eq (.list []) (.list []) = some true := rfl
        rw [callF_fn hf rfl]
        rcases hF with rfl | rfl
        · simp only [bd_law_alike, ↓Q.exec, ↓ev, ↓evL, ↓evT, ↓evO, ↓evI, ↓bnd_ap, ↓opt_ap, ↓bol_ap, ↓ite_ap, ↓lstR_ap, ↓tupR_ap, Q.ret, getS, List.getElem?_cons_succ, List.getElem?_cons_zero, op_add, op_sub, op_mod, op_fdiv, Int.reduceLT, shd, bltD, store, shared, Q.bind1, Q.bindL, Option.bind_some, List.set_cons_succ, List.set_cons_zero, Bool.or_true, Bool.true_or, Bool.and_self, decide_true, op_mulRi, op_mulLi, op_mulR, op_mulL, Int.reduceNeg, List.mapM_nil, List.mapM_cons, Option.pure_def, Option.bind_eq_bind, List.length_nil, lim, Nat.zero_le, ↓reduceIte, List.length_cons, Nat.reduceAdd, Nat.reduceLeDiff, ↓Q.execs, ↓evAnd, ↓evOr, ↓evTA, ↓evTR, ↓evTO, callKd_nil, callKd_sh, callKd_fr, cp_lt, cp_le, cp_gt, cp_ge, cp_eqI, cp_neI, cp_isB, tru, entry, endR, backR, List.map_cons, List.map_nil, List.replicate, List.cons_append, List.nil_append, Nat.reduceSub, ixD, atI_0, atI_1, atI_2, atI_3, Option.map_some, intOf, Nat.sub_self, retS, storesM, List.all_cons, List.all_nil, Option.isSome_some, Bool.and_true, Bool.true_and, reduceCtorEq, ↓callKd_nil, backR, List.all_cons, op_sub, List.mapM_cons, Bool.not_true, Bool.not_false, Bool.false_eq_true, Bool.true_eq_false, decide_false, eq_self, slD, isaD, hne, ↓hlc, heq]
        · simp only [bd_law_same, ↓Q.exec, ↓ev, ↓evL, ↓evT, ↓evO, ↓evI, ↓bnd_ap, ↓opt_ap, ↓bol_ap, ↓ite_ap, ↓lstR_ap, ↓tupR_ap, Q.ret, getS, List.getElem?_cons_succ, List.getElem?_cons_zero, op_add, op_sub, op_mod, op_fdiv, Int.reduceLT, shd, bltD, store, shared, Q.bind1, Q.bindL, Option.bind_some, List.set_cons_succ, List.set_cons_zero, Bool.or_true, Bool.true_or, Bool.and_self, decide_true, op_mulRi, op_mulLi, op_mulR, op_mulL, Int.reduceNeg, List.mapM_nil, List.mapM_cons, Option.pure_def, Option.bind_eq_bind, List.length_nil, lim, Nat.zero_le, ↓reduceIte, List.length_cons, Nat.reduceAdd, Nat.reduceLeDiff, ↓Q.execs, ↓evAnd, ↓evOr, ↓evTA, ↓evTR, ↓evTO, callKd_nil, callKd_sh, callKd_fr, cp_lt, cp_le, cp_gt, cp_ge, cp_eqI, cp_neI, cp_isB, tru, entry, endR, backR, List.map_cons, List.map_nil, List.replicate, List.cons_append, List.nil_append, Nat.reduceSub, ixD, atI_0, atI_1, atI_2, atI_3, Option.map_some, intOf, Nat.sub_self, retS, storesM, List.all_cons, List.all_nil, Option.isSome_some, Bool.and_true, Bool.true_and, reduceCtorEq, ↓callKd_nil, backR, List.all_cons, op_sub, List.mapM_cons, Bool.not_true, Bool.not_false, Bool.false_eq_true, Bool.true_eq_false, decide_false, eq_self, slD, isaD, hne, ↓hlc, heq]
variable {α : Type} [DecidableEq α] {f : α → D} {n : Nat} {sz : α → Bool}
theorem same_le (F : Nat → SS) (hF : F = bd_law_alike ∨ F = bd_law_same) (hf : fns i = some ⟨2, 3, F i⟩) (e : EqC' f n) (hn : n ≤ 9) (h : SamC f sz) {k : Nat} {x y : α} : Le (mp (en .sh eB) (sameM sz x y)) (callF fns ds (k + 10) i [f x, f y]) := by
  refine le_of fun t b t' q => ?_
  unfold sameM at q
  split at q
  · rename_i hxy
    cases q
    obtain ⟨rfl, hs⟩ := hxy
    have := same_run (ds := ds) F hF hf 9 (f x) (Nat.le_trans (e.dp x) hn) (h.ok x hs) k t
    exact this
  · cases q
end
end Q
namespace Q
open PySem
section
variable {α β : Type} {g : Gl} {ρ ρ' : Env} {e : E} {c : T} {ss : SS} {F : β → Fl}
theorem vt_is {m x : M Bool} (hv : VT g c ρ m) (q : m = x) : VT g c ρ x := q ▸ hv
theorem va_is {es : EL} {m x : M Bool} (hv : VA g es ρ m) (q : m = x) : VA g es ρ x := q ▸ hv
theorem vr_is {es : EL} {m x : M Bool} (hv : VR g es ρ m) (q : m = x) : VR g es ρ x := q ▸ hv
theorem vta_is {es : TL} {m x : M Bool} (hv : VTA g es ρ m) (q : m = x) : VTA g es ρ x := q ▸ hv
theorem vtr_is {es : TL} {m x : M Bool} (hv : VTR g es ρ m) (q : m = x) : VTR g es ρ x := q ▸ hv
theorem x_is {m x : M β} (hv : X g ss ρ m F) (q : m = x) : X g ss ρ x F := q ▸ hv
theorem x_env {m : M β} (h : ρ = ρ') (k : X g ss ρ' m F) : X g ss ρ m F := h ▸ k
end
end Q
/-! ### mathematics of the typed programs -/
namespace Q
open PySem
section
variable {α β γ σ τ : Type} {m : M α} {f : α → M β} {t : Nat}
theorem bnd_assoc {m : M α} {f : α → M β} {h : β → M γ} : bnd (bnd m f) h = bnd m fun a => bnd (f a) h := bnd_bnd
theorem bnd_ret_id : bnd m (fun x => ret x) = m := by
  funext t
  unfold bnd
  cases h : m t <;> rfl
theorem yes_ret {a : α} {P : α → Nat → Prop} (h : P a t) : Yes (ret a) t P := .of rfl h
theorem yes_b {P : β → Nat → Prop} (h : Yes m t fun a u => Yes (f a) u P) : Yes (bnd m f) t P := by rw [yes_bnd]; exact h
theorem yes_eq {a : α} {P : β → Nat → Prop} (e : m = ret a) (h : Yes (f a) t P) : Yes (bnd m f) t P := by rw [e]; exact h
theorem yes_next {ds : List Int} {n : Int} {f : Int → M β} {P : β → Nat → Prop} (hd : ∀ d ∈ ds, 0 ≤ d ∧ d < 997) (hn : 0 < n) (h : ∀ x u, 0 ≤ x → x < n → Yes (f x) u P) : Yes (bnd (nextD ds n) f) t P := by
  obtain ⟨x, e, h1, h2⟩ := next_ok' hd hn t
  exact yes_b (.of e (h x _ h1 h2))
theorem yes_get {P : α → Nat → Prop} (h : Yes m t P) : ∃ a u, m t = some (a, u) ∧ P a u := h.get
/-! guards -/
variable {a b c : Int} {xs ys : List α}
theorem mulM_eq (h : -18446744073709551616 < b) (h2 : b < 18446744073709551616) : mulM a b = ret (a * b) := by
  funext t
  show (if (intB a || intB b) = true then some (a * b, t) else none) = _
  rw [intB_iff.mpr ⟨h, h2⟩, Bool.or_true]
  rfl
theorem mulM_eqL (h : -18446744073709551616 < a) (h2 : a < 18446744073709551616) : mulM a b = ret (a * b) := by
  funext t
  show (if (intB a || intB b) = true then some (a * b, t) else none) = _
  rw [intB_iff.mpr ⟨h, h2⟩, Bool.true_or]
  rfl
theorem fdivM_eq (h : 0 < b) (h2 : b < 1073741824) : fdivM a b = ret (a / b) := by
  funext t
  exact if_pos ⟨h, by omega⟩
theorem modM_eq (h : 0 < b) : modM a b = ret (a % b) := by
  funext t
  exact if_pos h
theorem rngM_eq (h : -4611686018427387904 < a) (h2 : a < 4611686018427387904) (h3 : -4611686018427387904 < b) (h4 : b < 4611686018427387904) : rngM a b = ret (irange a b) := by
  funext t
  exact if_pos ⟨rng_ok h h2, rng_ok h3 h4⟩
theorem smM_eq (h : xs.length ≤ 16777216) : smM xs = ret xs := by
  funext t
  exact if_pos h
theorem catM_eq (h : xs.length + ys.length ≤ 16777216) : catM' xs ys = ret (xs ++ ys) := by
  funext t
  exact if_pos h
theorem appM_eq {y : α} (h : xs.length < 16777216) : appM xs y = ret (xs ++ [y]) := by
  funext t
  exact if_pos h
theorem repM_eq (h : c.natAbs ≤ 1000) (h2 : xs.length ≤ 1000) : repM xs c = ret (List.replicate c.toNat xs).flatten := by
  funext t
  exact if_pos ⟨h, h2⟩
theorem rep_one {x : α} {n : Nat} : (List.replicate n [x]).flatten = List.replicate n x := by
  induction n with
  | zero => rfl
  | succ n ih => rw [List.replicate_succ, List.flatten_cons, ih, List.replicate_succ]; rfl
theorem atM_eq {i : Int} {x : α} (h0 : 0 ≤ i) (h : xs[i.toNat]? = some x) : atM xs i = ret x := by
  unfold atM
  have := L2.atI_nat h
  rw [show ((i.toNat : Nat) : Int) = i by omega] at this
  rw [this]
  rfl
theorem atM_nat {i : Nat} {x : α} (h : xs[i]? = some x) : atM xs (i : Int) = ret x := by
  unfold atM
  rw [L2.atI_nat h]
  rfl
theorem atM_last {x : α} (h : xs.getLast? = some x) : atM xs (-1) = ret x := by
  unfold atM
  obtain ⟨ys, rfl⟩ : ∃ ys, xs = ys ++ [x] := by
    rw [List.getLast?_eq_some_iff] at h
    exact h
  rw [L2.atI_last]
  rfl
theorem unwM_some {x : α} : unwM (some x) = ret x := rfl
theorem putM_eq {i : Int} {y : α} (h0 : 0 ≤ i) (h : i < xs.length) : putM xs i y = ret (xs.set i.toNat y) := by
  unfold putM L2.ixN
  rw [if_pos h0, if_pos (by omega)]
  rfl
theorem maxI_cons {x : Int} {r : List Int} : maxI (x :: r) = ret (r.foldl max x) := rfl
theorem minI_cons {x : Int} {r : List Int} : minI (x :: r) = ret (r.foldl min x) := rfl
/-! rows -/
theorem cmpM_ret {xs : List α} {f : α → M (Option β)} {o : α → Option β} (h : ∀ x, x ∈ xs → f x = ret (o x)) : cmpM xs f = ret (xs.filterMap o) := by
  induction xs with
  | nil => rfl
  | cons x r ih =>
    rw [cmpM, h x List.mem_cons_self, ih fun y hy => h y (List.mem_cons_of_mem _ hy), bnd_ret, bnd_ret]
    cases hx : o x with
    | none => rw [List.filterMap_cons_none hx]
    | some y => rw [List.filterMap_cons_some hx]
theorem cmpM_filter {xs : List α} {f : α → M (Option β)} {p : α → Bool} {v : α → β} (h : ∀ x, x ∈ xs → f x = ret (if p x then some (v x) else none)) : cmpM xs f = ret ((xs.filter p).map v) := by
  rw [cmpM_ret h]
  congr 1
  clear h
  induction xs with
  | nil => rfl
  | cons x r ih =>
    rw [List.filterMap_cons, List.filter_cons]
    cases p x with
    | true => simp [ih]
    | false => simp [ih]
theorem cmpM_filter' {xs : List α} {f : α → M (Option α)} {p : α → Bool} (h : ∀ x, x ∈ xs → f x = ret (if p x then some x else none)) : cmpM xs f = ret (xs.filter p) := by
  rw [cmpM_filter (v := fun x => x) h, List.map_id']
theorem mapM_ret {xs : List α} {f : α → M β} {v : α → β} (h : ∀ x, x ∈ xs → f x = ret (v x)) : mapM' xs f = ret (xs.map v) := by
  induction xs with
  | nil => rfl
  | cons x r ih => rw [mapM', h x List.mem_cons_self, ih fun y hy => h y (List.mem_cons_of_mem _ hy)]; rfl
theorem catsM_ret {xs : List α} {f : α → M (List β)} {v : α → List β} (h : ∀ x, x ∈ xs → f x = ret (v x)) : catsM xs f = ret (xs.flatMap v) := by
  induction xs with
  | nil => rfl
  | cons x r ih => rw [catsM, h x List.mem_cons_self, ih fun y hy => h y (List.mem_cons_of_mem _ hy)]; rfl
theorem forS_ret {xs : List α} {f : α → σ → M σ} {g : σ → α → σ} {s : σ} (h : ∀ x s, x ∈ xs → f x s = ret (g s x)) : forS xs f s = ret (xs.foldl g s) := by
  induction xs generalizing s with
  | nil => rfl
  | cons x r ih => rw [forS, h x s List.mem_cons_self, bnd_ret, ih fun y s hy => h y s (List.mem_cons_of_mem _ hy)]; rfl
/-- a loop by its invariant -/
theorem forS_inv {xs : List α} {f : α → σ → M σ} {s : σ} (I : Nat → σ → Prop) (h0 : I 0 s) (hs : ∀ i x s, xs[i]? = some x → I i s → ∃ s', f x s = ret s' ∧ I (i + 1) s') : ∃ s', forS xs f s = ret s' ∧ I xs.length s' := by
  induction xs generalizing s I with
  | nil => exact ⟨s, rfl, h0⟩
  | cons x r ih =>
    obtain ⟨s1, e1, h1⟩ := hs 0 x s rfl h0
    obtain ⟨s2, e2, h2⟩ := ih (fun i => I (i + 1)) h1 fun i y s e => hs (i + 1) y s e
    exact ⟨s2, by rw [forS, e1, bnd_ret, e2], h2⟩
theorem forS_yes {xs : List α} {f : α → σ → M σ} {s : σ} (I : Nat → σ → Prop) (h0 : I 0 s) (hs : ∀ i x s t, xs[i]? = some x → I i s → Yes (f x s) t fun s' _ => I (i + 1) s') : Yes (forS xs f s) t fun s' _ => I xs.length s' := by
  induction xs generalizing s I t with
  | nil => exact .of rfl h0
  | cons x r ih =>
    rw [forS]
    exact yes_b ((hs 0 x s t rfl h0).mono fun s1 u h1 => ih (fun i => I (i + 1)) h1 fun i y s t e => hs (i + 1) y s t e)
theorem mapM_yes {xs : List α} {f : α → M β} (P : β → Prop) (hs : ∀ x t, x ∈ xs → Yes (f x) t fun y _ => P y) : Yes (mapM' xs f) t fun ys _ => ys.length = xs.length ∧ ∀ y, y ∈ ys → P y := by
  induction xs generalizing t with
  | nil => exact .of rfl ⟨rfl, fun _ h => nomatch h⟩
  | cons x r ih =>
    rw [mapM']
    refine yes_b ((hs x t List.mem_cons_self).mono fun y u hy => yes_b ((ih fun z t hz => hs z t (List.mem_cons_of_mem _ hz)).mono fun ys u h => .of rfl ⟨by simp [h.1], fun z hz => ?_⟩))
    rcases List.mem_cons.mp hz with rfl | hz
    · exact hy
    · exact h.2 z hz
theorem forR_inv {xs : List α} {f : α → σ → M (Stp σ τ)} {s : σ} (I : Nat → σ → Prop) (Q : Out σ τ → Prop) (h0 : I 0 s) (hs : ∀ i x s, xs[i]? = some x → I i s → ∃ o, f x s = ret o ∧ match o with
    | .nx s' => I (i + 1) s'
    | .ct s' => I (i + 1) s'
    | .bk s' => Q (.go s')
    | .rt v => Q (.rt v)) (he : ∀ s, I xs.length s → Q (.go s)) : ∃ o, forR xs f s = ret o ∧ Q o := by
  induction xs generalizing s I with
  | nil => exact ⟨_, rfl, he s h0⟩
  | cons x r ih =>
    obtain ⟨o, e1, h1⟩ := hs 0 x s rfl h0
    cases o with
    | nx s1 =>
      obtain ⟨o2, e2, h2⟩ := ih (fun i => I (i + 1)) h1 (fun i y s e => hs (i + 1) y s e) he
      exact ⟨o2, by rw [forR, e1, bnd_ret]; exact e2, h2⟩
    | ct s1 =>
      obtain ⟨o2, e2, h2⟩ := ih (fun i => I (i + 1)) h1 (fun i y s e => hs (i + 1) y s e) he
      exact ⟨o2, by rw [forR, e1, bnd_ret]; exact e2, h2⟩
    | bk s1 => exact ⟨_, by rw [forR, e1, bnd_ret], h1⟩
    | rt v => exact ⟨_, by rw [forR, e1, bnd_ret], h1⟩
theorem forK_inv {xs : List α} {f : α → σ → M (Stp σ Empty)} {s : σ} (I : Nat → σ → Prop) (Q : σ → Prop) (h0 : I 0 s) (hs : ∀ i x s, xs[i]? = some x → I i s → ∃ o, f x s = ret o ∧ match o with
    | .nx s' => I (i + 1) s'
    | .ct s' => I (i + 1) s'
    | .bk s' => Q s'
    | .rt v => False) (he : ∀ s, I xs.length s → Q s) : ∃ s', forK xs f s = ret s' ∧ Q s' := by
  obtain ⟨o, e, q⟩ := forR_inv (Q := fun o => Q (goS o)) I h0 (fun i x s h1 h2 => by
    obtain ⟨o, e, q⟩ := hs i x s h1 h2
    refine ⟨o, e, ?_⟩
    cases o with
    | nx s => exact q
    | ct s => exact q
    | bk s => exact q
    | rt v => exact nomatch v) he
  exact ⟨goS o, by unfold forK; rw [e, bnd_ret], q⟩
/-- the law's own loop: no turn comes back with a result -/
theorem yes_forR {xs : List α} {f : α → Unit → M (Stp Unit τ)} {h : Out Unit τ → M β} {P : β → Nat → Prop} (hs : ∀ x t, x ∈ xs → Yes (f x ()) t fun o _ => o = .nx ()) (k : ∀ t, Yes (h (.go ())) t P) : Yes (bnd (forR xs f ()) h) t P := by
  refine yes_b ?_
  have : ∀ t, Yes (forR xs f ()) t fun o _ => o = .go () := by
    induction xs with
    | nil => exact fun t => .of rfl rfl
    | cons x r ih =>
      intro t
      rw [forR]
      refine yes_b ((hs x t List.mem_cons_self).mono fun o u e => ?_)
      rw [e]
      exact ih (fun y t hy => hs y t (List.mem_cons_of_mem _ hy)) u
  refine (this t).mono fun o u e => ?_
  rw [e]
  exact k u
/-- a while by its invariant and a measure -/
theorem whlR_inv {n : Nat} {test : σ → M Bool} {f : σ → M (Stp σ τ)} {s : σ} (I : σ → Prop) (μ : σ → Nat) (Q : Out σ τ → Prop) (h0 : I s) (hn : μ s < n)
    (hs : ∀ s, I s → ∃ b, test s = ret b ∧ (b = false → Q (.go s)) ∧ (b = true → ∃ o, f s = ret o ∧ match o with
      | .nx s' => I s' ∧ μ s' < μ s
      | .ct s' => I s' ∧ μ s' < μ s
      | .bk s' => Q (.go s')
      | .rt v => Q (.rt v))) : ∃ o, whlR n test f s = ret o ∧ Q o := by
  induction n generalizing s with
  | zero => omega
  | succ n ih =>
    obtain ⟨b, e1, h1, h2⟩ := hs s h0
    cases b with
    | false => exact ⟨_, by rw [whlR, e1, bnd_ret]; rfl, h1 rfl⟩
    | true =>
      obtain ⟨o, e2, h3⟩ := h2 rfl
      cases o with
      | nx s1 =>
        obtain ⟨o2, e3, h4⟩ := ih h3.1 (by omega)
        exact ⟨o2, by rw [whlR, e1, bnd_ret, if_pos rfl, e2, bnd_ret]; exact e3, h4⟩
      | ct s1 =>
        obtain ⟨o2, e3, h4⟩ := ih h3.1 (by omega)
        exact ⟨o2, by rw [whlR, e1, bnd_ret, if_pos rfl, e2, bnd_ret]; exact e3, h4⟩
      | bk s1 => exact ⟨_, by rw [whlR, e1, bnd_ret, if_pos rfl, e2, bnd_ret], h3⟩
      | rt v => exact ⟨_, by rw [whlR, e1, bnd_ret, if_pos rfl, e2, bnd_ret], h3⟩
theorem whlK_inv {n : Nat} {test : σ → M Bool} {f : σ → M (Stp σ Empty)} {s : σ} (I : σ → Prop) (μ : σ → Nat) (Q : σ → Prop) (h0 : I s) (hn : μ s < n)
    (hs : ∀ s, I s → ∃ b, test s = ret b ∧ (b = false → Q s) ∧ (b = true → ∃ s', f s = ret (.nx s') ∧ I s' ∧ μ s' < μ s)) : ∃ s', whlK n test f s = ret s' ∧ Q s' := by
  obtain ⟨o, e, q⟩ := whlR_inv (Q := fun o => Q (goS o)) I μ h0 hn fun s h => by
    obtain ⟨b, e1, h1, h2⟩ := hs s h
    refine ⟨b, e1, h1, fun hb => ?_⟩
    obtain ⟨s', e2, h3⟩ := h2 hb
    exact ⟨_, e2, h3⟩
  exact ⟨goS o, by unfold whlK; rw [e, bnd_ret], q⟩
theorem whlK_then {n : Nat} {test : σ → M Bool} {f : σ → M (Stp σ Empty)} {s : σ} {h : σ → M β} {v : β} (I : σ → Prop) (μ : σ → Nat) (Q : σ → Prop) (h0 : I s) (hn : μ s < n)
    (hs : ∀ s, I s → ∃ b, test s = ret b ∧ (b = false → Q s) ∧ (b = true → ∃ s', f s = ret (.nx s') ∧ I s' ∧ μ s' < μ s)) (k : ∀ s', Q s' → h s' = ret v) : bnd (whlK n test f s) h = ret v := by
  obtain ⟨s', e, q⟩ := whlK_inv I μ Q h0 hn hs
  rw [e, bnd_ret, k s' q]
theorem forS_then {xs : List α} {f : α → σ → M σ} {s : σ} {h : σ → M β} {v : β} (I : Nat → σ → Prop) (h0 : I 0 s) (hs : ∀ i x s, xs[i]? = some x → I i s → ∃ s', f x s = ret s' ∧ I (i + 1) s') (k : ∀ s', I xs.length s' → h s' = ret v) : bnd (forS xs f s) h = ret v := by
  obtain ⟨s', e, q⟩ := forS_inv I h0 hs
  rw [e, bnd_ret, k s' q]
theorem forR_then {xs : List α} {f : α → σ → M (Stp σ τ)} {s : σ} {h : Out σ τ → M β} {v : β} (I : Nat → σ → Prop) (Q : Out σ τ → Prop) (h0 : I 0 s) (hs : ∀ i x s, xs[i]? = some x → I i s → ∃ o, f x s = ret o ∧ match o with
    | .nx s' => I (i + 1) s'
    | .ct s' => I (i + 1) s'
    | .bk s' => Q (.go s')
    | .rt v => Q (.rt v)) (he : ∀ s, I xs.length s → Q (.go s)) (k : ∀ o, Q o → h o = ret v) : bnd (forR xs f s) h = ret v := by
  obtain ⟨o, e, q⟩ := forR_inv I Q h0 hs he
  rw [e, bnd_ret, k o q]
theorem forK_then {xs : List α} {f : α → σ → M (Stp σ Empty)} {s : σ} {h : σ → M β} {v : β} (I : Nat → σ → Prop) (Q : σ → Prop) (h0 : I 0 s) (hs : ∀ i x s, xs[i]? = some x → I i s → ∃ o, f x s = ret o ∧ match o with
    | .nx s' => I (i + 1) s'
    | .ct s' => I (i + 1) s'
    | .bk s' => Q s'
    | .rt v => False) (he : ∀ s, I xs.length s → Q s) (k : ∀ s', Q s' → h s' = ret v) : bnd (forK xs f s) h = ret v := by
  obtain ⟨s', e, q⟩ := forK_inv I Q h0 hs he
  rw [e, bnd_ret, k s' q]
/-- one turn of a while -/
theorem whlK_step {n : Nat} {test : σ → M Bool} {f : σ → M (Stp σ Empty)} {s s' : σ} (e1 : test s = ret true) (e2 : f s = ret (.nx s')) : whlK (n + 1) test f s = whlK n test f s' := by
  unfold whlK
  rw [whlR, e1, bnd_ret, if_pos rfl, e2, bnd_ret]
theorem whlK_end {n : Nat} {test : σ → M Bool} {f : σ → M (Stp σ Empty)} {s : σ} (e1 : test s = ret false) : whlK (n + 1) test f s = ret s := by
  unfold whlK
  rw [whlR, e1, bnd_ret, if_neg (by decide), bnd_ret]
  rfl
end
section
variable {α β : Type}
theorem irange_get {a b x : Int} {i : Nat} (h : (irange a b)[i]? = some x) : x = a + i ∧ i < (b - a).toNat := by
  unfold irange at h
  rw [List.getElem?_map] at h
  obtain ⟨j, h1, h2⟩ := Option.map_eq_some_iff.mp h
  obtain ⟨h3, h4⟩ := List.getElem?_eq_some_iff.mp h1
  rw [List.length_range] at h3
  rw [List.getElem_range] at h4
  subst h4
  exact ⟨h2.symm, h3⟩
/-- a loop that gathers -/
theorem forS_filter {xs : List α} {f : α → List β → M (List β)} {p : α → Bool} {v : α → β} {s0 : List β} (hl : s0.length + xs.length < 16777216) (h : ∀ x s, x ∈ xs → s.length < 16777216 → f x s = ret (if p x then s ++ [v x] else s)) : forS xs f s0 = ret (s0 ++ (xs.filter p).map v) := by
  induction xs generalizing s0 with
  | nil => simp [forS]
  | cons x r ih =>
    rw [List.length_cons] at hl
    rw [forS, h x s0 List.mem_cons_self (by omega), bnd_ret, List.filter_cons]
    cases p x with
    | true =>
      rw [if_pos rfl, if_pos rfl, ih (by rw [List.length_append, List.length_singleton]; omega) fun y s hy => h y s (List.mem_cons_of_mem _ hy)]
      simp
    | false =>
      rw [if_neg (by decide), if_neg (by decide), ih (by omega) fun y s hy => h y s (List.mem_cons_of_mem _ hy)]
theorem forS_map {xs : List α} {f : α → List β → M (List β)} {v : α → β} {s0 : List β} (hl : s0.length + xs.length < 16777216) (h : ∀ x s, x ∈ xs → s.length < 16777216 → f x s = ret (s ++ [v x])) : forS xs f s0 = ret (s0 ++ xs.map v) := by
  rw [forS_filter (p := fun _ => true) (v := v) hl fun x s hx hs => by rw [h x s hx hs]; rfl, List.filter_eq_self.mpr fun _ _ => rfl]
end
theorem eqB_nil {α : Type} [DecidableEq α] (xs : List α) : eqB xs [] = xs.isEmpty := by cases xs <;> simp [eqB]
theorem cut_upto {α : Type} {xs : List α} {k : Nat} (h : k ≤ xs.length) : cut xs none (some (k : Int)) = xs.take k := by
  unfold cut
  rw [HT.sIx_none, HT.sIx_nat]
  simp
/-- how often a while goes round -/
def iter {σ : Type} (c : σ → Bool) (g : σ → σ) : Nat → σ → σ
  | 0, s => s
  | n + 1, s => if c s then iter c g n (g s) else s
theorem whlK_iter {σ : Type} {n : Nat} {T : σ → M Bool} {B : σ → M (Stp σ Empty)} {s : σ} (I : σ → Prop) (c : σ → Bool) (g : σ → σ) (μ : σ → Nat) (h0 : I s) (hn : μ s < n) (hT : ∀ s, I s → T s = ret (c s))
    (hB : ∀ s, I s → c s = true → B s = ret (.nx (g s)) ∧ I (g s) ∧ μ (g s) < μ s) : whlK n T B s = ret (iter c g n s) := by
  induction n generalizing s with
  | zero => omega
  | succ n ih =>
    unfold iter
    cases hc : c s with
    | false => exact whlK_end (by rw [hT s h0, hc])
    | true =>
      obtain ⟨h1, h2, h3⟩ := hB s h0 hc
      rw [whlK_step (by rw [hT s h0, hc]) h1, if_pos rfl]
      exact ih h2 (by omega)
/-- a loop that looks for the first -/
theorem forR_find {α σ τ : Type} {xs : List α} {f : α → σ → M (Stp σ τ)} {s0 : σ} (st : Nat → σ) (h0 : s0 = st 0) (p : α → Bool) (v : α → τ) (hs : ∀ i x, xs[i]? = some x → f x (st i) = ret (if p x then .rt (v x) else .nx (st (i + 1)))) :
    forR xs f s0 = ret (match xs.find? p with | some x => .rt (v x) | none => .go (st xs.length)) := by
  subst h0
  induction xs generalizing st with
  | nil => rfl
  | cons x r ih =>
    rw [forR, hs 0 x rfl, bnd_ret, List.find?_cons]
    cases p x with
    | true => rfl
    | false => exact ih (fun i => st (i + 1)) fun i y e => hs (i + 1) y e
theorem headO {α : Type} [DecidableEq α] (xs : List α) : (if !eqB xs [] then bnd (atM xs 0) fun p => ret (some p) else ret none : M (Option α)) = ret xs.head? := by
  cases xs with
  | nil => rfl
  | cons x r =>
    rw [eqB_nil]
    show (bnd (atM (x :: r) 0) fun p => ret (some p)) = _
    rw [atM_eq (x := x) (by decide) rfl]
    rfl
def betterO {α : Type} (lt : α → α → Bool) (s : Option α) (x : α) : Option α := match s with
  | none => some x
  | some b => if lt b x then some x else some b
/-- the first of the greatest, by one walk -/
theorem best_first {α : Type} (P : α → Prop) (lt : α → α → Bool) (irr : ∀ a, P a → lt a a = false) (asy : ∀ a b, P a → P b → lt a b = true → lt b a = false) (neg : ∀ a b c, P a → P b → P c → lt a c = true → lt a b = true ∨ lt b c = true) :
    ∀ xs : List α, (∀ x, x ∈ xs → P x) → xs.foldl (betterO lt) none = (xs.filter fun x => xs.all fun y => !lt x y).head? := by
  intro xs
  induction hn : xs.length generalizing xs with
  | zero =>
    intro _
    rw [List.length_eq_zero_iff] at hn
    subst hn
    rfl
  | succ n ih =>
    intro hP
    obtain ⟨ys, z, rfl⟩ : ∃ ys z, xs = ys ++ [z] := by
      have h : xs ≠ [] := fun h => by simp [h] at hn
      exact ⟨xs.dropLast, xs.getLast h, (List.dropLast_concat_getLast h).symm⟩
    have hy : ∀ x, x ∈ ys → P x := fun x hx => hP x (List.mem_append_left _ hx)
    have hz : P z := hP z (by simp)
    rw [List.foldl_append, ih ys (by simpa using hn) hy, List.foldl_cons, List.foldl_nil]
    cases hb : (ys.filter fun x => ys.all fun y => !lt x y).head? with
    | none =>
      cases ys with
      | nil => simp [irr z hz, betterO]
      | cons y r =>
        exfalso
        -- a greatest is there
        have : ∃ x, x ∈ y :: r ∧ ∀ w, w ∈ y :: r → lt x w = false := by
          have key : ∀ l : List α, (∀ x, x ∈ l → P x) → l ≠ [] → ∃ x, x ∈ l ∧ ∀ w, w ∈ l → lt x w = false := by
            intro l
            induction l with
            | nil => intro _ h; exact absurd rfl h
            | cons a l ihl =>
              intro hl _
              by_cases hn : l = []
              · subst hn
                exact ⟨a, by simp, fun w hw => by
                  cases List.mem_singleton.mp hw
                  exact irr a (hl a (by simp))⟩
              · obtain ⟨x, hx, hx2⟩ := ihl (fun x hx => hl x (List.mem_cons_of_mem _ hx)) hn
                have Pa := hl a (by simp)
                have Px := hl x (List.mem_cons_of_mem _ hx)
                cases hax : lt x a with
                | false =>
                  refine ⟨x, List.mem_cons_of_mem _ hx, fun w hw => ?_⟩
                  rcases List.mem_cons.mp hw with rfl | hw
                  · exact hax
                  · exact hx2 w hw
                | true =>
                  refine ⟨a, by simp, fun w hw => ?_⟩
                  rcases List.mem_cons.mp hw with rfl | hw
                  · exact irr w Pa
                  · have Pw := hl w (List.mem_cons_of_mem _ hw)
                    cases haw : lt a w with
                    | false => rfl
                    | true =>
                      rcases neg x w a Px Pw Pa hax with h | h
                      · rw [hx2 w hw] at h
                        cases h
                      · rw [asy a w Pa Pw haw] at h
                        cases h
          exact key (y :: r) hy (by simp)
        obtain ⟨x, hx, hx2⟩ := this
        rw [List.head?_eq_none_iff, List.filter_eq_nil_iff] at hb
        apply hb x hx
        rw [List.all_eq_true]
        intro w hw
        rw [hx2 w hw]
        rfl
    | some b =>
      have hm := List.mem_of_head? hb
      rw [List.mem_filter, List.all_eq_true] at hm
      obtain ⟨hb1, hb2⟩ := hm
      have hb2 : ∀ y, y ∈ ys → lt b y = false := fun y h => by
        have := hb2 y h
        simpa using this
      have Pb := hy b hb1
      cases hbz : lt b z with
      | true =>
        have n1 : ys.filter (fun x => (ys ++ [z]).all fun y => !lt x y) = [] := by
          rw [List.filter_eq_nil_iff]
          intro x hx h
          rw [List.all_eq_true] at h
          have h3 : lt x z = false := by
            have := h z (by simp)
            simpa using this
          rcases neg b x z Pb (hy x hx) hz hbz with q | q
          · rw [hb2 x hx] at q
            cases q
          · rw [h3] at q
            cases q
        have n2 : ((ys ++ [z]).all fun y => !lt z y) = true := by
          rw [List.all_eq_true]
          intro y h
          rcases List.mem_append.mp h with h | h
          · rcases neg b y z Pb (hy y h) hz hbz with q | q
            · rw [hb2 y h] at q
              cases q
            · rw [asy y z (hy y h) hz q]
              rfl
          · cases List.mem_singleton.mp h
            rw [irr z hz]
            rfl
        rw [List.filter_append, n1, List.nil_append, List.filter_cons, n2]
        simp [hbz, betterO]
      | false =>
        have e : ys.filter (fun x => (ys ++ [z]).all fun y => !lt x y) = (ys.filter fun x => ys.all fun y => !lt x y).filter fun x => !lt x z := by
          rw [List.filter_filter]
          refine List.filter_congr fun x _ => ?_
          rw [List.all_append, Bool.and_comm]
          simp
        rw [List.filter_append, e]
        cases hl : ys.filter fun x => ys.all fun y => !lt x y with
        | nil =>
          rw [hl] at hb
          cases hb
        | cons c r =>
          rw [hl] at hb
          cases hb
          simp [List.filter_cons, hbz, betterO]
theorem ite_ret {α : Type} {c : Prop} [Decidable c] {x y : α} : (if c then ret x else ret y : M α) = ret (if c then x else y) := by split <;> rfl
theorem eqB_self {α : Type} [DecidableEq α] (x : α) : eqB x x = true := eqB_iff.mpr rfl
theorem outC_go {σ τ β : Type} {s : σ} {h : σ → M β} {j : τ → M β} : outC (.go s) h j = h s := rfl
theorem outC_rt {σ τ β : Type} {v : τ} {h : σ → M β} {j : τ → M β} : outC (.rt v) h j = j v := rfl
theorem Out.rec_go {σ : Type} {s : σ} : goS (.go s) = s := rfl
/-! ### fractions -/
def nrmP (a b : Int) : Int × Int := (a / (Int.gcd a b : Nat), b / (Int.gcd a b : Nat))
theorem nrmP_parts (a : Int) {b : Int} (hb : 0 < b) : ∃ p q g : Int, nrmP a b = (p, q) ∧ a = p * g ∧ b = q * g ∧ 0 < g ∧ 0 < q := by
  obtain ⟨p, q, g, h, h2⟩ := nrm_parts a hb
  refine ⟨p, q, g, ?_, h2⟩
  unfold nrm tp at h
  injection h with h
  injection h with h3 h
  injection h with h4 h
  injection h3 with h3
  injection h4 with h4
  unfold nrmP
  rw [h3, h4]
theorem nrmP_scale {a b c : Int} (hg : 0 < c) : nrmP (a * c) (b * c) = nrmP a b := by
  have h : ((Int.gcd (a * c) (b * c) : Nat) : Int) = (Int.gcd a b : Nat) * c := by
    rw [Int.gcd_mul_right, Int.natCast_mul]
    congr 1
    omega
  unfold nrmP
  rw [h, Int.mul_ediv_mul_of_pos_left _ _ hg, Int.mul_ediv_mul_of_pos_left _ _ hg]
/-- the greatest common divisor, as the programs find it -/
theorem gcd_loop {x y : Nat} (hy : y < 1000000000) : whlK big (fun (s : Int × Int) => ret (!eqB s.2 (0 : Int))) (fun (s : Int × Int) => bnd (bnd (modM s.1 s.2) fun (p4 : Int) => ret (s.2, p4)) fun (p3 : Int × Int) => ret (.nx (p3.1, p3.2))) ((x : Int), (y : Int)) = ret (((Nat.gcd x y : Nat) : Int), (0 : Int)) := by
  have : bnd (whlK big (fun (s : Int × Int) => ret (!eqB s.2 (0 : Int))) (fun (s : Int × Int) => bnd (bnd (modM s.1 s.2) fun (p4 : Int) => ret (s.2, p4)) fun (p3 : Int × Int) => ret (.nx (p3.1, p3.2))) ((x : Int), (y : Int))) (fun s => ret s) = ret (((Nat.gcd x y : Nat) : Int), (0 : Int)) := by
    refine whlK_then (fun s => ∃ a b : Nat, s = ((a : Int), (b : Int)) ∧ Nat.gcd a b = Nat.gcd x y) (fun s => s.2.natAbs) (fun s => s = (((Nat.gcd x y : Nat) : Int), (0 : Int))) ⟨_, _, rfl, rfl⟩ (by show (y : Int).natAbs < big; unfold big; omega) ?_ fun s q => by rw [q]
    rintro s ⟨x, y, rfl, h⟩
    refine ⟨_, rfl, fun h1 => ?_, fun h1 => ?_⟩
    · have h0 : y = 0 := by simpa [eqB] using h1
      subst h0
      rw [Nat.gcd_zero_right] at h
      rw [h]
      rfl
    · have h0 : y ≠ 0 := by simpa [eqB] using h1
      have := Nat.mod_lt x (Nat.pos_of_ne_zero h0)
      refine ⟨((y : Int), ((x % y : Nat) : Int)), by simp only [bnd_bnd, bnd_ret, modM_eq (show (0 : Int) < (y : Int) by omega), modC], ⟨y, x % y, rfl, by rw [gcd_step]; exact h⟩, ?_⟩
      show ((x % y : Nat) : Int).natAbs < (y : Int).natAbs
      omega
  rwa [bnd_ret_id] at this
/-! ### what draws nothing -/
structure Pu {α : Type} (m : M α) : Prop where
  ok : ∀ t, m t = (m 0).map fun p => (p.1, t)
section
variable {α β σ τ : Type}
theorem Pu.eq {m : M α} (h : Pu m) {v : α} (e : (m 0).map (·.1) = some v) : m = ret v := by
  funext t
  rw [h.ok t]
  cases q : m 0 with
  | none => rw [q] at e; cases e
  | some p => rw [q] at e; cases e; rfl
theorem Pu.same {m n : M α} (h : Pu m) (k : Pu n) (e : (m 0).map (·.1) = (n 0).map (·.1)) : m = n := by
  funext t
  rw [h.ok t, k.ok t]
  cases q : m 0 with
  | none =>
    cases r : n 0 with
    | none => rfl
    | some b => rw [q, r] at e; cases e
  | some a =>
    cases r : n 0 with
    | none => rw [q, r] at e; cases e
    | some b =>
      rw [q, r] at e
      injection e with e
      have e : a.1 = b.1 := e
      show some (a.1, t) = some (b.1, t)
      rw [e]
theorem pu_ret {a : α} : Pu (ret a) := ⟨fun _ => rfl⟩
theorem pu_fail : Pu (fail : M α) := ⟨fun _ => rfl⟩
theorem pu_opt {o : Option α} : Pu (opt o) := ⟨fun t => by cases o <;> rfl⟩
theorem pu_if {c : Prop} [Decidable c] {a : α} : Pu (fun t => if c then some (a, t) else none) := ⟨fun t => by
  by_cases h : c <;> simp [h]⟩
theorem pu_bnd {m : M α} {f : α → M β} (h : Pu m) (k : ∀ a, Pu (f a)) : Pu (bnd m f) := ⟨fun t => by
  unfold bnd
  rw [h.ok t]
  cases q : m 0 with
  | none => rfl
  | some p =>
    obtain ⟨a, u⟩ := p
    show f a t = (f a u).map _
    rw [(k a).ok t, (k a).ok u]
    cases f a 0 <;> rfl⟩
theorem pu_ite {c : Prop} [Decidable c] {m n : M α} (h : Pu m) (k : Pu n) : Pu (if c then m else n) := by split <;> assumption
theorem pu_mul {a b : Int} : Pu (mulM a b) := pu_if
theorem pu_fdiv {a b : Int} : Pu (fdivM a b) := pu_if
theorem pu_mod {a b : Int} : Pu (modM a b) := pu_if
theorem pu_pow {a b : Int} : Pu (powM a b) := pu_if
theorem pu_cat {xs ys : List α} : Pu (catM' xs ys) := pu_if
theorem pu_rep {xs : List α} {n : Int} : Pu (repM xs n) := pu_if
theorem pu_at {xs : List α} {n : Int} : Pu (atM xs n) := pu_opt
theorem pu_unw {x : Option α} : Pu (unwM x) := pu_opt
theorem pu_sm {xs : List α} : Pu (smM xs) := pu_if
theorem pu_rng {a b : Int} : Pu (rngM a b) := pu_if
theorem pu_lrg {a b : Int} : Pu (lrgT a b) := pu_if
theorem pu_hd {xs : List α} {f : α → List α → α} : Pu (hdM xs f) := by cases xs <;> first | exact pu_fail | exact pu_ret
theorem pu_idx [DecidableEq α] {xs : List α} {y : α} : Pu (idxM xs y) := pu_opt
theorem pu_put {xs : List α} {i : Int} {y : α} : Pu (putM xs i y) := pu_opt
theorem pu_app {xs : List α} {y : α} : Pu (appM xs y) := pu_if
theorem pu_cmp {f : α → M (Option β)} (k : ∀ a, Pu (f a)) : ∀ xs : List α, Pu (cmpM xs f)
  | [] => pu_ret
  | x :: xs => pu_bnd (k x) fun o => pu_bnd (pu_cmp k xs) fun ys => pu_ret
theorem pu_map {f : α → M β} (k : ∀ a, Pu (f a)) : ∀ xs : List α, Pu (mapM' xs f)
  | [] => pu_ret
  | x :: xs => pu_bnd (k x) fun o => pu_bnd (pu_map k xs) fun ys => pu_ret
theorem pu_cats {f : α → M (List β)} (k : ∀ a, Pu (f a)) : ∀ xs : List α, Pu (catsM xs f)
  | [] => pu_ret
  | x :: xs => pu_bnd (k x) fun o => pu_bnd (pu_cats k xs) fun ys => pu_ret
theorem pu_forS {f : α → σ → M σ} (k : ∀ a s, Pu (f a s)) : ∀ (xs : List α) (s : σ), Pu (forS xs f s)
  | [], _ => pu_ret
  | x :: xs, s => pu_bnd (k x s) fun o => pu_forS k xs o
theorem pu_forR {f : α → σ → M (Stp σ τ)} (k : ∀ a s, Pu (f a s)) : ∀ (xs : List α) (s : σ), Pu (forR xs f s)
  | [], _ => pu_ret
  | x :: xs, s => pu_bnd (k x s) fun o => by
    cases o
    · exact pu_forR k xs _
    · exact pu_forR k xs _
    · exact pu_ret
    · exact pu_ret
theorem pu_whlR {T : σ → M Bool} {f : σ → M (Stp σ τ)} (k0 : ∀ s, Pu (T s)) (k : ∀ s, Pu (f s)) : ∀ (n : Nat) (s : σ), Pu (whlR n T f s)
  | 0, _ => pu_fail
  | n + 1, s => pu_bnd (k0 s) fun b => pu_ite (pu_bnd (k s) fun o => by
    cases o
    · exact pu_whlR k0 k n _
    · exact pu_whlR k0 k n _
    · exact pu_ret
    · exact pu_ret) pu_ret
theorem pu_forK {f : α → σ → M (Stp σ Empty)} (k : ∀ a s, Pu (f a s)) (xs : List α) (s : σ) : Pu (forK xs f s) := pu_bnd (pu_forR k xs s) fun _ => pu_ret
theorem pu_whlK {T : σ → M Bool} {f : σ → M (Stp σ Empty)} (k0 : ∀ s, Pu (T s)) (k : ∀ s, Pu (f s)) (n : Nat) (s : σ) : Pu (whlK n T f s) := pu_bnd (pu_whlR k0 k n s) fun _ => pu_ret
theorem pu_outC {h : σ → M β} {j : τ → M β} (h1 : ∀ s, Pu (h s)) (h2 : ∀ v, Pu (j v)) (o : Out σ τ) : Pu (outC o h j) := by
  cases o
  · exact h1 _
  · exact h2 _
end
/-! ### dicts of pairs -/
section
variable {κ β : Type} [DecidableEq κ]
theorem dputT_len (kvs : List (κ × β)) (k : κ) (v : β) : (dputT kvs k v).length ≤ kvs.length + 1 := by
  unfold dputT
  split
  · rw [List.length_map]; omega
  · rw [List.length_append]; simp
theorem dputT_all {P : κ → Prop} {kvs : List (κ × β)} {k : κ} {v : β} (h : ∀ p, p ∈ kvs → P p.1) (hk : P k) : ∀ p, p ∈ dputT kvs k v → P p.1 := by
  intro p hp
  unfold dputT at hp
  split at hp
  · obtain ⟨q, hq, rfl⟩ := List.mem_map.mp hp
    by_cases e : q.1 = k
    · rw [if_pos e]; exact h q hq
    · rw [if_neg e]; exact h q hq
  · rcases List.mem_append.mp hp with hp | hp
    · exact h p hp
    · rw [List.mem_singleton.mp hp]; exact hk
theorem dmkA_len : ∀ (ps acc : List (κ × β)), (ps.foldl (fun acc p => dputT acc p.1 p.2) acc).length ≤ acc.length + ps.length
  | [], _ => by simp
  | p :: ps, acc => by
    rw [List.foldl_cons]
    have h1 := dmkA_len ps (dputT acc p.1 p.2)
    have h2 := dputT_len acc p.1 p.2
    simp only [List.length_cons]
    omega
theorem dmk_len (ps : List (κ × β)) : (dmk ps).length ≤ ps.length := by
  have := dmkA_len ps ([] : List (κ × β))
  simpa [dmk] using this
theorem dmkA_all {P : κ → Prop} : ∀ (ps acc : List (κ × β)), (∀ p, p ∈ acc → P p.1) → (∀ p, p ∈ ps → P p.1) → ∀ p, p ∈ ps.foldl (fun acc p => dputT acc p.1 p.2) acc → P p.1
  | [], _, h, _ => h
  | p :: ps, acc, h, k => dmkA_all ps _ (dputT_all h (k p List.mem_cons_self)) fun q hq => k q (List.mem_cons_of_mem _ hq)
theorem dmk_all {P : κ → Prop} {ps : List (κ × β)} (k : ∀ p, p ∈ ps → P p.1) : ∀ p, p ∈ dmk ps → P p.1 := dmkA_all ps [] (by simp) k
theorem dicM_eq {ps : List (κ × β)} (h : ps.length ≤ 1000000) : dicM ps = ret (dmk ps) := by
  funext t
  exact if_pos h
end
theorem srtKM_eq {β : Type} {kvs : List (Int × β)} (h : kvs.length < 64) : srtKM kvs = ret (isort (kvs.map (·.1))) := by
  funext t
  exact if_pos h
theorem mem_isort {ns : List Int} {x : Int} : x ∈ isort ns ↔ x ∈ ns := (isort_perm ns).mem_iff
theorem zT_ok {α : Type} {s : α → Bool} {xs : List α} (h : xs.length ≤ 16777216) (k : ∀ x, x ∈ xs → s x = true) : zT s xs = true := by
  unfold zT
  rw [Bool.and_eq_true, decide_eq_true_eq, List.all_eq_true]
  exact ⟨h, k⟩
theorem zT0 {α : Type} {xs : List α} (h : xs.length ≤ 16777216) : zT z0 xs = true := zT_ok h fun _ _ => rfl
theorem zC_ok {α β : Type} {s : α → Bool} {u : β → Bool} {x : α} {y : β} (h : s x = true) (k : u y = true) : zC s u (x, y) = true := by
  show (s x && u y) = true
  rw [h, k]
  rfl
theorem lrgT_eq {a b : Int} (h1 : -8000000 ≤ a) (h2 : a ≤ 8000000) (h3 : -8000000 ≤ b) (h4 : b ≤ 8000000) : lrgT a b = ret (irange a b) := by
  funext t
  exact if_pos ⟨by simp only [smlB, decide_eq_true_eq]; omega, by simp only [smlB, decide_eq_true_eq]; omega⟩
theorem irange_filter {p : Int → Bool} {a b c d : Int} (h1 : a ≤ c) (h2 : c ≤ d) (h3 : d ≤ b) (hp : ∀ x, a ≤ x → x < b → (p x = true ↔ c ≤ x ∧ x < d)) : (irange a b).filter p = irange c d := by
  rw [irange_split (a := a) (b := c) (c := b) h1 (by omega), irange_split (a := c) (b := d) (c := b) h2 h3, List.filter_append, List.filter_append]
  rw [List.filter_eq_nil_iff.mpr, List.filter_eq_self.mpr, List.filter_eq_nil_iff.mpr, List.nil_append, List.append_nil]
  · intro x hx
    have hx := mem_irange.mp hx
    rw [hp x (by omega) (by omega)]
    omega
  · intro x hx
    have hx := mem_irange.mp hx
    rw [hp x (by omega) (by omega)]
    omega
  · intro x hx
    have hx := mem_irange.mp hx
    rw [hp x (by omega) (by omega)]
    omega
theorem cutoff (P : Nat → Prop) (n : Nat) (h : ∀ i j, i ≤ j → j < n → P j → P i) : ∃ c, c ≤ n ∧ ∀ j, j < n → (P j ↔ j < c) := by
  induction n with
  | zero => exact ⟨0, Nat.le_refl _, fun j hj => by omega⟩
  | succ n ih =>
    obtain ⟨c, hc, hq⟩ := ih fun i j hij hj => h i j hij (by omega)
    by_cases q : P n
    · refine ⟨n + 1, Nat.le_refl _, fun j hj => ⟨fun _ => hj, fun _ => h j n (by omega) (by omega) q⟩⟩
    · refine ⟨c, by omega, fun j hj => ?_⟩
      by_cases e : j = n
      · subst e
        exact ⟨fun z => absurd z q, fun z => by omega⟩
      · exact hq j (by omega)
theorem irange_self {a b : Int} (h : b ≤ a) : irange a b = [] := by
  have : (irange a b).length = 0 := by rw [irange_len]; omega
  exact List.eq_nil_of_length_eq_zero this
/-! ### strict orders -/
structure STO {α : Type} (lt : α → α → Bool) : Prop where
  irr : ∀ a, lt a a = false
  tr : ∀ a b c, lt a b = true → lt b c = true → lt a c = true
  tot : ∀ a b, lt a b = false → lt b a = false → a = b
theorem stoI : STO ltI := by
  refine ⟨fun a => ?_, fun a b c h k => ?_, fun a b h k => ?_⟩ <;> simp only [ltI, decide_eq_true_eq, decide_eq_false_iff_not] at * <;> omega
section
variable {α β : Type} [DecidableEq α] {l : α → α → Bool} {m : β → β → Bool}
theorem stoP (h : STO l) (k : STO m) : STO (ltP l m) := by
  refine ⟨fun a => ?_, fun a b c h1 h2 => ?_, fun a b h1 h2 => ?_⟩
  · unfold ltP
    rw [if_pos rfl]
    exact k.irr _
  · unfold ltP at *
    by_cases q : a.1 = b.1
    · by_cases r : b.1 = c.1
      · rw [if_pos q] at h1
        rw [if_pos r] at h2
        rw [if_pos (q.trans r)]
        exact k.tr _ _ _ h1 h2
      · rw [if_neg r] at h2
        rw [if_neg (by rw [q]; exact r), q]
        exact h2
    · rw [if_neg q] at h1
      by_cases r : b.1 = c.1
      · rw [if_neg (by rw [← r]; exact q), ← r]
        exact h1
      · rw [if_neg r] at h2
        have h3 := h.tr _ _ _ h1 h2
        by_cases e : a.1 = c.1
        · rw [e, h.irr] at h3
          cases h3
        · rw [if_neg e]
          exact h3
  · unfold ltP at *
    by_cases q : a.1 = b.1
    · rw [if_pos q] at h1
      rw [if_pos q.symm] at h2
      exact Prod.ext q (k.tot _ _ h1 h2)
    · rw [if_neg q] at h1
      rw [if_neg (fun e => q e.symm)] at h2
      exact absurd (h.tot _ _ h1 h2) q
theorem stoL (h : STO l) : STO (ltL l) := by
  have irr : ∀ a : List α, ltL l a a = false := by
    intro a
    induction a with
    | nil => rfl
    | cons x r ih => rw [ltL, if_pos rfl, ih]
  have tr : ∀ a b c : List α, ltL l a b = true → ltL l b c = true → ltL l a c = true := by
    intro a
    induction a with
    | nil =>
      intro b c h1 h2
      cases b with
      | nil => cases h1
      | cons y b =>
        cases c with
        | nil => cases h2
        | cons z c => rfl
    | cons x a ih =>
      intro b c h1 h2
      cases b with
      | nil => cases h1
      | cons y b =>
        cases c with
        | nil => cases h2
        | cons z c =>
          rw [ltL] at *
          by_cases q : x = y
          · by_cases r : y = z
            · rw [if_pos q] at h1
              rw [if_pos r] at h2
              rw [if_pos (q.trans r)]
              exact ih _ _ h1 h2
            · rw [if_neg r] at h2
              rw [if_neg (by rw [q]; exact r), q]
              exact h2
          · rw [if_neg q] at h1
            by_cases r : y = z
            · rw [if_neg (by rw [← r]; exact q), ← r]
              exact h1
            · rw [if_neg r] at h2
              have h3 := h.tr _ _ _ h1 h2
              by_cases e : x = z
              · rw [e, h.irr] at h3
                cases h3
              · rw [if_neg e]
                exact h3
  have tot : ∀ a b : List α, ltL l a b = false → ltL l b a = false → a = b := by
    intro a
    induction a with
    | nil =>
      intro b h1 h2
      cases b with
      | nil => rfl
      | cons y b => cases h1
    | cons x a ih =>
      intro b h1 h2
      cases b with
      | nil => cases h2
      | cons y b =>
        rw [ltL] at *
        by_cases q : x = y
        · rw [if_pos q] at h1
          rw [if_pos q.symm] at h2
          rw [q, ih _ h1 h2]
        · rw [if_neg q] at h1
          rw [if_neg (fun e => q e.symm)] at h2
          exact absurd (h.tot _ _ h1 h2) q
  exact ⟨irr, tr, tot⟩
end
section
variable {α β σ : Type} {lt : α → α → Bool}
/-- the least of a row -/
structure IsMin (lt : α → α → Bool) (xs : List α) (m : α) : Prop where
  mem : m ∈ xs
  low : ∀ y, y ∈ xs → lt y m = false
theorem IsMin.uniq (S : STO lt) {xs : List α} {a b : α} (h : IsMin lt xs a) (k : IsMin lt xs b) : a = b := S.tot _ _ (k.low _ h.mem) (h.low _ k.mem)
theorem IsMin.perm {xs ys : List α} {m : α} (h : IsMin lt xs m) (p : ∀ x, x ∈ ys ↔ x ∈ xs) : IsMin lt ys m := ⟨(p _).mpr h.mem, fun y hy => h.low y ((p y).mp hy)⟩
theorem min_fold (S : STO lt) : ∀ (r : List α) (a : α) (seen : List α), a ∈ seen → (∀ y, y ∈ seen → lt y a = false) → IsMin lt (seen ++ r) (r.foldl (fun x y => if lt y x then y else x) a)
  | [], a, seen, h, k => by
    rw [List.append_nil]
    exact ⟨h, k⟩
  | z :: r, a, seen, h, k => by
    rw [List.foldl_cons, show seen ++ z :: r = (seen ++ [z]) ++ r by simp]
    by_cases q : lt z a = true
    · rw [if_pos q]
      refine min_fold S r z _ (by simp) fun y hy => ?_
      rcases List.mem_append.mp hy with hy | hy
      · have h1 := k y hy
        cases h2 : lt y z with
        | false => rfl
        | true =>
          rw [S.tr _ _ _ h2 q] at h1
          cases h1
      · rw [List.mem_singleton.mp hy]
        exact S.irr z
    · rw [if_neg q]
      refine min_fold S r a _ (by simp [h]) fun y hy => ?_
      rcases List.mem_append.mp hy with hy | hy
      · exact k y hy
      · rw [List.mem_singleton.mp hy]
        simpa using q
theorem minB_ok (S : STO lt) {xs : List α} (h : xs ≠ []) : ∃ m, minB lt xs = ret m ∧ IsMin lt xs m := by
  cases xs with
  | nil => exact absurd rfl h
  | cons a r => exact ⟨_, rfl, min_fold S r a [a] (by simp) (by simp [S.irr])⟩
theorem minB_eq (S : STO lt) {xs : List α} {m : α} (h : IsMin lt xs m) : minB lt xs = ret m := by
  obtain ⟨m', e, h'⟩ := minB_ok S (List.ne_nil_of_mem h.mem)
  rw [e, h'.uniq S h]
theorem forS_append {f : α → σ → M σ} : ∀ (xs ys : List α) (s : σ), forS (xs ++ ys) f s = bnd (forS xs f s) fun s => forS ys f s
  | [], _, _ => rfl
  | x :: xs, ys, s => by
    rw [List.cons_append, forS, forS, bnd_bnd]
    congr 1
    funext s'
    exact forS_append xs ys s'
theorem forS_congr {f g : α → σ → M σ} : ∀ (xs : List α) (s : σ), (∀ x s, x ∈ xs → f x s = g x s) → forS xs f s = forS xs g s
  | [], _, _ => rfl
  | x :: xs, s, h => by
    rw [forS, forS, h x s List.mem_cons_self]
    congr 1
    funext s'
    exact forS_congr xs s' fun y s hy => h y s (List.mem_cons_of_mem _ hy)
theorem forS_flat {f : α → List β → M (List β)} {v : α → List β} : ∀ (xs : List α) (s0 : List β), s0.length + (xs.flatMap v).length < 16777216 → (∀ x s, x ∈ xs → s.length + (v x).length < 16777216 → f x s = ret (s ++ v x)) → forS xs f s0 = ret (s0 ++ xs.flatMap v)
  | [], s0, _, _ => by simp [forS]
  | x :: xs, s0, hl, h => by
    rw [List.flatMap_cons, List.length_append] at hl
    rw [forS, h x s0 List.mem_cons_self (by omega), bnd_ret, forS_flat xs _ (by rw [List.length_append]; omega) fun y s hy => h y s (List.mem_cons_of_mem _ hy), List.flatMap_cons, List.append_assoc]
theorem flatMap_le {v : α → List β} {n : Nat} : ∀ (xs : List α), (∀ x, x ∈ xs → (v x).length ≤ n) → (xs.flatMap v).length ≤ xs.length * n
  | [], _ => by simp
  | x :: xs, h => by
    rw [List.flatMap_cons, List.length_append, List.length_cons, Nat.succ_mul]
    have := h x List.mem_cons_self
    have := flatMap_le xs fun y hy => h y (List.mem_cons_of_mem _ hy)
    omega
theorem sum_flatMap {v : α → List Int} : ∀ (xs : List α), (xs.flatMap v).sum = (xs.map fun x => (v x).sum).sum
  | [] => rfl
  | x :: xs => by
    rw [List.flatMap_cons, List.sum_append, List.map_cons, List.sum_cons, sum_flatMap xs]
end
theorem srtM_sorted {xs : List Int} (hl : xs.length ≤ 16777216) (h : xs.Pairwise (· ≤ ·)) : srtM ltI xs = ret xs := by
  unfold srtM
  rw [List.mergeSort_of_pairwise (h.imp fun {a b} hab => by simp only [ltI, Bool.not_eq_true', decide_eq_false_iff_not]; omega)]
  exact smM_eq hl
theorem cut_eq {α : Type} {xs : List α} {a b : Nat} (h1 : a ≤ xs.length) (h2 : b ≤ xs.length) : cut xs (some (a : Int)) (some (b : Int)) = (xs.drop a).take (b - a) := by
  unfold cut
  rw [HT.sIx_nat, HT.sIx_nat, Nat.min_eq_left h1, Nat.min_eq_left h2]
theorem cut_from {α : Type} {xs : List α} {a : Nat} (h1 : a ≤ xs.length) : cut xs (some (a : Int)) none = xs.drop a := by
  unfold cut
  rw [HT.sIx_nat, HT.sIx_none, Nat.min_eq_left h1, List.take_of_length_le (by rw [List.length_drop]; omega)]
theorem cut_map_range {α β : Type} {xs : List α} {a b : Nat} (d : α) (f : α → β) (h1 : a ≤ b) (h2 : b ≤ xs.length) : (cut xs (some (a : Int)) (some (b : Int))).map f = (irange a b).map fun k => f (xs.getD k.toNat d) := by
  rw [cut_eq (by omega) h2]
  apply List.ext_getElem
  · rw [List.length_map, List.length_map, List.length_take, List.length_drop, irange_len]
    omega
  · intro i hi hi'
    rw [List.length_map, List.length_take, List.length_drop] at hi
    rw [List.getElem_map, List.getElem_map, List.getElem_take, List.getElem_drop]
    have hx : (irange (a : Int) b)[i]? = some ((irange (a : Int) b)[i]'(by rw [List.length_map] at hi'; exact hi')) := List.getElem?_eq_getElem _
    obtain ⟨e, _⟩ := irange_get hx
    rw [e, show ((a : Int) + (i : Int)).toNat = a + i by omega, List.getD_eq_getElem?_getD, List.getElem?_eq_getElem (by omega)]
    rfl
end Q
namespace Q
open PySem
/-! ### dicts, typed -/
section
variable {κ β : Type} [DecidableEq κ]
def dval (kvs : List (κ × β)) (k : κ) : Option β := (kvs.find? fun p => decide (p.1 = k)).map (·.2)
def dhas (kvs : List (κ × β)) (k : κ) : Bool := (dval kvs k).isSome
def dputM (kvs : List (κ × β)) (k : κ) (v : β) : M (List (κ × β)) := fun t => if kvs.length < lim then some (dputT kvs k v, t) else none
def datM (kvs : List (κ × β)) (k : κ) : M β := opt (dval kvs k)
end
def srtKS {β : Type} (kvs : List (Str × β)) : M (List Str) := fun t => if kvs.length < 64 then some (ssort (kvs.map (·.1)), t) else none
section
variable {κ β γ α : Type} {f : κ → D} {h : β → D} {dk : κ → DK} {k k' : Kd}
theorem KeyC.val [DecidableEq κ] (K : KeyC f dk) (x : κ) : ∀ kvs : List (κ × β), dVal (entT dk h kvs) (dk x) = (dval kvs x).map h
  | [] => rfl
  | p :: r => by
    have ih := K.val x r
    unfold dVal dval entT at *
    rw [List.map_cons, List.find?_cons, List.find?_cons]
    by_cases e : p.1 = x
    · rw [show decide ((dk p.1, h p.2).1 = dk x) = true by simp [e], show decide (p.1 = x) = true by simp [e]]
      rfl
    · rw [show decide ((dk p.1, h p.2).1 = dk x) = false by simp only [decide_eq_false_iff_not]; exact fun z => e (K.inj _ _ z), show decide (p.1 = x) = false by simp [e]]
      exact ih
theorem KeyC.entM (K : KeyC f dk) (kvs : List (κ × β)) : entries (kvs.map fun p => (f p.1, h p.2)) = some (entT dk h kvs) := K.ents kvs
variable [DecidableEq κ]
theorem ixD_M (K : KeyC f dk) (kvs : List (κ × β)) (x : κ) : ixD (eM f h kvs) (f x) = (dval kvs x).map h := by
  show kOr (kOf (f x)) (fun k => (entries (kvs.map fun p => (f p.1, h p.2))).bind fun es => dVal es k) _ = _
  rw [K.of]
  show ((entries (kvs.map fun p => (f p.1, h p.2))).bind fun es => dVal es (dk x)) = _
  rw [K.entM, Option.bind_some, K.val]
theorem i_M (K : KeyC f dk) {kvs : List (κ × β)} {x : κ} : Le (mp h (datM kvs x)) (opt (ixD (eM f h kvs) (f x))) := le_of fun t z t' q => by
  rw [ixD_M K]
  unfold datM opt at q
  cases e : dval kvs x with
  | none => rw [e] at q; cases q
  | some y => rw [e] at q; cases q; rfl
theorem inD_M (K : KeyC f dk) (kvs : List (κ × β)) (x : κ) : inD (f x) (eM f h kvs) = some (dhas kvs x) := by
  show kOr (kOf (f x)) (fun k => (entries (kvs.map fun p => (f p.1, h p.2))).map fun es => (dVal es k).isSome) _ = _
  rw [K.of]
  show ((entries (kvs.map fun p => (f p.1, h p.2))).map fun es => (dVal es (dk x)).isSome) = _
  rw [K.entM, Option.map_some, K.val, Option.isSome_map]
  rfl
theorem c_inM (K : KeyC f dk) {kvs : List (κ × β)} {x : κ} : CpOk .inn (f x) (eM f h kvs) (ret (dhas kvs x)) := cp_ret (inD_M K kvs x)
theorem c_ninM (K : KeyC f dk) {kvs : List (κ × β)} {x : κ} : CpOk .nin (f x) (eM f h kvs) (ret (!dhas kvs x)) := cp_ret (by
  show (inD (f x) (eM f h kvs)).map (!·) = _
  rw [inD_M K]
  rfl)
theorem dgetD_M (K : KeyC f dk) (kvs : List (κ × β)) (x : κ) (z : D) : dgetD (eM f h kvs) (f x) z = some (((dval kvs x).map h).getD z) := by
  show (kOf (f x)).bind _ = _
  rw [K.of, Option.bind_some, K.entM, Option.map_some, K.val]
variable {g : Gl} {a b c e : E} {ρ : Env} {es : EL}
omit [DecidableEq κ] in
theorem ve_dnew : VE g .dnew ρ (ret ([] : List (κ × β))) (en .fr (eM f h)) := ⟨by rw [ev]; exact le_ret fun t => rfl⟩
theorem ve_dsp {l : M α} {rs : α → List R} {ps : α → List (κ × β)} (K : KeyC f dk) (hv : VL g es ρ l rs) (hp : ∀ v, pairR (rs v) = some (entT dk h (ps v))) (hl : ∀ v, (ps v).length ≤ 15) : VE g (.dsp es) ρ (bnd l fun v => ret (dmk (ps v))) (en .fr (eM f h)) := by
  refine ⟨le_of fun t x t' q => ?_⟩
  obtain ⟨v, t1, e1, e2⟩ := bnd_inv q
  cases e2
  rw [ev, bnd_ap, hv.get.at e1]
  show bnd (opt (pairR (rs v))) _ _ = _
  rw [bnd_ap, hp]
  show (if (entT dk h (ps v)).length ≤ 15 then _ else _ : M R) _ = _
  rw [if_pos (by unfold entT; rw [List.length_map]; exact hl v), K.merge, K.unent]
  rfl
theorem ve_dget {ma : M (List (κ × β))} {mb : M κ} [NN h] (K : KeyC f dk) (ha : VE g a ρ ma (en k (eM f h))) (hb : VE g b ρ mb (en k' f)) : VE g (.dget a b) ρ (bnd ma fun d => bnd mb fun x => ret (dval d x)) (en .sh (eO h)) :=
  ⟨by rw [ev]; exact le_mb ha.get fun d => le_mb hb.get fun x => le_ret fun t => (by
    show opt ((dgetD (eM f h d) (f x) .none).map shd) t = _
    rw [dgetD_M K]
    cases dval d x <;> rfl)⟩
theorem ve_dget2 {ma : M (List (κ × β))} {mb : M κ} {mc : M β} {r : β → R} (K : KeyC f dk) (ha : VE g a ρ ma (en k (eM f h))) (hb : VE g b ρ mb (en k' f)) (hc : VE g c ρ mc r) (hs : ∀ z, shared (r z) = some (h z)) :
    VE g (.dget2 a b c) ρ (bnd ma fun d => bnd mb fun x => bnd mc fun z => ret ((dval d x).getD z)) (en .sh h) :=
  ⟨by rw [ev]; exact le_mb ha.get fun d => le_mb hb.get fun x => le_mb hc.get fun z => le_ret fun t => (by
    show bnd (opt (shared (r z))) _ t = _
    rw [hs]
    show opt ((dgetD (eM f h d) (f x) (h z)).map shd) t = _
    rw [dgetD_M K]
    cases dval d x <;> rfl)⟩
omit [DecidableEq κ] in
theorem b_dictD (K : KeyC f dk) {kvs : List (κ × β)} : Le (mp (en .fr (eM f h)) (ret kvs)) (opt (bltD .dict [en k (eM f h) kvs])) := le_ret fun t => by
  have e : bltD .dict [en k (eM f h) kvs] = some (en .fr (eM f h) kvs) := by
    show (entries (kvs.map fun p => (f p.1, h p.2))).map _ = _
    rw [K.entM, Option.map_some, K.unent]
    rfl
  rw [e]
  rfl
theorem intKeys_S : ∀ (p : Str × β) (r : List (Str × β)), intKeys (entT .inr h (p :: r)) = none := fun _ _ => rfl
theorem strKeys_ent : ∀ kvs : List (Str × β), strKeys (entT .inr h kvs) = some (kvs.map (·.1))
  | [] => rfl
  | p :: r => by
    show (strKeys (entT .inr h r)).map (p.1 :: ·) = _
    rw [strKeys_ent r]
    rfl
theorem b_sortDS {kvs : List (Str × β)} : Le (mp (en .fr (eL eS)) (srtKS kvs)) (opt (bltD .sorted [en k (eM eS h) kvs])) := le_of fun t x t' q => by
  unfold srtKS at q
  split at q
  · rename_i hl
    cases q
    have e : bltD .sorted [en k (eM eS h) kvs] = some (en .fr (eL eS) (ssort (kvs.map (·.1)))) := by
      have e1 : entries (kvs.map fun p => (eS p.1, h p.2)) = some (entT .inr h kvs) := kS.ents kvs
      show (entries (kvs.map fun p => (eS p.1, h p.2))).bind _ = _
      rw [e1, Option.bind_some]
      cases kvs with
      | nil => simp [intKeys, strKeys, entT, isort, ssort, eL, en]
      | cons p r =>
        have e2 := intKeys_S (h := h) p r
        have e3 := strKeys_ent (h := h) (p :: r)
        simp only [e2, e3]
        exact if_pos (by rw [List.length_map]; exact hl)
    rw [e]
    rfl
  · cases q
/-! statements -/
variable {m : M α} {r : α → R} {rest : SS} {i : Nat} {F : γ → Fl} {kvs : List (κ × β)}
theorem putD_M (K : KeyC f dk) {x : κ} {v : β} (h0 : ρ[i]? = some (.ow (eM f h kvs))) (hl : kvs.length < lim) : putD ρ i (f x) (h v) = some (ρ.set i (.ow (eM f h (dputT kvs x v)))) := by
  have e : putD ρ i (f x) (h v) = kOr (kOf (f x)) (fun k => (entries (kvs.map fun p => (f p.1, h p.2))).bind fun es => if es.length < lim then some (ρ.set i (.ow (.dict (unent (dPut es k (h v)))))) else none) ((kOfT (f x)).bind fun k => (uEnts (kvs.map fun p => (f p.1, h p.2))).bind fun es => if es.length < lim then some (ρ.set i (.ow (.dict (unU (dPut es k (h v)))))) else none) := by
    unfold putD
    rw [h0]
    rfl
  rw [e, K.of]
  show ((entries (kvs.map fun p => (f p.1, h p.2))).bind fun es => if es.length < lim then some (ρ.set i (.ow (.dict (unent (dPut es (dk x) (h v)))))) else none) = _
  rw [K.entM, Option.bind_some, if_pos (by unfold entT; rw [List.length_map]; exact hl), K.put, K.unent]
  rfl
theorem x_putM {m : M β} {r : β → R} {ki : E} {mi : M κ} {hh : List (κ × β) → M γ} (K : KeyC f dk) (h0 : ρ[i]? = some (.ow (eM f h kvs))) (hv : VE g e ρ m r) (hs : ∀ v, shared (r v) = some (h v)) (hk : VE g ki ρ mi (en k' f)) (kk : ∀ ys, X g rest (ρ.set i (.ow (eM f h ys))) (hh ys) F) :
    X g (.cons (.put i ki e) rest) ρ (bnd m fun v => bnd mi fun j => bnd (dputM kvs j v) hh) F := by
  have : (bnd m fun v => bnd mi fun j => bnd (dputM kvs j v) hh) = bnd (bnd m fun v => bnd mi fun j => dputM kvs j v) hh := by simp only [bnd_bnd]
  rw [this]
  refine le_cons (G := fun ys => .nx (ρ.set i (.ow (eM f h ys)))) (le_of fun t w t' q => ?_) fun w => (kk w).get
  obtain ⟨v, t1, e1, q⟩ := bnd_inv q
  obtain ⟨j, t2, e2, e3⟩ := bnd_inv q
  rw [Q.exec, bnd_ap, hv.get.at e1]
  show bnd (opt (shared (r v))) _ t1 = _
  rw [hs]
  show bnd (ev g ki ρ) _ t1 = _
  rw [bnd_ap, hk.get.at e2]
  show bnd (opt (putD ρ i (f j) (h v))) _ t2 = _
  unfold dputM at e3
  split at e3
  · rename_i hl
    cases e3
    rw [putD_M K h0 hl]
    rfl
  · cases e3
theorem getP_M (K : KeyC f dk) {x : κ} (h0 : ρ[i]? = some (.ow (eM f h kvs))) : getP ρ i (f x) = (dval kvs x).map fun v => shd (h v) := by
  have e : getP ρ i (f x) = (kOf (f x)).bind fun k => (entries (kvs.map fun p => (f p.1, h p.2))).bind fun es => (dVal es k).map shd := by
    unfold getP
    rw [h0]
    rfl
  rw [e, K.of, Option.bind_some, K.entM, Option.bind_some, K.val, Option.map_map]
  rfl
theorem x_augM {op : Op} {z : Int → Int → M Int} {me : M Int} {k2 : Kd} {ki : E} {mi : M κ} {kvs : List (κ × Int)} {hh : List (κ × Int) → M γ} (K : KeyC f dk) (h0 : ρ[i]? = some (.ow (eM f eI kvs))) (hk : VE g ki ρ mi (en k' f)) (hv : VE g e ρ me (en k2 eI))
    (ho : ∀ x y, Le (mp (en .sh eI) (z x y)) (opt (augD op (shd (.int x)) (en k2 eI y)))) (kk : ∀ ys, X g rest (ρ.set i (.ow (eM f eI ys))) (hh ys) F) :
    X g (.cons (.augp i op ki e) rest) ρ (bnd mi fun j => bnd (datM kvs j) fun x => bnd me fun y => bnd (z x y) fun w => bnd (dputM kvs j w) hh) F := by
  have : (bnd mi fun j => bnd (datM kvs j) fun x => bnd me fun y => bnd (z x y) fun w => bnd (dputM kvs j w) hh) = bnd (bnd mi fun j => bnd (datM kvs j) fun x => bnd me fun y => bnd (z x y) fun w => dputM kvs j w) hh := by simp only [bnd_bnd]
  rw [this]
  refine le_cons (G := fun ys => .nx (ρ.set i (.ow (eM f eI ys)))) (le_of fun t w t' q => ?_) fun w => (kk w).get
  obtain ⟨j, t1, e1, q1⟩ := bnd_inv q
  obtain ⟨x, t2, e2, q2⟩ := bnd_inv q1
  obtain ⟨y, t3, e3, q3⟩ := bnd_inv q2
  obtain ⟨u, t4, e4, q4⟩ := bnd_inv q3
  clear q q1 q2 q3
  rw [Q.exec, bnd_ap, hk.get.at e1]
  show bnd (opt (getP ρ i (f j))) _ t1 = _
  rw [getP_M K h0]
  unfold datM opt at e2
  cases hx : dval kvs j with
  | none => rw [hx] at e2; cases e2
  | some x' =>
    rw [hx] at e2
    cases e2
    show bnd (ev g e ρ) _ _ = _
    rw [bnd_ap, hv.get.at e3]
    show bnd (opt (augD op (shd (.int x)) (en k2 eI y))) _ t3 = _
    rw [bnd_ap, (ho x y).at e4]
    show bnd (opt (putD ρ i (f j) (eI u))) _ t4 = _
    unfold dputM at q4
    split at q4
    · rename_i hl
      cases q4
      rw [putD_M (h := eI) K h0 hl]
      rfl
    · cases q4
theorem x_augL {op : Op} {z : Int → Int → M Int} {me : M Int} {k2 : Kd} {ki : E} {mi : M Int} {xs : List Int} {hh : List Int → M γ} (h0 : ρ[i]? = some (.ow (eL eI xs))) (hk : VE g ki ρ mi (en k' eI)) (hv : VE g e ρ me (en k2 eI))
    (ho : ∀ x y, Le (mp (en .sh eI) (z x y)) (opt (augD op (shd (.int x)) (en k2 eI y)))) (kk : ∀ ys, X g rest (ρ.set i (.ow (eL eI ys))) (hh ys) F) :
    X g (.cons (.augp i op ki e) rest) ρ (bnd mi fun j => bnd (atM xs j) fun x => bnd me fun y => bnd (z x y) fun w => bnd (putM xs j w) hh) F := by
  have : (bnd mi fun j => bnd (atM xs j) fun x => bnd me fun y => bnd (z x y) fun w => bnd (putM xs j w) hh) = bnd (bnd mi fun j => bnd (atM xs j) fun x => bnd me fun y => bnd (z x y) fun w => putM xs j w) hh := by simp only [bnd_bnd]
  rw [this]
  refine le_cons (G := fun ys => .nx (ρ.set i (.ow (eL eI ys)))) (le_of fun t w t' q => ?_) fun w => (kk w).get
  obtain ⟨j, t1, e1, q1⟩ := bnd_inv q
  obtain ⟨x, t2, e2, q2⟩ := bnd_inv q1
  obtain ⟨y, t3, e3, q3⟩ := bnd_inv q2
  obtain ⟨u, t4, e4, q4⟩ := bnd_inv q3
  clear q q1 q2 q3
  rw [Q.exec, bnd_ap, hk.get.at e1]
  have eg : getP ρ i (eI j) = (L2.atI (xs.map eI) j).map shd := by
    unfold getP
    rw [h0]
    rfl
  show bnd (opt (getP ρ i (eI j))) _ t1 = _
  rw [eg, ixN_map]
  unfold atM opt at e2
  cases hx : L2.atI xs j with
  | none => rw [hx] at e2; cases e2
  | some x' =>
    rw [hx] at e2
    cases e2
    show bnd (ev g e ρ) _ _ = _
    rw [bnd_ap, hv.get.at e3]
    show bnd (opt (augD op (shd (.int x)) (en k2 eI y))) _ t3 = _
    rw [bnd_ap, (ho x y).at e4]
    show bnd (opt (putD ρ i (.int j) (eI u))) _ t4 = _
    have ep : putD ρ i (.int j) (eI u) = (L2.ixN (xs.map eI).length j).map fun n => ρ.set i (.ow (.list ((xs.map eI).set n (eI u)))) := by
      unfold putD
      rw [h0]
      rfl
    rw [ep, List.length_map]
    unfold putM opt at q4
    cases hn : L2.ixN xs.length j with
    | none => rw [hn] at q4; cases q4
    | some n =>
      rw [hn] at q4
      cases q4
      show some (Fl.nx (ρ.set i (.ow (.list ((xs.map eI).set n (eI u))))), _) = some (Fl.nx (ρ.set i (.ow (eL eI (xs.set n u)))), _)
      unfold eL
      rw [List.map_set]
theorem sx_putM {γ κ β : Type} {f : κ → D} {h : β → D} {dk : κ → DK} {k' : Kd} [DecidableEq κ] {g : Gl} {ρ : Env} {rest : SS} {i : Nat} {F : γ → Fl} {kvs : List (κ × β)} {ki : E} {ts : List Tt} {q : R} {rs : List R} {y : β} {mi : M κ} {hh : List (κ × β) → M γ} (K : KeyC f dk) (h0 : ρ[i]? = some (.ow (eM f h kvs))) (hs : shared q = some (h y)) (hk : VE g ki ρ mi (en k' f))
    (kk : ∀ zs, SX g ts rs (ρ.set i (.ow (eM f h zs))) rest (hh zs) F) : SX g (.put i ki :: ts) (q :: rs) ρ rest (bnd mi fun j => bnd (dputM kvs j y) hh) F := by
  refine ⟨?_⟩
  have e : (bnd (storesM g (.put i ki :: ts) (q :: rs) ρ) fun ρ' => execs g rest ρ') = bnd (ev g ki ρ) fun x => bnd (opt (putD ρ i x.d (h y))) fun ρ' => bnd (storesM g ts rs ρ') fun ρ' => execs g rest ρ' := by
    rw [storesM, hs]
    show bnd (bnd (ret (h y)) _) _ = _
    simp only [bnd_bnd, bnd_ret]
  rw [e]
  refine le_mb hk.get fun j => le_of fun t w t' q => ?_
  obtain ⟨zs, t1, e1, q1⟩ := bnd_inv q
  unfold dputM at e1
  split at e1
  · rename_i hl
    cases e1
    show bnd (opt (putD ρ i (f j) (h y))) _ _ = _
    rw [putD_M K h0 hl]
    exact (kk _).get.at q1
  · cases e1
end
end Q
/-! ### mathematics: sorted rows, maxima -/
namespace Q
section
variable {α β : Type} {lt : α → α → Bool}
theorem strict_ext (S : STO lt) : ∀ {xs ys : List α}, xs.Pairwise (fun a b => lt a b = true) → ys.Pairwise (fun a b => lt a b = true) → (∀ x, x ∈ xs ↔ x ∈ ys) → xs = ys
  | [], [], _, _, _ => rfl
  | [], y :: ys, _, _, h => absurd ((h y).mpr List.mem_cons_self) (by simp)
  | x :: xs, [], _, _, h => absurd ((h x).mp List.mem_cons_self) (by simp)
  | x :: xs, y :: ys, hx, hy, h => by
    rw [List.pairwise_cons] at hx hy
    have e : x = y := by
      rcases List.mem_cons.mp ((h x).mp List.mem_cons_self) with e | e
      · exact e
      · rcases List.mem_cons.mp ((h y).mpr List.mem_cons_self) with e' | e'
        · exact e'.symm
        · have := S.tr _ _ _ (hx.1 _ e') (hy.1 _ e)
          rw [S.irr] at this
          cases this
    subst e
    congr 1
    refine strict_ext S hx.2 hy.2 fun z => ⟨fun hz => ?_, fun hz => ?_⟩
    · rcases List.mem_cons.mp ((h z).mp (List.mem_cons_of_mem _ hz)) with e | e
      · subst e
        have := hx.1 _ hz
        rw [S.irr] at this
        cases this
      · exact e
    · rcases List.mem_cons.mp ((h z).mpr (List.mem_cons_of_mem _ hz)) with e | e
      · subst e
        have := hy.1 _ hz
        rw [S.irr] at this
        cases this
      · exact e
theorem sort_perm (S : STO lt) (xs : List α) : (xs.mergeSort fun a b => !lt b a).Pairwise (fun a b => lt b a = false) ∧ List.Perm (xs.mergeSort fun a b => !lt b a) xs := by
  refine ⟨?_, List.mergeSort_perm _ _⟩
  have h := List.pairwise_mergeSort (le := fun a b => !lt b a) (fun a b c h k => by
    simp only [Bool.not_eq_true'] at *
    cases hca : lt c a with
    | false => rfl
    | true =>
      exfalso
      cases hab : lt a b with
      | true =>
        have := S.tr _ _ _ hca hab
        rw [k] at this
        cases this
      | false =>
        have := S.tot _ _ hab h
        subst this
        rw [k] at hca
        cases hca) (fun a b => by
    cases hab : lt b a with
    | false => rfl
    | true =>
      cases hba : lt a b with
      | false => rfl
      | true =>
        have := S.tr _ _ _ hab hba
        rw [S.irr] at this
        cases this) xs
  exact h.imp fun {a b} k => by simpa using k
/-- a sorted row is the one that is strictly ascending and has the same members -/
theorem srtM_eq (S : STO lt) {xs ys : List α} (hl : xs.length ≤ 16777216) (hn : xs.Nodup) (hy : ys.Pairwise (fun a b => lt a b = true)) (hm : ∀ x, x ∈ xs ↔ x ∈ ys) : srtM lt xs = ret ys := by
  obtain ⟨h1, h2⟩ := sort_perm S xs
  unfold srtM
  have hn' : (xs.mergeSort fun a b => !lt b a).Nodup := h2.nodup_iff.mpr hn
  have h3 : (xs.mergeSort fun a b => !lt b a).Pairwise (fun a b => lt a b = true) := by
    have := h1.and hn'
    refine this.imp fun {a b} ⟨k1, k2⟩ => ?_
    cases h : lt a b with
    | true => rfl
    | false => exact absurd (S.tot _ _ h k1) k2
  rw [strict_ext S h3 hy fun x => (h2.mem_iff).trans (hm x)]
  refine smM_eq ?_
  have : (xs.mergeSort fun a b => !lt b a) = ys := strict_ext S h3 hy fun x => (h2.mem_iff).trans (hm x)
  rw [← this, h2.length_eq]
  exact hl
theorem strict_nodup (S : STO lt) {xs : List α} (h : xs.Pairwise (fun a b => lt a b = true)) : xs.Nodup := h.imp fun {a b} k e => by
  subst e
  rw [S.irr] at k
  cases k
theorem srtM_strict (S : STO lt) {xs : List α} (hl : xs.length ≤ 16777216) (h : xs.Pairwise (fun a b => lt a b = true)) : srtM lt xs = ret xs := srtM_eq S hl (strict_nodup S h) h fun _ => Iff.rfl
end
theorem irange_asc {a b : Int} : (irange a b).Pairwise (· < ·) := by
  unfold irange
  rw [List.pairwise_map]
  exact List.pairwise_lt_range.imp fun {x y} h => by omega
theorem irange_cons {a b : Int} (h : a < b) : irange a b = a :: irange (a + 1) b := by
  unfold irange
  rw [show (b - a).toNat = (b - (a + 1)).toNat + 1 by omega, List.range_succ_eq_map, List.map_cons, List.map_map]
  congr 1
  · simp
  · apply List.map_congr_left
    intro x _
    simp only [Function.comp]
    omega
/-- rows of pairs: outer ascending, inner ascending -/
theorem pairs_strict {xs : List Int} {v : Int → List Int} (hx : xs.Pairwise (· < ·)) (hv : ∀ x, x ∈ xs → (v x).Pairwise (· < ·)) : (xs.flatMap fun x => (v x).map fun k => (x, k)).Pairwise (fun a b => ltP ltI ltI a b = true) := by
  rw [List.pairwise_flatMap]
  refine ⟨fun x h => ?_, hx.imp fun {x y} h a ha b hb => ?_⟩
  · rw [List.pairwise_map]
    exact (hv x h).imp fun {a b} k => by simp [ltP, ltI, k]
  · rw [List.mem_map] at ha hb
    obtain ⟨_, _, rfl⟩ := ha
    obtain ⟨_, _, rfl⟩ := hb
    simp [ltP, ltI, h]
    omega
theorem pairs_nodup {xs : List Int} {v : Int → List Int} (hx : xs.Pairwise (· < ·)) (hv : ∀ x, x ∈ xs → (v x).Pairwise (· < ·)) : (xs.flatMap fun x => (v x).map fun k => (k, x)).Nodup := by
  unfold List.Nodup
  rw [List.pairwise_flatMap]
  refine ⟨fun x h => ?_, hx.imp fun {x y} h a ha b hb => ?_⟩
  · rw [List.pairwise_map]
    exact (hv x h).imp fun {a b} k e => by
      have := congrArg Prod.fst e
      simp only at this
      omega
  · rw [List.mem_map] at ha hb
    obtain ⟨_, _, rfl⟩ := ha
    obtain ⟨_, _, rfl⟩ := hb
    intro e
    have := congrArg Prod.snd e
    simp only at this
    omega
/-! the greatest of numbers -/
theorem foldl_max_ge : ∀ (r : List Int) (a : Int), a ≤ r.foldl max a ∧ ∀ x, x ∈ r → x ≤ r.foldl max a
  | [], a => ⟨Int.le_refl _, by simp⟩
  | x :: r, a => by
    obtain ⟨h1, h2⟩ := foldl_max_ge r (max a x)
    rw [List.foldl_cons]
    refine ⟨by omega, fun y hy => ?_⟩
    rcases List.mem_cons.mp hy with rfl | h
    · omega
    · exact h2 y h
theorem foldl_max_mem : ∀ (r : List Int) (a : Int), r.foldl max a = a ∨ r.foldl max a ∈ r
  | [], a => .inl rfl
  | x :: r, a => by
    rw [List.foldl_cons]
    rcases foldl_max_mem r (max a x) with h | h
    · rw [h]
      by_cases k : a ≤ x
      · exact .inr (by rw [Int.max_eq_right k]; exact List.mem_cons_self)
      · exact .inl (by omega)
    · exact .inr (List.mem_cons_of_mem _ h)
def IsMax (xs : List Int) (m : Int) : Prop := m ∈ xs ∧ ∀ x, x ∈ xs → x ≤ m
theorem maxI_ok {xs : List Int} (h : xs ≠ []) : ∃ m, maxI xs = ret m ∧ IsMax xs m := by
  cases xs with
  | nil => exact absurd rfl h
  | cons x r =>
    refine ⟨_, maxI_cons, ?_, fun y hy => ?_⟩
    · rcases foldl_max_mem r x with h | h
      · rw [h]; exact List.mem_cons_self
      · exact List.mem_cons_of_mem _ h
    · obtain ⟨h1, h2⟩ := foldl_max_ge r x
      rcases List.mem_cons.mp hy with rfl | h
      · exact h1
      · exact h2 y h
theorem IsMax.uniq {xs : List Int} {a b : Int} (h : IsMax xs a) (k : IsMax xs b) : a = b := by
  have := h.2 _ k.1
  have := k.2 _ h.1
  omega
theorem maxI_eq' {xs : List Int} {m : Int} (h : IsMax xs m) : maxI xs = ret m := by
  obtain ⟨m', e, h'⟩ := maxI_ok (List.ne_nil_of_mem h.1)
  rw [e, h.uniq h']
def IsLow (xs : List Int) (m : Int) : Prop := m ∈ xs ∧ ∀ x, x ∈ xs → m ≤ x
theorem foldl_min_le : ∀ (r : List Int) (a : Int), r.foldl min a ≤ a ∧ ∀ x, x ∈ r → r.foldl min a ≤ x
  | [], a => ⟨Int.le_refl _, by simp⟩
  | x :: r, a => by
    obtain ⟨h1, h2⟩ := foldl_min_le r (min a x)
    rw [List.foldl_cons]
    refine ⟨by omega, fun y hy => ?_⟩
    rcases List.mem_cons.mp hy with rfl | h
    · omega
    · exact h2 y h
theorem foldl_min_mem : ∀ (r : List Int) (a : Int), r.foldl min a = a ∨ r.foldl min a ∈ r
  | [], a => .inl rfl
  | x :: r, a => by
    rw [List.foldl_cons]
    rcases foldl_min_mem r (min a x) with h | h
    · rw [h]
      by_cases k : x ≤ a
      · exact .inr (by rw [Int.min_eq_right k]; exact List.mem_cons_self)
      · exact .inl (by omega)
    · exact .inr (List.mem_cons_of_mem _ h)
theorem minI_ok {xs : List Int} (h : xs ≠ []) : ∃ m, minI xs = ret m ∧ IsLow xs m := by
  cases xs with
  | nil => exact absurd rfl h
  | cons x r =>
    refine ⟨_, minI_cons, ?_, fun y hy => ?_⟩
    · rcases foldl_min_mem r x with h | h
      · rw [h]; exact List.mem_cons_self
      · exact List.mem_cons_of_mem _ h
    · obtain ⟨h1, h2⟩ := foldl_min_le r x
      rcases List.mem_cons.mp hy with rfl | h
      · exact h1
      · exact h2 y h
theorem IsLow.uniq {xs : List Int} {a b : Int} (h : IsLow xs a) (k : IsLow xs b) : a = b := by
  have := h.2 _ k.1
  have := k.2 _ h.1
  omega
theorem minI_eq' {xs : List Int} {m : Int} (h : IsLow xs m) : minI xs = ret m := by
  obtain ⟨m', e, h'⟩ := minI_ok (List.ne_nil_of_mem h.1)
  rw [e, h.uniq h']
/-- a walk over what is mapped -/
theorem forS_mapped {α β σ : Type} {g : α → β} {f : β → σ → M σ} : ∀ (xs : List α) (s : σ), forS (xs.map g) f s = forS xs (fun x s => f (g x) s) s
  | [], _ => rfl
  | x :: xs, s => by
    rw [List.map_cons, forS, forS]
    congr 1
    funext s'
    exact forS_mapped xs s'
theorem cmpM_mapped {α β γ : Type} {g : α → β} {f : β → M (Option γ)} : ∀ (xs : List α), cmpM (xs.map g) f = cmpM xs fun x => f (g x)
  | [] => rfl
  | x :: xs => by
    rw [List.map_cons, cmpM, cmpM, cmpM_mapped xs]
theorem forR_congr {α σ τ : Type} {f g : α → σ → M (Stp σ τ)} : ∀ (xs : List α) (s : σ), (∀ x s, x ∈ xs → f x s = g x s) → forR xs f s = forR xs g s
  | [], _, _ => rfl
  | x :: xs, s, h => by
    rw [forR, forR, h x s List.mem_cons_self]
    congr 1
    funext o
    cases o with
    | nx s' => exact forR_congr xs s' fun y s hy => h y s (List.mem_cons_of_mem _ hy)
    | ct s' => exact forR_congr xs s' fun y s hy => h y s (List.mem_cons_of_mem _ hy)
    | _ => rfl
theorem forS_filter2 {α β : Type} {xs : List α} {f : α → List β → M (List β)} {p : α → Bool} {v : α → β} {s0 : List β} (hl : s0.length + (xs.filter p).length < 16777216) (h : ∀ x s, x ∈ xs → s.length < 16777216 → f x s = ret (if p x then s ++ [v x] else s)) : forS xs f s0 = ret (s0 ++ (xs.filter p).map v) := by
  induction xs generalizing s0 with
  | nil => simp [forS]
  | cons x r ih =>
    rw [List.filter_cons] at hl ⊢
    cases hp : p x with
    | true =>
      rw [hp, if_pos rfl, List.length_cons] at hl
      rw [forS, h x s0 List.mem_cons_self (by omega), hp, bnd_ret, if_pos rfl, if_pos rfl, ih (by rw [List.length_append, List.length_singleton]; omega) fun y s hy => h y s (List.mem_cons_of_mem _ hy)]
      simp
    | false =>
      rw [hp, if_neg (by decide)] at hl
      rw [forS, h x s0 List.mem_cons_self (by omega), hp, bnd_ret, if_neg (by decide), if_neg (by decide), ih hl fun y s hy => h y s (List.mem_cons_of_mem _ hy)]
/-! values of no one type -/
def lowD (x : D) : Prop := PySem.PyData.plain x = true ∧ PySem.PyData.depth x ≤ 58
theorem lowD_of {α : Type} [DecidableEq α] {f : α → D} {n : Nat} (h : EqC' f n) (hn : n ≤ 58) (x : α) : lowD (f x) := ⟨h.pl x, Nat.le_trans (h.dp x) hn⟩
theorem plainAll_ok : ∀ {xs : List D}, (∀ x, x ∈ xs → lowD x) → PySem.PyData.plainAll xs = true
  | [], _ => rfl
  | x :: xs, h => by
    rw [PySem.PyData.plainAll, (h x List.mem_cons_self).1, plainAll_ok fun y hy => h y (List.mem_cons_of_mem _ hy)]
    rfl
theorem depthAll_ok : ∀ {xs : List D}, (∀ x, x ∈ xs → lowD x) → PySem.PyData.depthAll xs ≤ 58
  | [], _ => Nat.zero_le _
  | x :: xs, h => by
    rw [PySem.PyData.depthAll]
    exact Nat.max_le.mpr ⟨(h x List.mem_cons_self).2, depthAll_ok fun y hy => h y (List.mem_cons_of_mem _ hy)⟩
theorem okD_tuple {xs : List D} (h : ∀ x, x ∈ xs → lowD x) : okD (.tuple xs) = true := by
  unfold okD
  rw [PySem.PyData.plain, PySem.PyData.depth, plainAll_ok h]
  simp only [Bool.true_and, decide_eq_true_eq]
  have := depthAll_ok h
  omega
theorem eqvAll_len : ∀ {xs ys : List D}, xs.length ≠ ys.length → PySem.PyData.eqvAll xs ys = false
  | [], [], h => absurd rfl h
  | [], _ :: _, _ => by simp [PySem.PyData.eqvAll]
  | _ :: _, [], _ => by simp [PySem.PyData.eqvAll]
  | x :: xs, y :: ys, h => by
    rw [PySem.PyData.eqvAll, eqvAll_len (xs := xs) (ys := ys) (by simpa using h), Bool.and_false]
theorem cp_len {xs ys : List D} (hx : ∀ x, x ∈ xs → lowD x) (hy : ∀ x, x ∈ ys → lowD x) (h : xs.length ≠ ys.length) : cpD .eq (.tuple xs) (.tuple ys) = some false := by
  unfold cpD
  rw [if_pos ⟨okD_tuple hx, okD_tuple hy⟩, PySem.PyData.eqv, eqvAll_len h]
end Q
/-! ### sets of ints, ranges as rows, rows turned -/
namespace Q
open PySem
section
variable {g : Gl} {a b c d e : E} {ρ : Env} {k k' k'' : Kd}
def ssT (xs : List Int) : M (List Int) := fun t => if xs.length ≤ 4000 ∧ (setI xs).length < 64 then some (setI xs, t) else none
def ssN (xs : List Int) : M Int := fun t => if xs.length ≤ 4000 ∧ (setI xs).length < 64 then some (((setI xs).length : Nat), t) else none
theorem le_ssT {x : D} {xs : List Int} (h : seqOf x = some (xs.map eI)) : Le (mp (en .fr (eL eI)) (ssT xs)) (opt (ssetD false x)) := le_of fun t ys t' q => by
  unfold ssT at q
  split at q
  · rename_i w
    cases q
    unfold ssetD opt
    rw [h, Option.bind_some, intsOf_map, Option.bind_some, if_pos w]
    rfl
  · cases q
theorem le_ssN {x : D} {xs : List Int} (h : seqOf x = some (xs.map eI)) : Le (mp (en .sh eI) (ssN xs)) (opt (ssetD true x)) := le_of fun t ys t' q => by
  unfold ssN at q
  split at q
  · rename_i w
    cases q
    unfold ssetD opt
    rw [h, Option.bind_some, intsOf_map, Option.bind_some, if_pos w]
    rfl
  · cases q
theorem ve_ssetL {m : M (List Int)} (h : VE g a ρ m (en k (eL eI))) : VE g (.sset false a) ρ (bnd m ssT) (en .fr (eL eI)) := ⟨by rw [ev]; exact le_mb h.get fun x => le_ssT rfl⟩
theorem ve_ssetT {m : M (List Int)} (h : VE g a ρ m (en k (eT eI))) : VE g (.sset false a) ρ (bnd m ssT) (en .fr (eL eI)) := ⟨by rw [ev]; exact le_mb h.get fun x => le_ssT rfl⟩
theorem ve_slenL {m : M (List Int)} (h : VE g a ρ m (en k (eL eI))) : VE g (.sset true a) ρ (bnd m ssN) (en .sh eI) := ⟨by rw [ev]; exact le_mb h.get fun x => le_ssN rfl⟩
theorem ve_slenT {m : M (List Int)} (h : VE g a ρ m (en k (eT eI))) : VE g (.sset true a) ρ (bnd m ssN) (en .sh eI) := ⟨by rw [ev]; exact le_mb h.get fun x => le_ssN rfl⟩
theorem ve_inr {m n o : M Int} (h : VE g a ρ m (en k eI)) (h2 : VE g b ρ n (en k' eI)) (h3 : VE g d ρ o (en k'' eI)) : VE g (.inr a b d) ρ (bnd m fun x => bnd n fun y => bnd o fun z => ret (decide (y ≤ x ∧ x < z))) (en .sh eB) :=
  ⟨by rw [ev]; exact le_mb h.get fun x => le_mb h2.get fun y => le_mb h3.get fun z => le_ret fun t => rfl⟩
theorem vt_inr {m n o : M Int} (h : VE g a ρ m (en k eI)) (h2 : VE g b ρ n (en k' eI)) (h3 : VE g d ρ o (en k'' eI)) : VT g (.inr a b d) ρ (bnd m fun x => bnd n fun y => bnd o fun z => ret (decide (y ≤ x ∧ x < z))) :=
  ⟨by rw [evT]; exact le_mb h.get fun x => le_mb h2.get fun y => le_mb h3.get fun z => le_ret fun t => rfl⟩
theorem ve_rev {α : Type} {m : M (List α)} {f : α → D} (h : VE g a ρ m (en k (eL f))) : VE g (.rev a) ρ (bnd m fun xs => ret xs.reverse) (en .fr (eL f)) :=
  ⟨by rw [ev]; exact le_mb h.get fun xs => le_ret fun t => (by show some ((⟨.fr, .list (xs.map f).reverse⟩ : R), t) = some ((⟨.fr, .list (xs.reverse.map f)⟩ : R), t); rw [List.map_reverse])⟩
theorem vi_eT {α : Type} {m : M (List α)} {f : α → D} (h : VE g a ρ m (en k (eT f))) : VI g (.enm a) ρ true (bnd m fun x => ret (enumT 0 x)) (eP (rC eI (r1 f))) :=
  ⟨by rw [evI]; exact le_mb h.get fun x => le_ret fun t => (by show opt (some (true, enmD 0 (x.map f))) t = _; rw [enmD_map]; rfl)⟩
theorem x_fail {α : Type} {ss : SS} {F : α → Fl} : X g ss ρ fail F := ⟨le_fail⟩
/-! texts walked over, orders, results shared -/
def charsT (x : Str) : List Str := x.cps.toList.map fun c => ⟨#[c]⟩
theorem vi_S {m : M Str} (h : VE g a ρ m (en k eS)) : VI g (.seq a) ρ true (bnd m fun x => ret (charsT x)) eS :=
  ⟨by rw [evI]; exact le_mb h.get fun x => le_ret fun t => (by
    show opt (some (true, x.cps.toList.map fun c => PyData.str ⟨#[c]⟩)) t = some ((true, (charsT x).map eS), t)
    unfold charsT
    rw [List.map_map]
    rfl)⟩
theorem ve_shr {α : Type} {m : M α} {f : α → D} (h : VE g a ρ m (en .fr f)) : VE g (.shr a) ρ m (en .sh f) := by
  have := (⟨by rw [ev]; exact le_mb h.get fun x => le_ret (r := en .sh f) (a := x) fun t => rfl⟩ : VE g (.shr a) ρ (bnd m fun x => ret x) (en .sh f))
  rwa [bnd_ret_id] at this
theorem ordK_ok {α : Type} [DecidableEq α] {f : α → D} {n : Nat} {l : α → α → Bool} (q : EqC' f n) (hn : n ≤ 58) (h : LtC f l) (x y : α) : ordOk (f x) (f y) = true := by
  have := h.nn x
  unfold ordOk
  rw [h.al, q.okD (by omega), q.okD (by omega)]
  cases e : f x <;> first | rfl | (rw [e] at this; cases this)
theorem cpD_lt {x y : D} (h : ordOk x y = true) : cpD .lt x y = some (PySem.W.dataLt x y) := by
  unfold cpD
  simp only
  split
  · rw [PySem.W.dataLt_int]
  · rw [if_pos h]
theorem cpD_gt {x y : D} (h : ordOk x y = true) : cpD .gt x y = some (PySem.W.dataLt y x) := by
  unfold cpD
  simp only
  split
  · rw [PySem.W.dataLt_int]
  · rw [if_pos h]
theorem cpD_le {x y : D} (h : ordOk x y = true) : cpD .le x y = some (!PySem.W.dataLt y x) := by
  unfold cpD
  simp only
  split
  · rw [PySem.W.dataLt_int]
    congr 1
    rw [Bool.eq_iff_iff]
    simp
  · rw [if_pos h]
theorem cpD_ge {x y : D} (h : ordOk x y = true) : cpD .ge x y = some (!PySem.W.dataLt x y) := by
  unfold cpD
  simp only
  split
  · rw [PySem.W.dataLt_int]
    congr 1
    rw [Bool.eq_iff_iff]
    simp
  · rw [if_pos h]
section
variable {α : Type} [DecidableEq α] {f : α → D} {n : Nat} {l : α → α → Bool} {x y : α}
theorem d_ltD (q : EqC' f n) (hn : n ≤ 58) (h : LtC f l) : cpD .lt (f x) (f y) = some (l x y) := by rw [cpD_lt (ordK_ok q hn h x y), h.lt]
theorem d_gtD (q : EqC' f n) (hn : n ≤ 58) (h : LtC f l) : cpD .gt (f x) (f y) = some (l y x) := by rw [cpD_gt (ordK_ok q hn h x y), h.lt]
theorem d_leD (q : EqC' f n) (hn : n ≤ 58) (h : LtC f l) : cpD .le (f x) (f y) = some (!l y x) := by rw [cpD_le (ordK_ok q hn h x y), h.lt]
theorem d_geD (q : EqC' f n) (hn : n ≤ 58) (h : LtC f l) : cpD .ge (f x) (f y) = some (!l x y) := by rw [cpD_ge (ordK_ok q hn h x y), h.lt]
theorem c_ltD (q : EqC' f n) (hn : n ≤ 58) (h : LtC f l) : CpOk .lt (f x) (f y) (ret (l x y)) := cp_ret (d_ltD q hn h)
theorem c_gtD (q : EqC' f n) (hn : n ≤ 58) (h : LtC f l) : CpOk .gt (f x) (f y) (ret (l y x)) := cp_ret (d_gtD q hn h)
theorem c_leD (q : EqC' f n) (hn : n ≤ 58) (h : LtC f l) : CpOk .le (f x) (f y) (ret (!l y x)) := cp_ret (d_leD q hn h)
theorem c_geD (q : EqC' f n) (hn : n ≤ 58) (h : LtC f l) : CpOk .ge (f x) (f y) (ret (!l x y)) := cp_ret (d_geD q hn h)
end
end
/-! mathematics -/
theorem ssT_eq {xs : List Int} (h : xs.length < 64) : ssT xs = ret (setI xs) := by
  funext t
  refine if_pos ⟨by omega, Nat.lt_of_le_of_lt ?_ h⟩
  clear h
  induction xs with
  | nil => exact Nat.le_refl _
  | cons x r ih =>
    have : ∀ (x : Int) (ys : List Int), (insI x ys).length ≤ ys.length + 1 := fun x ys => by
      induction ys with
      | nil => simp [insI]
      | cons y r ih =>
        unfold insI
        split
        · simp
        · split
          · simp
          · simp only [List.length_cons]
            omega
    have := this x (setI r)
    show (insI x (setI r)).length ≤ _
    simp only [List.length_cons]
    omega
theorem setI_len : ∀ (xs : List Int), (setI xs).length ≤ xs.length
  | [] => Nat.le_refl _
  | x :: r => by
    have : ∀ (x : Int) (ys : List Int), (insI x ys).length ≤ ys.length + 1 := fun x ys => by
      induction ys with
      | nil => simp [insI]
      | cons y r ih =>
        unfold insI
        split
        · simp
        · split
          · simp
          · simp only [List.length_cons]
            omega
    have h := this x (setI r)
    have := setI_len r
    show (insI x (setI r)).length ≤ _
    simp only [List.length_cons]
    omega
theorem ssN_eq {xs : List Int} (h : xs.length < 64) : ssN xs = ret (((setI xs).length : Nat) : Int) := by
  funext t
  exact if_pos ⟨by omega, Nat.lt_of_le_of_lt (setI_len xs) h⟩
end Q
/-! ### walks over dicts (printed by mkT11.py) -/
namespace Q
open PySem
structure VK {α : Type} (g : Gl) (j : Nat) (ρ : Env) (m : M (List α)) (f : α → D) : Prop where
  get : Le (mp (fun xs => (true, xs.map f)) m) (opt (keysI ρ j))
section
variable {α β γ : Type} {g : Gl} {j : Nat} {ρ : Env} {vs : List Nat} {elt : E} {tg : Tg} {f : α → D} {h : β → D} {ρ2 : α → Env}
theorem ev_lcdB {cond : TO} : ev g (.lcd vs elt tg j cond) ρ = bnd (opt (keysI ρ j)) fun xs => bnd (compM xs.2 fun d => lcB g vs elt tg cond ρ d) lstR := by
  rw [ev]
  rfl

theorem ve_lc_d {cond : TO} {mx : M (List α)} {F : α → M (Option β)} (hi : VK g j ρ mx f) (hb : VB g vs elt tg cond ρ f h F) : VE g (.lcd vs elt tg j cond) ρ (bnd mx fun xs => bnd (cmpM xs F) smM) (en .fr (eL h)) := by
  refine ⟨?_⟩
  rw [ev_lcdB]
  refine le_mb hi.get fun xs => le_mb (cmp_le xs fun x _ => hb.get x) fun ys => le_of fun t z t' q => ?_
  unfold smM at q
  split at q
  · cases q
    rw [lstR_ap, if_pos (by rw [List.length_map]; assumption)]
    rfl
  · cases q
theorem ve_lcP_d {c : T} {mx : M (List α)} {p : α → Bool} {v : α → β} {r : β → R} (hi : VK g j ρ mx f) (hb : ∀ x, bind1 tg (f x) (wipeE ρ vs) = some (ρ2 x)) (hc : ∀ x, VT g c (ρ2 x) (ret (p x))) (he : ∀ x, VE g elt (ρ2 x) (ret (v x)) r) (hs : ∀ y, shared (r y) = some (h y)) :
    VE g (.lcd vs elt tg j (.so c)) ρ (bnd mx fun xs => smM ((xs.filter p).map v)) (en .fr (eL h)) := by
  have := ve_lc_d hi (vb_mk hb (fun x => VTO.so (hc x)) he hs)
  simp only [bnd_ret, cmp_pure] at this
  exact this
theorem ve_lcA_d {mx : M (List α)} {v : α → β} {r : β → R} (hi : VK g j ρ mx f) (hb : ∀ x, bind1 tg (f x) (wipeE ρ vs) = some (ρ2 x)) (he : ∀ x, VE g elt (ρ2 x) (ret (v x)) r) (hs : ∀ y, shared (r y) = some (h y)) :
    VE g (.lcd vs elt tg j .no) ρ (bnd mx fun xs => smM (xs.map v)) (en .fr (eL h)) := by
  have := ve_lc_d hi (vb_mk hb (fun x => VTO.no) he hs)
  simp only [bnd_ret, ↓reduceIte, cmp_all] at this
  exact this
theorem ve_lcM_d {mx : M (List α)} {v : α → M β} {r : β → R} (hi : VK g j ρ mx f) (hb : ∀ x, bind1 tg (f x) (wipeE ρ vs) = some (ρ2 x)) (he : ∀ x, VE g elt (ρ2 x) (v x) r) (hs : ∀ y, shared (r y) = some (h y)) :
    VE g (.lcd vs elt tg j .no) ρ (bnd mx fun xs => bnd (mapM' xs v) smM) (en .fr (eL h)) := by
  have := ve_lc_d hi (vb_mk hb (fun x => VTO.no) he hs)
  simp only [bnd_ret, ↓reduceIte, cmp_map] at this
  exact this
theorem ve_lcF_d {vs : List Nat} {elt : E} {tg : Tg} {f : α → D} {ρ2 : α → Env} {c : T} {mx : M (List α)} {p : α → Bool} {r : α → R} (hi : VK g j ρ mx f) (hb : ∀ x, bind1 tg (f x) (wipeE ρ vs) = some (ρ2 x)) (hc : ∀ x, VT g c (ρ2 x) (ret (p x))) (he : ∀ x, VE g elt (ρ2 x) (ret x) r) (hs : ∀ y, shared (r y) = some (f y)) :
    VE g (.lcd vs elt tg j (.so c)) ρ (bnd mx fun xs => smM (xs.filter p)) (en .fr (eL f)) := by
  have := ve_lcP_d (v := fun x => x) hi hb hc he hs
  simp only [List.map_id'] at this
  exact this
end
section
variable {α β γ σ τ : Type} {g : Gl} {jj : Nat} {rest b : SS} {ρ ρ' : Env} {F : β → Fl} {tg : Tg} {mx : M (List γ)} {f : γ → D} {env : σ → Env} {ρ1 : γ → σ → Env} {s0 : σ}

theorem le_for_d {G : α → Fl} {n : List γ → M α} (hi : VK g jj ρ mx f) (hb : ∀ x s, bind1 tg (f x) (env s) = some (ρ1 x s)) (h0 : ρ = env s0) (hl : ∀ xs : List γ, Le (mp G (n xs)) (forM (xs.map f) (fun d ρ => bnd (opt (bind1 tg d ρ)) fun ρ' => execs g b ρ') (env s0))) : Le (mp G (bnd mx n)) (exec g (.frd tg jj b) ρ) := by
  rw [Q.exec]
  refine le_mb hi.get fun xs => ?_
  subst h0
  exact hl xs
theorem x_forS_d {n : γ → σ → M σ} {h : σ → M β} (hi : VK g jj ρ mx f) (h0 : ρ = env s0) (hb : ∀ x s, bind1 tg (f x) (env s) = some (ρ1 x s)) (body : ∀ x s, X g b (ρ1 x s) (n x s) fun s' => .nx (env s')) (k : ∀ s, X g rest (env s) (h s) F) :
    X g (.cons (.frd tg jj b) rest) ρ (bnd mx fun xs => bnd (forS xs n s0) h) F := by
  have : (bnd mx fun xs => bnd (forS xs n s0) h) = bnd (bnd mx fun xs => forS xs n s0) h := by rw [bnd_bnd]
  rw [this]
  refine le_cons (G := fun s => .nx (env s)) (le_for_d hi hb h0 fun xs => forS_le (fun x s => ?_) xs s0) fun s => (k s).get
  rw [hb]
  exact (body x s).get
theorem x_forR_d {n : γ → σ → M (Stp σ τ)} {h : σ → M β} {j : τ → β} {r : τ → R} (hi : VK g jj ρ mx f) (h0 : ρ = env s0) (hb : ∀ x s, bind1 tg (f x) (env s) = some (ρ1 x s)) (body : ∀ x s, X g b (ρ1 x s) (n x s) (stF env r)) (hF : ∀ v, F (j v) = .rt (r v)) (k : ∀ s, X g rest (env s) (h s) F) :
    X g (.cons (.frd tg jj b) rest) ρ (bnd mx fun xs => bnd (forR xs n s0) fun o => outC o h fun v => ret (j v)) F := by
  have : (bnd mx fun xs => bnd (forR xs n s0) fun o => outC o h fun v => ret (j v)) = bnd (bnd mx fun xs => forR xs n s0) (fun o => outC o h fun v => ret (j v)) := by rw [bnd_bnd]
  rw [this]
  refine le_cons (G := outF env r) (le_for_d hi hb h0 fun xs => forR_le (fun x s => ?_) xs s0) fun o => ?_
  · rw [hb]
    exact (body x s).get
  · cases o with
    | go s => exact (k s).get
    | rt v => exact le_ret fun t => by rw [hF]; rfl
theorem x_forK_d {n : γ → σ → M (Stp σ Empty)} {h : σ → M β} (hi : VK g jj ρ mx f) (h0 : ρ = env s0) (hb : ∀ x s, bind1 tg (f x) (env s) = some (ρ1 x s)) (body : ∀ x s, X g b (ρ1 x s) (n x s) (stF env (fun v => nomatch v))) (k : ∀ s, X g rest (env s) (h s) F) :
    X g (.cons (.frd tg jj b) rest) ρ (bnd mx fun xs => bnd (forR xs n s0) fun o => h (goS o)) F := by
  have : (bnd mx fun xs => bnd (forR xs n s0) fun o => h (goS o)) = bnd (bnd mx fun xs => forR xs n s0) (fun o => h (goS o)) := by rw [bnd_bnd]
  rw [this]
  refine le_cons (G := outF env (fun v => nomatch v)) (le_for_d hi hb h0 fun xs => forR_le (fun x s => ?_) xs s0) fun o => ?_
  · rw [hb]
    exact (body x s).get
  · cases o with
    | go s => exact (k s).get
    | rt v => exact nomatch v
theorem x_forK'_d {n : γ → σ → M (Stp σ Empty)} {h : σ → M β} (hi : VK g jj ρ mx f) (h0 : ρ = env s0) (hb : ∀ x s, bind1 tg (f x) (env s) = some (ρ1 x s)) (body : ∀ x s, X g b (ρ1 x s) (n x s) (stF env (fun v => nomatch v))) (k : ∀ s, X g rest (env s) (h s) F) :
    X g (.cons (.frd tg jj b) rest) ρ (bnd mx fun xs => bnd (forK xs n s0) h) F := by
  have := x_forK_d hi h0 hb body k
  unfold forK
  simp only [bnd_bnd, bnd_ret]
  exact this
end
theorem vk_mk {κ β : Type} {g : Gl} {j : Nat} {ρ : Env} {f : κ → D} {dk : κ → DK} {h : β → D} {kvs : List (κ × β)} (K : KeyC f dk) (e : ρ[j]? = some (.sh (eM f h kvs))) : VK g j ρ (ret (kvs.map (·.1))) f := by
  refine ⟨le_ret fun t => ?_⟩
  have : keysI ρ j = some (true, (kvs.map (·.1)).map f) := by
    unfold keysI
    rw [e]
    show (entries (kvs.map fun p => (f p.1, h p.2))).map _ = _
    rw [K.ents]
    show some (true, (kvs.map fun p => (f p.1, h p.2)).map (·.1)) = _
    rw [List.map_map, List.map_map]
    rfl
  rw [this]
  rfl
end Q
namespace Q
open PySem
/-! ### dicts, the mathematics -/
section
variable {κ β : Type} [DecidableEq κ]
theorem datM_eq {kvs : List (κ × β)} {k : κ} {v : β} (h : dval kvs k = some v) : datM kvs k = ret v := by
  unfold datM
  rw [h]
  rfl
theorem dputM_eq {kvs : List (κ × β)} {k : κ} {v : β} (h : kvs.length < 1000000) : dputM kvs k v = ret (dputT kvs k v) := by
  funext t
  exact if_pos (Nat.lt_of_lt_of_le h (by decide))
theorem dval_nil (k : κ) : dval ([] : List (κ × β)) k = none := rfl
theorem dval_cons (p : κ × β) (kvs : List (κ × β)) (k : κ) : dval (p :: kvs) k = if p.1 = k then some p.2 else dval kvs k := by
  unfold dval
  rw [List.find?_cons]
  by_cases h : p.1 = k
  · rw [if_pos h]; simp [h]
  · rw [if_neg h]; simp [h]
theorem dval_app (xs ys : List (κ × β)) (k : κ) : dval (xs ++ ys) k = (dval xs k).or (dval ys k) := by
  induction xs with
  | nil => rfl
  | cons p xs ih =>
    rw [List.cons_append, dval_cons, dval_cons, ih]
    split <;> rfl
theorem dval_some_any {kvs : List (κ × β)} {k : κ} : (dval kvs k).isSome = kvs.any fun p => decide (p.1 = k) := by
  induction kvs with
  | nil => rfl
  | cons p kvs ih =>
    rw [dval_cons, List.any_cons, ← ih]
    by_cases h : p.1 = k
    · rw [if_pos h]; simp [h]
    · rw [if_neg h]; simp [h]
theorem dval_map {kvs : List (κ × β)} {k x : κ} {v : β} : dval (kvs.map fun p => if p.1 = k then (p.1, v) else p) x = if x = k then (dval kvs x).map (fun _ => v) else dval kvs x := by
  induction kvs with
  | nil => simp [dval_nil]
  | cons p kvs ih =>
    rw [List.map_cons, dval_cons, dval_cons, ih]
    by_cases h : p.1 = k
    · rw [if_pos h]
      by_cases h2 : p.1 = x
      · rw [if_pos h2, if_pos h2, if_pos (h2 ▸ h)]
        rfl
      · rw [if_neg h2, if_neg h2]
    · rw [if_neg h]
      by_cases h2 : p.1 = x
      · rw [if_pos h2, if_pos h2, if_neg (h2 ▸ h)]
      · rw [if_neg h2, if_neg h2]
theorem dval_put (kvs : List (κ × β)) (k x : κ) (v : β) : dval (dputT kvs k v) x = if x = k then some v else dval kvs x := by
  unfold dputT
  rw [← dval_some_any]
  by_cases hk : (dval kvs k).isSome = true
  · rw [if_pos hk, dval_map]
    by_cases h : x = k
    · rw [if_pos h, if_pos h, h]
      obtain ⟨y, hy⟩ := Option.isSome_iff_exists.mp hk
      rw [hy]
      rfl
    · rw [if_neg h, if_neg h]
  · rw [if_neg hk, dval_app, dval_cons, dval_nil]
    have hn : dval kvs k = none := by simpa using hk
    by_cases h : x = k
    · rw [if_pos h, h, hn, if_pos rfl]
      rfl
    · rw [if_neg h, if_neg fun e => h e.symm]
      cases dval kvs x <;> rfl
theorem dval_key {kvs : List (κ × β)} {k : κ} {v : β} (h : dval kvs k = some v) : k ∈ kvs.map (·.1) := by
  induction kvs with
  | nil => exact absurd h (by simp [dval_nil])
  | cons p kvs ih =>
    rw [dval_cons] at h
    by_cases e : p.1 = k
    · exact List.mem_cons.mpr (.inl e.symm)
    · rw [if_neg e] at h
      exact List.mem_cons_of_mem _ (ih h)
theorem dval_has {kvs : List (κ × β)} {k : κ} (h : k ∈ kvs.map (·.1)) : ∃ v, dval kvs k = some v := by
  induction kvs with
  | nil => exact absurd h (by simp)
  | cons p kvs ih =>
    rw [dval_cons]
    by_cases e : p.1 = k
    · exact ⟨_, if_pos e⟩
    · rw [if_neg e]
      rcases List.mem_cons.mp h with h | h
      · exact absurd h.symm e
      · exact ih h
theorem dmkA_vals {P : β → Prop} : ∀ (ps acc : List (κ × β)), (∀ n l, dval acc n = some l → P l) → (∀ p, p ∈ ps → P p.2) → ∀ n l, dval (ps.foldl (fun acc p => dputT acc p.1 p.2) acc) n = some l → P l
  | [], _, h, _ => h
  | p :: ps, acc, h, k => dmkA_vals ps _ (fun n l e => by
    rw [dval_put] at e
    by_cases en : n = p.1
    · rw [if_pos en] at e
      cases e
      exact k p List.mem_cons_self
    · rw [if_neg en] at e
      exact h n l e) fun q hq => k q (List.mem_cons_of_mem _ hq)
theorem dmk_vals {P : β → Prop} {ps : List (κ × β)} (k : ∀ p, p ∈ ps → P p.2) : ∀ n l, dval (dmk ps) n = some l → P l := dmkA_vals ps [] (by simp [dval_nil]) k
end
theorem cmpM_yes {α β : Type} {f : α → M (Option β)} (P : β → Prop) : ∀ {xs : List α} {t : Nat}, (∀ x t, x ∈ xs → Yes (f x) t fun o _ => ∀ y, o = some y → P y) → Yes (cmpM xs f) t fun ys _ => ys.length ≤ xs.length ∧ ∀ y, y ∈ ys → P y
  | [], t, _ => by
    rw [cmpM]
    exact yes_ret ⟨Nat.le_refl _, by simp⟩
  | x :: xs, t, h => by
    rw [cmpM]
    refine yes_b (Yes.mono (h x t List.mem_cons_self) fun o u ho => ?_)
    refine yes_b (Yes.mono (cmpM_yes P fun y t hy => h y t (List.mem_cons_of_mem _ hy)) fun ys u hy => ?_)
    cases o with
    | none => exact yes_ret ⟨Nat.le_succ_of_le hy.1, hy.2⟩
    | some y => exact yes_ret ⟨Nat.succ_le_succ hy.1, fun z hz => by
        rcases List.mem_cons.mp hz with rfl | hz
        · exact ho _ rfl
        · exact hy.2 z hz⟩
theorem srtKS_eq {β : Type} {kvs : List (Str × β)} (h : kvs.length < 64) : srtKS kvs = ret (ssort (kvs.map (·.1))) := by
  funext t
  exact if_pos h
theorem mem_ssort {ns : List Str} {x : Str} : x ∈ ssort ns ↔ x ∈ ns := (ssort_perm ns).mem_iff
theorem ssort_len (ns : List Str) : (ssort ns).length = ns.length := (ssort_perm ns).length_eq
theorem ve_lzip {α β : Type} {g : Gl} {a b : E} {ρ : Env} {m : M (List α)} {n : M (List β)} {k k' : Kd} {f : α → D} {h : β → D} (h1 : VE g a ρ m (en k (eT f))) (h2 : VE g b ρ n (en k' (eT h))) : VE g (.lzip a b) ρ (bnd m fun x => bnd n fun y => ret (x.zip y)) (en .fr (eL (eP (rC f (r1 h))))) :=
  ⟨by rw [ev]; exact le_mb h1.get fun x => le_mb h2.get fun y => le_ret fun t => (by show opt (some (⟨.fr, .list (zipD (x.map f) (y.map h))⟩ : R)) t = _; rw [zipD_map]; rfl)⟩
end Q
namespace Q
open PySem
/-! ### a law's own look whether two values are the same, with a list of what waits -/
def swTest : T := .cmp .ne (.var 2) (.lst .nil)
def swD1 : SS := (.cons (.ite (.or (.cons (.not (.val (.isa .dict (.var 3)))) (.cons (.cmp .ne (.blt .len (.cons (.var 3) .nil)) (.blt .len (.cons (.var 4) .nil))) (.cons (.cmp .ne (.lc [6] (.var 6) (.nm 6) (.seq (.var 4)) (.so (.cmp .nin (.var 6) (.var 3)))) (.lst .nil)) .nil)))) (.cons (.ret (.cst (.bool false))) .nil) .nil) (.cons (.asg (.nm 5) (.blt .dict (.cons (.lc [6] (.tup (.cons (.var 6) (.cons (.var 6) .nil))) (.nm 6) (.seq (.var 3)) .no) .nil))) (.cons (.ext 2 (.bin .add (.lc [6] (.tup (.cons (.ix (.var 3) (.var 6)) (.cons (.ix (.var 4) (.var 6)) .nil))) (.nm 6) (.seq (.var 4)) .no) (.lc [6] (.tup (.cons (.ix (.var 5) (.var 6)) (.cons (.var 6) .nil))) (.nm 6) (.seq (.var 4)) .no))) .nil)))
def swT1 : SS := (.cons (.ite (.or (.cons (.cmp .ne (.isa .tuple (.var 3)) (.isa .tuple (.var 4))) (.cons (.cmp .ne (.isa .list (.var 3)) (.isa .list (.var 4))) (.cons (.cmp .ne (.blt .len (.cons (.var 3) .nil)) (.blt .len (.cons (.var 4) .nil))) .nil)))) (.cons (.ret (.cst (.bool false))) .nil) .nil) (.cons (.ext 2 (.lc [7] (.tup (.cons (.ix (.var 3) (.var 7)) (.cons (.ix (.var 4) (.var 7)) .nil))) (.nm 7) (.rng1 (.blt .len (.cons (.var 4) .nil))) .no)) .nil))
def swS1 : SS := (.cons (.ite (.or (.cons (.cmp .ne (.isa .bool (.var 3)) (.isa .bool (.var 4))) (.cons (.cmp .ne (.isa .int (.var 3)) (.isa .int (.var 4))) (.cons (.cmp .ne (.isa .str (.var 3)) (.isa .str (.var 4))) (.cons (.cmp .ne (.var 3) (.var 4)) .nil))))) (.cons (.ret (.cst (.bool false))) .nil) .nil) .nil)
def swBody : SS := (.cons (.popl (.tp [(.nm 3), (.nm 4)]) 2) (.cons (.ite (.val (.isa .dict (.var 4))) swD1 (.cons (.ite (.or (.cons (.val (.isa .tuple (.var 4))) (.cons (.val (.isa .list (.var 4))) .nil))) swT1 swS1) .nil)) .nil))
def bd_law_same3 (i : Nat) : SS := (.cons (.asg (.nm 2) (.lst (.cons (.tup (.cons (.var 0) (.cons (.var 1) .nil))) .nil))) (.cons (.whl swTest swBody) (.cons (.ret (.cst (.bool true))) .nil)))
mutual
def wt : D → Nat
  | .tuple ds => 1 + wts ds
  | .list _ => 1
  | .dict _ => 1
  | .none => 1
  | .bool _ => 1
  | .int _ => 1
  | .str _ => 1
def wts : List D → Nat
  | [] => 0
  | d :: ds => wt d + wts ds
end
theorem wt_pos (d : D) : 1 ≤ wt d := by cases d <;> simp [wt]
theorem wts_app : ∀ (xs ys : List D), wts (xs ++ ys) = wts xs + wts ys
  | [], ys => by simp [wts]
  | x :: xs, ys => by
    rw [List.cons_append, wts, wts, wts_app xs ys]
    omega
theorem wts_len : ∀ (xs : List D), xs.length ≤ wts xs
  | [] => Nat.le_refl _
  | x :: xs => by
    rw [wts, List.length_cons]
    have := wt_pos x
    have := wts_len xs
    omega
def pair (d : D) : D := .tuple [d, d]
def kids : D → List D
  | .tuple ds => ds
  | _ => []
def swE (a : D) (xs : List D) (u v : Sl) : Env := [.sh a, .sh a, .ow (.list (xs.map pair)), u, v, .un, .un, .un]
theorem sw_lc {g : Gl} {xs : List D} {a : D} {w : D} {t : Nat} (hl : xs.length ≤ lim) :
    ev g (.lc [7] (.tup (.cons (.ix (.var 3) (.var 7)) (.cons (.ix (.var 4) (.var 7)) .nil))) (.nm 7) (.rng1 (.blt .len (.cons (.var 4) .nil))) .no) [.sh a, .sh a, .ow w, .sh (.tuple xs), .sh (.tuple xs), .un, .un, .un] t = some (⟨.fr, .list (xs.map pair)⟩, t) := by
  have hi : evI g (.rng1 (.blt .len (.cons (.var 4) .nil))) [.sh a, .sh a, .ow w, .sh (.tuple xs), .sh (.tuple xs), .un, .un, .un] t = some ((true, (irange 0 xs.length).map .int), t) := by
    rw [← rangeL_eq]
    have : lim = 16777216 := rfl
    exact it_rng1 (by simp only [↓Q.exec, ↓ev, ↓evL, ↓evT, ↓evO, ↓evI, ↓bnd_ap, ↓opt_ap, ↓bol_ap, ↓ite_ap, ↓lstR_ap, ↓tupR_ap, Q.ret, getS, List.getElem?_cons_succ, List.getElem?_cons_zero, op_add, op_sub, op_mod, op_fdiv, Int.reduceLT, shd, bltD, store, shared, Q.bind1, Q.bindL, Option.bind_some, List.set_cons_succ, List.set_cons_zero, Bool.or_true, Bool.true_or, Bool.and_self, decide_true, op_mulRi, op_mulLi, op_mulR, op_mulL, Int.reduceNeg, List.mapM_nil, List.mapM_cons, Option.pure_def, Option.bind_eq_bind, List.length_nil, lim, Nat.zero_le, ↓reduceIte, List.length_cons, Nat.reduceAdd, Nat.reduceLeDiff, ↓Q.execs, ↓evAnd, ↓evOr, ↓evTA, ↓evTR, ↓evTO, callKd_nil, callKd_sh, callKd_fr, cp_lt, cp_le, cp_gt, cp_ge, cp_eqI, cp_neI, cp_isB, tru, entry, endR, backR, List.map_cons, List.map_nil, List.replicate, List.cons_append, List.nil_append, Nat.reduceSub, ixD, atI_0, atI_1, atI_2, atI_3, Option.map_some, intOf, Nat.sub_self, retS, storesM, List.all_cons, List.all_nil, Option.isSome_some, Bool.and_true, Bool.true_and, reduceCtorEq, ↓callKd_nil, backR, List.all_cons, op_sub, List.mapM_cons, Bool.not_true, Bool.not_false, Bool.false_eq_true, Bool.true_eq_false, decide_false, eq_self, slD]; rfl) (rng_ok (by omega) (by omega))
  have := ev_lcI (vs := [7]) (elt := (.tup (.cons (.ix (.var 3) (.var 7)) (.cons (.ix (.var 4) (.var 7)) .nil)))) (tg := .nm 7) (cond := .no) hi (fun _ => true) (fun n => pair (xs.getD n.toNat .none)) (fun n hn => by
    obtain ⟨h1, h2⟩ := mem_irange.mp hn
    have h3 : n.toNat < xs.length := by omega
    have hx : L2.atI xs n = some xs[n.toNat] := by
      have := L2.atI_nat (List.getElem?_eq_getElem h3)
      rwa [show ((n.toNat : Nat) : Int) = n by omega] at this
    simp only [lcB, wipeE, ↓Q.exec, ↓ev, ↓evL, ↓evT, ↓evO, ↓evI, ↓bnd_ap, ↓opt_ap, ↓bol_ap, ↓ite_ap, ↓lstR_ap, ↓tupR_ap, Q.ret, getS, List.getElem?_cons_succ, List.getElem?_cons_zero, op_add, op_sub, op_mod, op_fdiv, Int.reduceLT, shd, bltD, store, shared, Q.bind1, Q.bindL, Option.bind_some, List.set_cons_succ, List.set_cons_zero, Bool.or_true, Bool.true_or, Bool.and_self, decide_true, op_mulRi, op_mulLi, op_mulR, op_mulL, Int.reduceNeg, List.mapM_nil, List.mapM_cons, Option.pure_def, Option.bind_eq_bind, List.length_nil, lim, Nat.zero_le, ↓reduceIte, List.length_cons, Nat.reduceAdd, Nat.reduceLeDiff, ↓Q.execs, ↓evAnd, ↓evOr, ↓evTA, ↓evTR, ↓evTO, callKd_nil, callKd_sh, callKd_fr, cp_lt, cp_le, cp_gt, cp_ge, cp_eqI, cp_neI, cp_isB, tru, entry, endR, backR, List.map_cons, List.map_nil, List.replicate, List.cons_append, List.nil_append, Nat.reduceSub, ixD, atI_0, atI_1, atI_2, atI_3, Option.map_some, intOf, Nat.sub_self, retS, storesM, List.all_cons, List.all_nil, Option.isSome_some, Bool.and_true, Bool.true_and, reduceCtorEq, ↓callKd_nil, backR, List.all_cons, op_sub, List.mapM_cons, Bool.not_true, Bool.not_false, Bool.false_eq_true, Bool.true_eq_false, decide_false, eq_self, slD, hx, pair, List.getD_eq_getElem?_getD, List.getElem?_eq_getElem h3, Option.getD_some]) (by
    rw [irange_len]
    omega)
  rw [this, List.filter_eq_self.mpr fun _ _ => rfl]
  congr 4
  refine List.ext_getElem (by rw [List.length_map, List.length_map, irange_len]; omega) fun i h1 h2 => ?_
  rw [List.getElem_map, List.getElem_map]
  rw [List.length_map] at h1 h2
  have e := (irange_get (List.getElem?_eq_getElem h1)).1
  rw [e, show (0 + (i : Int)).toNat = i by omega, List.getD_eq_getElem?_getD, List.getElem?_eq_getElem h2]
  rfl
theorem sw_body {g : Gl} {a d : D} {xs : List D} {u v : Sl} {t : Nat} (ht : tre d = true) (hd : d.depth ≤ 20) (hl : xs.length + (kids d).length ≤ lim) :
    execs g swBody (swE a (xs ++ [d]) u v) t = some (.nx (swE a (xs ++ kids d) (.sh d) (.sh d)), t) := by
  have hok : okD d = true := by
    unfold okD
    rw [tre_plain _ d (Nat.le_refl _) ht, Bool.true_and]
    exact decide_eq_true (by omega)
  have hne := cp_ne_self hok
  have hb : ∀ p, cpD .ne (.bool p) (.bool p) = some false := fun p => cp_ne_self rfl
  have hp : popD (swE a (xs ++ [d]) u v) 2 = some (pair d, [.sh a, .sh a, .ow (.list (xs.map pair)), u, v, .un, .un, .un]) := by
    unfold popD swE
    simp only [List.getElem?_cons_succ, List.getElem?_cons_zero, List.map_append, List.map_cons, List.map_nil, List.length_append, List.length_map, List.length_cons, List.length_nil, List.dropLast_concat, List.set_cons_succ, List.set_cons_zero]
    rw [List.getElem?_append_right (by simp)]
    simp
  unfold swBody
  cases d with
  | list _ => simp [tre] at ht
  | dict _ => simp [tre] at ht
  | tuple ds =>
    rw [tre, Bool.and_eq_true, decide_eq_true_eq] at ht
    have hlc := sw_lc (g := g) (xs := ds) (a := a) (w := .list (xs.map pair)) (t := t) ht.1
    have hn : cpD .ne (.int ((ds.length : Nat) : Int)) (.int ((ds.length : Nat) : Int)) = some false := cp_ne_self rfl
    have hx : extD [.sh a, .sh a, .ow (.list (xs.map pair)), .sh (.tuple ds), .sh (.tuple ds), .un, .un, .un] 2 ⟨.fr, .list (ds.map pair)⟩ = some [.sh a, .sh a, .ow (.list ((xs ++ ds).map pair)), .sh (.tuple ds), .sh (.tuple ds), .un, .un, .un] := by
      show (if (xs.map pair).length + (ds.map pair).length ≤ lim then some _ else none) = _
      rw [if_pos (by rw [List.length_map, List.length_map]; exact hl), List.map_append]
      rfl
    simp only [↓Q.exec, ↓ev, ↓evL, ↓evT, ↓evO, ↓evI, ↓bnd_ap, ↓opt_ap, ↓bol_ap, ↓ite_ap, ↓lstR_ap, ↓tupR_ap, Q.ret, getS, List.getElem?_cons_succ, List.getElem?_cons_zero, op_add, op_sub, op_mod, op_fdiv, Int.reduceLT, shd, bltD, store, shared, Q.bind1, Q.bindL, Option.bind_some, List.set_cons_succ, List.set_cons_zero, Bool.or_true, Bool.true_or, Bool.and_self, decide_true, op_mulRi, op_mulLi, op_mulR, op_mulL, Int.reduceNeg, List.mapM_nil, List.mapM_cons, Option.pure_def, Option.bind_eq_bind, List.length_nil, lim, Nat.zero_le, ↓reduceIte, List.length_cons, Nat.reduceAdd, Nat.reduceLeDiff, ↓Q.execs, ↓evAnd, ↓evOr, ↓evTA, ↓evTR, ↓evTO, callKd_nil, callKd_sh, callKd_fr, cp_lt, cp_le, cp_gt, cp_ge, cp_eqI, cp_neI, cp_isB, tru, entry, endR, backR, List.map_cons, List.map_nil, List.replicate, List.cons_append, List.nil_append, Nat.reduceSub, ixD, atI_0, atI_1, atI_2, atI_3, Option.map_some, intOf, Nat.sub_self, retS, storesM, List.all_cons, List.all_nil, Option.isSome_some, Bool.and_true, Bool.true_and, reduceCtorEq, ↓callKd_nil, backR, List.all_cons, op_sub, List.mapM_cons, Bool.not_true, Bool.not_false, Bool.false_eq_true, Bool.true_eq_false, decide_false, eq_self, slD, hp, pair, isaD, swT1, hb, hn, ↓hlc, hx]
    rfl
  | none =>
    simp only [↓Q.exec, ↓ev, ↓evL, ↓evT, ↓evO, ↓evI, ↓bnd_ap, ↓opt_ap, ↓bol_ap, ↓ite_ap, ↓lstR_ap, ↓tupR_ap, Q.ret, getS, List.getElem?_cons_succ, List.getElem?_cons_zero, op_add, op_sub, op_mod, op_fdiv, Int.reduceLT, shd, bltD, store, shared, Q.bind1, Q.bindL, Option.bind_some, List.set_cons_succ, List.set_cons_zero, Bool.or_true, Bool.true_or, Bool.and_self, decide_true, op_mulRi, op_mulLi, op_mulR, op_mulL, Int.reduceNeg, List.mapM_nil, List.mapM_cons, Option.pure_def, Option.bind_eq_bind, List.length_nil, lim, Nat.zero_le, ↓reduceIte, List.length_cons, Nat.reduceAdd, Nat.reduceLeDiff, ↓Q.execs, ↓evAnd, ↓evOr, ↓evTA, ↓evTR, ↓evTO, callKd_nil, callKd_sh, callKd_fr, cp_lt, cp_le, cp_gt, cp_ge, cp_eqI, cp_neI, cp_isB, tru, entry, endR, backR, List.map_cons, List.map_nil, List.replicate, List.cons_append, List.nil_append, Nat.reduceSub, ixD, atI_0, atI_1, atI_2, atI_3, Option.map_some, intOf, Nat.sub_self, retS, storesM, List.all_cons, List.all_nil, Option.isSome_some, Bool.and_true, Bool.true_and, reduceCtorEq, ↓callKd_nil, backR, List.all_cons, op_sub, List.mapM_cons, Bool.not_true, Bool.not_false, Bool.false_eq_true, Bool.true_eq_false, decide_false, eq_self, slD, hp, pair, isaD, swS1, hb, hne]
    simp [swE, kids, pair]
  | bool b =>
    simp only [↓Q.exec, ↓ev, ↓evL, ↓evT, ↓evO, ↓evI, ↓bnd_ap, ↓opt_ap, ↓bol_ap, ↓ite_ap, ↓lstR_ap, ↓tupR_ap, Q.ret, getS, List.getElem?_cons_succ, List.getElem?_cons_zero, op_add, op_sub, op_mod, op_fdiv, Int.reduceLT, shd, bltD, store, shared, Q.bind1, Q.bindL, Option.bind_some, List.set_cons_succ, List.set_cons_zero, Bool.or_true, Bool.true_or, Bool.and_self, decide_true, op_mulRi, op_mulLi, op_mulR, op_mulL, Int.reduceNeg, List.mapM_nil, List.mapM_cons, Option.pure_def, Option.bind_eq_bind, List.length_nil, lim, Nat.zero_le, ↓reduceIte, List.length_cons, Nat.reduceAdd, Nat.reduceLeDiff, ↓Q.execs, ↓evAnd, ↓evOr, ↓evTA, ↓evTR, ↓evTO, callKd_nil, callKd_sh, callKd_fr, cp_lt, cp_le, cp_gt, cp_ge, cp_eqI, cp_neI, cp_isB, tru, entry, endR, backR, List.map_cons, List.map_nil, List.replicate, List.cons_append, List.nil_append, Nat.reduceSub, ixD, atI_0, atI_1, atI_2, atI_3, Option.map_some, intOf, Nat.sub_self, retS, storesM, List.all_cons, List.all_nil, Option.isSome_some, Bool.and_true, Bool.true_and, reduceCtorEq, ↓callKd_nil, backR, List.all_cons, op_sub, List.mapM_cons, Bool.not_true, Bool.not_false, Bool.false_eq_true, Bool.true_eq_false, decide_false, eq_self, slD, hp, pair, isaD, swS1, hb, hne]
    simp [swE, kids, pair]
  | int b =>
    simp only [↓Q.exec, ↓ev, ↓evL, ↓evT, ↓evO, ↓evI, ↓bnd_ap, ↓opt_ap, ↓bol_ap, ↓ite_ap, ↓lstR_ap, ↓tupR_ap, Q.ret, getS, List.getElem?_cons_succ, List.getElem?_cons_zero, op_add, op_sub, op_mod, op_fdiv, Int.reduceLT, shd, bltD, store, shared, Q.bind1, Q.bindL, Option.bind_some, List.set_cons_succ, List.set_cons_zero, Bool.or_true, Bool.true_or, Bool.and_self, decide_true, op_mulRi, op_mulLi, op_mulR, op_mulL, Int.reduceNeg, List.mapM_nil, List.mapM_cons, Option.pure_def, Option.bind_eq_bind, List.length_nil, lim, Nat.zero_le, ↓reduceIte, List.length_cons, Nat.reduceAdd, Nat.reduceLeDiff, ↓Q.execs, ↓evAnd, ↓evOr, ↓evTA, ↓evTR, ↓evTO, callKd_nil, callKd_sh, callKd_fr, cp_lt, cp_le, cp_gt, cp_ge, cp_eqI, cp_neI, cp_isB, tru, entry, endR, backR, List.map_cons, List.map_nil, List.replicate, List.cons_append, List.nil_append, Nat.reduceSub, ixD, atI_0, atI_1, atI_2, atI_3, Option.map_some, intOf, Nat.sub_self, retS, storesM, List.all_cons, List.all_nil, Option.isSome_some, Bool.and_true, Bool.true_and, reduceCtorEq, ↓callKd_nil, backR, List.all_cons, op_sub, List.mapM_cons, Bool.not_true, Bool.not_false, Bool.false_eq_true, Bool.true_eq_false, decide_false, eq_self, slD, hp, pair, isaD, swS1, hb, hne]
    simp [swE, kids, pair]
  | str b =>
    simp only [↓Q.exec, ↓ev, ↓evL, ↓evT, ↓evO, ↓evI, ↓bnd_ap, ↓opt_ap, ↓bol_ap, ↓ite_ap, ↓lstR_ap, ↓tupR_ap, Q.ret, getS, List.getElem?_cons_succ, List.getElem?_cons_zero, op_add, op_sub, op_mod, op_fdiv, Int.reduceLT, shd, bltD, store, shared, Q.bind1, Q.bindL, Option.bind_some, List.set_cons_succ, List.set_cons_zero, Bool.or_true, Bool.true_or, Bool.and_self, decide_true, op_mulRi, op_mulLi, op_mulR, op_mulL, Int.reduceNeg, List.mapM_nil, List.mapM_cons, Option.pure_def, Option.bind_eq_bind, List.length_nil, lim, Nat.zero_le, ↓reduceIte, List.length_cons, Nat.reduceAdd, Nat.reduceLeDiff, ↓Q.execs, ↓evAnd, ↓evOr, ↓evTA, ↓evTR, ↓evTO, callKd_nil, callKd_sh, callKd_fr, cp_lt, cp_le, cp_gt, cp_ge, cp_eqI, cp_neI, cp_isB, tru, entry, endR, backR, List.map_cons, List.map_nil, List.replicate, List.cons_append, List.nil_append, Nat.reduceSub, ixD, atI_0, atI_1, atI_2, atI_3, Option.map_some, intOf, Nat.sub_self, retS, storesM, List.all_cons, List.all_nil, Option.isSome_some, Bool.and_true, Bool.true_and, reduceCtorEq, ↓callKd_nil, backR, List.all_cons, op_sub, List.mapM_cons, Bool.not_true, Bool.not_false, Bool.false_eq_true, Bool.true_eq_false, decide_false, eq_self, slD, hp, pair, isaD, swS1, hb, hne]
    simp [swE, kids, pair]
theorem kids_ok {d : D} (ht : tre d = true) (hd : d.depth ≤ 20) : (∀ x, x ∈ kids d → tre x = true ∧ x.depth ≤ 20) ∧ wts (kids d) + 1 ≤ wt d := by
  cases d with
  | tuple ds =>
    rw [tre, Bool.and_eq_true] at ht
    rw [PyData.depth] at hd
    exact ⟨fun x hx => ⟨tres_mem ht.2 hx, Nat.le_trans (depth_mem (show x ∈ ds from hx)) (by omega)⟩, by show wts ds + 1 ≤ 1 + wts ds; omega⟩
  | _ => exact ⟨fun x hx => by simp [kids] at hx, by simp [kids, wt, wts]⟩
theorem plain_pairs : ∀ {xs : List D}, (∀ x, x ∈ xs → tre x = true ∧ x.depth ≤ 20) → PyData.plainAll (xs.map pair) = true ∧ PyData.depthAll (xs.map pair) ≤ 21
  | [], _ => ⟨rfl, Nat.zero_le _⟩
  | x :: xs, h => by
    obtain ⟨h1, h2⟩ := h x List.mem_cons_self
    obtain ⟨i1, i2⟩ := plain_pairs fun y hy => h y (List.mem_cons_of_mem _ hy)
    have hp := tre_plain _ x (Nat.le_refl _) h1
    rw [List.map_cons, PyData.plainAll, PyData.depthAll, i1]
    refine ⟨?_, ?_⟩
    · simp [pair, PyData.plain, PyData.plainAll, hp]
    · refine Nat.max_le.mpr ⟨?_, i2⟩
      simp [pair, PyData.depth, PyData.depthAll]
      omega
theorem sw_test {g : Gl} {a : D} {xs : List D} {u v : Sl} {t : Nat} (h : ∀ x, x ∈ xs → tre x = true ∧ x.depth ≤ 20) : evT g swTest (swE a xs u v) t = some (!xs.isEmpty, t) := by
  obtain ⟨h1, h2⟩ := plain_pairs h
  have : cpD .ne (.list (xs.map pair)) (.list []) = some (!xs.isEmpty) := by
    have o1 : okD (.list (xs.map pair)) = true := by
      unfold okD
      rw [PyData.plain, PyData.depth, h1, Bool.true_and]
      exact decide_eq_true (by omega)
    have o2 : okD (.list []) = true := rfl
    show (if okD _ = true ∧ okD _ = true then some (!PyData.eqv _ _) else none) = _
    rw [if_pos ⟨o1, o2⟩]
    cases xs <;> simp [PyData.eqv, PyData.eqvAll]
  unfold swTest swE
  simp only [↓Q.exec, ↓ev, ↓evL, ↓evT, ↓evO, ↓evI, ↓bnd_ap, ↓opt_ap, ↓bol_ap, ↓ite_ap, ↓lstR_ap, ↓tupR_ap, Q.ret, getS, List.getElem?_cons_succ, List.getElem?_cons_zero, op_add, op_sub, op_mod, op_fdiv, Int.reduceLT, shd, bltD, store, shared, Q.bind1, Q.bindL, Option.bind_some, List.set_cons_succ, List.set_cons_zero, Bool.or_true, Bool.true_or, Bool.and_self, decide_true, op_mulRi, op_mulLi, op_mulR, op_mulL, Int.reduceNeg, List.mapM_nil, List.mapM_cons, Option.pure_def, Option.bind_eq_bind, List.length_nil, lim, Nat.zero_le, ↓reduceIte, List.length_cons, Nat.reduceAdd, Nat.reduceLeDiff, ↓Q.execs, ↓evAnd, ↓evOr, ↓evTA, ↓evTR, ↓evTO, callKd_nil, callKd_sh, callKd_fr, cp_lt, cp_le, cp_gt, cp_ge, cp_eqI, cp_neI, cp_isB, tru, entry, endR, backR, List.map_cons, List.map_nil, List.replicate, List.cons_append, List.nil_append, Nat.reduceSub, ixD, atI_0, atI_1, atI_2, atI_3, Option.map_some, intOf, Nat.sub_self, retS, storesM, List.all_cons, List.all_nil, Option.isSome_some, Bool.and_true, Bool.true_and, reduceCtorEq, ↓callKd_nil, backR, List.all_cons, op_sub, List.mapM_cons, Bool.not_true, Bool.not_false, Bool.false_eq_true, Bool.true_eq_false, decide_false, eq_self, slD, this]
theorem sw_loop {g : Gl} {a : D} {t : Nat} : ∀ (n : Nat) (xs : List D) (u v : Sl), (∀ x, x ∈ xs → tre x = true ∧ x.depth ≤ 20) → wts xs ≤ 100000 → wts xs < n → ∃ u' v', whileM n (fun ρ => evT g swTest ρ) (fun ρ => execs g swBody ρ) (swE a xs u v) t = some (.nx (swE a [] u' v'), t)
  | 0, _, _, _, _, _, h => by omega
  | n + 1, xs, u, v, hx, hb, hn => by
    rw [whileM, bnd_ap, sw_test hx]
    rcases List.eq_nil_or_concat xs with rfl | ⟨ys, d, rfl⟩
    · exact ⟨u, v, rfl⟩
    · rw [List.concat_eq_append] at *
      obtain ⟨d1, d2⟩ := hx d (by simp)
      obtain ⟨k1, k2⟩ := kids_ok d1 d2
      rw [wts_app] at hb hn
      have e1 : wts [d] = wt d := by simp [wts]
      rw [e1] at hb hn
      have l1 := wts_len ys
      have l2 := wts_len (kids d)
      have hl : lim = 16777216 := rfl
      have hbody := sw_body (g := g) (a := a) (d := d) (xs := ys) (u := u) (v := v) (t := t) d1 d2 (by omega)
      obtain ⟨u', v', e⟩ := sw_loop n (ys ++ kids d) (.sh d) (.sh d) (fun x q => by
        rcases List.mem_append.mp q with q | q
        · exact hx x (by simp [q])
        · exact k1 x q) (by rw [wts_app]; omega) (by rw [wts_app]; omega)
      refine ⟨u', v', ?_⟩
      have hne : (!(ys ++ [d]).isEmpty) = true := by cases ys <;> rfl
      simp only [hne, if_true]
      rw [bnd_ap, hbody]
      exact e
def sameW {α : Type} [DecidableEq α] (f : α → D) (x y : α) : M Bool := fun t => if x = y ∧ tre (f x) = true ∧ wt (f x) ≤ 100000 then some (true, t) else none
theorem sameW_eq {α : Type} [DecidableEq α] {f : α → D} {x : α} (h : tre (f x) = true) (k : wt (f x) ≤ 100000) : sameW f x x = ret true := by
  funext t
  show (if x = x ∧ _ then some (true, t) else none) = _
  rw [if_pos ⟨rfl, h, k⟩]
theorem same3_le {α : Type} [DecidableEq α] {f : α → D} {n : Nat} {fns : Nat → Option Fn} {ds : List Int} {i : Nat} (hf : fns i = some ⟨2, 8, bd_law_same3 i⟩) (e : EqC' f n) (hn : n ≤ 9) {k : Nat} {x y : α} : Le (mp (en .sh eB) (sameW f x y)) (callF fns ds (k + 1) i [f x, f y]) := by
  refine le_of fun t b t' q => ?_
  unfold sameW at q
  split at q
  · rename_i hxy
    cases q
    obtain ⟨rfl, h1, h2⟩ := hxy
    have hd : (f x).depth ≤ 20 := Nat.le_trans (e.dp x) (by omega)
    rw [callF_fn hf rfl]
    obtain ⟨u', v', hw⟩ := sw_loop (g := ⟨ds, callF fns ds k⟩) (a := f x) (t := t) big [f x] .un .un (fun y hy => by
      rw [List.mem_singleton.mp hy]
      exact ⟨h1, hd⟩) (by simpa [wts] using h2) (by
      have : wts [f x] ≤ 100000 := by simpa [wts] using h2
      unfold big
      omega)
    have e0 : swE (f x) [f x] .un .un = [.sh (f x), .sh (f x), .ow (.list [.tuple [f x, f x]]), .un, .un, .un, .un, .un] := rfl
    rw [e0] at hw
    simp only [bd_law_same3, ↓Q.exec, ↓ev, ↓evL, ↓evT, ↓evO, ↓evI, ↓bnd_ap, ↓opt_ap, ↓bol_ap, ↓ite_ap, ↓lstR_ap, ↓tupR_ap, Q.ret, getS, List.getElem?_cons_succ, List.getElem?_cons_zero, op_add, op_sub, op_mod, op_fdiv, Int.reduceLT, shd, bltD, store, shared, Q.bind1, Q.bindL, Option.bind_some, List.set_cons_succ, List.set_cons_zero, Bool.or_true, Bool.true_or, Bool.and_self, decide_true, op_mulRi, op_mulLi, op_mulR, op_mulL, Int.reduceNeg, List.mapM_nil, List.mapM_cons, Option.pure_def, Option.bind_eq_bind, List.length_nil, lim, Nat.zero_le, ↓reduceIte, List.length_cons, Nat.reduceAdd, Nat.reduceLeDiff, ↓Q.execs, ↓evAnd, ↓evOr, ↓evTA, ↓evTR, ↓evTO, callKd_nil, callKd_sh, callKd_fr, cp_lt, cp_le, cp_gt, cp_ge, cp_eqI, cp_neI, cp_isB, tru, entry, endR, backR, List.map_cons, List.map_nil, List.replicate, List.cons_append, List.nil_append, Nat.reduceSub, ixD, atI_0, atI_1, atI_2, atI_3, Option.map_some, intOf, Nat.sub_self, retS, storesM, List.all_cons, List.all_nil, Option.isSome_some, Bool.and_true, Bool.true_and, reduceCtorEq, ↓callKd_nil, backR, List.all_cons, op_sub, List.mapM_cons, Bool.not_true, Bool.not_false, Bool.false_eq_true, Bool.true_eq_false, decide_false, eq_self, slD, ↓hw]
  · cases q
end Q
namespace Q
open PySem
theorem b_min3 {k k' k2 : Kd} {a b c : Int} : Le (mp (en .sh eI) (ret (min (min a b) c))) (opt (bltD .min3 [en k eI a, en k' eI b, en k2 eI c])) := le_ret fun t => by
  show opt (some (shd (.int (min3I a b c)))) t = _
  rw [show min3I a b c = min (min a b) c by unfold min3I; rw [Int.min_def, Int.min_def]; split <;> split <;> split <;> omega]
  rfl
/-! ### dicts keyed by tuples, typed -/
structure KeyR {α : Type} (r : α → List D) (dk : α → List DK) : Prop where
  of : ∀ k, kOfs (r k) = some (dk k)
  inj : ∀ a b, dk a = dk b → a = b
structure KeyU {κ : Type} (f : κ → D) (dk : κ → List DK) : Prop where
  of : ∀ k, kOfT (f k) = some (dk k)
  inj : ∀ a b, dk a = dk b → a = b
theorem kOfs_cons {d : D} {x : DK} {ds : List D} {ks : List DK} (h : kOf d = some x) (h2 : kOfs ds = some ks) : kOfs (d :: ds) = some (x :: ks) := by
  rw [kOfs, h, Option.bind_some, h2]
  rfl
theorem kr1 {α : Type} {f : α → D} {dk : α → DK} (K : KeyC f dk) : KeyR (r1 f) (fun x => [dk x]) := ⟨fun x => kOfs_cons (K.of x) rfl, fun a b e => K.inj a b (List.cons.inj e).1⟩
theorem krC {α β : Type} {f : α → D} {dk : α → DK} {r : β → List D} {dr : β → List DK} (K : KeyC f dk) (R : KeyR r dr) : KeyR (rC f r) (fun x => dk x.1 :: dr x.2) :=
  ⟨fun x => kOfs_cons (K.of x.1) (R.of x.2), fun a b e => Prod.ext (K.inj _ _ (List.cons.inj e).1) (R.inj _ _ (List.cons.inj e).2)⟩
theorem kuP {α : Type} {r : α → List D} {dr : α → List DK} (R : KeyR r dr) : KeyU (eP r) dr := ⟨R.of, R.inj⟩
theorem kuT {α : Type} {f : α → D} {dk : α → DK} (K : KeyC f dk) : KeyU (eT f) (fun xs => xs.map dk) := by
  refine ⟨fun xs => ?_, fun a => ?_⟩
  · show kOfs (xs.map f) = _
    induction xs with
    | nil => rfl
    | cons x xs ih => exact kOfs_cons (K.of x) ih
  · induction a with
    | nil =>
      intro b e
      cases b with
      | nil => rfl
      | cons y b => cases e
    | cons x a ih =>
      intro b e
      cases b with
      | nil => cases e
      | cons y b => rw [K.inj _ _ (List.cons.inj e).1, ih b (List.cons.inj e).2]
theorem kTos_of : ∀ {ds : List D} {ks : List DK}, kOfs ds = some ks → ks.map kTo = ds
  | [], ks, e => by
    cases e
    rfl
  | d :: ds, ks, e => by
    rw [kOfs] at e
    obtain ⟨k, ek, e⟩ := Option.bind_eq_some_iff.mp e
    obtain ⟨ks', e1, rfl⟩ := Option.map_eq_some_iff.mp e
    rw [List.map_cons, kTo_of ek, kTos_of e1]
theorem kOfT_to {d : D} {ks : List DK} (e : kOfT d = some ks) : .tuple (ks.map kTo) = d ∧ kOf d = none := by
  cases d <;> try cases e
  exact ⟨by rw [kTos_of e], rfl⟩
def eU {κ β : Type} (f : κ → D) (h : β → D) (kvs : List (κ × β)) : D := .dict ((.none, .bool true) :: kvs.map fun p => (f p.1, h p.2))
instance {κ β : Type} {f : κ → D} {h : β → D} : NN (eU f h) := ⟨fun _ h => nomatch h⟩
def entU {κ β : Type} (dk : κ → List DK) (h : β → D) (kvs : List (κ × β)) : List (List DK × D) := kvs.map fun p => (dk p.1, h p.2)
section
variable {κ β γ α : Type} {f : κ → D} {h : β → D} {dk : κ → List DK} {k k' : Kd}
theorem KeyU.ents (K : KeyU f dk) : ∀ kvs : List (κ × β), entsT (kvs.map fun p => (f p.1, h p.2)) = some (entU dk h kvs)
  | [] => rfl
  | p :: r => by
    rw [List.map_cons, entsT, K.of, Option.bind_some, K.ents r]
    rfl
theorem KeyU.uents (K : KeyU f dk) (kvs : List (κ × β)) : uEnts ((.none, .bool true) :: kvs.map fun p => (f p.1, h p.2)) = some (entU dk h kvs) := K.ents kvs
theorem KeyU.unU (K : KeyU f dk) (kvs : List (κ × β)) : Q.unU (entU dk h kvs) = (.none, .bool true) :: kvs.map fun p => (f p.1, h p.2) := by
  unfold Q.unU entU
  rw [List.map_map]
  refine congrArg _ (List.map_congr_left fun p _ => ?_)
  show ((PyData.tuple ((dk p.1).map kTo) : D), h p.2) = _
  rw [(kOfT_to (K.of p.1)).1]
variable [DecidableEq κ]
theorem KeyU.put (K : KeyU f dk) (kvs : List (κ × β)) (x : κ) (v : β) : dPut (entU dk h kvs) (dk x) (h v) = entU dk h (dputT kvs x v) := by
  have hd : ∀ y : κ, decide (dk y = dk x) = decide (y = x) := fun y => decide_eq_decide.mpr ⟨K.inj _ _, fun e => by rw [e]⟩
  have ha : (entU dk h kvs).any (fun p => decide (p.1 = dk x)) = kvs.any fun p => decide (p.1 = x) := by
    unfold entU
    rw [List.any_map]
    congr 1
    funext p
    exact hd p.1
  unfold dPut dputT
  rw [ha]
  split
  · unfold entU
    rw [List.map_map, List.map_map]
    refine List.map_congr_left fun p _ => ?_
    by_cases e : p.1 = x
    · simp [e]
    · have e2 : dk p.1 ≠ dk x := fun z => e (K.inj _ _ z)
      simp [e, e2]
  · unfold entU
    rw [List.map_append]
    rfl
theorem KeyU.val (K : KeyU f dk) (x : κ) : ∀ kvs : List (κ × β), dVal (entU dk h kvs) (dk x) = (dval kvs x).map h
  | [] => rfl
  | p :: r => by
    have ih := K.val x r
    unfold dVal dval entU at *
    rw [List.map_cons, List.find?_cons, List.find?_cons]
    by_cases e : p.1 = x
    · rw [show decide ((dk p.1, h p.2).1 = dk x) = true by simp [e], show decide (p.1 = x) = true by simp [e]]
      rfl
    · rw [show decide ((dk p.1, h p.2).1 = dk x) = false by simp only [decide_eq_false_iff_not]; exact fun z => e (K.inj _ _ z), show decide (p.1 = x) = false by simp [e]]
      exact ih
theorem ixD_U (K : KeyU f dk) (kvs : List (κ × β)) (x : κ) : ixD (eU f h kvs) (f x) = (dval kvs x).map h := by
  show kOr (kOf (f x)) _ ((kOfT (f x)).bind fun k => (uEnts ((.none, .bool true) :: kvs.map fun p => (f p.1, h p.2))).bind fun es => dVal es k) = _
  rw [(kOfT_to (K.of x)).2]
  show ((kOfT (f x)).bind _) = _
  rw [K.of, Option.bind_some, K.uents, Option.bind_some, K.val]
theorem i_U (K : KeyU f dk) {kvs : List (κ × β)} {x : κ} : Le (mp h (datM kvs x)) (opt (ixD (eU f h kvs) (f x))) := le_of fun t z t' q => by
  rw [ixD_U K]
  unfold datM opt at q
  cases e : dval kvs x with
  | none => rw [e] at q; cases q
  | some y => rw [e] at q; cases q; rfl
theorem inD_U (K : KeyU f dk) (kvs : List (κ × β)) (x : κ) : inD (f x) (eU f h kvs) = some (dhas kvs x) := by
  show kOr (kOf (f x)) _ ((kOfT (f x)).bind fun k => (uEnts ((.none, .bool true) :: kvs.map fun p => (f p.1, h p.2))).map fun es => (dVal es k).isSome) = _
  rw [(kOfT_to (K.of x)).2]
  show ((kOfT (f x)).bind _) = _
  rw [K.of, Option.bind_some, K.uents, Option.map_some, K.val, Option.isSome_map]
  rfl
theorem c_inU (K : KeyU f dk) {kvs : List (κ × β)} {x : κ} : CpOk .inn (f x) (eU f h kvs) (ret (dhas kvs x)) := cp_ret (inD_U K kvs x)
theorem c_ninU (K : KeyU f dk) {kvs : List (κ × β)} {x : κ} : CpOk .nin (f x) (eU f h kvs) (ret (!dhas kvs x)) := cp_ret (by
  show (inD (f x) (eU f h kvs)).map (!·) = _
  rw [inD_U K]
  rfl)
variable {g : Gl} {a b c e : E} {ρ : Env} {es : EL}
omit [DecidableEq κ] in
theorem ve_unew : VE g .unew ρ (ret ([] : List (κ × β))) (en .fr (eU f h)) := ⟨by rw [ev]; exact le_ret fun t => rfl⟩
variable {m : M α} {r : α → R} {rest : SS} {i : Nat} {F : γ → Fl} {kvs : List (κ × β)}
theorem putD_U (K : KeyU f dk) {x : κ} {v : β} (h0 : ρ[i]? = some (.ow (eU f h kvs))) (hl : kvs.length < lim) : putD ρ i (f x) (h v) = some (ρ.set i (.ow (eU f h (dputT kvs x v)))) := by
  have e : putD ρ i (f x) (h v) = kOr (kOf (f x)) (fun k => (entries ((.none, .bool true) :: kvs.map fun p => (f p.1, h p.2))).bind fun es => if es.length < lim then some (ρ.set i (.ow (.dict (unent (dPut es k (h v)))))) else none) ((kOfT (f x)).bind fun k => (uEnts ((.none, .bool true) :: kvs.map fun p => (f p.1, h p.2))).bind fun es => if es.length < lim then some (ρ.set i (.ow (.dict (Q.unU (dPut es k (h v)))))) else none) := by
    unfold putD
    rw [h0]
    rfl
  rw [e, (kOfT_to (K.of x)).2]
  show ((kOfT (f x)).bind _) = _
  rw [K.of, Option.bind_some, K.uents, Option.bind_some, if_pos (by unfold entU; rw [List.length_map]; exact hl), K.put, K.unU]
  rfl
theorem x_putU {m : M β} {r : β → R} {ki : E} {mi : M κ} {hh : List (κ × β) → M γ} (K : KeyU f dk) (h0 : ρ[i]? = some (.ow (eU f h kvs))) (hv : VE g e ρ m r) (hs : ∀ v, shared (r v) = some (h v)) (hk : VE g ki ρ mi (en k' f)) (kk : ∀ ys, X g rest (ρ.set i (.ow (eU f h ys))) (hh ys) F) :
    X g (.cons (.put i ki e) rest) ρ (bnd m fun v => bnd mi fun j => bnd (dputM kvs j v) hh) F := by
  have : (bnd m fun v => bnd mi fun j => bnd (dputM kvs j v) hh) = bnd (bnd m fun v => bnd mi fun j => dputM kvs j v) hh := by simp only [bnd_bnd]
  rw [this]
  refine le_cons (G := fun ys => .nx (ρ.set i (.ow (eU f h ys)))) (le_of fun t w t' q => ?_) fun w => (kk w).get
  obtain ⟨v, t1, e1, q⟩ := bnd_inv q
  obtain ⟨j, t2, e2, e3⟩ := bnd_inv q
  rw [Q.exec, bnd_ap, hv.get.at e1]
  show bnd (opt (shared (r v))) _ t1 = _
  rw [hs]
  show bnd (ev g ki ρ) _ t1 = _
  rw [bnd_ap, hk.get.at e2]
  show bnd (opt (putD ρ i (f j) (h v))) _ t2 = _
  unfold dputM at e3
  split at e3
  · rename_i hl
    cases e3
    rw [putD_U K h0 hl]
    rfl
  · cases e3
end
end Q
namespace K11
open PySem PySem.Spec L2 Q
def topS (i : Nat) : Stmt := PySem.Challenge.pw_loadwarrant_k11_storms_of_tries.main.body.getD i (.Pass ⟨0, 0, 0, 0⟩)
def fs : List Str := ["_law_tick", "_law_run", "step", "run_storm", "lost_work", "_law_run", "goes_round", "_law_round", "ends_storm", "_law_ends", "least_storm", "greatest_new"]
/-- _law_tick: 0=service 1=back 2=tick 3=new 4=come 5=taken 6=done -/
def bd0 : SS := (.cons (.asg (.nm 4) (.bin .add (.dget2 (.var 1) (.var 2) (.cst (.int 0))) (.var 3))) (.cons (.asg (.nm 5) (.blt .min2 (.cons (.var 4) (.cons (.ix (.var 0) (.cst (.int 0))) .nil)))) (.cons (.asg (.nm 6) (.blt .min2 (.cons (.var 5) (.cons (.ite (.cmp .le (.var 4) (.ix (.var 0) (.cst (.int 2)))) (.ix (.var 0) (.cst (.int 1))) (.bin .fdiv (.ix (.var 0) (.cst (.int 1))) (.cst (.int 2)))) .nil)))) (.cons (.ret (.tup (.cons (.var 6) (.cons (.bin .sub (.var 4) (.var 6)) .nil)))) .nil))))
def fn0 : Fn := ⟨4, 7, bd0⟩
/-- _law_run: 0=service 1=state 2=news 3=back 4=rows 5=tick 6=done 7=rest 8=k -/
def bd1 : SS := (.cons (.asg (.nm 3) (.blt .dict (.cons (.lc [8] (.tup (.cons (.var 8) (.cons (.ix (.var 1) (.var 8)) .nil))) (.nm 8) (.rng1 (.blt .len (.cons (.var 1) .nil))) .no) .nil))) (.cons (.asg (.nm 4) (.lst .nil)) (.kil [true, true, true, true, true, false, false, false] (.cons (.frr (.nm 5) (.rng1 (.blt .len (.cons (.var 2) .nil))) (.cons (.asg (.tp [(.nm 6), (.nm 7)]) (.call 0 (.cons (.var 0) (.cons (.var 3) (.cons (.var 5) (.cons (.ix (.var 2) (.var 5)) .nil)))))) (.cons (.put 3 (.bin .add (.var 5) (.blt .len (.cons (.var 1) .nil))) (.bin .add (.dget2 (.var 3) (.bin .add (.var 5) (.blt .len (.cons (.var 1) .nil))) (.cst (.int 0))) (.var 7))) (.cons (.app 4 (.tup (.cons (.var 6) (.cons (.var 7) (.cons (.blt .tuple (.cons (.lc [8] (.dget2 (.var 3) (.bin .add (.bin .add (.var 5) (.cst (.int 1))) (.var 8)) (.cst (.int 0))) (.nm 8) (.rng1 (.blt .len (.cons (.var 1) .nil))) .no) .nil)) .nil))))) (.kil [true, true, true, true, true, false, false, false] .nil))))) (.cons (.retv 4) .nil)))))
def fn1 : Fn := ⟨3, 9, bd1⟩
/-- step: 0=service 1=state 2=new 3=room 4=done 5=slow 6=come 7=able 8=now -/
def bd2 : SS := (.cons (.asg (.tp [(.nm 3), (.nm 4), (.nm 5)]) (.var 0)) (.cons (.asg (.nm 6) (.bin .add (.ix (.var 1) (.cst (.int 0))) (.var 2))) (.cons (.asg (.nm 7) (.ite (.cmp .le (.var 6) (.var 5)) (.var 4) (.bin .fdiv (.var 4) (.cst (.int 2))))) (.cons (.asg (.nm 8) (.blt .min3 (.cons (.var 6) (.cons (.var 3) (.cons (.var 7) .nil))))) (.cons (.ret (.tup (.cons (.var 8) (.cons (.bin .add (.sl (.var 1) (.so (.cst (.int 1))) .no) (.tup (.cons (.bin .sub (.var 6) (.var 8)) .nil))) .nil)))) .nil)))))
def fn2 : Fn := ⟨3, 9, bd2⟩
/-- run_storm: 0=service 1=state 2=news 3=found 4=new 5=done -/
def bd3 : SS := (.cons (.asg (.nm 3) (.lst .nil)) (.kil [true, true, true, true, false, false] (.cons (.frr (.nm 4) (.seq (.var 2)) (.cons (.asg (.tp [(.nm 5), (.nm 1)]) (.call 2 (.cons (.var 0) (.cons (.var 1) (.cons (.var 4) .nil))))) (.cons (.app 3 (.var 5)) (.kil [true, true, true, true, false, false] .nil)))) (.cons (.ret (.blt .tuple (.cons (.var 3) .nil))) .nil))))
def fn3 : Fn := ⟨3, 6, bd3⟩
/-- lost_work: 0=service 1=state 2=news 3=found 4=new 5=_ -/
def bd4 : SS := (.cons (.asg (.nm 3) (.cst (.int 0))) (.kil [true, true, true, true, false, false] (.cons (.frr (.nm 4) (.seq (.var 2)) (.cons (.asg (.tp [(.nm 5), (.nm 1)]) (.call 2 (.cons (.var 0) (.cons (.var 1) (.cons (.var 4) .nil))))) (.cons (.aug 3 .add (.ix (.var 1) (.neg (.cst (.int 1))))) (.kil [true, true, true, true, false, false] .nil)))) (.cons (.retv 3) .nil))))
def fn4 : Fn := ⟨3, 6, bd4⟩
/-- _law_run: 0=service 1=state 2=news 3=back 4=rows 5=tick 6=done 7=rest 8=k -/
def bd5 : SS := (.cons (.asg (.nm 3) (.blt .dict (.cons (.lc [8] (.tup (.cons (.var 8) (.cons (.ix (.var 1) (.var 8)) .nil))) (.nm 8) (.rng1 (.blt .len (.cons (.var 1) .nil))) .no) .nil))) (.cons (.asg (.nm 4) (.lst .nil)) (.kil [true, true, true, true, true, false, false, false] (.cons (.frr (.nm 5) (.rng1 (.blt .len (.cons (.var 2) .nil))) (.cons (.asg (.tp [(.nm 6), (.nm 7)]) (.call 0 (.cons (.var 0) (.cons (.var 3) (.cons (.var 5) (.cons (.ix (.var 2) (.var 5)) .nil)))))) (.cons (.put 3 (.bin .add (.var 5) (.blt .len (.cons (.var 1) .nil))) (.bin .add (.dget2 (.var 3) (.bin .add (.var 5) (.blt .len (.cons (.var 1) .nil))) (.cst (.int 0))) (.var 7))) (.cons (.app 4 (.tup (.cons (.var 6) (.cons (.var 7) (.cons (.blt .tuple (.cons (.lc [8] (.dget2 (.var 3) (.bin .add (.bin .add (.var 5) (.cst (.int 1))) (.var 8)) (.cst (.int 0))) (.nm 8) (.rng1 (.blt .len (.cons (.var 1) .nil))) .no) .nil)) .nil))))) (.kil [true, true, true, true, true, false, false, false] .nil))))) (.cons (.retv 4) .nil)))))
def fn5 : Fn := ⟨3, 9, bd5⟩
/-- goes_round: 0=service 1=state 2=new 3=most 4=seen 5=row 6=steps -/
def bd6 : SS := (.cons (.par [.tg (.nm 4), .tg (.nm 5), .tg (.nm 6)] (.cons .unew (.cons (.lst .nil) (.cons (.cst (.int 0)) .nil)))) (.cons (.whl (.cmp .nin (.var 1) (.var 4)) (.cons (.ite (.cmp .gt (.blt .sum (.cons (.var 1) .nil)) (.var 3)) (.cons (.ret (.tup (.cons (.cst (.str "grows")) (.cons (.var 6) .nil)))) .nil) .nil) (.cons (.put 4 (.var 1) (.var 6)) (.cons (.app 5 (.var 1)) (.cons (.asg (.nm 1) (.ix (.call 2 (.cons (.var 0) (.cons (.var 1) (.cons (.var 2) .nil)))) (.cst (.int 1)))) (.cons (.aug 6 .add (.cst (.int 1))) .nil)))))) (.cons (.ret (.tup (.cons (.cst (.str "round")) (.cons (.ix (.var 4) (.var 1)) (.cons (.blt .tuple (.cons (.sl (.var 5) (.so (.ix (.var 4) (.var 1))) .no) .nil)) .nil))))) .nil)))
def fn6 : Fn := ⟨4, 7, bd6⟩
/-- _law_round: 0=service 1=state 2=new 3=most 4=row 5=later 6=at -/
def bd7 : SS := (.cons (.asg (.nm 4) (.lst (.cons (.var 1) .nil))) (.kil [true, false, true, true, true, false, false] (.cons (.whl (.val (.cst (.bool true))) (.cons (.ite (.cmp .gt (.blt .sum (.cons (.ix (.var 4) (.neg (.cst (.int 1)))) .nil)) (.var 3)) (.cons (.ret (.tup (.cons (.cst (.str "grows")) (.cons (.bin .sub (.blt .len (.cons (.var 4) .nil)) (.cst (.int 1))) .nil)))) .nil) .nil) (.cons (.asg (.nm 5) (.ix (.ix (.call 5 (.cons (.var 0) (.cons (.ix (.var 4) (.neg (.cst (.int 1)))) (.cons (.tup (.cons (.var 2) .nil)) .nil)))) (.cst (.int 0))) (.cst (.int 2)))) (.cons (.ite (.cmp .inn (.var 5) (.var 4)) (.cons (.asg (.nm 6) (.mth .index (.var 4) (.var 5))) (.cons (.ret (.tup (.cons (.cst (.str "round")) (.cons (.var 6) (.cons (.blt .tuple (.cons (.sl (.var 4) (.so (.var 6)) .no) .nil)) .nil))))) .nil)) .nil) (.cons (.app 4 (.var 5)) (.kil [true, false, true, true, true, false, false] .nil)))))) .nil)))
def fn7 : Fn := ⟨4, 7, bd7⟩
/-- ends_storm: 0=service 1=state 2=new 3=most 4=told 5=own -/
def bd8 : SS := (.cons (.asg (.nm 4) (.call 6 (.cons (.var 0) (.cons (.var 1) (.cons (.var 2) (.cons (.var 3) .nil)))))) (.cons (.ret (.land (.cons (.cmp .eq (.ix (.var 4) (.cst (.int 0))) (.cst (.str "round"))) (.cons (.blt .all (.cons (.lc [5] (.cmp .eq (.blt .sum (.cons (.var 5) .nil)) (.cst (.int 0))) (.nm 5) (.seq (.ix (.var 4) (.cst (.int 2)))) .no) .nil)) .nil)))) .nil))
def fn8 : Fn := ⟨4, 6, bd8⟩
/-- _law_ends: 0=service 1=state 2=new 3=most 4=told 5=own -/
def bd9 : SS := (.cons (.asg (.nm 4) (.call 7 (.cons (.var 0) (.cons (.var 1) (.cons (.var 2) (.cons (.var 3) .nil)))))) (.cons (.ret (.land (.cons (.cmp .eq (.ix (.var 4) (.cst (.int 0))) (.cst (.str "round"))) (.cons (.cmp .eq (.lc [5] (.var 5) (.nm 5) (.seq (.ix (.var 4) (.cst (.int 2)))) (.so (.cmp .gt (.blt .sum (.cons (.var 5) .nil)) (.cst (.int 0))))) (.lst .nil)) .nil)))) .nil))
def fn9 : Fn := ⟨4, 6, bd9⟩
/-- least_storm: 0=service 1=wait 2=new 3=most 4=many -/
def bd10 : SS := (.kil [true, true, true, true, false] (.cons (.frr (.nm 4) (.rng1 (.bin .add (.var 3) (.cst (.int 1)))) (.cons (.ite (.not (.val (.call 8 (.cons (.var 0) (.cons (.bin .add (.tup (.cons (.var 4) .nil)) (.bin .mul (.tup (.cons (.cst (.int 0)) .nil)) (.bin .sub (.var 1) (.cst (.int 1))))) (.cons (.var 2) (.cons (.var 3) .nil))))))) (.cons (.retv 4) .nil) .nil) (.kil [true, true, true, true, false] .nil))) (.cons (.ret (.cst .none)) .nil)))
def fn10 : Fn := ⟨4, 5, bd10⟩
/-- greatest_new: 0=service 1=wait 2=most 3=calm 4=new -/
def bd11 : SS := (.cons (.asg (.nm 3) (.bin .mul (.tup (.cons (.cst (.int 0)) .nil)) (.var 1))) (.cons (.ret (.blt .max1 (.cons (.bin .add (.lst (.cons (.cst (.int 0)) .nil)) (.lc [4] (.var 4) (.nm 4) (.rng1 (.bin .add (.var 2) (.cst (.int 1)))) (.so (.cmp .eq (.ix (.call 2 (.cons (.var 0) (.cons (.var 3) (.cons (.var 4) .nil)))) (.cst (.int 1))) (.var 3))))) .nil))) .nil))
def fn11 : Fn := ⟨3, 5, bd11⟩
def bL : SS := (.kil [false] (.kil [false, true, false, false, false, false, false, false, false, false, false, false, false, false] (.cons (.frr (.nm 2) (.rng1 (.cst (.int 4))) (.cons (.asg (.nm 3) (.tup (.cons (.bin .add (.cst (.int 1)) (.nxt 1 (.cst (.int 5)))) (.cons (.bin .add (.cst (.int 1)) (.nxt 1 (.cst (.int 4)))) (.cons (.bin .add (.cst (.int 1)) (.nxt 1 (.cst (.int 6)))) .nil))))) (.cons (.par [.tg (.nm 4), .tg (.nm 5), .tg (.nm 6)] (.cons (.bin .add (.cst (.int 1)) (.nxt 1 (.cst (.int 3)))) (.cons (.nxt 1 (.cst (.int 4))) (.cons (.bin .add (.cst (.int 4)) (.nxt 1 (.cst (.int 8)))) .nil)))) (.cons (.asg (.nm 7) (.blt .tuple (.cons (.lc [15] (.nxt 1 (.cst (.int 4))) (.nm 15) (.rng1 (.var 4)) .no) .nil))) (.cons (.asg (.nm 8) (.blt .tuple (.cons (.lc [15] (.nxt 1 (.cst (.int 4))) (.nm 15) (.rng1 (.nxt 1 (.cst (.int 7)))) .no) .nil))) (.cons (.asg (.nm 9) (.call 1 (.cons (.var 3) (.cons (.var 7) (.cons (.var 8) .nil))))) (.cons (.ite (.or (.cons (.cmp .ne (.call 3 (.cons (.var 3) (.cons (.var 7) (.cons (.var 8) .nil)))) (.blt .tuple (.cons (.lc [16, 17, 18] (.var 16) (.tp [(.nm 16), (.nm 17), (.nm 18)]) (.seq (.var 9)) .no) .nil))) (.cons (.cmp .ne (.call 4 (.cons (.var 3) (.cons (.var 7) (.cons (.var 8) .nil)))) (.blt .sum (.cons (.lc [16, 17, 18] (.var 17) (.tp [(.nm 16), (.nm 17), (.nm 18)]) (.seq (.var 9)) .no) .nil))) .nil))) (.cons (.ret (.cst (.bool false))) .nil) .nil) (.cons (.asg (.nm 10) (.ix (.call 5 (.cons (.var 3) (.cons (.var 7) (.cons (.tup (.cons (.var 5) .nil)) .nil)))) (.cst (.int 0)))) (.cons (.ite (.or (.cons (.cmp .ne (.call 2 (.cons (.var 3) (.cons (.var 7) (.cons (.var 5) .nil)))) (.tup (.cons (.ix (.var 10) (.cst (.int 0))) (.cons (.ix (.var 10) (.cst (.int 2))) .nil)))) (.cons (.cmp .ne (.call 6 (.cons (.var 3) (.cons (.var 7) (.cons (.var 5) (.cons (.var 6) .nil))))) (.call 7 (.cons (.var 3) (.cons (.var 7) (.cons (.var 5) (.cons (.var 6) .nil)))))) .nil))) (.cons (.ret (.cst (.bool false))) .nil) .nil) (.cons (.ite (.cmp .ne (.call 8 (.cons (.var 3) (.cons (.var 7) (.cons (.var 5) (.cons (.var 6) .nil))))) (.call 9 (.cons (.var 3) (.cons (.var 7) (.cons (.var 5) (.cons (.var 6) .nil)))))) (.cons (.ret (.cst (.bool false))) .nil) .nil) (.cons (.asg (.nm 11) (.lc [14] (.var 14) (.nm 14) (.rng1 (.bin .add (.var 6) (.cst (.int 1)))) (.so (.not (.val (.call 9 (.cons (.var 3) (.cons (.bin .add (.tup (.cons (.var 14) .nil)) (.bin .mul (.tup (.cons (.cst (.int 0)) .nil)) (.bin .sub (.var 4) (.cst (.int 1))))) (.cons (.var 5) (.cons (.var 6) .nil)))))))))) (.cons (.ite (.cmp .ne (.call 10 (.cons (.var 3) (.cons (.var 4) (.cons (.var 5) (.cons (.var 6) .nil))))) (.ite (.cmp .ne (.var 11) (.lst .nil)) (.ix (.var 11) (.cst (.int 0))) (.cst .none))) (.cons (.ret (.cst (.bool false))) .nil) .nil) (.cons (.asg (.nm 12) (.bin .mul (.tup (.cons (.cst (.int 0)) .nil)) (.var 4))) (.cons (.asg (.nm 13) (.lc [14] (.var 14) (.nm 14) (.rng1 (.bin .add (.var 6) (.cst (.int 1)))) (.so (.cmp .eq (.ix (.ix (.call 5 (.cons (.var 3) (.cons (.var 12) (.cons (.tup (.cons (.var 14) .nil)) .nil)))) (.cst (.int 0))) (.cst (.int 2))) (.var 12))))) (.cons (.ite (.cmp .ne (.call 11 (.cons (.var 3) (.cons (.var 4) (.cons (.var 6) .nil)))) (.blt .max1 (.cons (.var 13) .nil))) (.cons (.ret (.cst (.bool false))) .nil) .nil) (.kil [false, true, false, false, false, false, false, false, false, false, false, false, false, false] .nil)))))))))))))))) (.cons (.ret (.cst (.bool true))) .nil))))
def fns : Nat → Option Fn
  | 0 => some fn0
  | 1 => some fn1
  | 2 => some fn2
  | 3 => some fn3
  | 4 => some fn4
  | 5 => some fn5
  | 6 => some fn6
  | 7 => some fn7
  | 8 => some fn8
  | 9 => some fn9
  | 10 => some fn10
  | 11 => some fn11
  | _ => none
def l_tick (service : (Int × Int × Int)) (back : (List (Int × Int))) (tick : Int) (new : Int) : M (Int × Int) :=
  bnd (ret (((dval back tick).getD (0 : Int)) + new)) fun (come : Int) =>
  bnd (ret (min come service.1)) fun (taken : Int) =>
  bnd (bnd (if decide (come ≤ service.2.2) then ret service.2.1 else fdivM service.2.1 (2 : Int)) fun (p5 : Int) => ret (min taken p5)) fun (done : Int) =>
  ret (done, (come - done))
def l_run (service : (Int × Int × Int)) (state : (List Int)) (news : (List Int)) : M (List (Int × Int × (List Int))) :=
  bnd (bnd (bnd (rngM 0 (state.length : Int)) fun (p2 : (List Int)) => bnd (mapM' p2 (fun (k_ : Int) => bnd (atM state k_) fun (p1 : Int) => ret (k_, p1))) smM) fun (p3 : (List (Int × Int))) => dicM p3) fun (back : (List (Int × Int))) =>
  bnd (ret ([] : (List (Int × Int × (List Int))))) fun (rows : (List (Int × Int × (List Int)))) =>
  bnd (rngM 0 (news.length : Int)) fun (p13 : (List Int)) => bnd (forS p13 (fun (tick : Int) (s4 : ((List (Int × Int)) × (List (Int × Int × (List Int))))) =>
  bnd (bnd (atM news tick) fun (p5 : Int) => l_tick service s4.1 tick p5) fun (p7 : (Int × Int)) =>
  bnd (dputM s4.1 (tick + (state.length : Int)) (((dval s4.1 (tick + (state.length : Int))).getD (0 : Int)) + p7.2)) fun (back : (List (Int × Int))) =>
  bnd (bnd (bnd (bnd (rngM 0 (state.length : Int)) fun (p8 : (List Int)) => smM (p8.map (fun (k_ : Int) => (dval back ((tick + (1 : Int)) + k_)).getD (0 : Int)))) fun (p9 : (List Int)) => ret p9) fun (p10 : (List Int)) => ret (p7.1, p7.2, p10)) fun (p11 : (Int × Int × (List Int))) => bnd (appM s4.2 p11) fun (rows : (List (Int × Int × (List Int)))) =>
  ret (back, rows)) ((back, rows) : ((List (Int × Int)) × (List (Int × Int × (List Int)))))) fun (s12 : ((List (Int × Int)) × (List (Int × Int × (List Int))))) =>
  ret s12.2
def f_step (service : (Int × Int × Int)) (state : (List Int)) (new : Int) : M (Int × (List Int)) :=
  bnd (ret service) fun (p1 : (Int × Int × Int)) =>
  bnd (bnd (atM state (0 : Int)) fun (p2 : Int) => ret (p2 + new)) fun (come : Int) =>
  bnd (if decide (come ≤ p1.2.2) then ret p1.2.1 else fdivM p1.2.1 (2 : Int)) fun (able : Int) =>
  bnd (ret (min (min come p1.1) able)) fun (now : Int) =>
  bnd (catM' (cut state (some (1 : Int)) none) [(come - now)]) fun (p4 : (List Int)) => ret (now, p4)
def f_run_storm (service : (Int × Int × Int)) (state : (List Int)) (news : (List Int)) : M (List Int) :=
  bnd (ret ([] : (List Int))) fun (found : (List Int)) =>
  bnd (forS news (fun (new : Int) (s1 : ((List Int) × (List Int))) =>
  bnd (f_step service s1.1 new) fun (p3 : (Int × (List Int))) =>
  bnd (appM s1.2 p3.1) fun (found : (List Int)) =>
  ret (p3.2, found)) ((state, found) : ((List Int) × (List Int)))) fun (s4 : ((List Int) × (List Int))) =>
  ret s4.2
def f_lost_work (service : (Int × Int × Int)) (state : (List Int)) (news : (List Int)) : M Int :=
  bnd (ret (0 : Int)) fun (found : Int) =>
  bnd (forS news (fun (new : Int) (s1 : ((List Int) × Int)) =>
  bnd (f_step service s1.1 new) fun (p3 : (Int × (List Int))) =>
  bnd (atM p3.2 (-(1 : Int))) fun (p4 : Int) => bnd (ret (s1.2 + p4)) fun (found : Int) =>
  ret (p3.2, found)) ((state, found) : ((List Int) × Int))) fun (s6 : ((List Int) × Int)) =>
  ret s6.2
def l_run_2 (service : (Int × Int × Int)) (state : (List Int)) (news : (Int)) : M (List (Int × Int × (List Int))) :=
  bnd (bnd (bnd (rngM 0 (state.length : Int)) fun (p2 : (List Int)) => bnd (mapM' p2 (fun (k_ : Int) => bnd (atM state k_) fun (p1 : Int) => ret (k_, p1))) smM) fun (p3 : (List (Int × Int))) => dicM p3) fun (back : (List (Int × Int))) =>
  bnd (ret ([] : (List (Int × Int × (List Int))))) fun (rows : (List (Int × Int × (List Int)))) =>
  bnd (rngM 0 ([news].length : Int)) fun (p15 : (List Int)) => bnd (forS p15 (fun (tick : Int) (s4 : ((List (Int × Int)) × (List (Int × Int × (List Int))))) =>
  bnd (bnd (atM [news] tick) fun (p7 : Int) => l_tick service s4.1 tick p7) fun (p9 : (Int × Int)) =>
  bnd (dputM s4.1 (tick + (state.length : Int)) (((dval s4.1 (tick + (state.length : Int))).getD (0 : Int)) + p9.2)) fun (back : (List (Int × Int))) =>
  bnd (bnd (bnd (bnd (rngM 0 (state.length : Int)) fun (p10 : (List Int)) => smM (p10.map (fun (k_ : Int) => (dval back ((tick + (1 : Int)) + k_)).getD (0 : Int)))) fun (p11 : (List Int)) => ret p11) fun (p12 : (List Int)) => ret (p9.1, p9.2, p12)) fun (p13 : (Int × Int × (List Int))) => bnd (appM s4.2 p13) fun (rows : (List (Int × Int × (List Int)))) =>
  ret (back, rows)) ((back, rows) : ((List (Int × Int)) × (List (Int × Int × (List Int)))))) fun (s14 : ((List (Int × Int)) × (List (Int × Int × (List Int))))) =>
  ret s14.2
def f_goes_round (service : (Int × Int × Int)) (state : (List Int)) (new : Int) (most : Int) : M (List D) :=
  bnd (ret (([] : (List ((List Int) × D))), ([] : (List (List Int))), (0 : Int))) fun (p1 : ((List ((List Int) × D)) × (List (List Int)) × Int)) =>
  bnd (whlR big (fun (s2 : ((List Int) × (List ((List Int) × D)) × (List (List Int)) × Int)) => cpA .nin ((eT eI) s2.1) ((eU (eT eI) eD) s2.2.1)) (fun (s2 : ((List Int) × (List ((List Int) × D)) × (List (List Int)) × Int)) =>
  if decide (most < s2.1.sum) then
  ret (.rt [eS ((("grows" : Str), s2.2.2.2).1), eI ((("grows" : Str), s2.2.2.2).2)])
else
  bnd (dputM s2.2.1 s2.1 (eI s2.2.2.2)) fun (seen : (List ((List Int) × D))) =>
  bnd (appM s2.2.2.1 s2.1) fun (row : (List (List Int))) =>
  bnd (bnd (f_step service s2.1 new) fun (p10 : (Int × (List Int))) => ret p10.2) fun (state : (List Int)) =>
  bnd (ret (s2.2.2.2 + (1 : Int))) fun (steps : Int) =>
  ret (.nx (state, seen, row, steps))) ((state, p1.1, p1.2.1, p1.2.2) : ((List Int) × (List ((List Int) × D)) × (List (List Int)) × Int))) fun p19 => outC p19 (fun (s12 : ((List Int) × (List ((List Int) × D)) × (List (List Int)) × Int)) =>
  bnd (bnd (datM s12.2.1 s12.1) fun (p15 : D) => bnd (bnd (bnd (bnd (datM s12.2.1 s12.1) (decM gI)) fun (p13 : Int) => ret (cut s12.2.2.1 (some p13) none)) fun (p14 : (List (List Int))) => ret p14) fun (p16 : (List (List Int))) => ret (("round" : Str), p15, p16)) fun (p17 : (Str × D × (List (List Int)))) => ret [eS p17.1, eD p17.2.1, (eT (eT eI)) p17.2.2]) (fun (p18 : (List D)) => ret p18)
def l_round (service : (Int × Int × Int)) (state : (List Int)) (new : Int) (most : Int) : M (Option (List D)) :=
  bnd (ret [state]) fun (row : (List (List Int))) =>
  bnd (whlR big (fun (s2 : ((List (List Int)))) => ret true) (fun (s2 : ((List (List Int)))) =>
  bnd (bnd (bnd (atM s2 (-(1 : Int))) fun (p3 : (List Int)) => ret p3.sum) fun (p4 : Int) => ret (decide (most < p4))) fun (b : Bool) => if b then
  ret (.rt (some [eS ((("grows" : Str), ((s2.length : Int) - (1 : Int))).1), eI ((("grows" : Str), ((s2.length : Int) - (1 : Int))).2)]))
else
  bnd (bnd (bnd (bnd (atM s2 (-(1 : Int))) fun (p8 : (List Int)) => l_run_2 service p8 new) fun (p10 : (List (Int × Int × (List Int)))) => atM p10 (0 : Int)) fun (p12 : (Int × Int × (List Int))) => ret p12.2.2) fun (later : (List Int)) =>
  if memB later s2 then
  bnd (idxM s2 later) fun (at_ : Int) =>
  ret (.rt (some [eS ((("round" : Str), at_, (cut s2 (some at_) none)).1), eI ((("round" : Str), at_, (cut s2 (some at_) none)).2.1), (eT (eT eI)) ((("round" : Str), at_, (cut s2 (some at_) none)).2.2)]))
else
  bnd (appM s2 later) fun (row : (List (List Int))) =>
  ret (.nx row)) (row : ((List (List Int))))) fun p17 => outC p17 (fun (row : ((List (List Int)))) =>
  fail) (fun (p16 : (Option (List D))) => ret p16)
def f_ends_storm (service : (Int × Int × Int)) (state : (List Int)) (new : Int) (most : Int) : M Bool :=
  bnd (f_goes_round service state new most) fun (told : (List D)) =>
  bnd (bnd (atM told (0 : Int)) fun (p3 : D) => cpA .eq p3 (eS ("round" : Str))) fun (p9 : Bool) => if p9 then bnd (bnd (bnd (atM told (2 : Int)) fun (p4 : D) => seqA p4) fun (p7 : (List D)) => bnd (mapM' p7 (fun (own : D) => bnd (bnd (decM (gT gI) own) fun (p5 : (List Int)) => ret p5.sum) fun (p6 : Int) => ret (eqB p6 (0 : Int)))) smM) fun (p8 : (List Bool)) => ret (p8.all id) else ret false
def l_ends (service : (Int × Int × Int)) (state : (List Int)) (new : Int) (most : Int) : M Bool :=
  bnd (l_round service state new most) fun (told : (Option (List D))) =>
  bnd (bnd (bnd (unwM told) fun (p2 : (List D)) => atM p2 (0 : Int)) fun (p4 : D) => cpA .eq p4 (eS ("round" : Str))) fun (p15 : Bool) => if p15 then bnd (bnd (bnd (bnd (bnd (unwM told) fun (p5 : (List D)) => atM p5 (2 : Int)) fun (p6 : D) => seqA p6) fun (p11 : (List D)) => bnd (cmpM p11 (fun (own : D) => bnd (bnd (bnd (decM (gT gI) own) fun (p7 : (List Int)) => ret p7.sum) fun (p8 : Int) => ret (decide ((0 : Int) < p8))) fun (p10 : Bool) => if p10 then ret (some own) else ret none)) smM) fun (p12 : (List D)) => ret ((eL eD) p12)) fun (p14 : D) => cpA .eq p14 ((eL eD) ([] : (List D))) else ret false
def f_least_storm (service : (Int × Int × Int)) (wait : Int) (new : Int) (most : Int) : M (Option Int) :=
  bnd (rngM 0 (most + (1 : Int))) fun (p13 : (List Int)) => bnd (forR p13 (fun (many : Int) (s1 : Unit) =>
  bnd (bnd (bnd (bnd (repM [(0 : Int)] (wait - (1 : Int))) fun (p4 : (List Int)) => catM' [many] p4) fun (p5 : (List Int)) => f_ends_storm service p5 new most) fun (p7 : Bool) => ret (!p7)) fun (b : Bool) => if b then
  ret (.rt (some many))
else
  ret (.nx ())) (() : Unit)) fun p12 => outC p12 (fun (s9 : Unit) =>
  ret (none : (Option Int))) (fun (p11 : (Option Int)) => ret p11)
def f_greatest_new (service : (Int × Int × Int)) (wait : Int) (most : Int) : M Int :=
  bnd (repM [(0 : Int)] wait) fun (calm : (List Int)) =>
  bnd (bnd (bnd (rngM 0 (most + (1 : Int))) fun (p9 : (List Int)) => bnd (cmpM p9 (fun (new : Int) => bnd (bnd (bnd (f_step service calm new) fun (p5 : (Int × (List Int))) => ret p5.2) fun (p6 : (List Int)) => ret (eqB p6 calm)) fun (p8 : Bool) => if p8 then ret (some new) else ret none)) smM) fun (p10 : (List Int)) => catM' [(0 : Int)] p10) fun (p11 : (List Int)) => maxI p11
def the_law (ds : List Int) : M Bool :=
  bnd (rngM 0 (4 : Int)) fun (p82 : (List Int)) => bnd (forR p82 (fun (turn : Int) (s1 : Unit) =>
  bnd (bnd (bnd (nextD ds (5 : Int)) fun (p2 : Int) => ret ((1 : Int) + p2)) fun (p5 : Int) => bnd (bnd (nextD ds (4 : Int)) fun (p3 : Int) => ret ((1 : Int) + p3)) fun (p6 : Int) => bnd (bnd (nextD ds (6 : Int)) fun (p4 : Int) => ret ((1 : Int) + p4)) fun (p7 : Int) => ret (p5, p6, p7)) fun (service : (Int × Int × Int)) =>
  bnd (bnd (bnd (nextD ds (3 : Int)) fun (p8 : Int) => ret ((1 : Int) + p8)) fun (p11 : Int) => bnd (nextD ds (4 : Int)) fun (p12 : Int) => bnd (bnd (nextD ds (8 : Int)) fun (p9 : Int) => ret ((4 : Int) + p9)) fun (p13 : Int) => ret (p11, p12, p13)) fun (p10 : (Int × Int × Int)) =>
  bnd (bnd (bnd (rngM 0 p10.1) fun (p14 : (List Int)) => bnd (mapM' p14 (fun (k_ : Int) => nextD ds (4 : Int))) smM) fun (p15 : (List Int)) => ret p15) fun (state : (List Int)) =>
  bnd (bnd (bnd (bnd (nextD ds (7 : Int)) fun (p16 : Int) => rngM 0 p16) fun (p17 : (List Int)) => bnd (mapM' p17 (fun (k_ : Int) => nextD ds (4 : Int))) smM) fun (p18 : (List Int)) => ret p18) fun (news : (List Int)) =>
  bnd (l_run service state news) fun (rows : (List (Int × Int × (List Int)))) =>
  bnd (bnd (bnd (f_run_storm service state news) fun (p23 : (List Int)) => bnd (bnd (smM (rows.map (fun (p21 : (Int × Int × (List Int))) => p21.1))) fun (p22 : (List Int)) => ret p22) fun (p24 : (List Int)) => ret (!eqB p23 p24)) fun (p30 : Bool) => if p30 then ret true else bnd (f_lost_work service state news) fun (p28 : Int) => bnd (bnd (smM (rows.map (fun (p26 : (Int × Int × (List Int))) => p26.2.1))) fun (p27 : (List Int)) => ret p27.sum) fun (p29 : Int) => ret (!eqB p28 p29)) fun (b : Bool) => if b then
  ret (.rt false)
else
  bnd (bnd (l_run_2 service state p10.2.1) fun (p33 : (List (Int × Int × (List Int)))) => atM p33 (0 : Int)) fun (first : (Int × Int × (List Int))) =>
  bnd (bnd (bnd (f_step service state p10.2.1) fun (p37 : (Int × (List Int))) => ret (!eqB p37 (first.1, first.2.2))) fun (p44 : Bool) => if p44 then ret true else bnd (bnd (f_goes_round service state p10.2.1 p10.2.2) fun (p40 : (List D)) => ret ((eT eD) p40)) fun (p42 : D) => bnd (bnd (l_round service state p10.2.1 p10.2.2) fun (p41 : (Option (List D))) => ret ((eO (eT eD)) p41)) fun (p43 : D) => cpA .ne p42 p43) fun (b : Bool) => if b then
  ret (.rt false)
else
  bnd (bnd (f_ends_storm service state p10.2.1 p10.2.2) fun (p48 : Bool) => bnd (l_ends service state p10.2.1 p10.2.2) fun (p49 : Bool) => ret (!eqB p48 p49)) fun (b : Bool) => if b then
  ret (.rt false)
else
  bnd (bnd (rngM 0 (p10.2.2 + (1 : Int))) fun (p59 : (List Int)) => bnd (cmpM p59 (fun (many : Int) => bnd (bnd (bnd (bnd (repM [(0 : Int)] (p10.1 - (1 : Int))) fun (p53 : (List Int)) => catM' [many] p53) fun (p54 : (List Int)) => l_ends service p54 p10.2.1 p10.2.2) fun (p56 : Bool) => ret (!p56)) fun (p58 : Bool) => if p58 then ret (some many) else ret none)) smM) fun (able : (List Int)) =>
  bnd (bnd (f_least_storm service p10.1 p10.2.1 p10.2.2) fun (p63 : (Option Int)) => bnd (if !eqB able ([] : (List Int)) then bnd (atM able (0 : Int)) fun (p61 : Int) => ret (some p61) else ret (none : (Option Int))) fun (p64 : (Option Int)) => ret (!eqB p63 p64)) fun (b : Bool) => if b then
  ret (.rt false)
else
  bnd (repM [(0 : Int)] p10.1) fun (calm : (List Int)) =>
  bnd (bnd (rngM 0 (p10.2.2 + (1 : Int))) fun (p74 : (List Int)) => bnd (cmpM p74 (fun (many : Int) => bnd (bnd (bnd (bnd (l_run_2 service calm many) fun (p68 : (List (Int × Int × (List Int)))) => atM p68 (0 : Int)) fun (p70 : (Int × Int × (List Int))) => ret p70.2.2) fun (p71 : (List Int)) => ret (eqB p71 calm)) fun (p73 : Bool) => if p73 then ret (some many) else ret none)) smM) fun (good : (List Int)) =>
  bnd (bnd (f_greatest_new service p10.1 p10.2.2) fun (p76 : Int) => bnd (maxI good) fun (p77 : Int) => ret (!eqB p76 p77)) fun (b : Bool) => if b then
  ret (.rt false)
else
  ret (.nx ())) (() : Unit)) fun p81 => outC p81 (fun (s79 : Unit) =>
  ret true) (fun (p80 : Bool) => ret p80)
theorem W_l_tick {ds : List Int} (k : Nat) (service : (Int × Int × Int)) (back : (List (Int × Int))) (tick : Int) (new : Int) : Le (mp (en .sh (eP (rC eI (r1 eI)))) (l_tick service back tick new)) (callF fns ds (k + 1) 0 [(eP (rC eI (rC eI (r1 eI)))) service, (eM eI eI) back, eI tick, eI new]) :=
  fnT_ok (fn := fn0) rfl rfl (show X ⟨ds, callF fns ds (k + 0)⟩ bd0 [.sh ((eP (rC eI (rC eI (r1 eI)))) service), .sh ((eM eI eI) back), .sh (eI tick), .sh (eI new), .un, .un, .un] (bnd (ret (((dval back tick).getD (0 : Int)) + new)) fun (come : Int) =>
  bnd (ret (min come service.1)) fun (taken : Int) =>
  bnd (bnd (if decide (come ≤ service.2.2) then ret service.2.1 else fdivM service.2.1 (2 : Int)) fun (p5 : Int) => ret (min taken p5)) fun (done : Int) =>
  ret (done, (come - done))) (fun v => .rt ((en .sh (eP (rC eI (r1 eI)))) v)) from
  (x_is (x_env (ρ' := [.sh ((eP (rC eI (rC eI (r1 eI)))) service), .sh ((eM eI eI) back), .sh (eI tick), .sh (eI new), .un, .un, .un]) rfl (x_asg (r := (en .sh eI)) (ve_bin (ra := (en .sh eI)) (rb := (en .sh eI)) (ve_dget2 (r := (en .sh eI)) kI (ve_var (v := back) (r := (en .sh (eM eI eI))) rfl) (ve_var (v := tick) (r := (en .sh eI)) rfl) (ve_cst (v := (0 : Int)) (r := (en .sh eI)) rfl) (fun _ => rfl)) (ve_var (v := new) (r := (en .sh eI)) rfl) (fun _ _ => o_add)) (fun _ => rfl) fun (come : Int) => (x_env (ρ' := [.sh ((eP (rC eI (rC eI (r1 eI)))) service), .sh ((eM eI eI) back), .sh (eI tick), .sh (eI new), .sh (eI come), .un, .un]) rfl (x_asg (r := (en .sh eI)) (ve_blt (vl_cons (ve_var (v := come) (r := (en .sh eI)) rfl) (vl_one (ve_ixC (p := fun (p1 : (Int × Int × Int)) => p1.1) (f := eI) (ve_var (v := service) (r := (en .sh (eP (rC eI (rC eI (r1 eI)))))) rfl) (fun _ => rfl)))) (fun _ => b_min2)) (fun _ => rfl) fun (taken : Int) => (x_env (ρ' := [.sh ((eP (rC eI (rC eI (r1 eI)))) service), .sh ((eM eI eI) back), .sh (eI tick), .sh (eI new), .sh (eI come), .sh (eI taken), .un]) rfl (x_asg (r := (en .sh eI)) (ve_blt (vl_cons (ve_var (v := taken) (r := (en .sh eI)) rfl) (vl_one (ve_ite (r := (en .sh eI)) (vt_cmp (ra := (en .sh eI)) (rb := (en .sh eI)) (ve_var (v := come) (r := (en .sh eI)) rfl) (ve_ixC (p := fun (p2 : (Int × Int × Int)) => p2.2.2) (f := eI) (ve_var (v := service) (r := (en .sh (eP (rC eI (rC eI (r1 eI)))))) rfl) (fun _ => rfl)) (fun _ _ => c_le)) (ve_ixC (p := fun (p3 : (Int × Int × Int)) => p3.2.1) (f := eI) (ve_var (v := service) (r := (en .sh (eP (rC eI (rC eI (r1 eI)))))) rfl) (fun _ => rfl)) (ve_bin (ra := (en .sh eI)) (rb := (en .sh eI)) (ve_ixC (p := fun (p4 : (Int × Int × Int)) => p4.2.1) (f := eI) (ve_var (v := service) (r := (en .sh (eP (rC eI (rC eI (r1 eI)))))) rfl) (fun _ => rfl)) (ve_cst (v := (2 : Int)) (r := (en .sh eI)) rfl) (fun _ _ => o_fdiv))))) (fun _ => b_min2)) (fun _ => rfl) fun (done : Int) => (x_env (ρ' := [.sh ((eP (rC eI (rC eI (r1 eI)))) service), .sh ((eM eI eI) back), .sh (eI tick), .sh (eI new), .sh (eI come), .sh (eI taken), .sh (eI done)]) rfl (x_retF (r := (en .sh (eP (rC eI (r1 eI))))) (ve_tup (f := (rC eI (r1 eI))) (vl_cons (ve_var (v := done) (r := (en .sh eI)) rfl) (vl_one (ve_bin (ra := (en .sh eI)) (rb := (en .sh eI)) (ve_var (v := come) (r := (en .sh eI)) rfl) (ve_var (v := done) (r := (en .sh eI)) rfl) (fun _ _ => o_sub)))) (fun _ => rfl) (fun _ => lenle)) (fun _ => rfl) (fun _ => rfl))))))))) (by simp only [bnd_bnd, bnd_ret, if_true])))
theorem W_l_run {ds : List Int} (k : Nat) (service : (Int × Int × Int)) (state : (List Int)) (news : (List Int)) : Le (mp (en .fr (eL (eP (rC eI (rC eI (r1 (eT eI))))))) (l_run service state news)) (callF fns ds (k + 2) 1 [(eP (rC eI (rC eI (r1 eI)))) service, (eT eI) state, (eT eI) news]) :=
  fnT_ok (fn := fn1) rfl rfl (show X ⟨ds, callF fns ds (k + 1)⟩ bd1 [.sh ((eP (rC eI (rC eI (r1 eI)))) service), .sh ((eT eI) state), .sh ((eT eI) news), .un, .un, .un, .un, .un, .un] (bnd (bnd (bnd (rngM 0 (state.length : Int)) fun (p2 : (List Int)) => bnd (mapM' p2 (fun (k_ : Int) => bnd (atM state k_) fun (p1 : Int) => ret (k_, p1))) smM) fun (p3 : (List (Int × Int))) => dicM p3) fun (back : (List (Int × Int))) =>
  bnd (ret ([] : (List (Int × Int × (List Int))))) fun (rows : (List (Int × Int × (List Int)))) =>
  bnd (rngM 0 (news.length : Int)) fun (p13 : (List Int)) => bnd (forS p13 (fun (tick : Int) (s4 : ((List (Int × Int)) × (List (Int × Int × (List Int))))) =>
  bnd (bnd (atM news tick) fun (p5 : Int) => l_tick service s4.1 tick p5) fun (p7 : (Int × Int)) =>
  bnd (dputM s4.1 (tick + (state.length : Int)) (((dval s4.1 (tick + (state.length : Int))).getD (0 : Int)) + p7.2)) fun (back : (List (Int × Int))) =>
  bnd (bnd (bnd (bnd (rngM 0 (state.length : Int)) fun (p8 : (List Int)) => smM (p8.map (fun (k_ : Int) => (dval back ((tick + (1 : Int)) + k_)).getD (0 : Int)))) fun (p9 : (List Int)) => ret p9) fun (p10 : (List Int)) => ret (p7.1, p7.2, p10)) fun (p11 : (Int × Int × (List Int))) => bnd (appM s4.2 p11) fun (rows : (List (Int × Int × (List Int)))) =>
  ret (back, rows)) ((back, rows) : ((List (Int × Int)) × (List (Int × Int × (List Int)))))) fun (s12 : ((List (Int × Int)) × (List (Int × Int × (List Int))))) =>
  ret s12.2) (fun v => .rt ((en .fr (eL (eP (rC eI (rC eI (r1 (eT eI))))))) v)) from
  (x_is (x_env (ρ' := [.sh ((eP (rC eI (rC eI (r1 eI)))) service), .sh ((eT eI) state), .sh ((eT eI) news), .un, .un, .un, .un, .un, .un]) rfl (x_asg (r := (en .fr (eM eI eI))) (ve_blt (vl_one (ve_lcM (f := eI) (h := (eP (rC eI (r1 eI)))) (r := (en .sh (eP (rC eI (r1 eI))))) (vi_1 (ve_blt (vl_one (ve_var (v := state) (r := (en .sh (eT eI))) rfl)) (fun _ => b_lenT))) (fun _ => rfl) (fun (k_ : Int) => (ve_tup (f := (rC eI (r1 eI))) (vl_cons (ve_var (v := k_) (r := (en .sh eI)) rfl) (vl_one (ve_ix (ra := (en .sh (eT eI))) (rb := (en .sh eI)) (f := eI) (ve_var (v := state) (r := (en .sh (eT eI))) rfl) (ve_var (v := k_) (r := (en .sh eI)) rfl) (fun _ _ => i_T)))) (fun _ => rfl) (fun _ => lenle))) (fun _ => rfl))) (fun _ => b_dict kI)) (fun _ => rfl) fun (back : (List (Int × Int))) => (x_env (ρ' := [.sh ((eP (rC eI (rC eI (r1 eI)))) service), .sh ((eT eI) state), .sh ((eT eI) news), .ow ((eM eI eI) back), .un, .un, .un, .un, .un]) rfl (x_asg (r := (en .fr (eL (eP (rC eI (rC eI (r1 (eT eI)))))))) (ve_lst (f := (eP (rC eI (rC eI (r1 (eT eI)))))) (h' := fun (_ : Unit) => ([] : (List (Int × Int × (List Int))))) vl_nil (fun _ => rfl) (fun _ => Nat.zero_le _)) (fun _ => rfl) fun (rows : (List (Int × Int × (List Int)))) => (x_env (ρ' := [.sh ((eP (rC eI (rC eI (r1 eI)))) service), .sh ((eT eI) state), .sh ((eT eI) news), .ow ((eM eI eI) back), .ow ((eL (eP (rC eI (rC eI (r1 (eT eI)))))) rows), .un, .un, .un, .un]) rfl (x_kil rfl (x_forS (f := eI) (env := (fun (s4 : ((List (Int × Int)) × (List (Int × Int × (List Int))))) => [.sh ((eP (rC eI (rC eI (r1 eI)))) service), .sh ((eT eI) state), .sh ((eT eI) news), .ow ((eM eI eI) s4.1), .ow ((eL (eP (rC eI (rC eI (r1 (eT eI)))))) s4.2), .un, .un, .un, .un])) (s0 := ((back, rows) : ((List (Int × Int)) × (List (Int × Int × (List Int)))))) (vi_1 (ve_blt (vl_one (ve_var (v := news) (r := (en .sh (eT eI))) rfl)) (fun _ => b_lenT))) rfl (fun _ _ => rfl) (fun (tick : Int) (s4 : ((List (Int × Int)) × (List (Int × Int × (List Int))))) => (x_env (ρ' := [.sh ((eP (rC eI (rC eI (r1 eI)))) service), .sh ((eT eI) state), .sh ((eT eI) news), .ow ((eM eI eI) s4.1), .ow ((eL (eP (rC eI (rC eI (r1 (eT eI)))))) s4.2), .sh (eI tick), .un, .un, .un]) rfl (x_asg (r := (en .sh (eP (rC eI (r1 eI))))) (ve_call (F := fun (p6 : (Int × Int × Int) × (List (Int × Int)) × Int × Int) => l_tick p6.1 p6.2.1 p6.2.2.1 p6.2.2.2) (r := en .sh (eP (rC eI (r1 eI)))) (vl_cons (ve_var (v := service) (r := (en .sh (eP (rC eI (rC eI (r1 eI)))))) rfl) (vl_cons (ve_var (v := s4.1) (r := (en .pk (eM eI eI))) rfl) (vl_cons (ve_var (v := tick) (r := (en .sh eI)) rfl) (vl_one (ve_ix (ra := (en .sh (eT eI))) (rb := (en .sh eI)) (f := eI) (ve_var (v := news) (r := (en .sh (eT eI))) rfl) (ve_var (v := tick) (r := (en .sh eI)) rfl) (fun _ _ => i_T)))))) (fun p6 => W_l_tick (ds := ds) k p6.1 p6.2.1 p6.2.2.1 p6.2.2.2) (fun _ w => callKd_n rfl ((nP (nrC nI (nr1 nI))) w))) (fun _ => rfl) fun (p7 : (Int × Int)) => (x_env (ρ' := [.sh ((eP (rC eI (rC eI (r1 eI)))) service), .sh ((eT eI) state), .sh ((eT eI) news), .ow ((eM eI eI) s4.1), .ow ((eL (eP (rC eI (rC eI (r1 (eT eI)))))) s4.2), .sh (eI tick), .sh (eI p7.1), .sh (eI p7.2), .un]) rfl (x_putM (f := eI) (h := eI) (kvs := s4.1) kI rfl (ve_bin (ra := (en .sh eI)) (rb := (en .sh eI)) (ve_dget2 (r := (en .sh eI)) kI (ve_var (v := s4.1) (r := (en .pk (eM eI eI))) rfl) (ve_bin (ra := (en .sh eI)) (rb := (en .sh eI)) (ve_var (v := tick) (r := (en .sh eI)) rfl) (ve_blt (vl_one (ve_var (v := state) (r := (en .sh (eT eI))) rfl)) (fun _ => b_lenT)) (fun _ _ => o_add)) (ve_cst (v := (0 : Int)) (r := (en .sh eI)) rfl) (fun _ => rfl)) (ve_var (v := p7.2) (r := (en .sh eI)) rfl) (fun _ _ => o_add)) (fun _ => rfl) (ve_bin (ra := (en .sh eI)) (rb := (en .sh eI)) (ve_var (v := tick) (r := (en .sh eI)) rfl) (ve_blt (vl_one (ve_var (v := state) (r := (en .sh (eT eI))) rfl)) (fun _ => b_lenT)) (fun _ _ => o_add)) fun (back : (List (Int × Int))) => (x_env (ρ' := [.sh ((eP (rC eI (rC eI (r1 eI)))) service), .sh ((eT eI) state), .sh ((eT eI) news), .ow ((eM eI eI) back), .ow ((eL (eP (rC eI (rC eI (r1 (eT eI)))))) s4.2), .sh (eI tick), .sh (eI p7.1), .sh (eI p7.2), .un]) rfl (x_app (f := (eP (rC eI (rC eI (r1 (eT eI)))))) (xs := s4.2) (r := (en .sh (eP (rC eI (rC eI (r1 (eT eI))))))) rfl (ve_tup (f := (rC eI (rC eI (r1 (eT eI))))) (vl_cons (ve_var (v := p7.1) (r := (en .sh eI)) rfl) (vl_cons (ve_var (v := p7.2) (r := (en .sh eI)) rfl) (vl_one (ve_blt (vl_one (ve_lcA (f := eI) (h := eI) (r := (en .sh eI)) (v := fun (k_ : Int) => (dval back ((tick + (1 : Int)) + k_)).getD (0 : Int)) (vi_1 (ve_blt (vl_one (ve_var (v := state) (r := (en .sh (eT eI))) rfl)) (fun _ => b_lenT))) (fun _ => rfl) (fun (k_ : Int) => (ve_is (ve_dget2 (r := (en .sh eI)) kI (ve_var (v := back) (r := (en .pk (eM eI eI))) rfl) (ve_bin (ra := (en .sh eI)) (rb := (en .sh eI)) (ve_bin (ra := (en .sh eI)) (rb := (en .sh eI)) (ve_var (v := tick) (r := (en .sh eI)) rfl) (ve_cst (v := (1 : Int)) (r := (en .sh eI)) rfl) (fun _ _ => o_add)) (ve_var (v := k_) (r := (en .sh eI)) rfl) (fun _ _ => o_add)) (ve_cst (v := (0 : Int)) (r := (en .sh eI)) rfl) (fun _ => rfl)) rfl : VE _ _ _ (ret ((dval back ((tick + (1 : Int)) + k_)).getD (0 : Int))) (en .sh eI))) (fun _ => rfl))) (fun _ => b_tupL))))) (fun _ => rfl) (fun _ => lenle)) (fun _ => rfl) fun (rows : (List (Int × Int × (List Int)))) => (x_kil rfl (x_nil (v := ((back, rows) : ((List (Int × Int)) × (List (Int × Int × (List Int)))))) rfl))))))))) (fun (s12 : ((List (Int × Int)) × (List (Int × Int × (List Int))))) => (x_env (ρ' := [.sh ((eP (rC eI (rC eI (r1 eI)))) service), .sh ((eT eI) state), .sh ((eT eI) news), .ow ((eM eI eI) s12.1), .ow ((eL (eP (rC eI (rC eI (r1 (eT eI)))))) s12.2), .un, .un, .un, .un]) rfl (x_retv (v := (s12.2 : (List (Int × Int × (List Int))))) (q := (en .fr (eL (eP (rC eI (rC eI (r1 (eT eI))))))) s12.2) rfl rfl)))))))))) (by simp only [bnd_bnd, bnd_ret, if_true])))
theorem W_f_step {ds : List Int} (k : Nat) (service : (Int × Int × Int)) (state : (List Int)) (new : Int) : Le (mp (en .sh (eP (rC eI (r1 (eT eI))))) (f_step service state new)) (callF fns ds (k + 1) 2 [(eP (rC eI (rC eI (r1 eI)))) service, (eT eI) state, eI new]) :=
  fnT_ok (fn := fn2) rfl rfl (show X ⟨ds, callF fns ds (k + 0)⟩ bd2 [.sh ((eP (rC eI (rC eI (r1 eI)))) service), .sh ((eT eI) state), .sh (eI new), .un, .un, .un, .un, .un, .un] (bnd (ret service) fun (p1 : (Int × Int × Int)) =>
  bnd (bnd (atM state (0 : Int)) fun (p2 : Int) => ret (p2 + new)) fun (come : Int) =>
  bnd (if decide (come ≤ p1.2.2) then ret p1.2.1 else fdivM p1.2.1 (2 : Int)) fun (able : Int) =>
  bnd (ret (min (min come p1.1) able)) fun (now : Int) =>
  bnd (catM' (cut state (some (1 : Int)) none) [(come - now)]) fun (p4 : (List Int)) => ret (now, p4)) (fun v => .rt ((en .sh (eP (rC eI (r1 (eT eI))))) v)) from
  (x_is (x_env (ρ' := [.sh ((eP (rC eI (rC eI (r1 eI)))) service), .sh ((eT eI) state), .sh (eI new), .un, .un, .un, .un, .un, .un]) rfl (x_asg (r := (en .sh (eP (rC eI (rC eI (r1 eI)))))) (ve_var (v := service) (r := (en .sh (eP (rC eI (rC eI (r1 eI)))))) rfl) (fun _ => rfl) fun (p1 : (Int × Int × Int)) => (x_env (ρ' := [.sh ((eP (rC eI (rC eI (r1 eI)))) service), .sh ((eT eI) state), .sh (eI new), .sh (eI p1.1), .sh (eI p1.2.1), .sh (eI p1.2.2), .un, .un, .un]) rfl (x_asg (r := (en .sh eI)) (ve_bin (ra := (en .sh eI)) (rb := (en .sh eI)) (ve_ix (ra := (en .sh (eT eI))) (rb := (en .sh eI)) (f := eI) (ve_var (v := state) (r := (en .sh (eT eI))) rfl) (ve_cst (v := (0 : Int)) (r := (en .sh eI)) rfl) (fun _ _ => i_T)) (ve_var (v := new) (r := (en .sh eI)) rfl) (fun _ _ => o_add)) (fun _ => rfl) fun (come : Int) => (x_env (ρ' := [.sh ((eP (rC eI (rC eI (r1 eI)))) service), .sh ((eT eI) state), .sh (eI new), .sh (eI p1.1), .sh (eI p1.2.1), .sh (eI p1.2.2), .sh (eI come), .un, .un]) rfl (x_asg (r := (en .sh eI)) (ve_ite (r := (en .sh eI)) (vt_cmp (ra := (en .sh eI)) (rb := (en .sh eI)) (ve_var (v := come) (r := (en .sh eI)) rfl) (ve_var (v := p1.2.2) (r := (en .sh eI)) rfl) (fun _ _ => c_le)) (ve_var (v := p1.2.1) (r := (en .sh eI)) rfl) (ve_bin (ra := (en .sh eI)) (rb := (en .sh eI)) (ve_var (v := p1.2.1) (r := (en .sh eI)) rfl) (ve_cst (v := (2 : Int)) (r := (en .sh eI)) rfl) (fun _ _ => o_fdiv))) (fun _ => rfl) fun (able : Int) => (x_env (ρ' := [.sh ((eP (rC eI (rC eI (r1 eI)))) service), .sh ((eT eI) state), .sh (eI new), .sh (eI p1.1), .sh (eI p1.2.1), .sh (eI p1.2.2), .sh (eI come), .sh (eI able), .un]) rfl (x_asg (r := (en .sh eI)) (ve_blt (vl_cons (ve_var (v := come) (r := (en .sh eI)) rfl) (vl_cons (ve_var (v := p1.1) (r := (en .sh eI)) rfl) (vl_one (ve_var (v := able) (r := (en .sh eI)) rfl)))) (fun _ => b_min3)) (fun _ => rfl) fun (now : Int) => (x_env (ρ' := [.sh ((eP (rC eI (rC eI (r1 eI)))) service), .sh ((eT eI) state), .sh (eI new), .sh (eI p1.1), .sh (eI p1.2.1), .sh (eI p1.2.2), .sh (eI come), .sh (eI able), .sh (eI now)]) rfl (x_retF (r := (en .sh (eP (rC eI (r1 (eT eI)))))) (ve_tup (f := (rC eI (r1 (eT eI)))) (vl_cons (ve_var (v := now) (r := (en .sh eI)) rfl) (vl_one (ve_bin (ra := (en .sh (eT eI))) (rb := (en .sh (eT eI))) (ve_slT (ve_var (v := state) (r := (en .sh (eT eI))) rfl) (vo_so (ve_cst (v := (1 : Int)) (r := (en .sh eI)) rfl)) vo_no) (ve_as (f := fun (p3 : (Int)) => ([p3] : (List Int))) (r' := en .sh (eT eI)) (ve_tup (f := (r1 eI)) (vl_one (ve_bin (ra := (en .sh eI)) (rb := (en .sh eI)) (ve_var (v := come) (r := (en .sh eI)) rfl) (ve_var (v := now) (r := (en .sh eI)) rfl) (fun _ _ => o_sub))) (fun _ => rfl) (fun _ => lenle)) (fun _ => rfl)) (fun _ _ => o_addT)))) (fun _ => rfl) (fun _ => lenle)) (fun _ => rfl) (fun _ => rfl))))))))))) (by simp only [bnd_bnd, bnd_ret, if_true])))
theorem W_f_run_storm {ds : List Int} (k : Nat) (service : (Int × Int × Int)) (state : (List Int)) (news : (List Int)) : Le (mp (en .sh (eT eI)) (f_run_storm service state news)) (callF fns ds (k + 2) 3 [(eP (rC eI (rC eI (r1 eI)))) service, (eT eI) state, (eT eI) news]) :=
  fnT_ok (fn := fn3) rfl rfl (show X ⟨ds, callF fns ds (k + 1)⟩ bd3 [.sh ((eP (rC eI (rC eI (r1 eI)))) service), .sh ((eT eI) state), .sh ((eT eI) news), .un, .un, .un] (bnd (ret ([] : (List Int))) fun (found : (List Int)) =>
  bnd (forS news (fun (new : Int) (s1 : ((List Int) × (List Int))) =>
  bnd (f_step service s1.1 new) fun (p3 : (Int × (List Int))) =>
  bnd (appM s1.2 p3.1) fun (found : (List Int)) =>
  ret (p3.2, found)) ((state, found) : ((List Int) × (List Int)))) fun (s4 : ((List Int) × (List Int))) =>
  ret s4.2) (fun v => .rt ((en .sh (eT eI)) v)) from
  (x_is (x_env (ρ' := [.sh ((eP (rC eI (rC eI (r1 eI)))) service), .sh ((eT eI) state), .sh ((eT eI) news), .un, .un, .un]) rfl (x_asg (r := (en .fr (eL eI))) (ve_lst (f := eI) (h' := fun (_ : Unit) => ([] : (List Int))) vl_nil (fun _ => rfl) (fun _ => Nat.zero_le _)) (fun _ => rfl) fun (found : (List Int)) => (x_env (ρ' := [.sh ((eP (rC eI (rC eI (r1 eI)))) service), .sh ((eT eI) state), .sh ((eT eI) news), .ow ((eL eI) found), .un, .un]) rfl (x_kil rfl (x_forS (f := eI) (env := (fun (s1 : ((List Int) × (List Int))) => [.sh ((eP (rC eI (rC eI (r1 eI)))) service), .sh ((eT eI) s1.1), .sh ((eT eI) news), .ow ((eL eI) s1.2), .un, .un])) (s0 := ((state, found) : ((List Int) × (List Int)))) (vi_T (ve_var (v := news) (r := (en .sh (eT eI))) rfl)) rfl (fun _ _ => rfl) (fun (new : Int) (s1 : ((List Int) × (List Int))) => (x_env (ρ' := [.sh ((eP (rC eI (rC eI (r1 eI)))) service), .sh ((eT eI) s1.1), .sh ((eT eI) news), .ow ((eL eI) s1.2), .sh (eI new), .un]) rfl (x_asg (r := (en .sh (eP (rC eI (r1 (eT eI)))))) (ve_call (F := fun (p2 : (Int × Int × Int) × (List Int) × Int) => f_step p2.1 p2.2.1 p2.2.2) (r := en .sh (eP (rC eI (r1 (eT eI))))) (vl_cons (ve_var (v := service) (r := (en .sh (eP (rC eI (rC eI (r1 eI)))))) rfl) (vl_cons (ve_var (v := s1.1) (r := (en .sh (eT eI))) rfl) (vl_one (ve_var (v := new) (r := (en .sh eI)) rfl)))) (fun p2 => W_f_step (ds := ds) k p2.1 p2.2.1 p2.2.2) (fun _ _ => rfl)) (fun _ => rfl) fun (p3 : (Int × (List Int))) => (x_env (ρ' := [.sh ((eP (rC eI (rC eI (r1 eI)))) service), .sh ((eT eI) p3.2), .sh ((eT eI) news), .ow ((eL eI) s1.2), .sh (eI new), .sh (eI p3.1)]) rfl (x_app (f := eI) (xs := s1.2) (r := (en .sh eI)) rfl (ve_var (v := p3.1) (r := (en .sh eI)) rfl) (fun _ => rfl) fun (found : (List Int)) => (x_kil rfl (x_nil (v := ((p3.2, found) : ((List Int) × (List Int)))) rfl))))))) (fun (s4 : ((List Int) × (List Int))) => (x_env (ρ' := [.sh ((eP (rC eI (rC eI (r1 eI)))) service), .sh ((eT eI) s4.1), .sh ((eT eI) news), .ow ((eL eI) s4.2), .un, .un]) rfl (x_retF (r := (en .sh (eT eI))) (ve_blt (vl_one (ve_var (v := s4.2) (r := (en .pk (eL eI))) rfl)) (fun _ => b_tupL)) (fun _ => rfl) (fun _ => rfl))))))))) (by simp only [bnd_bnd, bnd_ret, if_true])))
theorem W_f_lost_work {ds : List Int} (k : Nat) (service : (Int × Int × Int)) (state : (List Int)) (news : (List Int)) : Le (mp (en .sh eI) (f_lost_work service state news)) (callF fns ds (k + 2) 4 [(eP (rC eI (rC eI (r1 eI)))) service, (eT eI) state, (eT eI) news]) :=
  fnT_ok (fn := fn4) rfl rfl (show X ⟨ds, callF fns ds (k + 1)⟩ bd4 [.sh ((eP (rC eI (rC eI (r1 eI)))) service), .sh ((eT eI) state), .sh ((eT eI) news), .un, .un, .un] (bnd (ret (0 : Int)) fun (found : Int) =>
  bnd (forS news (fun (new : Int) (s1 : ((List Int) × Int)) =>
  bnd (f_step service s1.1 new) fun (p3 : (Int × (List Int))) =>
  bnd (atM p3.2 (-(1 : Int))) fun (p4 : Int) => bnd (ret (s1.2 + p4)) fun (found : Int) =>
  ret (p3.2, found)) ((state, found) : ((List Int) × Int))) fun (s6 : ((List Int) × Int)) =>
  ret s6.2) (fun v => .rt ((en .sh eI) v)) from
  (x_is (x_env (ρ' := [.sh ((eP (rC eI (rC eI (r1 eI)))) service), .sh ((eT eI) state), .sh ((eT eI) news), .un, .un, .un]) rfl (x_asg (r := (en .sh eI)) (ve_cst (v := (0 : Int)) (r := (en .sh eI)) rfl) (fun _ => rfl) fun (found : Int) => (x_env (ρ' := [.sh ((eP (rC eI (rC eI (r1 eI)))) service), .sh ((eT eI) state), .sh ((eT eI) news), .sh (eI found), .un, .un]) rfl (x_kil rfl (x_forS (f := eI) (env := (fun (s1 : ((List Int) × Int)) => [.sh ((eP (rC eI (rC eI (r1 eI)))) service), .sh ((eT eI) s1.1), .sh ((eT eI) news), .sh (eI s1.2), .un, .un])) (s0 := ((state, found) : ((List Int) × Int))) (vi_T (ve_var (v := news) (r := (en .sh (eT eI))) rfl)) rfl (fun _ _ => rfl) (fun (new : Int) (s1 : ((List Int) × Int)) => (x_env (ρ' := [.sh ((eP (rC eI (rC eI (r1 eI)))) service), .sh ((eT eI) s1.1), .sh ((eT eI) news), .sh (eI s1.2), .sh (eI new), .un]) rfl (x_asg (r := (en .sh (eP (rC eI (r1 (eT eI)))))) (ve_call (F := fun (p2 : (Int × Int × Int) × (List Int) × Int) => f_step p2.1 p2.2.1 p2.2.2) (r := en .sh (eP (rC eI (r1 (eT eI))))) (vl_cons (ve_var (v := service) (r := (en .sh (eP (rC eI (rC eI (r1 eI)))))) rfl) (vl_cons (ve_var (v := s1.1) (r := (en .sh (eT eI))) rfl) (vl_one (ve_var (v := new) (r := (en .sh eI)) rfl)))) (fun p2 => W_f_step (ds := ds) k p2.1 p2.2.1 p2.2.2) (fun _ _ => rfl)) (fun _ => rfl) fun (p3 : (Int × (List Int))) => (x_env (ρ' := [.sh ((eP (rC eI (rC eI (r1 eI)))) service), .sh ((eT eI) p3.2), .sh ((eT eI) news), .sh (eI s1.2), .sh (eI new), .sh (eI p3.1)]) rfl (x_aug (q := en .sh eI s1.2) (z := fun (p4 : Int) => ret (s1.2 + p4)) (rz := en .sh eI) rfl (ve_ix (ra := (en .sh (eT eI))) (rb := (en .sh eI)) (f := eI) (ve_var (v := p3.2) (r := (en .sh (eT eI))) rfl) (ve_neg (ve_cst (v := (1 : Int)) (r := (en .sh eI)) rfl)) (fun _ _ => i_T)) (fun _ => o_add (k := .sh) (k' := .sh)) fun (found : Int) => (x_kil rfl (x_nil (v := ((p3.2, found) : ((List Int) × Int))) rfl))))))) (fun (s6 : ((List Int) × Int)) => (x_env (ρ' := [.sh ((eP (rC eI (rC eI (r1 eI)))) service), .sh ((eT eI) s6.1), .sh ((eT eI) news), .sh (eI s6.2), .un, .un]) rfl (x_retv (v := (s6.2 : Int)) (q := (en .sh eI) s6.2) rfl rfl)))))))) (by simp only [bnd_bnd, bnd_ret, if_true])))
theorem W_l_run_2 {ds : List Int} (k : Nat) (service : (Int × Int × Int)) (state : (List Int)) (news : (Int)) : Le (mp (en .fr (eL (eP (rC eI (rC eI (r1 (eT eI))))))) (l_run_2 service state news)) (callF fns ds (k + 2) 5 [(eP (rC eI (rC eI (r1 eI)))) service, (eT eI) state, (eP (r1 eI)) news]) :=
  fnT_ok (fn := fn5) rfl rfl (show X ⟨ds, callF fns ds (k + 1)⟩ bd5 [.sh ((eP (rC eI (rC eI (r1 eI)))) service), .sh ((eT eI) state), .sh ((eP (r1 eI)) news), .un, .un, .un, .un, .un, .un] (bnd (bnd (bnd (rngM 0 (state.length : Int)) fun (p2 : (List Int)) => bnd (mapM' p2 (fun (k_ : Int) => bnd (atM state k_) fun (p1 : Int) => ret (k_, p1))) smM) fun (p3 : (List (Int × Int))) => dicM p3) fun (back : (List (Int × Int))) =>
  bnd (ret ([] : (List (Int × Int × (List Int))))) fun (rows : (List (Int × Int × (List Int)))) =>
  bnd (rngM 0 ([news].length : Int)) fun (p15 : (List Int)) => bnd (forS p15 (fun (tick : Int) (s4 : ((List (Int × Int)) × (List (Int × Int × (List Int))))) =>
  bnd (bnd (atM [news] tick) fun (p7 : Int) => l_tick service s4.1 tick p7) fun (p9 : (Int × Int)) =>
  bnd (dputM s4.1 (tick + (state.length : Int)) (((dval s4.1 (tick + (state.length : Int))).getD (0 : Int)) + p9.2)) fun (back : (List (Int × Int))) =>
  bnd (bnd (bnd (bnd (rngM 0 (state.length : Int)) fun (p10 : (List Int)) => smM (p10.map (fun (k_ : Int) => (dval back ((tick + (1 : Int)) + k_)).getD (0 : Int)))) fun (p11 : (List Int)) => ret p11) fun (p12 : (List Int)) => ret (p9.1, p9.2, p12)) fun (p13 : (Int × Int × (List Int))) => bnd (appM s4.2 p13) fun (rows : (List (Int × Int × (List Int)))) =>
  ret (back, rows)) ((back, rows) : ((List (Int × Int)) × (List (Int × Int × (List Int)))))) fun (s14 : ((List (Int × Int)) × (List (Int × Int × (List Int))))) =>
  ret s14.2) (fun v => .rt ((en .fr (eL (eP (rC eI (rC eI (r1 (eT eI))))))) v)) from
  (x_is (x_env (ρ' := [.sh ((eP (rC eI (rC eI (r1 eI)))) service), .sh ((eT eI) state), .sh ((eP (r1 eI)) news), .un, .un, .un, .un, .un, .un]) rfl (x_asg (r := (en .fr (eM eI eI))) (ve_blt (vl_one (ve_lcM (f := eI) (h := (eP (rC eI (r1 eI)))) (r := (en .sh (eP (rC eI (r1 eI))))) (vi_1 (ve_blt (vl_one (ve_var (v := state) (r := (en .sh (eT eI))) rfl)) (fun _ => b_lenT))) (fun _ => rfl) (fun (k_ : Int) => (ve_tup (f := (rC eI (r1 eI))) (vl_cons (ve_var (v := k_) (r := (en .sh eI)) rfl) (vl_one (ve_ix (ra := (en .sh (eT eI))) (rb := (en .sh eI)) (f := eI) (ve_var (v := state) (r := (en .sh (eT eI))) rfl) (ve_var (v := k_) (r := (en .sh eI)) rfl) (fun _ _ => i_T)))) (fun _ => rfl) (fun _ => lenle))) (fun _ => rfl))) (fun _ => b_dict kI)) (fun _ => rfl) fun (back : (List (Int × Int))) => (x_env (ρ' := [.sh ((eP (rC eI (rC eI (r1 eI)))) service), .sh ((eT eI) state), .sh ((eP (r1 eI)) news), .ow ((eM eI eI) back), .un, .un, .un, .un, .un]) rfl (x_asg (r := (en .fr (eL (eP (rC eI (rC eI (r1 (eT eI)))))))) (ve_lst (f := (eP (rC eI (rC eI (r1 (eT eI)))))) (h' := fun (_ : Unit) => ([] : (List (Int × Int × (List Int))))) vl_nil (fun _ => rfl) (fun _ => Nat.zero_le _)) (fun _ => rfl) fun (rows : (List (Int × Int × (List Int)))) => (x_env (ρ' := [.sh ((eP (rC eI (rC eI (r1 eI)))) service), .sh ((eT eI) state), .sh ((eP (r1 eI)) news), .ow ((eM eI eI) back), .ow ((eL (eP (rC eI (rC eI (r1 (eT eI)))))) rows), .un, .un, .un, .un]) rfl (x_kil rfl (x_forS (f := eI) (env := (fun (s4 : ((List (Int × Int)) × (List (Int × Int × (List Int))))) => [.sh ((eP (rC eI (rC eI (r1 eI)))) service), .sh ((eT eI) state), .sh ((eP (r1 eI)) news), .ow ((eM eI eI) s4.1), .ow ((eL (eP (rC eI (rC eI (r1 (eT eI)))))) s4.2), .un, .un, .un, .un])) (s0 := ((back, rows) : ((List (Int × Int)) × (List (Int × Int × (List Int)))))) (vi_1 (ve_blt (vl_one (ve_as (f := fun (p5 : (Int)) => ([p5] : (List Int))) (r' := en .sh (eT eI)) (ve_var (v := news) (r := (en .sh (eP (r1 eI)))) rfl) (fun _ => rfl))) (fun _ => b_lenT))) rfl (fun _ _ => rfl) (fun (tick : Int) (s4 : ((List (Int × Int)) × (List (Int × Int × (List Int))))) => (x_env (ρ' := [.sh ((eP (rC eI (rC eI (r1 eI)))) service), .sh ((eT eI) state), .sh ((eP (r1 eI)) news), .ow ((eM eI eI) s4.1), .ow ((eL (eP (rC eI (rC eI (r1 (eT eI)))))) s4.2), .sh (eI tick), .un, .un, .un]) rfl (x_asg (r := (en .sh (eP (rC eI (r1 eI))))) (ve_call (F := fun (p8 : (Int × Int × Int) × (List (Int × Int)) × Int × Int) => l_tick p8.1 p8.2.1 p8.2.2.1 p8.2.2.2) (r := en .sh (eP (rC eI (r1 eI)))) (vl_cons (ve_var (v := service) (r := (en .sh (eP (rC eI (rC eI (r1 eI)))))) rfl) (vl_cons (ve_var (v := s4.1) (r := (en .pk (eM eI eI))) rfl) (vl_cons (ve_var (v := tick) (r := (en .sh eI)) rfl) (vl_one (ve_ix (ra := (en .sh (eT eI))) (rb := (en .sh eI)) (f := eI) (ve_as (f := fun (p6 : (Int)) => ([p6] : (List Int))) (r' := en .sh (eT eI)) (ve_var (v := news) (r := (en .sh (eP (r1 eI)))) rfl) (fun _ => rfl)) (ve_var (v := tick) (r := (en .sh eI)) rfl) (fun _ _ => i_T)))))) (fun p8 => W_l_tick (ds := ds) k p8.1 p8.2.1 p8.2.2.1 p8.2.2.2) (fun _ w => callKd_n rfl ((nP (nrC nI (nr1 nI))) w))) (fun _ => rfl) fun (p9 : (Int × Int)) => (x_env (ρ' := [.sh ((eP (rC eI (rC eI (r1 eI)))) service), .sh ((eT eI) state), .sh ((eP (r1 eI)) news), .ow ((eM eI eI) s4.1), .ow ((eL (eP (rC eI (rC eI (r1 (eT eI)))))) s4.2), .sh (eI tick), .sh (eI p9.1), .sh (eI p9.2), .un]) rfl (x_putM (f := eI) (h := eI) (kvs := s4.1) kI rfl (ve_bin (ra := (en .sh eI)) (rb := (en .sh eI)) (ve_dget2 (r := (en .sh eI)) kI (ve_var (v := s4.1) (r := (en .pk (eM eI eI))) rfl) (ve_bin (ra := (en .sh eI)) (rb := (en .sh eI)) (ve_var (v := tick) (r := (en .sh eI)) rfl) (ve_blt (vl_one (ve_var (v := state) (r := (en .sh (eT eI))) rfl)) (fun _ => b_lenT)) (fun _ _ => o_add)) (ve_cst (v := (0 : Int)) (r := (en .sh eI)) rfl) (fun _ => rfl)) (ve_var (v := p9.2) (r := (en .sh eI)) rfl) (fun _ _ => o_add)) (fun _ => rfl) (ve_bin (ra := (en .sh eI)) (rb := (en .sh eI)) (ve_var (v := tick) (r := (en .sh eI)) rfl) (ve_blt (vl_one (ve_var (v := state) (r := (en .sh (eT eI))) rfl)) (fun _ => b_lenT)) (fun _ _ => o_add)) fun (back : (List (Int × Int))) => (x_env (ρ' := [.sh ((eP (rC eI (rC eI (r1 eI)))) service), .sh ((eT eI) state), .sh ((eP (r1 eI)) news), .ow ((eM eI eI) back), .ow ((eL (eP (rC eI (rC eI (r1 (eT eI)))))) s4.2), .sh (eI tick), .sh (eI p9.1), .sh (eI p9.2), .un]) rfl (x_app (f := (eP (rC eI (rC eI (r1 (eT eI)))))) (xs := s4.2) (r := (en .sh (eP (rC eI (rC eI (r1 (eT eI))))))) rfl (ve_tup (f := (rC eI (rC eI (r1 (eT eI))))) (vl_cons (ve_var (v := p9.1) (r := (en .sh eI)) rfl) (vl_cons (ve_var (v := p9.2) (r := (en .sh eI)) rfl) (vl_one (ve_blt (vl_one (ve_lcA (f := eI) (h := eI) (r := (en .sh eI)) (v := fun (k_ : Int) => (dval back ((tick + (1 : Int)) + k_)).getD (0 : Int)) (vi_1 (ve_blt (vl_one (ve_var (v := state) (r := (en .sh (eT eI))) rfl)) (fun _ => b_lenT))) (fun _ => rfl) (fun (k_ : Int) => (ve_is (ve_dget2 (r := (en .sh eI)) kI (ve_var (v := back) (r := (en .pk (eM eI eI))) rfl) (ve_bin (ra := (en .sh eI)) (rb := (en .sh eI)) (ve_bin (ra := (en .sh eI)) (rb := (en .sh eI)) (ve_var (v := tick) (r := (en .sh eI)) rfl) (ve_cst (v := (1 : Int)) (r := (en .sh eI)) rfl) (fun _ _ => o_add)) (ve_var (v := k_) (r := (en .sh eI)) rfl) (fun _ _ => o_add)) (ve_cst (v := (0 : Int)) (r := (en .sh eI)) rfl) (fun _ => rfl)) rfl : VE _ _ _ (ret ((dval back ((tick + (1 : Int)) + k_)).getD (0 : Int))) (en .sh eI))) (fun _ => rfl))) (fun _ => b_tupL))))) (fun _ => rfl) (fun _ => lenle)) (fun _ => rfl) fun (rows : (List (Int × Int × (List Int)))) => (x_kil rfl (x_nil (v := ((back, rows) : ((List (Int × Int)) × (List (Int × Int × (List Int)))))) rfl))))))))) (fun (s14 : ((List (Int × Int)) × (List (Int × Int × (List Int))))) => (x_env (ρ' := [.sh ((eP (rC eI (rC eI (r1 eI)))) service), .sh ((eT eI) state), .sh ((eP (r1 eI)) news), .ow ((eM eI eI) s14.1), .ow ((eL (eP (rC eI (rC eI (r1 (eT eI)))))) s14.2), .un, .un, .un, .un]) rfl (x_retv (v := (s14.2 : (List (Int × Int × (List Int))))) (q := (en .fr (eL (eP (rC eI (rC eI (r1 (eT eI))))))) s14.2) rfl rfl)))))))))) (by simp only [bnd_bnd, bnd_ret, if_true])))
theorem W_f_goes_round {ds : List Int} (k : Nat) (service : (Int × Int × Int)) (state : (List Int)) (new : Int) (most : Int) : Le (mp (en .sh (eT eD)) (f_goes_round service state new most)) (callF fns ds (k + 2) 6 [(eP (rC eI (rC eI (r1 eI)))) service, (eT eI) state, eI new, eI most]) :=
  fnT_ok (fn := fn6) rfl rfl (show X ⟨ds, callF fns ds (k + 1)⟩ bd6 [.sh ((eP (rC eI (rC eI (r1 eI)))) service), .sh ((eT eI) state), .sh (eI new), .sh (eI most), .un, .un, .un] (bnd (ret (([] : (List ((List Int) × D))), ([] : (List (List Int))), (0 : Int))) fun (p1 : ((List ((List Int) × D)) × (List (List Int)) × Int)) =>
  bnd (whlR big (fun (s2 : ((List Int) × (List ((List Int) × D)) × (List (List Int)) × Int)) => cpA .nin ((eT eI) s2.1) ((eU (eT eI) eD) s2.2.1)) (fun (s2 : ((List Int) × (List ((List Int) × D)) × (List (List Int)) × Int)) =>
  if decide (most < s2.1.sum) then
  ret (.rt [eS ((("grows" : Str), s2.2.2.2).1), eI ((("grows" : Str), s2.2.2.2).2)])
else
  bnd (dputM s2.2.1 s2.1 (eI s2.2.2.2)) fun (seen : (List ((List Int) × D))) =>
  bnd (appM s2.2.2.1 s2.1) fun (row : (List (List Int))) =>
  bnd (bnd (f_step service s2.1 new) fun (p10 : (Int × (List Int))) => ret p10.2) fun (state : (List Int)) =>
  bnd (ret (s2.2.2.2 + (1 : Int))) fun (steps : Int) =>
  ret (.nx (state, seen, row, steps))) ((state, p1.1, p1.2.1, p1.2.2) : ((List Int) × (List ((List Int) × D)) × (List (List Int)) × Int))) fun p19 => outC p19 (fun (s12 : ((List Int) × (List ((List Int) × D)) × (List (List Int)) × Int)) =>
  bnd (bnd (datM s12.2.1 s12.1) fun (p15 : D) => bnd (bnd (bnd (bnd (datM s12.2.1 s12.1) (decM gI)) fun (p13 : Int) => ret (cut s12.2.2.1 (some p13) none)) fun (p14 : (List (List Int))) => ret p14) fun (p16 : (List (List Int))) => ret (("round" : Str), p15, p16)) fun (p17 : (Str × D × (List (List Int)))) => ret [eS p17.1, eD p17.2.1, (eT (eT eI)) p17.2.2]) (fun (p18 : (List D)) => ret p18)) (fun v => .rt ((en .sh (eT eD)) v)) from
  (x_is (x_env (ρ' := [.sh ((eP (rC eI (rC eI (r1 eI)))) service), .sh ((eT eI) state), .sh (eI new), .sh (eI most), .un, .un, .un]) rfl (x_parX (vl_cons (ve_unew (f := (eT eI)) (h := eD)) (vl_cons (ve_lst (f := (eT eI)) (h' := fun (_ : Unit) => ([] : (List (List Int)))) vl_nil (fun _ => rfl) (fun _ => Nat.zero_le _)) (vl_one (ve_cst (v := (0 : Int)) (r := (en .sh eI)) rfl)))) (fun _ => rfl) fun (p1 : ((List ((List Int) × D)) × (List (List Int)) × Int)) => (sx_tg rfl (sx_tg rfl (sx_tg rfl (sx_nil (x_env (ρ' := [.sh ((eP (rC eI (rC eI (r1 eI)))) service), .sh ((eT eI) state), .sh (eI new), .sh (eI most), .ow ((eU (eT eI) eD) p1.1), .ow ((eL (eT eI)) p1.2.1), .sh (eI p1.2.2)]) rfl (x_whlR (env := (fun (s2 : ((List Int) × (List ((List Int) × D)) × (List (List Int)) × Int)) => [.sh ((eP (rC eI (rC eI (r1 eI)))) service), .sh ((eT eI) s2.1), .sh (eI new), .sh (eI most), .ow ((eU (eT eI) eD) s2.2.1), .ow ((eL (eT eI)) s2.2.2.1), .sh (eI s2.2.2.2)])) (s0 := ((state, p1.1, p1.2.1, p1.2.2) : ((List Int) × (List ((List Int) × D)) × (List (List Int)) × Int))) (j := (fun (p18 : (List D)) => p18)) (r := en .sh (eT eD)) rfl (fun (s2 : ((List Int) × (List ((List Int) × D)) × (List (List Int)) × Int)) => (vt_is (vt_cmp (ra := (en .sh eD)) (rb := (en .pk eD)) (ve_as (f := fun (p3 : (List Int)) => ((eT eI) p3 : D)) (r' := en .sh eD) (ve_var (v := s2.1) (r := (en .sh (eT eI))) rfl) (fun _ => rfl)) (ve_as (f := fun (p4 : (List ((List Int) × D))) => ((eU (eT eI) eD) p4 : D)) (r' := en .pk eD) (ve_var (v := s2.2.1) (r := (en .pk (eU (eT eI) eD))) rfl) (fun _ => rfl)) (fun _ _ => c_A)) rfl : VT _ _ _ (cpA .nin ((eT eI) s2.1) ((eU (eT eI) eD) s2.2.1)))) (fun (s2 : ((List Int) × (List ((List Int) × D)) × (List (List Int)) × Int)) => (x_env (ρ' := [.sh ((eP (rC eI (rC eI (r1 eI)))) service), .sh ((eT eI) s2.1), .sh (eI new), .sh (eI most), .ow ((eU (eT eI) eD) s2.2.1), .ow ((eL (eT eI)) s2.2.2.1), .sh (eI s2.2.2.2)]) rfl (x_ite (vt_cmp (ra := (en .sh eI)) (rb := (en .sh eI)) (ve_blt (vl_one (ve_var (v := s2.1) (r := (en .sh (eT eI))) rfl)) (fun _ => b_sumT)) (ve_var (v := most) (r := (en .sh eI)) rfl) (fun _ _ => c_gt)) (x_env (ρ' := [.sh ((eP (rC eI (rC eI (r1 eI)))) service), .sh ((eT eI) s2.1), .sh (eI new), .sh (eI most), .ow ((eU (eT eI) eD) s2.2.1), .ow ((eL (eT eI)) s2.2.2.1), .sh (eI s2.2.2.2)]) rfl (x_ret (r := (en .sh (eT eD))) (j := fun (p6 : (List D)) => (.rt p6 : Stp ((List Int) × (List ((List Int) × D)) × (List (List Int)) × Int) (List D))) (ve_as (f := fun (p5 : (Str × Int)) => ([eS p5.1, eI p5.2] : (List D))) (r' := en .sh (eT eD)) (ve_tup (f := (rC eS (r1 eI))) (vl_cons (ve_cst (v := ("grows" : Str)) (r := (en .sh eS)) rfl) (vl_one (ve_var (v := s2.2.2.2) (r := (en .sh eI)) rfl))) (fun _ => rfl) (fun _ => lenle)) (fun _ => rfl)) (fun _ => rfl) (fun _ => rfl))) (x_env (ρ' := [.sh ((eP (rC eI (rC eI (r1 eI)))) service), .sh ((eT eI) s2.1), .sh (eI new), .sh (eI most), .ow ((eU (eT eI) eD) s2.2.1), .ow ((eL (eT eI)) s2.2.2.1), .sh (eI s2.2.2.2)]) rfl (x_putU (f := (eT eI)) (h := eD) (kvs := s2.2.1) (kuT kI) rfl (ve_as (f := fun (p7 : Int) => (eI p7 : D)) (r' := en .sh eD) (ve_var (v := s2.2.2.2) (r := (en .sh eI)) rfl) (fun _ => rfl)) (fun _ => rfl) (ve_var (v := s2.1) (r := (en .sh (eT eI))) rfl) fun (seen : (List ((List Int) × D))) => (x_env (ρ' := [.sh ((eP (rC eI (rC eI (r1 eI)))) service), .sh ((eT eI) s2.1), .sh (eI new), .sh (eI most), .ow ((eU (eT eI) eD) seen), .ow ((eL (eT eI)) s2.2.2.1), .sh (eI s2.2.2.2)]) rfl (x_app (f := (eT eI)) (xs := s2.2.2.1) (r := (en .sh (eT eI))) rfl (ve_var (v := s2.1) (r := (en .sh (eT eI))) rfl) (fun _ => rfl) fun (row : (List (List Int))) => (x_env (ρ' := [.sh ((eP (rC eI (rC eI (r1 eI)))) service), .sh ((eT eI) s2.1), .sh (eI new), .sh (eI most), .ow ((eU (eT eI) eD) seen), .ow ((eL (eT eI)) row), .sh (eI s2.2.2.2)]) rfl (x_asg (r := (en .sh (eT eI))) (ve_ixC (p := fun (p9 : (Int × (List Int))) => p9.2) (f := (eT eI)) (ve_call (F := fun (p8 : (Int × Int × Int) × (List Int) × Int) => f_step p8.1 p8.2.1 p8.2.2) (r := en .sh (eP (rC eI (r1 (eT eI))))) (vl_cons (ve_var (v := service) (r := (en .sh (eP (rC eI (rC eI (r1 eI)))))) rfl) (vl_cons (ve_var (v := s2.1) (r := (en .sh (eT eI))) rfl) (vl_one (ve_var (v := new) (r := (en .sh eI)) rfl)))) (fun p8 => W_f_step (ds := ds) k p8.1 p8.2.1 p8.2.2) (fun _ _ => rfl)) (fun _ => rfl)) (fun _ => rfl) fun (state : (List Int)) => (x_env (ρ' := [.sh ((eP (rC eI (rC eI (r1 eI)))) service), .sh ((eT eI) state), .sh (eI new), .sh (eI most), .ow ((eU (eT eI) eD) seen), .ow ((eL (eT eI)) row), .sh (eI s2.2.2.2)]) rfl (x_aug (q := en .sh eI s2.2.2.2) (z := fun (p11 : Int) => ret (s2.2.2.2 + p11)) (rz := en .sh eI) rfl (ve_cst (v := (1 : Int)) (r := (en .sh eI)) rfl) (fun _ => o_add (k := .sh) (k' := .sh)) fun (steps : Int) => (x_nil (v := (.nx (state, seen, row, steps) : Stp ((List Int) × (List ((List Int) × D)) × (List (List Int)) × Int) (List D))) rfl)))))))))))) (fun _ => rfl) (fun (s12 : ((List Int) × (List ((List Int) × D)) × (List (List Int)) × Int)) => (x_env (ρ' := [.sh ((eP (rC eI (rC eI (r1 eI)))) service), .sh ((eT eI) s12.1), .sh (eI new), .sh (eI most), .ow ((eU (eT eI) eD) s12.2.1), .ow ((eL (eT eI)) s12.2.2.1), .sh (eI s12.2.2.2)]) rfl (x_retF (r := (en .sh (eT eD))) (ve_as (f := fun (p17 : (Str × D × (List (List Int)))) => ([eS p17.1, eD p17.2.1, (eT (eT eI)) p17.2.2] : (List D))) (r' := en .sh (eT eD)) (ve_tup (f := (rC eS (rC eD (r1 (eT (eT eI)))))) (vl_cons (ve_cst (v := ("round" : Str)) (r := (en .sh eS)) rfl) (vl_cons (ve_ix (ra := (en .pk (eU (eT eI) eD))) (rb := (en .sh (eT eI))) (f := eD) (ve_var (v := s12.2.1) (r := (en .pk (eU (eT eI) eD))) rfl) (ve_var (v := s12.1) (r := (en .sh (eT eI))) rfl) (fun _ _ => i_U (kuT kI))) (vl_one (ve_blt (vl_one (ve_slL (ve_var (v := s12.2.2.1) (r := (en .pk (eL (eT eI)))) rfl) (vo_so (ve_dec kdI (ve_ix (ra := (en .pk (eU (eT eI) eD))) (rb := (en .sh (eT eI))) (f := eD) (ve_var (v := s12.2.1) (r := (en .pk (eU (eT eI) eD))) rfl) (ve_var (v := s12.1) (r := (en .sh (eT eI))) rfl) (fun _ _ => i_U (kuT kI))))) vo_no)) (fun _ => b_tupL))))) (fun _ => rfl) (fun _ => lenle)) (fun _ => rfl)) (fun _ => rfl) (fun _ => rfl)))))))))))) (by simp only [bnd_bnd, bnd_ret, if_true])))
theorem W_l_round {ds : List Int} (k : Nat) (service : (Int × Int × Int)) (state : (List Int)) (new : Int) (most : Int) : Le (mp (en .sh (eO (eT eD))) (l_round service state new most)) (callF fns ds (k + 3) 7 [(eP (rC eI (rC eI (r1 eI)))) service, (eT eI) state, eI new, eI most]) :=
  fnT_ok (fn := fn7) rfl rfl (show X ⟨ds, callF fns ds (k + 2)⟩ bd7 [.sh ((eP (rC eI (rC eI (r1 eI)))) service), .sh ((eT eI) state), .sh (eI new), .sh (eI most), .un, .un, .un] (bnd (ret [state]) fun (row : (List (List Int))) =>
  bnd (whlR big (fun (s2 : ((List (List Int)))) => ret true) (fun (s2 : ((List (List Int)))) =>
  bnd (bnd (bnd (atM s2 (-(1 : Int))) fun (p3 : (List Int)) => ret p3.sum) fun (p4 : Int) => ret (decide (most < p4))) fun (b : Bool) => if b then
  ret (.rt (some [eS ((("grows" : Str), ((s2.length : Int) - (1 : Int))).1), eI ((("grows" : Str), ((s2.length : Int) - (1 : Int))).2)]))
else
  bnd (bnd (bnd (bnd (atM s2 (-(1 : Int))) fun (p8 : (List Int)) => l_run_2 service p8 new) fun (p10 : (List (Int × Int × (List Int)))) => atM p10 (0 : Int)) fun (p12 : (Int × Int × (List Int))) => ret p12.2.2) fun (later : (List Int)) =>
  if memB later s2 then
  bnd (idxM s2 later) fun (at_ : Int) =>
  ret (.rt (some [eS ((("round" : Str), at_, (cut s2 (some at_) none)).1), eI ((("round" : Str), at_, (cut s2 (some at_) none)).2.1), (eT (eT eI)) ((("round" : Str), at_, (cut s2 (some at_) none)).2.2)]))
else
  bnd (appM s2 later) fun (row : (List (List Int))) =>
  ret (.nx row)) (row : ((List (List Int))))) fun p17 => outC p17 (fun (row : ((List (List Int)))) =>
  fail) (fun (p16 : (Option (List D))) => ret p16)) (fun v => .rt ((en .sh (eO (eT eD))) v)) from
  (x_is (x_env (ρ' := [.sh ((eP (rC eI (rC eI (r1 eI)))) service), .sh ((eT eI) state), .sh (eI new), .sh (eI most), .un, .un, .un]) rfl (x_asg (r := (en .fr (eL (eT eI)))) (ve_lst (f := (eT eI)) (h' := fun (p1 : (List Int)) => [p1]) (vl_one (ve_var (v := state) (r := (en .sh (eT eI))) rfl)) (fun _ => rfl) (fun _ => lenle)) (fun _ => rfl) fun (row : (List (List Int))) => (x_env (ρ' := [.sh ((eP (rC eI (rC eI (r1 eI)))) service), .sh ((eT eI) state), .sh (eI new), .sh (eI most), .ow ((eL (eT eI)) row), .un, .un]) rfl (x_kil rfl (x_whlR (env := (fun (s2 : ((List (List Int)))) => [.sh ((eP (rC eI (rC eI (r1 eI)))) service), .un, .sh (eI new), .sh (eI most), .ow ((eL (eT eI)) s2), .un, .un])) (s0 := (row : ((List (List Int))))) (j := (fun (p16 : (Option (List D))) => p16)) (r := en .sh (eO (eT eD))) rfl (fun (s2 : ((List (List Int)))) => (vt_is (vt_val (ve_cst (v := true) (r := (en .sh eB)) rfl)) rfl : VT _ _ _ (ret true))) (fun (s2 : ((List (List Int)))) => (x_env (ρ' := [.sh ((eP (rC eI (rC eI (r1 eI)))) service), .un, .sh (eI new), .sh (eI most), .ow ((eL (eT eI)) s2), .un, .un]) rfl (x_ite (vt_cmp (ra := (en .sh eI)) (rb := (en .sh eI)) (ve_blt (vl_one (ve_ix (ra := (en .pk (eL (eT eI)))) (rb := (en .sh eI)) (f := (eT eI)) (ve_var (v := s2) (r := (en .pk (eL (eT eI)))) rfl) (ve_neg (ve_cst (v := (1 : Int)) (r := (en .sh eI)) rfl)) (fun _ _ => i_L))) (fun _ => b_sumT)) (ve_var (v := most) (r := (en .sh eI)) rfl) (fun _ _ => c_gt)) (x_env (ρ' := [.sh ((eP (rC eI (rC eI (r1 eI)))) service), .un, .sh (eI new), .sh (eI most), .ow ((eL (eT eI)) s2), .un, .un]) rfl (x_ret (r := (en .sh (eO (eT eD)))) (j := fun (p7 : (Option (List D))) => (.rt p7 : Stp ((List (List Int))) (Option (List D)))) (ve_as (f := fun (p6 : (List D)) => (some p6 : (Option (List D)))) (r' := en .sh (eO (eT eD))) (ve_as (f := fun (p5 : (Str × Int)) => ([eS p5.1, eI p5.2] : (List D))) (r' := en .sh (eT eD)) (ve_tup (f := (rC eS (r1 eI))) (vl_cons (ve_cst (v := ("grows" : Str)) (r := (en .sh eS)) rfl) (vl_one (ve_bin (ra := (en .sh eI)) (rb := (en .sh eI)) (ve_blt (vl_one (ve_var (v := s2) (r := (en .pk (eL (eT eI)))) rfl)) (fun _ => b_lenL)) (ve_cst (v := (1 : Int)) (r := (en .sh eI)) rfl) (fun _ _ => o_sub)))) (fun _ => rfl) (fun _ => lenle)) (fun _ => rfl)) (fun _ => rfl)) (fun _ => rfl) (fun _ => rfl))) (x_env (ρ' := [.sh ((eP (rC eI (rC eI (r1 eI)))) service), .un, .sh (eI new), .sh (eI most), .ow ((eL (eT eI)) s2), .un, .un]) rfl (x_asg (r := (en .sh (eT eI))) (ve_ixC (p := fun (p11 : (Int × Int × (List Int))) => p11.2.2) (f := (eT eI)) (ve_ix (ra := (en .fr (eL (eP (rC eI (rC eI (r1 (eT eI)))))))) (rb := (en .sh eI)) (f := (eP (rC eI (rC eI (r1 (eT eI)))))) (ve_call (F := fun (p9 : (Int × Int × Int) × (List Int) × (Int)) => l_run_2 p9.1 p9.2.1 p9.2.2) (r := en .fr (eL (eP (rC eI (rC eI (r1 (eT eI))))))) (vl_cons (ve_var (v := service) (r := (en .sh (eP (rC eI (rC eI (r1 eI)))))) rfl) (vl_cons (ve_ix (ra := (en .pk (eL (eT eI)))) (rb := (en .sh eI)) (f := (eT eI)) (ve_var (v := s2) (r := (en .pk (eL (eT eI)))) rfl) (ve_neg (ve_cst (v := (1 : Int)) (r := (en .sh eI)) rfl)) (fun _ _ => i_L)) (vl_one (ve_tup (f := (r1 eI)) (vl_one (ve_var (v := new) (r := (en .sh eI)) rfl)) (fun _ => rfl) (fun _ => lenle))))) (fun p9 => W_l_run_2 (ds := ds) k p9.1 p9.2.1 p9.2.2) (fun _ _ => rfl)) (ve_cst (v := (0 : Int)) (r := (en .sh eI)) rfl) (fun _ _ => i_L)) (fun _ => rfl)) (fun _ => rfl) fun (later : (List Int)) => (x_env (ρ' := [.sh ((eP (rC eI (rC eI (r1 eI)))) service), .un, .sh (eI new), .sh (eI most), .ow ((eL (eT eI)) s2), .sh ((eT eI) later), .un]) rfl (x_ite (vt_cmp (ra := (en .sh (eT eI))) (rb := (en .pk (eL (eT eI)))) (ve_var (v := later) (r := (en .sh (eT eI))) rfl) (ve_var (v := s2) (r := (en .pk (eL (eT eI)))) rfl) (fun _ _ => c_inL (f := (eT eI)) (qT qI) (by decide))) (x_env (ρ' := [.sh ((eP (rC eI (rC eI (r1 eI)))) service), .un, .sh (eI new), .sh (eI most), .ow ((eL (eT eI)) s2), .sh ((eT eI) later), .un]) rfl (x_asg (r := (en .sh eI)) (ve_mth (ra := (en .pk (eL (eT eI)))) (rb := (en .sh (eT eI))) (ve_var (v := s2) (r := (en .pk (eL (eT eI)))) rfl) (ve_var (v := later) (r := (en .sh (eT eI))) rfl) (fun _ _ => m_index (f := (eT eI)) (qT qI) (by decide))) (fun _ => rfl) fun (at_ : Int) => (x_env (ρ' := [.sh ((eP (rC eI (rC eI (r1 eI)))) service), .un, .sh (eI new), .sh (eI most), .ow ((eL (eT eI)) s2), .sh ((eT eI) later), .sh (eI at_)]) rfl (x_ret (r := (en .sh (eO (eT eD)))) (j := fun (p15 : (Option (List D))) => (.rt p15 : Stp ((List (List Int))) (Option (List D)))) (ve_as (f := fun (p14 : (List D)) => (some p14 : (Option (List D)))) (r' := en .sh (eO (eT eD))) (ve_as (f := fun (p13 : (Str × Int × (List (List Int)))) => ([eS p13.1, eI p13.2.1, (eT (eT eI)) p13.2.2] : (List D))) (r' := en .sh (eT eD)) (ve_tup (f := (rC eS (rC eI (r1 (eT (eT eI)))))) (vl_cons (ve_cst (v := ("round" : Str)) (r := (en .sh eS)) rfl) (vl_cons (ve_var (v := at_) (r := (en .sh eI)) rfl) (vl_one (ve_blt (vl_one (ve_slL (ve_var (v := s2) (r := (en .pk (eL (eT eI)))) rfl) (vo_so (ve_var (v := at_) (r := (en .sh eI)) rfl)) vo_no)) (fun _ => b_tupL))))) (fun _ => rfl) (fun _ => lenle)) (fun _ => rfl)) (fun _ => rfl)) (fun _ => rfl) (fun _ => rfl))))) (x_env (ρ' := [.sh ((eP (rC eI (rC eI (r1 eI)))) service), .un, .sh (eI new), .sh (eI most), .ow ((eL (eT eI)) s2), .sh ((eT eI) later), .un]) rfl (x_app (f := (eT eI)) (xs := s2) (r := (en .sh (eT eI))) rfl (ve_var (v := later) (r := (en .sh (eT eI))) rfl) (fun _ => rfl) fun (row : (List (List Int))) => (x_kil rfl (x_nil (v := (.nx row : Stp ((List (List Int))) (Option (List D)))) rfl))))))))))) (fun _ => rfl) (fun (row : ((List (List Int)))) => x_fail)))))) (by simp only [bnd_bnd, bnd_ret, if_true])))
theorem W_f_ends_storm {ds : List Int} (k : Nat) (service : (Int × Int × Int)) (state : (List Int)) (new : Int) (most : Int) : Le (mp (en .sh eB) (f_ends_storm service state new most)) (callF fns ds (k + 3) 8 [(eP (rC eI (rC eI (r1 eI)))) service, (eT eI) state, eI new, eI most]) :=
  fnT_ok (fn := fn8) rfl rfl (show X ⟨ds, callF fns ds (k + 2)⟩ bd8 [.sh ((eP (rC eI (rC eI (r1 eI)))) service), .sh ((eT eI) state), .sh (eI new), .sh (eI most), .un, .un] (bnd (f_goes_round service state new most) fun (told : (List D)) =>
  bnd (bnd (atM told (0 : Int)) fun (p3 : D) => cpA .eq p3 (eS ("round" : Str))) fun (p9 : Bool) => if p9 then bnd (bnd (bnd (atM told (2 : Int)) fun (p4 : D) => seqA p4) fun (p7 : (List D)) => bnd (mapM' p7 (fun (own : D) => bnd (bnd (decM (gT gI) own) fun (p5 : (List Int)) => ret p5.sum) fun (p6 : Int) => ret (eqB p6 (0 : Int)))) smM) fun (p8 : (List Bool)) => ret (p8.all id) else ret false) (fun v => .rt ((en .sh eB) v)) from
  (x_is (x_env (ρ' := [.sh ((eP (rC eI (rC eI (r1 eI)))) service), .sh ((eT eI) state), .sh (eI new), .sh (eI most), .un, .un]) rfl (x_asg (r := (en .sh (eT eD))) (ve_call (F := fun (p1 : (Int × Int × Int) × (List Int) × Int × Int) => f_goes_round p1.1 p1.2.1 p1.2.2.1 p1.2.2.2) (r := en .sh (eT eD)) (vl_cons (ve_var (v := service) (r := (en .sh (eP (rC eI (rC eI (r1 eI)))))) rfl) (vl_cons (ve_var (v := state) (r := (en .sh (eT eI))) rfl) (vl_cons (ve_var (v := new) (r := (en .sh eI)) rfl) (vl_one (ve_var (v := most) (r := (en .sh eI)) rfl))))) (fun p1 => W_f_goes_round (ds := ds) k p1.1 p1.2.1 p1.2.2.1 p1.2.2.2) (fun _ _ => rfl)) (fun _ => rfl) fun (told : (List D)) => (x_env (ρ' := [.sh ((eP (rC eI (rC eI (r1 eI)))) service), .sh ((eT eI) state), .sh (eI new), .sh (eI most), .sh ((eT eD) told), .un]) rfl (x_retF (r := (en .sh eB)) (ve_land (va_cons (ve_cmp (ra := (en .sh eD)) (rb := (en .sh eD)) (ve_ix (ra := (en .sh (eT eD))) (rb := (en .sh eI)) (f := eD) (ve_var (v := told) (r := (en .sh (eT eD))) rfl) (ve_cst (v := (0 : Int)) (r := (en .sh eI)) rfl) (fun _ _ => i_T)) (ve_as (f := fun (p2 : Str) => (eS p2 : D)) (r' := en .sh eD) (ve_cst (v := ("round" : Str)) (r := (en .sh eS)) rfl) (fun _ => rfl)) (fun _ _ => c_A)) (va_one (ve_blt (vl_one (ve_lcM (f := eD) (h := eB) (r := (en .sh eB)) (vi_A (ve_ix (ra := (en .sh (eT eD))) (rb := (en .sh eI)) (f := eD) (ve_var (v := told) (r := (en .sh (eT eD))) rfl) (ve_cst (v := (2 : Int)) (r := (en .sh eI)) rfl) (fun _ _ => i_T))) (fun _ => rfl) (fun (own : D) => (ve_cmp (ra := (en .sh eI)) (rb := (en .sh eI)) (ve_blt (vl_one (ve_dec (kdT kdI) (ve_var (v := own) (r := (en .sh eD)) rfl))) (fun _ => b_sumT)) (ve_cst (v := (0 : Int)) (r := (en .sh eI)) rfl) (fun _ _ => c_eq (f := eI) qI (by decide)))) (fun _ => rfl))) (fun _ => b_all)) rfl))) (fun _ => rfl) (fun _ => rfl))))) (by simp only [bnd_bnd, bnd_ret, if_true])))
theorem W_l_ends {ds : List Int} (k : Nat) (service : (Int × Int × Int)) (state : (List Int)) (new : Int) (most : Int) : Le (mp (en .sh eB) (l_ends service state new most)) (callF fns ds (k + 4) 9 [(eP (rC eI (rC eI (r1 eI)))) service, (eT eI) state, eI new, eI most]) :=
  fnT_ok (fn := fn9) rfl rfl (show X ⟨ds, callF fns ds (k + 3)⟩ bd9 [.sh ((eP (rC eI (rC eI (r1 eI)))) service), .sh ((eT eI) state), .sh (eI new), .sh (eI most), .un, .un] (bnd (l_round service state new most) fun (told : (Option (List D))) =>
  bnd (bnd (bnd (unwM told) fun (p2 : (List D)) => atM p2 (0 : Int)) fun (p4 : D) => cpA .eq p4 (eS ("round" : Str))) fun (p15 : Bool) => if p15 then bnd (bnd (bnd (bnd (bnd (unwM told) fun (p5 : (List D)) => atM p5 (2 : Int)) fun (p6 : D) => seqA p6) fun (p11 : (List D)) => bnd (cmpM p11 (fun (own : D) => bnd (bnd (bnd (decM (gT gI) own) fun (p7 : (List Int)) => ret p7.sum) fun (p8 : Int) => ret (decide ((0 : Int) < p8))) fun (p10 : Bool) => if p10 then ret (some own) else ret none)) smM) fun (p12 : (List D)) => ret ((eL eD) p12)) fun (p14 : D) => cpA .eq p14 ((eL eD) ([] : (List D))) else ret false) (fun v => .rt ((en .sh eB) v)) from
  (x_is (x_env (ρ' := [.sh ((eP (rC eI (rC eI (r1 eI)))) service), .sh ((eT eI) state), .sh (eI new), .sh (eI most), .un, .un]) rfl (x_asg (r := (en .sh (eO (eT eD)))) (ve_call (F := fun (p1 : (Int × Int × Int) × (List Int) × Int × Int) => l_round p1.1 p1.2.1 p1.2.2.1 p1.2.2.2) (r := en .sh (eO (eT eD))) (vl_cons (ve_var (v := service) (r := (en .sh (eP (rC eI (rC eI (r1 eI)))))) rfl) (vl_cons (ve_var (v := state) (r := (en .sh (eT eI))) rfl) (vl_cons (ve_var (v := new) (r := (en .sh eI)) rfl) (vl_one (ve_var (v := most) (r := (en .sh eI)) rfl))))) (fun p1 => W_l_round (ds := ds) k p1.1 p1.2.1 p1.2.2.1 p1.2.2.2) (fun _ _ => rfl)) (fun _ => rfl) fun (told : (Option (List D))) => (x_env (ρ' := [.sh ((eP (rC eI (rC eI (r1 eI)))) service), .sh ((eT eI) state), .sh (eI new), .sh (eI most), .sh ((eO (eT eD)) told), .un]) rfl (x_retF (r := (en .sh eB)) (ve_land (va_cons (ve_cmp (ra := (en .sh eD)) (rb := (en .sh eD)) (ve_ix (ra := (en .sh (eT eD))) (rb := (en .sh eI)) (f := eD) (ve_unw (f := (eT eD)) (ve_var (v := told) (r := (en .sh (eO (eT eD)))) rfl)) (ve_cst (v := (0 : Int)) (r := (en .sh eI)) rfl) (fun _ _ => i_T)) (ve_as (f := fun (p3 : Str) => (eS p3 : D)) (r' := en .sh eD) (ve_cst (v := ("round" : Str)) (r := (en .sh eS)) rfl) (fun _ => rfl)) (fun _ _ => c_A)) (va_one (ve_cmp (ra := (en .fr eD)) (rb := (en .fr eD)) (ve_as (f := fun (p12 : (List D)) => ((eL eD) p12 : D)) (r' := en .fr eD) (ve_lc (f := eD) (h := eD) (vi_A (ve_ix (ra := (en .sh (eT eD))) (rb := (en .sh eI)) (f := eD) (ve_unw (f := (eT eD)) (ve_var (v := told) (r := (en .sh (eO (eT eD)))) rfl)) (ve_cst (v := (2 : Int)) (r := (en .sh eI)) rfl) (fun _ _ => i_T))) (vb_mk (f := eD) (h := eD) (r := (en .sh eD)) (fun _ => rfl) (fun (own : D) => (VTO.so (vt_cmp (ra := (en .sh eI)) (rb := (en .sh eI)) (ve_blt (vl_one (ve_dec (kdT kdI) (ve_var (v := own) (r := (en .sh eD)) rfl))) (fun _ => b_sumT)) (ve_cst (v := (0 : Int)) (r := (en .sh eI)) rfl) (fun _ _ => c_gt)))) (fun (own : D) => (ve_var (v := own) (r := (en .sh eD)) rfl)) (fun _ => rfl))) (fun _ => rfl)) (ve_as (f := fun (p13 : (List D)) => ((eL eD) p13 : D)) (r' := en .fr eD) (ve_lst (f := eD) (h' := fun (_ : Unit) => ([] : (List D))) vl_nil (fun _ => rfl) (fun _ => Nat.zero_le _)) (fun _ => rfl)) (fun _ _ => c_A)) rfl))) (fun _ => rfl) (fun _ => rfl))))) (by simp only [bnd_bnd, bnd_ret, if_true])))
theorem W_f_least_storm {ds : List Int} (k : Nat) (service : (Int × Int × Int)) (wait : Int) (new : Int) (most : Int) : Le (mp (en .sh (eO eI)) (f_least_storm service wait new most)) (callF fns ds (k + 4) 10 [(eP (rC eI (rC eI (r1 eI)))) service, eI wait, eI new, eI most]) :=
  fnT_ok (fn := fn10) rfl rfl (show X ⟨ds, callF fns ds (k + 3)⟩ bd10 [.sh ((eP (rC eI (rC eI (r1 eI)))) service), .sh (eI wait), .sh (eI new), .sh (eI most), .un] (bnd (rngM 0 (most + (1 : Int))) fun (p13 : (List Int)) => bnd (forR p13 (fun (many : Int) (s1 : Unit) =>
  bnd (bnd (bnd (bnd (repM [(0 : Int)] (wait - (1 : Int))) fun (p4 : (List Int)) => catM' [many] p4) fun (p5 : (List Int)) => f_ends_storm service p5 new most) fun (p7 : Bool) => ret (!p7)) fun (b : Bool) => if b then
  ret (.rt (some many))
else
  ret (.nx ())) (() : Unit)) fun p12 => outC p12 (fun (s9 : Unit) =>
  ret (none : (Option Int))) (fun (p11 : (Option Int)) => ret p11)) (fun v => .rt ((en .sh (eO eI)) v)) from
  (x_is (x_env (ρ' := [.sh ((eP (rC eI (rC eI (r1 eI)))) service), .sh (eI wait), .sh (eI new), .sh (eI most), .un]) rfl (x_kil rfl (x_forR (f := eI) (env := (fun (s1 : Unit) => [.sh ((eP (rC eI (rC eI (r1 eI)))) service), .sh (eI wait), .sh (eI new), .sh (eI most), .un])) (s0 := (() : Unit)) (j := (fun (p11 : (Option Int)) => p11)) (r := en .sh (eO eI)) (vi_1 (ve_bin (ra := (en .sh eI)) (rb := (en .sh eI)) (ve_var (v := most) (r := (en .sh eI)) rfl) (ve_cst (v := (1 : Int)) (r := (en .sh eI)) rfl) (fun _ _ => o_add))) rfl (fun _ _ => rfl) (fun (many : Int) (s1 : Unit) => (x_env (ρ' := [.sh ((eP (rC eI (rC eI (r1 eI)))) service), .sh (eI wait), .sh (eI new), .sh (eI most), .sh (eI many)]) rfl (x_ite (vt_not (vt_val (ve_call (F := fun (p6 : (Int × Int × Int) × (List Int) × Int × Int) => f_ends_storm p6.1 p6.2.1 p6.2.2.1 p6.2.2.2) (r := en .sh eB) (vl_cons (ve_var (v := service) (r := (en .sh (eP (rC eI (rC eI (r1 eI)))))) rfl) (vl_cons (ve_bin (ra := (en .sh (eT eI))) (rb := (en .sh (eT eI))) (ve_as (f := fun (p3 : (Int)) => ([p3] : (List Int))) (r' := en .sh (eT eI)) (ve_tup (f := (r1 eI)) (vl_one (ve_var (v := many) (r := (en .sh eI)) rfl)) (fun _ => rfl) (fun _ => lenle)) (fun _ => rfl)) (ve_bin (ra := (en .sh (eT eI))) (rb := (en .sh eI)) (ve_as (f := fun (p2 : (Int)) => ([p2] : (List Int))) (r' := en .sh (eT eI)) (ve_tup (f := (r1 eI)) (vl_one (ve_cst (v := (0 : Int)) (r := (en .sh eI)) rfl)) (fun _ => rfl) (fun _ => lenle)) (fun _ => rfl)) (ve_bin (ra := (en .sh eI)) (rb := (en .sh eI)) (ve_var (v := wait) (r := (en .sh eI)) rfl) (ve_cst (v := (1 : Int)) (r := (en .sh eI)) rfl) (fun _ _ => o_sub)) (fun _ _ => o_mulT)) (fun _ _ => o_addT)) (vl_cons (ve_var (v := new) (r := (en .sh eI)) rfl) (vl_one (ve_var (v := most) (r := (en .sh eI)) rfl))))) (fun p6 => W_f_ends_storm (ds := ds) k p6.1 p6.2.1 p6.2.2.1 p6.2.2.2) (fun _ _ => rfl)))) (x_env (ρ' := [.sh ((eP (rC eI (rC eI (r1 eI)))) service), .sh (eI wait), .sh (eI new), .sh (eI most), .sh (eI many)]) rfl (x_retv (v := (.rt (some many) : Stp Unit (Option Int))) (q := (en .sh (eO eI)) (some many)) rfl rfl)) (x_kil rfl (x_nil (v := (.nx () : Stp Unit (Option Int))) rfl))))) (fun _ => rfl) (fun (s9 : Unit) => (x_env (ρ' := [.sh ((eP (rC eI (rC eI (r1 eI)))) service), .sh (eI wait), .sh (eI new), .sh (eI most), .un]) rfl (x_retF (r := (en .sh (eO eI))) (ve_as (f := fun (p10 : Unit) => ((none : (Option Int)) : (Option Int))) (r' := en .sh (eO eI)) (ve_cst (v := ()) (r := (en .sh eN)) rfl) (fun _ => rfl)) (fun _ => rfl) (fun _ => rfl))))))) (by simp only [bnd_bnd, bnd_ret, if_true])))
theorem W_f_greatest_new {ds : List Int} (k : Nat) (service : (Int × Int × Int)) (wait : Int) (most : Int) : Le (mp (en .sh eI) (f_greatest_new service wait most)) (callF fns ds (k + 2) 11 [(eP (rC eI (rC eI (r1 eI)))) service, eI wait, eI most]) :=
  fnT_ok (fn := fn11) rfl rfl (show X ⟨ds, callF fns ds (k + 1)⟩ bd11 [.sh ((eP (rC eI (rC eI (r1 eI)))) service), .sh (eI wait), .sh (eI most), .un, .un] (bnd (repM [(0 : Int)] wait) fun (calm : (List Int)) =>
  bnd (bnd (bnd (rngM 0 (most + (1 : Int))) fun (p9 : (List Int)) => bnd (cmpM p9 (fun (new : Int) => bnd (bnd (bnd (f_step service calm new) fun (p5 : (Int × (List Int))) => ret p5.2) fun (p6 : (List Int)) => ret (eqB p6 calm)) fun (p8 : Bool) => if p8 then ret (some new) else ret none)) smM) fun (p10 : (List Int)) => catM' [(0 : Int)] p10) fun (p11 : (List Int)) => maxI p11) (fun v => .rt ((en .sh eI) v)) from
  (x_is (x_env (ρ' := [.sh ((eP (rC eI (rC eI (r1 eI)))) service), .sh (eI wait), .sh (eI most), .un, .un]) rfl (x_asg (r := (en .sh (eT eI))) (ve_bin (ra := (en .sh (eT eI))) (rb := (en .sh eI)) (ve_as (f := fun (p1 : (Int)) => ([p1] : (List Int))) (r' := en .sh (eT eI)) (ve_tup (f := (r1 eI)) (vl_one (ve_cst (v := (0 : Int)) (r := (en .sh eI)) rfl)) (fun _ => rfl) (fun _ => lenle)) (fun _ => rfl)) (ve_var (v := wait) (r := (en .sh eI)) rfl) (fun _ _ => o_mulT)) (fun _ => rfl) fun (calm : (List Int)) => (x_env (ρ' := [.sh ((eP (rC eI (rC eI (r1 eI)))) service), .sh (eI wait), .sh (eI most), .sh ((eT eI) calm), .un]) rfl (x_retF (r := (en .sh eI)) (ve_blt (vl_one (ve_bin (ra := (en .fr (eL eI))) (rb := (en .fr (eL eI))) (ve_lst (f := eI) (h' := fun (p2 : Int) => [p2]) (vl_one (ve_cst (v := (0 : Int)) (r := (en .sh eI)) rfl)) (fun _ => rfl) (fun _ => lenle)) (ve_lc (f := eI) (h := eI) (vi_1 (ve_bin (ra := (en .sh eI)) (rb := (en .sh eI)) (ve_var (v := most) (r := (en .sh eI)) rfl) (ve_cst (v := (1 : Int)) (r := (en .sh eI)) rfl) (fun _ _ => o_add))) (vb_mk (f := eI) (h := eI) (r := (en .sh eI)) (fun _ => rfl) (fun (new : Int) => (VTO.so (vt_cmp (ra := (en .sh (eT eI))) (rb := (en .sh (eT eI))) (ve_ixC (p := fun (p4 : (Int × (List Int))) => p4.2) (f := (eT eI)) (ve_call (F := fun (p3 : (Int × Int × Int) × (List Int) × Int) => f_step p3.1 p3.2.1 p3.2.2) (r := en .sh (eP (rC eI (r1 (eT eI))))) (vl_cons (ve_var (v := service) (r := (en .sh (eP (rC eI (rC eI (r1 eI)))))) rfl) (vl_cons (ve_var (v := calm) (r := (en .sh (eT eI))) rfl) (vl_one (ve_var (v := new) (r := (en .sh eI)) rfl)))) (fun p3 => W_f_step (ds := ds) k p3.1 p3.2.1 p3.2.2) (fun _ _ => rfl)) (fun _ => rfl)) (ve_var (v := calm) (r := (en .sh (eT eI))) rfl) (fun _ _ => c_eq (f := (eT eI)) (qT qI) (by decide))))) (fun (new : Int) => (ve_var (v := new) (r := (en .sh eI)) rfl)) (fun _ => rfl))) (fun _ _ => o_addL (by decide) (by decide)))) (fun _ => b_maxLI)) (fun _ => rfl) (fun _ => rfl))))) (by simp only [bnd_bnd, bnd_ret, if_true])))
theorem W_law {ds ns : List Int} : X ⟨ds, callF fns ds 4⟩ bL (lawEnv ns 19) (the_law ds) (fun v => .rt (en .sh eB v)) :=
  show X ⟨ds, callF fns ds 4⟩ bL [.ro (.list (ns.map .int)), .sh tapeD, .un, .un, .un, .un, .un, .un, .un, .un, .un, .un, .un, .un, .un, .un, .un, .un, .un] (bnd (rngM 0 (4 : Int)) fun (p82 : (List Int)) => bnd (forR p82 (fun (turn : Int) (s1 : Unit) =>
  bnd (bnd (bnd (nextD ds (5 : Int)) fun (p2 : Int) => ret ((1 : Int) + p2)) fun (p5 : Int) => bnd (bnd (nextD ds (4 : Int)) fun (p3 : Int) => ret ((1 : Int) + p3)) fun (p6 : Int) => bnd (bnd (nextD ds (6 : Int)) fun (p4 : Int) => ret ((1 : Int) + p4)) fun (p7 : Int) => ret (p5, p6, p7)) fun (service : (Int × Int × Int)) =>
  bnd (bnd (bnd (nextD ds (3 : Int)) fun (p8 : Int) => ret ((1 : Int) + p8)) fun (p11 : Int) => bnd (nextD ds (4 : Int)) fun (p12 : Int) => bnd (bnd (nextD ds (8 : Int)) fun (p9 : Int) => ret ((4 : Int) + p9)) fun (p13 : Int) => ret (p11, p12, p13)) fun (p10 : (Int × Int × Int)) =>
  bnd (bnd (bnd (rngM 0 p10.1) fun (p14 : (List Int)) => bnd (mapM' p14 (fun (k_ : Int) => nextD ds (4 : Int))) smM) fun (p15 : (List Int)) => ret p15) fun (state : (List Int)) =>
  bnd (bnd (bnd (bnd (nextD ds (7 : Int)) fun (p16 : Int) => rngM 0 p16) fun (p17 : (List Int)) => bnd (mapM' p17 (fun (k_ : Int) => nextD ds (4 : Int))) smM) fun (p18 : (List Int)) => ret p18) fun (news : (List Int)) =>
  bnd (l_run service state news) fun (rows : (List (Int × Int × (List Int)))) =>
  bnd (bnd (bnd (f_run_storm service state news) fun (p23 : (List Int)) => bnd (bnd (smM (rows.map (fun (p21 : (Int × Int × (List Int))) => p21.1))) fun (p22 : (List Int)) => ret p22) fun (p24 : (List Int)) => ret (!eqB p23 p24)) fun (p30 : Bool) => if p30 then ret true else bnd (f_lost_work service state news) fun (p28 : Int) => bnd (bnd (smM (rows.map (fun (p26 : (Int × Int × (List Int))) => p26.2.1))) fun (p27 : (List Int)) => ret p27.sum) fun (p29 : Int) => ret (!eqB p28 p29)) fun (b : Bool) => if b then
  ret (.rt false)
else
  bnd (bnd (l_run_2 service state p10.2.1) fun (p33 : (List (Int × Int × (List Int)))) => atM p33 (0 : Int)) fun (first : (Int × Int × (List Int))) =>
  bnd (bnd (bnd (f_step service state p10.2.1) fun (p37 : (Int × (List Int))) => ret (!eqB p37 (first.1, first.2.2))) fun (p44 : Bool) => if p44 then ret true else bnd (bnd (f_goes_round service state p10.2.1 p10.2.2) fun (p40 : (List D)) => ret ((eT eD) p40)) fun (p42 : D) => bnd (bnd (l_round service state p10.2.1 p10.2.2) fun (p41 : (Option (List D))) => ret ((eO (eT eD)) p41)) fun (p43 : D) => cpA .ne p42 p43) fun (b : Bool) => if b then
  ret (.rt false)
else
  bnd (bnd (f_ends_storm service state p10.2.1 p10.2.2) fun (p48 : Bool) => bnd (l_ends service state p10.2.1 p10.2.2) fun (p49 : Bool) => ret (!eqB p48 p49)) fun (b : Bool) => if b then
  ret (.rt false)
else
  bnd (bnd (rngM 0 (p10.2.2 + (1 : Int))) fun (p59 : (List Int)) => bnd (cmpM p59 (fun (many : Int) => bnd (bnd (bnd (bnd (repM [(0 : Int)] (p10.1 - (1 : Int))) fun (p53 : (List Int)) => catM' [many] p53) fun (p54 : (List Int)) => l_ends service p54 p10.2.1 p10.2.2) fun (p56 : Bool) => ret (!p56)) fun (p58 : Bool) => if p58 then ret (some many) else ret none)) smM) fun (able : (List Int)) =>
  bnd (bnd (f_least_storm service p10.1 p10.2.1 p10.2.2) fun (p63 : (Option Int)) => bnd (if !eqB able ([] : (List Int)) then bnd (atM able (0 : Int)) fun (p61 : Int) => ret (some p61) else ret (none : (Option Int))) fun (p64 : (Option Int)) => ret (!eqB p63 p64)) fun (b : Bool) => if b then
  ret (.rt false)
else
  bnd (repM [(0 : Int)] p10.1) fun (calm : (List Int)) =>
  bnd (bnd (rngM 0 (p10.2.2 + (1 : Int))) fun (p74 : (List Int)) => bnd (cmpM p74 (fun (many : Int) => bnd (bnd (bnd (bnd (l_run_2 service calm many) fun (p68 : (List (Int × Int × (List Int)))) => atM p68 (0 : Int)) fun (p70 : (Int × Int × (List Int))) => ret p70.2.2) fun (p71 : (List Int)) => ret (eqB p71 calm)) fun (p73 : Bool) => if p73 then ret (some many) else ret none)) smM) fun (good : (List Int)) =>
  bnd (bnd (f_greatest_new service p10.1 p10.2.2) fun (p76 : Int) => bnd (maxI good) fun (p77 : Int) => ret (!eqB p76 p77)) fun (b : Bool) => if b then
  ret (.rt false)
else
  ret (.nx ())) (() : Unit)) fun p81 => outC p81 (fun (s79 : Unit) =>
  ret true) (fun (p80 : Bool) => ret p80)) (fun v => .rt (en .sh eB v)) from
  (x_is (x_kil rfl (x_env (ρ' := [.un, .sh (eW ()), .un, .un, .un, .un, .un, .un, .un, .un, .un, .un, .un, .un, .un, .un, .un, .un, .un]) rfl (x_kil rfl (x_forR (f := eI) (env := (fun (s1 : Unit) => [.un, .sh (eW ()), .un, .un, .un, .un, .un, .un, .un, .un, .un, .un, .un, .un, .un, .un, .un, .un, .un])) (s0 := (() : Unit)) (j := (fun (p80 : Bool) => p80)) (r := en .sh eB) (vi_1 (ve_cst (v := (4 : Int)) (r := (en .sh eI)) rfl)) rfl (fun _ _ => rfl) (fun (turn : Int) (s1 : Unit) => (x_env (ρ' := [.un, .sh (eW ()), .sh (eI turn), .un, .un, .un, .un, .un, .un, .un, .un, .un, .un, .un, .un, .un, .un, .un, .un]) rfl (x_asg (r := (en .sh (eP (rC eI (rC eI (r1 eI)))))) (ve_tup (f := (rC eI (rC eI (r1 eI)))) (vl_cons (ve_bin (ra := (en .sh eI)) (rb := (en .sh eI)) (ve_cst (v := (1 : Int)) (r := (en .sh eI)) rfl) (ve_nxt (ve_cst (v := (5 : Int)) (r := (en .sh eI)) rfl) rfl) (fun _ _ => o_add)) (vl_cons (ve_bin (ra := (en .sh eI)) (rb := (en .sh eI)) (ve_cst (v := (1 : Int)) (r := (en .sh eI)) rfl) (ve_nxt (ve_cst (v := (4 : Int)) (r := (en .sh eI)) rfl) rfl) (fun _ _ => o_add)) (vl_one (ve_bin (ra := (en .sh eI)) (rb := (en .sh eI)) (ve_cst (v := (1 : Int)) (r := (en .sh eI)) rfl) (ve_nxt (ve_cst (v := (6 : Int)) (r := (en .sh eI)) rfl) rfl) (fun _ _ => o_add))))) (fun _ => rfl) (fun _ => lenle)) (fun _ => rfl) fun (service : (Int × Int × Int)) => (x_env (ρ' := [.un, .sh (eW ()), .sh (eI turn), .sh ((eP (rC eI (rC eI (r1 eI)))) service), .un, .un, .un, .un, .un, .un, .un, .un, .un, .un, .un, .un, .un, .un, .un]) rfl (x_parX (vl_cons (ve_bin (ra := (en .sh eI)) (rb := (en .sh eI)) (ve_cst (v := (1 : Int)) (r := (en .sh eI)) rfl) (ve_nxt (ve_cst (v := (3 : Int)) (r := (en .sh eI)) rfl) rfl) (fun _ _ => o_add)) (vl_cons (ve_nxt (ve_cst (v := (4 : Int)) (r := (en .sh eI)) rfl) rfl) (vl_one (ve_bin (ra := (en .sh eI)) (rb := (en .sh eI)) (ve_cst (v := (4 : Int)) (r := (en .sh eI)) rfl) (ve_nxt (ve_cst (v := (8 : Int)) (r := (en .sh eI)) rfl) rfl) (fun _ _ => o_add))))) (fun _ => rfl) fun (p10 : (Int × Int × Int)) => (sx_tg rfl (sx_tg rfl (sx_tg rfl (sx_nil (x_env (ρ' := [.un, .sh (eW ()), .sh (eI turn), .sh ((eP (rC eI (rC eI (r1 eI)))) service), .sh (eI p10.1), .sh (eI p10.2.1), .sh (eI p10.2.2), .un, .un, .un, .un, .un, .un, .un, .un, .un, .un, .un, .un]) rfl (x_asg (r := (en .sh (eT eI))) (ve_blt (vl_one (ve_lcM (f := eI) (h := eI) (r := (en .sh eI)) (vi_1 (ve_var (v := p10.1) (r := (en .sh eI)) rfl)) (fun _ => rfl) (fun (k_ : Int) => (ve_nxt (ve_cst (v := (4 : Int)) (r := (en .sh eI)) rfl) rfl)) (fun _ => rfl))) (fun _ => b_tupL)) (fun _ => rfl) fun (state : (List Int)) => (x_env (ρ' := [.un, .sh (eW ()), .sh (eI turn), .sh ((eP (rC eI (rC eI (r1 eI)))) service), .sh (eI p10.1), .sh (eI p10.2.1), .sh (eI p10.2.2), .sh ((eT eI) state), .un, .un, .un, .un, .un, .un, .un, .un, .un, .un, .un]) rfl (x_asg (r := (en .sh (eT eI))) (ve_blt (vl_one (ve_lcM (f := eI) (h := eI) (r := (en .sh eI)) (vi_1 (ve_nxt (ve_cst (v := (7 : Int)) (r := (en .sh eI)) rfl) rfl)) (fun _ => rfl) (fun (k_ : Int) => (ve_nxt (ve_cst (v := (4 : Int)) (r := (en .sh eI)) rfl) rfl)) (fun _ => rfl))) (fun _ => b_tupL)) (fun _ => rfl) fun (news : (List Int)) => (x_env (ρ' := [.un, .sh (eW ()), .sh (eI turn), .sh ((eP (rC eI (rC eI (r1 eI)))) service), .sh (eI p10.1), .sh (eI p10.2.1), .sh (eI p10.2.2), .sh ((eT eI) state), .sh ((eT eI) news), .un, .un, .un, .un, .un, .un, .un, .un, .un, .un]) rfl (x_asg (r := (en .fr (eL (eP (rC eI (rC eI (r1 (eT eI)))))))) (ve_call (F := fun (p19 : (Int × Int × Int) × (List Int) × (List Int)) => l_run p19.1 p19.2.1 p19.2.2) (r := en .fr (eL (eP (rC eI (rC eI (r1 (eT eI))))))) (vl_cons (ve_var (v := service) (r := (en .sh (eP (rC eI (rC eI (r1 eI)))))) rfl) (vl_cons (ve_var (v := state) (r := (en .sh (eT eI))) rfl) (vl_one (ve_var (v := news) (r := (en .sh (eT eI))) rfl)))) (fun p19 => W_l_run (ds := ds) 2 p19.1 p19.2.1 p19.2.2) (fun _ _ => rfl)) (fun _ => rfl) fun (rows : (List (Int × Int × (List Int)))) => (x_env (ρ' := [.un, .sh (eW ()), .sh (eI turn), .sh ((eP (rC eI (rC eI (r1 eI)))) service), .sh (eI p10.1), .sh (eI p10.2.1), .sh (eI p10.2.2), .sh ((eT eI) state), .sh ((eT eI) news), .ow ((eL (eP (rC eI (rC eI (r1 (eT eI)))))) rows), .un, .un, .un, .un, .un, .un, .un, .un, .un]) rfl (x_ite (vt_or (vto_cons (vt_cmp (ra := (en .sh (eT eI))) (rb := (en .sh (eT eI))) (ve_call (F := fun (p20 : (Int × Int × Int) × (List Int) × (List Int)) => f_run_storm p20.1 p20.2.1 p20.2.2) (r := en .sh (eT eI)) (vl_cons (ve_var (v := service) (r := (en .sh (eP (rC eI (rC eI (r1 eI)))))) rfl) (vl_cons (ve_var (v := state) (r := (en .sh (eT eI))) rfl) (vl_one (ve_var (v := news) (r := (en .sh (eT eI))) rfl)))) (fun p20 => W_f_run_storm (ds := ds) 2 p20.1 p20.2.1 p20.2.2) (fun _ _ => rfl)) (ve_blt (vl_one (ve_lcA (f := (eP (rC eI (rC eI (r1 (eT eI)))))) (h := eI) (r := (en .sh eI)) (v := fun (p21 : (Int × Int × (List Int))) => p21.1) (vi_L (ve_var (v := rows) (r := (en .pk (eL (eP (rC eI (rC eI (r1 (eT eI)))))))) rfl)) (fun _ => rfl) (fun (p21 : (Int × Int × (List Int))) => (ve_is (ve_var (v := p21.1) (r := (en .sh eI)) rfl) rfl : VE _ _ _ (ret p21.1) (en .sh eI))) (fun _ => rfl))) (fun _ => b_tupL)) (fun _ _ => c_ne (f := (eT eI)) (qT qI) (by decide))) (vto_one (vt_cmp (ra := (en .sh eI)) (rb := (en .sh eI)) (ve_call (F := fun (p25 : (Int × Int × Int) × (List Int) × (List Int)) => f_lost_work p25.1 p25.2.1 p25.2.2) (r := en .sh eI) (vl_cons (ve_var (v := service) (r := (en .sh (eP (rC eI (rC eI (r1 eI)))))) rfl) (vl_cons (ve_var (v := state) (r := (en .sh (eT eI))) rfl) (vl_one (ve_var (v := news) (r := (en .sh (eT eI))) rfl)))) (fun p25 => W_f_lost_work (ds := ds) 2 p25.1 p25.2.1 p25.2.2) (fun _ _ => rfl)) (ve_blt (vl_one (ve_lcA (f := (eP (rC eI (rC eI (r1 (eT eI)))))) (h := eI) (r := (en .sh eI)) (v := fun (p26 : (Int × Int × (List Int))) => p26.2.1) (vi_L (ve_var (v := rows) (r := (en .pk (eL (eP (rC eI (rC eI (r1 (eT eI)))))))) rfl)) (fun _ => rfl) (fun (p26 : (Int × Int × (List Int))) => (ve_is (ve_var (v := p26.2.1) (r := (en .sh eI)) rfl) rfl : VE _ _ _ (ret p26.2.1) (en .sh eI))) (fun _ => rfl))) (fun _ => b_sum)) (fun _ _ => c_ne (f := eI) qI (by decide)))))) (x_env (ρ' := [.un, .sh (eW ()), .sh (eI turn), .sh ((eP (rC eI (rC eI (r1 eI)))) service), .sh (eI p10.1), .sh (eI p10.2.1), .sh (eI p10.2.2), .sh ((eT eI) state), .sh ((eT eI) news), .ow ((eL (eP (rC eI (rC eI (r1 (eT eI)))))) rows), .un, .un, .un, .un, .un, .un, .un, .un, .un]) rfl (x_ret (r := (en .sh eB)) (j := fun (p31 : Bool) => (.rt p31 : Stp Unit Bool)) (ve_cst (v := false) (r := (en .sh eB)) rfl) (fun _ => rfl) (fun _ => rfl))) (x_env (ρ' := [.un, .sh (eW ()), .sh (eI turn), .sh ((eP (rC eI (rC eI (r1 eI)))) service), .sh (eI p10.1), .sh (eI p10.2.1), .sh (eI p10.2.2), .sh ((eT eI) state), .sh ((eT eI) news), .ow ((eL (eP (rC eI (rC eI (r1 (eT eI)))))) rows), .un, .un, .un, .un, .un, .un, .un, .un, .un]) rfl (x_asg (r := (en .sh (eP (rC eI (rC eI (r1 (eT eI))))))) (ve_ix (ra := (en .fr (eL (eP (rC eI (rC eI (r1 (eT eI)))))))) (rb := (en .sh eI)) (f := (eP (rC eI (rC eI (r1 (eT eI)))))) (ve_call (F := fun (p32 : (Int × Int × Int) × (List Int) × (Int)) => l_run_2 p32.1 p32.2.1 p32.2.2) (r := en .fr (eL (eP (rC eI (rC eI (r1 (eT eI))))))) (vl_cons (ve_var (v := service) (r := (en .sh (eP (rC eI (rC eI (r1 eI)))))) rfl) (vl_cons (ve_var (v := state) (r := (en .sh (eT eI))) rfl) (vl_one (ve_tup (f := (r1 eI)) (vl_one (ve_var (v := p10.2.1) (r := (en .sh eI)) rfl)) (fun _ => rfl) (fun _ => lenle))))) (fun p32 => W_l_run_2 (ds := ds) 2 p32.1 p32.2.1 p32.2.2) (fun _ _ => rfl)) (ve_cst (v := (0 : Int)) (r := (en .sh eI)) rfl) (fun _ _ => i_L)) (fun _ => rfl) fun (first : (Int × Int × (List Int))) => (x_env (ρ' := [.un, .sh (eW ()), .sh (eI turn), .sh ((eP (rC eI (rC eI (r1 eI)))) service), .sh (eI p10.1), .sh (eI p10.2.1), .sh (eI p10.2.2), .sh ((eT eI) state), .sh ((eT eI) news), .ow ((eL (eP (rC eI (rC eI (r1 (eT eI)))))) rows), .sh ((eP (rC eI (rC eI (r1 (eT eI))))) first), .un, .un, .un, .un, .un, .un, .un, .un]) rfl (x_ite (vt_or (vto_cons (vt_cmp (ra := (en .sh (eP (rC eI (r1 (eT eI)))))) (rb := (en .sh (eP (rC eI (r1 (eT eI)))))) (ve_call (F := fun (p34 : (Int × Int × Int) × (List Int) × Int) => f_step p34.1 p34.2.1 p34.2.2) (r := en .sh (eP (rC eI (r1 (eT eI))))) (vl_cons (ve_var (v := service) (r := (en .sh (eP (rC eI (rC eI (r1 eI)))))) rfl) (vl_cons (ve_var (v := state) (r := (en .sh (eT eI))) rfl) (vl_one (ve_var (v := p10.2.1) (r := (en .sh eI)) rfl)))) (fun p34 => W_f_step (ds := ds) 3 p34.1 p34.2.1 p34.2.2) (fun _ _ => rfl)) (ve_tup (f := (rC eI (r1 (eT eI)))) (vl_cons (ve_ixC (p := fun (p35 : (Int × Int × (List Int))) => p35.1) (f := eI) (ve_var (v := first) (r := (en .sh (eP (rC eI (rC eI (r1 (eT eI))))))) rfl) (fun _ => rfl)) (vl_one (ve_ixC (p := fun (p36 : (Int × Int × (List Int))) => p36.2.2) (f := (eT eI)) (ve_var (v := first) (r := (en .sh (eP (rC eI (rC eI (r1 (eT eI))))))) rfl) (fun _ => rfl)))) (fun _ => rfl) (fun _ => lenle)) (fun _ _ => c_ne (f := (eP (rC eI (r1 (eT eI))))) (qP (qrC qI (qr1 (qT qI)))) (by decide))) (vto_one (vt_cmp (ra := (en .sh eD)) (rb := (en .sh eD)) (ve_as (f := fun (p40 : (List D)) => ((eT eD) p40 : D)) (r' := en .sh eD) (ve_call (F := fun (p38 : (Int × Int × Int) × (List Int) × Int × Int) => f_goes_round p38.1 p38.2.1 p38.2.2.1 p38.2.2.2) (r := en .sh (eT eD)) (vl_cons (ve_var (v := service) (r := (en .sh (eP (rC eI (rC eI (r1 eI)))))) rfl) (vl_cons (ve_var (v := state) (r := (en .sh (eT eI))) rfl) (vl_cons (ve_var (v := p10.2.1) (r := (en .sh eI)) rfl) (vl_one (ve_var (v := p10.2.2) (r := (en .sh eI)) rfl))))) (fun p38 => W_f_goes_round (ds := ds) 2 p38.1 p38.2.1 p38.2.2.1 p38.2.2.2) (fun _ _ => rfl)) (fun _ => rfl)) (ve_as (f := fun (p41 : (Option (List D))) => ((eO (eT eD)) p41 : D)) (r' := en .sh eD) (ve_call (F := fun (p39 : (Int × Int × Int) × (List Int) × Int × Int) => l_round p39.1 p39.2.1 p39.2.2.1 p39.2.2.2) (r := en .sh (eO (eT eD))) (vl_cons (ve_var (v := service) (r := (en .sh (eP (rC eI (rC eI (r1 eI)))))) rfl) (vl_cons (ve_var (v := state) (r := (en .sh (eT eI))) rfl) (vl_cons (ve_var (v := p10.2.1) (r := (en .sh eI)) rfl) (vl_one (ve_var (v := p10.2.2) (r := (en .sh eI)) rfl))))) (fun p39 => W_l_round (ds := ds) 1 p39.1 p39.2.1 p39.2.2.1 p39.2.2.2) (fun _ _ => rfl)) (fun _ => rfl)) (fun _ _ => c_A))))) (x_env (ρ' := [.un, .sh (eW ()), .sh (eI turn), .sh ((eP (rC eI (rC eI (r1 eI)))) service), .sh (eI p10.1), .sh (eI p10.2.1), .sh (eI p10.2.2), .sh ((eT eI) state), .sh ((eT eI) news), .ow ((eL (eP (rC eI (rC eI (r1 (eT eI)))))) rows), .sh ((eP (rC eI (rC eI (r1 (eT eI))))) first), .un, .un, .un, .un, .un, .un, .un, .un]) rfl (x_ret (r := (en .sh eB)) (j := fun (p45 : Bool) => (.rt p45 : Stp Unit Bool)) (ve_cst (v := false) (r := (en .sh eB)) rfl) (fun _ => rfl) (fun _ => rfl))) (x_env (ρ' := [.un, .sh (eW ()), .sh (eI turn), .sh ((eP (rC eI (rC eI (r1 eI)))) service), .sh (eI p10.1), .sh (eI p10.2.1), .sh (eI p10.2.2), .sh ((eT eI) state), .sh ((eT eI) news), .ow ((eL (eP (rC eI (rC eI (r1 (eT eI)))))) rows), .sh ((eP (rC eI (rC eI (r1 (eT eI))))) first), .un, .un, .un, .un, .un, .un, .un, .un]) rfl (x_ite (vt_cmp (ra := (en .sh eB)) (rb := (en .sh eB)) (ve_call (F := fun (p46 : (Int × Int × Int) × (List Int) × Int × Int) => f_ends_storm p46.1 p46.2.1 p46.2.2.1 p46.2.2.2) (r := en .sh eB) (vl_cons (ve_var (v := service) (r := (en .sh (eP (rC eI (rC eI (r1 eI)))))) rfl) (vl_cons (ve_var (v := state) (r := (en .sh (eT eI))) rfl) (vl_cons (ve_var (v := p10.2.1) (r := (en .sh eI)) rfl) (vl_one (ve_var (v := p10.2.2) (r := (en .sh eI)) rfl))))) (fun p46 => W_f_ends_storm (ds := ds) 1 p46.1 p46.2.1 p46.2.2.1 p46.2.2.2) (fun _ _ => rfl)) (ve_call (F := fun (p47 : (Int × Int × Int) × (List Int) × Int × Int) => l_ends p47.1 p47.2.1 p47.2.2.1 p47.2.2.2) (r := en .sh eB) (vl_cons (ve_var (v := service) (r := (en .sh (eP (rC eI (rC eI (r1 eI)))))) rfl) (vl_cons (ve_var (v := state) (r := (en .sh (eT eI))) rfl) (vl_cons (ve_var (v := p10.2.1) (r := (en .sh eI)) rfl) (vl_one (ve_var (v := p10.2.2) (r := (en .sh eI)) rfl))))) (fun p47 => W_l_ends (ds := ds) 0 p47.1 p47.2.1 p47.2.2.1 p47.2.2.2) (fun _ _ => rfl)) (fun _ _ => c_ne (f := eB) qB (by decide))) (x_env (ρ' := [.un, .sh (eW ()), .sh (eI turn), .sh ((eP (rC eI (rC eI (r1 eI)))) service), .sh (eI p10.1), .sh (eI p10.2.1), .sh (eI p10.2.2), .sh ((eT eI) state), .sh ((eT eI) news), .ow ((eL (eP (rC eI (rC eI (r1 (eT eI)))))) rows), .sh ((eP (rC eI (rC eI (r1 (eT eI))))) first), .un, .un, .un, .un, .un, .un, .un, .un]) rfl (x_ret (r := (en .sh eB)) (j := fun (p50 : Bool) => (.rt p50 : Stp Unit Bool)) (ve_cst (v := false) (r := (en .sh eB)) rfl) (fun _ => rfl) (fun _ => rfl))) (x_env (ρ' := [.un, .sh (eW ()), .sh (eI turn), .sh ((eP (rC eI (rC eI (r1 eI)))) service), .sh (eI p10.1), .sh (eI p10.2.1), .sh (eI p10.2.2), .sh ((eT eI) state), .sh ((eT eI) news), .ow ((eL (eP (rC eI (rC eI (r1 (eT eI)))))) rows), .sh ((eP (rC eI (rC eI (r1 (eT eI))))) first), .un, .un, .un, .un, .un, .un, .un, .un]) rfl (x_asg (r := (en .fr (eL eI))) (ve_lc (f := eI) (h := eI) (vi_1 (ve_bin (ra := (en .sh eI)) (rb := (en .sh eI)) (ve_var (v := p10.2.2) (r := (en .sh eI)) rfl) (ve_cst (v := (1 : Int)) (r := (en .sh eI)) rfl) (fun _ _ => o_add))) (vb_mk (f := eI) (h := eI) (r := (en .sh eI)) (fun _ => rfl) (fun (many : Int) => (VTO.so (vt_not (vt_val (ve_call (F := fun (p55 : (Int × Int × Int) × (List Int) × Int × Int) => l_ends p55.1 p55.2.1 p55.2.2.1 p55.2.2.2) (r := en .sh eB) (vl_cons (ve_var (v := service) (r := (en .sh (eP (rC eI (rC eI (r1 eI)))))) rfl) (vl_cons (ve_bin (ra := (en .sh (eT eI))) (rb := (en .sh (eT eI))) (ve_as (f := fun (p52 : (Int)) => ([p52] : (List Int))) (r' := en .sh (eT eI)) (ve_tup (f := (r1 eI)) (vl_one (ve_var (v := many) (r := (en .sh eI)) rfl)) (fun _ => rfl) (fun _ => lenle)) (fun _ => rfl)) (ve_bin (ra := (en .sh (eT eI))) (rb := (en .sh eI)) (ve_as (f := fun (p51 : (Int)) => ([p51] : (List Int))) (r' := en .sh (eT eI)) (ve_tup (f := (r1 eI)) (vl_one (ve_cst (v := (0 : Int)) (r := (en .sh eI)) rfl)) (fun _ => rfl) (fun _ => lenle)) (fun _ => rfl)) (ve_bin (ra := (en .sh eI)) (rb := (en .sh eI)) (ve_var (v := p10.1) (r := (en .sh eI)) rfl) (ve_cst (v := (1 : Int)) (r := (en .sh eI)) rfl) (fun _ _ => o_sub)) (fun _ _ => o_mulT)) (fun _ _ => o_addT)) (vl_cons (ve_var (v := p10.2.1) (r := (en .sh eI)) rfl) (vl_one (ve_var (v := p10.2.2) (r := (en .sh eI)) rfl))))) (fun p55 => W_l_ends (ds := ds) 0 p55.1 p55.2.1 p55.2.2.1 p55.2.2.2) (fun _ _ => rfl)))))) (fun (many : Int) => (ve_var (v := many) (r := (en .sh eI)) rfl)) (fun _ => rfl))) (fun _ => rfl) fun (able : (List Int)) => (x_env (ρ' := [.un, .sh (eW ()), .sh (eI turn), .sh ((eP (rC eI (rC eI (r1 eI)))) service), .sh (eI p10.1), .sh (eI p10.2.1), .sh (eI p10.2.2), .sh ((eT eI) state), .sh ((eT eI) news), .ow ((eL (eP (rC eI (rC eI (r1 (eT eI)))))) rows), .sh ((eP (rC eI (rC eI (r1 (eT eI))))) first), .ow ((eL eI) able), .un, .un, .un, .un, .un, .un, .un]) rfl (x_ite (vt_cmp (ra := (en .sh (eO eI))) (rb := (en .sh (eO eI))) (ve_call (F := fun (p60 : (Int × Int × Int) × Int × Int × Int) => f_least_storm p60.1 p60.2.1 p60.2.2.1 p60.2.2.2) (r := en .sh (eO eI)) (vl_cons (ve_var (v := service) (r := (en .sh (eP (rC eI (rC eI (r1 eI)))))) rfl) (vl_cons (ve_var (v := p10.1) (r := (en .sh eI)) rfl) (vl_cons (ve_var (v := p10.2.1) (r := (en .sh eI)) rfl) (vl_one (ve_var (v := p10.2.2) (r := (en .sh eI)) rfl))))) (fun p60 => W_f_least_storm (ds := ds) 0 p60.1 p60.2.1 p60.2.2.1 p60.2.2.2) (fun _ _ => rfl)) (ve_ite (r := (en .sh (eO eI))) (vt_cmp (ra := (en .pk (eL eI))) (rb := (en .fr (eL eI))) (ve_var (v := able) (r := (en .pk (eL eI))) rfl) (ve_lst (f := eI) (h' := fun (_ : Unit) => ([] : (List Int))) vl_nil (fun _ => rfl) (fun _ => Nat.zero_le _)) (fun _ _ => c_ne (f := (eL eI)) (qL qI) (by decide))) (ve_as (f := fun (p61 : Int) => (some p61 : (Option Int))) (r' := en .sh (eO eI)) (ve_ix (ra := (en .pk (eL eI))) (rb := (en .sh eI)) (f := eI) (ve_var (v := able) (r := (en .pk (eL eI))) rfl) (ve_cst (v := (0 : Int)) (r := (en .sh eI)) rfl) (fun _ _ => i_L)) (fun _ => rfl)) (ve_as (f := fun (p62 : Unit) => ((none : (Option Int)) : (Option Int))) (r' := en .sh (eO eI)) (ve_cst (v := ()) (r := (en .sh eN)) rfl) (fun _ => rfl))) (fun _ _ => c_ne (f := (eO eI)) (qO qI) (by decide))) (x_env (ρ' := [.un, .sh (eW ()), .sh (eI turn), .sh ((eP (rC eI (rC eI (r1 eI)))) service), .sh (eI p10.1), .sh (eI p10.2.1), .sh (eI p10.2.2), .sh ((eT eI) state), .sh ((eT eI) news), .ow ((eL (eP (rC eI (rC eI (r1 (eT eI)))))) rows), .sh ((eP (rC eI (rC eI (r1 (eT eI))))) first), .ow ((eL eI) able), .un, .un, .un, .un, .un, .un, .un]) rfl (x_ret (r := (en .sh eB)) (j := fun (p65 : Bool) => (.rt p65 : Stp Unit Bool)) (ve_cst (v := false) (r := (en .sh eB)) rfl) (fun _ => rfl) (fun _ => rfl))) (x_env (ρ' := [.un, .sh (eW ()), .sh (eI turn), .sh ((eP (rC eI (rC eI (r1 eI)))) service), .sh (eI p10.1), .sh (eI p10.2.1), .sh (eI p10.2.2), .sh ((eT eI) state), .sh ((eT eI) news), .ow ((eL (eP (rC eI (rC eI (r1 (eT eI)))))) rows), .sh ((eP (rC eI (rC eI (r1 (eT eI))))) first), .ow ((eL eI) able), .un, .un, .un, .un, .un, .un, .un]) rfl (x_asg (r := (en .sh (eT eI))) (ve_bin (ra := (en .sh (eT eI))) (rb := (en .sh eI)) (ve_as (f := fun (p66 : (Int)) => ([p66] : (List Int))) (r' := en .sh (eT eI)) (ve_tup (f := (r1 eI)) (vl_one (ve_cst (v := (0 : Int)) (r := (en .sh eI)) rfl)) (fun _ => rfl) (fun _ => lenle)) (fun _ => rfl)) (ve_var (v := p10.1) (r := (en .sh eI)) rfl) (fun _ _ => o_mulT)) (fun _ => rfl) fun (calm : (List Int)) => (x_env (ρ' := [.un, .sh (eW ()), .sh (eI turn), .sh ((eP (rC eI (rC eI (r1 eI)))) service), .sh (eI p10.1), .sh (eI p10.2.1), .sh (eI p10.2.2), .sh ((eT eI) state), .sh ((eT eI) news), .ow ((eL (eP (rC eI (rC eI (r1 (eT eI)))))) rows), .sh ((eP (rC eI (rC eI (r1 (eT eI))))) first), .ow ((eL eI) able), .sh ((eT eI) calm), .un, .un, .un, .un, .un, .un]) rfl (x_asg (r := (en .fr (eL eI))) (ve_lc (f := eI) (h := eI) (vi_1 (ve_bin (ra := (en .sh eI)) (rb := (en .sh eI)) (ve_var (v := p10.2.2) (r := (en .sh eI)) rfl) (ve_cst (v := (1 : Int)) (r := (en .sh eI)) rfl) (fun _ _ => o_add))) (vb_mk (f := eI) (h := eI) (r := (en .sh eI)) (fun _ => rfl) (fun (many : Int) => (VTO.so (vt_cmp (ra := (en .sh (eT eI))) (rb := (en .sh (eT eI))) (ve_ixC (p := fun (p69 : (Int × Int × (List Int))) => p69.2.2) (f := (eT eI)) (ve_ix (ra := (en .fr (eL (eP (rC eI (rC eI (r1 (eT eI)))))))) (rb := (en .sh eI)) (f := (eP (rC eI (rC eI (r1 (eT eI)))))) (ve_call (F := fun (p67 : (Int × Int × Int) × (List Int) × (Int)) => l_run_2 p67.1 p67.2.1 p67.2.2) (r := en .fr (eL (eP (rC eI (rC eI (r1 (eT eI))))))) (vl_cons (ve_var (v := service) (r := (en .sh (eP (rC eI (rC eI (r1 eI)))))) rfl) (vl_cons (ve_var (v := calm) (r := (en .sh (eT eI))) rfl) (vl_one (ve_tup (f := (r1 eI)) (vl_one (ve_var (v := many) (r := (en .sh eI)) rfl)) (fun _ => rfl) (fun _ => lenle))))) (fun p67 => W_l_run_2 (ds := ds) 2 p67.1 p67.2.1 p67.2.2) (fun _ _ => rfl)) (ve_cst (v := (0 : Int)) (r := (en .sh eI)) rfl) (fun _ _ => i_L)) (fun _ => rfl)) (ve_var (v := calm) (r := (en .sh (eT eI))) rfl) (fun _ _ => c_eq (f := (eT eI)) (qT qI) (by decide))))) (fun (many : Int) => (ve_var (v := many) (r := (en .sh eI)) rfl)) (fun _ => rfl))) (fun _ => rfl) fun (good : (List Int)) => (x_env (ρ' := [.un, .sh (eW ()), .sh (eI turn), .sh ((eP (rC eI (rC eI (r1 eI)))) service), .sh (eI p10.1), .sh (eI p10.2.1), .sh (eI p10.2.2), .sh ((eT eI) state), .sh ((eT eI) news), .ow ((eL (eP (rC eI (rC eI (r1 (eT eI)))))) rows), .sh ((eP (rC eI (rC eI (r1 (eT eI))))) first), .ow ((eL eI) able), .sh ((eT eI) calm), .ow ((eL eI) good), .un, .un, .un, .un, .un]) rfl (x_ite (vt_cmp (ra := (en .sh eI)) (rb := (en .sh eI)) (ve_call (F := fun (p75 : (Int × Int × Int) × Int × Int) => f_greatest_new p75.1 p75.2.1 p75.2.2) (r := en .sh eI) (vl_cons (ve_var (v := service) (r := (en .sh (eP (rC eI (rC eI (r1 eI)))))) rfl) (vl_cons (ve_var (v := p10.1) (r := (en .sh eI)) rfl) (vl_one (ve_var (v := p10.2.2) (r := (en .sh eI)) rfl)))) (fun p75 => W_f_greatest_new (ds := ds) 2 p75.1 p75.2.1 p75.2.2) (fun _ _ => rfl)) (ve_blt (vl_one (ve_var (v := good) (r := (en .pk (eL eI))) rfl)) (fun _ => b_maxLI)) (fun _ _ => c_ne (f := eI) qI (by decide))) (x_env (ρ' := [.un, .sh (eW ()), .sh (eI turn), .sh ((eP (rC eI (rC eI (r1 eI)))) service), .sh (eI p10.1), .sh (eI p10.2.1), .sh (eI p10.2.2), .sh ((eT eI) state), .sh ((eT eI) news), .ow ((eL (eP (rC eI (rC eI (r1 (eT eI)))))) rows), .sh ((eP (rC eI (rC eI (r1 (eT eI))))) first), .ow ((eL eI) able), .sh ((eT eI) calm), .ow ((eL eI) good), .un, .un, .un, .un, .un]) rfl (x_ret (r := (en .sh eB)) (j := fun (p78 : Bool) => (.rt p78 : Stp Unit Bool)) (ve_cst (v := false) (r := (en .sh eB)) rfl) (fun _ => rfl) (fun _ => rfl))) (x_kil rfl (x_nil (v := (.nx () : Stp Unit Bool)) rfl))))))))))))))))))))))))))))))))))) (fun _ => rfl) (fun (s79 : Unit) => (x_env (ρ' := [.un, .sh (eW ()), .un, .un, .un, .un, .un, .un, .un, .un, .un, .un, .un, .un, .un, .un, .un, .un, .un]) rfl (x_retF (r := (en .sh eB)) (ve_cst (v := true) (r := (en .sh eB)) rfl) (fun _ => rfl) (fun _ => rfl)))))))) (by simp only [bnd_bnd, bnd_ret, if_true]))
theorem run_of (h : ∀ ds : List Int, ds.length = 120 → (∀ d ∈ ds, 0 ≤ d ∧ d < 997) → Yes (the_law ds) 0 fun v _ => v = true) : ∀ (ns ds : List Int), ns.length ≤ 63 → ds.length = 120 → (∀ d ∈ ds, 0 ≤ d ∧ d < 997) → Yes (execs ⟨ds, callF fns ds 4⟩ bL (lawEnv ns 19)) 0 fun fl _ => fl = .rt ⟨.sh, .bool true⟩ := fun _ ds _ hl hd => law_run W_law (h ds hl hd)
end K11
namespace K11
open Q
abbrev Sv := Int × Int × Int
def dn (s : Sv) (c : Int) : Int := min (min c s.1) (if decide (c ≤ s.2.2) = true then s.2.1 else s.2.1 / 2)
theorem dn_le (s : Sv) (c : Int) : dn s c ≤ c := by unfold dn; omega
def nx (s : Sv) (new : Int) : List Int → List Int
  | [] => []
  | x :: r => r ++ [x + new - dn s (x + new)]
def dnx (s : Sv) (new : Int) : List Int → Int
  | [] => 0
  | x :: _ => dn s (x + new)
def rsx (s : Sv) (new : Int) : List Int → Int
  | [] => 0
  | x :: _ => x + new - dn s (x + new)
def rwT (s : Sv) (new : Int) (st : List Int) : Int × Int × List Int := (dnx s new st, rsx s new st, nx s new st)
def rws (s : Sv) : List Int → List Int → List (Int × Int × List Int)
  | _, [] => []
  | st, new :: ns => rwT s new st :: rws s (nx s new st) ns
def fin (s : Sv) (st : List Int) (ns : List Int) : List Int := ns.foldl (fun st new => nx s new st) st
theorem nx_len (s : Sv) (new : Int) (st : List Int) : (nx s new st).length = st.length := by
  cases st <;> simp [nx]
theorem nx_ne {s : Sv} {new : Int} {st : List Int} (h : st ≠ []) : nx s new st ≠ [] := fun e => h (List.eq_nil_of_length_eq_zero (by rw [← nx_len s new st, e]; rfl))
theorem fin_len (s : Sv) : ∀ (ns st : List Int), (fin s st ns).length = st.length
  | [], _ => rfl
  | n :: ns, st => by
    show (fin s (nx s n st) ns).length = _
    rw [fin_len s ns, nx_len]
theorem rws_snoc (s : Sv) (n : Int) : ∀ (ns st : List Int), rws s st (ns ++ [n]) = rws s st ns ++ [rwT s n (fin s st ns)]
  | [], _ => rfl
  | m :: ns, st => by
    show rwT s m st :: rws s (nx s m st) (ns ++ [n]) = _
    rw [rws_snoc s n ns]
    rfl
theorem fin_snoc (s : Sv) (n : Int) (ns st : List Int) : fin s st (ns ++ [n]) = nx s n (fin s st ns) := by
  unfold fin
  rw [List.foldl_append]
  rfl
theorem rws_len (s : Sv) : ∀ (ns st : List Int), (rws s st ns).length = ns.length
  | [], _ => rfl
  | n :: ns, st => by rw [rws, List.length_cons, rws_len s ns, List.length_cons]
theorem l_tick_eq {s : Sv} {back : List (Int × Int)} {tick new : Int} : l_tick s back tick new = ret (dn s ((dval back tick).getD 0 + new), (dval back tick).getD 0 + new - dn s ((dval back tick).getD 0 + new)) := by
  unfold l_tick
  rw [bnd_ret, bnd_ret, fdivM_eq (by decide) (by decide), ite_ret, bnd_ret, bnd_ret]
  rfl
theorem f_step_eq {s : Sv} {st : List Int} {new : Int} (h : st ≠ []) (hl : st.length ≤ 100) : f_step s st new = ret (dnx s new st, nx s new st) := by
  cases st with
  | nil => exact absurd rfl h
  | cons x r =>
    rw [List.length_cons] at hl
    unfold f_step
    have e0 : atM (x :: r) (0 : Int) = ret x := atM_eq (by decide) rfl
    have e1 : cut (x :: r) (some (1 : Int)) none = r := cut_from (xs := x :: r) (a := 1) (by rw [List.length_cons]; omega)
    rw [bnd_ret, e0, bnd_ret, bnd_ret, fdivM_eq (by decide) (by decide), ite_ret, bnd_ret, bnd_ret, e1, catM_eq (by rw [List.length_singleton]; omega), bnd_ret]
    rfl
theorem run_loop {s : Sv} : ∀ (ns st acc : List Int), st ≠ [] → st.length ≤ 100 → acc.length + ns.length < 1000 →
    forS ns (fun (new : Int) (s1 : ((List Int) × (List Int))) =>
      bnd (f_step s s1.1 new) fun (p3 : (Int × (List Int))) =>
      bnd (appM s1.2 p3.1) fun (found : (List Int)) =>
      ret (p3.2, found)) (st, acc) = ret (fin s st ns, acc ++ (rws s st ns).map (·.1))
  | [], st, acc, _, _, _ => by
    rw [forS]
    simp [fin, rws]
  | n :: ns, st, acc, h, hl, ha => by
    rw [List.length_cons] at ha
    rw [forS, f_step_eq h hl, bnd_ret]
    show bnd (bnd (appM acc _) _) _ = _
    rw [appM_eq (by omega), bnd_ret, bnd_ret]
    show forS ns _ (nx s n st, acc ++ [dnx s n st]) = _
    rw [run_loop ns _ _ (nx_ne h) (by rw [nx_len]; exact hl) (by rw [List.length_append, List.length_singleton]; omega)]
    rw [rws, List.map_cons, List.append_assoc]
    rfl
theorem f_run_eq {s : Sv} {st ns : List Int} (h : st ≠ []) (hl : st.length ≤ 100) (hn : ns.length ≤ 100) : f_run_storm s st ns = ret ((rws s st ns).map (·.1)) := by
  unfold f_run_storm
  rw [bnd_ret, run_loop ns st [] h hl (by rw [List.length_nil]; omega), bnd_ret, List.nil_append]
theorem nx_last {s : Sv} {new : Int} {st : List Int} (h : st ≠ []) : (nx s new st).getLast? = some (rsx s new st) := by
  cases st with
  | nil => exact absurd rfl h
  | cons x r => simp [nx, rsx]
theorem lost_loop {s : Sv} : ∀ (ns st : List Int) (acc : Int), st ≠ [] → st.length ≤ 100 →
    forS ns (fun (new : Int) (s1 : ((List Int) × Int)) =>
      bnd (f_step s s1.1 new) fun (p3 : (Int × (List Int))) =>
      bnd (atM p3.2 (-(1 : Int))) fun (p4 : Int) => bnd (ret (s1.2 + p4)) fun (found : Int) =>
      ret (p3.2, found)) (st, acc) = ret (fin s st ns, acc + ((rws s st ns).map (·.2.1)).sum)
  | [], st, acc, _, _ => by
    rw [forS]
    simp [fin, rws]
  | n :: ns, st, acc, h, hl => by
    rw [forS, f_step_eq h hl, bnd_ret, atM_last (nx_last h), bnd_ret, bnd_ret, bnd_ret, lost_loop ns _ _ (nx_ne h) (by rw [nx_len]; exact hl)]
    rw [rws, List.map_cons, List.sum_cons]
    show ret (_, acc + rsx s n st + _) = ret (_, acc + (rsx s n st + _))
    rw [Int.add_assoc]
    rfl
theorem f_lost_eq {s : Sv} {st ns : List Int} (h : st ≠ []) (hl : st.length ≤ 100) : f_lost_work s st ns = ret ((rws s st ns).map (·.2.1)).sum := by
  unfold f_lost_work
  rw [bnd_ret, lost_loop ns st 0 h hl, bnd_ret, Int.zero_add]
/-! the law's run -/
theorem dmkA_dval (v : Int → Int) (y : Int) : ∀ (xs : List Int) (acc : List (Int × Int)), dval ((xs.map fun k => (k, v k)).foldl (fun acc p => dputT acc p.1 p.2) acc) y = if y ∈ xs then some (v y) else dval acc y
  | [], acc => by simp
  | x :: xs, acc => by
    rw [List.map_cons, List.foldl_cons, dmkA_dval v y xs, dval_put]
    by_cases e : y = x
    · subst e
      simp
    · by_cases h : y ∈ xs
      · simp [h]
      · simp [h, e]
theorem dmk_dval (v : Int → Int) (y : Int) (xs : List Int) : dval (dmk (xs.map fun k => (k, v k))) y = if y ∈ xs then some (v y) else none := dmkA_dval v y xs []
theorem nx_getD {s : Sv} {n : Int} {st : List Int} (h : st ≠ []) (j : Nat) : (nx s n st).getD j 0 = if j + 1 = st.length then rsx s n st else st.getD (j + 1) 0 := by
  cases st with
  | nil => exact absurd rfl h
  | cons x r =>
    rw [List.length_cons]
    show (r ++ [_]).getD j 0 = _
    rw [List.getD_eq_getElem?_getD, List.getD_eq_getElem?_getD, List.getElem?_cons_succ]
    by_cases e : j + 1 = r.length + 1
    · rw [if_pos e]
      have : j = r.length := by omega
      subst this
      rw [List.getElem?_append_right (Nat.le_refl _), Nat.sub_self]
      rfl
    · rw [if_neg e]
      by_cases q : j < r.length
      · rw [List.getElem?_append_left q]
      · rw [List.getElem?_append_right (by omega), List.getElem?_eq_none (l := r) (by omega), List.getElem?_eq_none (by rw [List.length_singleton]; omega)]
theorem head_getD {s : Sv} {n : Int} {st : List Int} (h : st ≠ []) : dn s (st.getD 0 0 + n) = dnx s n st ∧ st.getD 0 0 + n - dn s (st.getD 0 0 + n) = rsx s n st := by
  cases st with
  | nil => exact absurd rfl h
  | cons x r => exact ⟨rfl, rfl⟩
theorem getD_list {st : List Int} {f : Int → Int} (h : ∀ j : Nat, f (j : Int) = st.getD j 0) : (irange 0 (st.length : Int)).map f = st := by
  refine List.ext_getElem (by rw [List.length_map, irange_len]; omega) fun i h1 h2 => ?_
  rw [List.getElem_map]
  have e : (irange 0 (st.length : Int))[i]? = some ((irange 0 (st.length : Int))[i]'(by rw [List.length_map] at h1; exact h1)) := List.getElem?_eq_getElem _
  rw [(irange_get e).1, Int.zero_add, h i, List.getD_eq_getElem?_getD, List.getElem?_eq_getElem h2]
  rfl
theorem l_run_eq {s : Sv} {st ns : List Int} (h : st ≠ []) (hl : st.length ≤ 100) (hn : ns.length ≤ 100) : l_run s st ns = ret (rws s st ns) := by
  unfold l_run
  rw [rngM_eq (by decide) (by decide) (by omega) (by omega), bnd_ret, mapM_ret (v := fun k => (k, st.getD k.toNat 0)) (fun k hk => by
    obtain ⟨k0, k1⟩ := mem_irange.mp hk
    rw [atM_eq k0 (x := st.getD k.toNat 0) (by rw [List.getD_eq_getElem?_getD, List.getElem?_eq_getElem (by omega)]; rfl), bnd_ret]), bnd_ret, smM_eq (by rw [List.length_map, irange_len]; omega), bnd_ret, dicM_eq (by rw [List.length_map, irange_len]; omega), bnd_ret, bnd_ret, rngM_eq (by decide) (by decide) (by omega) (by omega), bnd_ret]
  refine forS_then (fun i p => ∃ back : List (Int × Int), p = (back, rws s st (ns.take i)) ∧ back.length ≤ st.length + i ∧ ∀ j : Nat, (dval back ((i : Int) + (j : Int))).getD 0 = (fin s st (ns.take i)).getD j 0) ⟨_, rfl, ?_, fun j => ?_⟩ (fun i tick p e ⟨back, ep, hb, hd⟩ => ?_) (fun p ⟨back, ep, hb, hd⟩ => ?_)
  · refine Nat.le_trans (dmk_len _) ?_
    rw [List.length_map, irange_len]
    omega
  · rw [dmk_dval fun k => st.getD k.toNat 0]
    show _ = st.getD j 0
    rw [show ((0 : Nat) : Int) + (j : Int) = (j : Int) by omega]
    by_cases q : (j : Int) ∈ irange 0 (st.length : Int)
    · rw [if_pos q]
      rfl
    · rw [if_neg q]
      have : ¬ j < st.length := fun z => q (mem_irange.mpr ⟨by omega, by omega⟩)
      rw [List.getD_eq_getElem?_getD, List.getElem?_eq_none (by omega)]
  · obtain ⟨et, hi⟩ := irange_get e
    have hi : i < ns.length := by omega
    rw [Int.zero_add] at et
    subst et ep
    have hne : fin s st (ns.take i) ≠ [] := fun z => h (List.eq_nil_of_length_eq_zero (by rw [← fin_len s (ns.take i) st, z]; rfl))
    have et : ns.take (i + 1) = ns.take i ++ [ns[i]] := by rw [List.take_add_one, List.getElem?_eq_getElem hi]; rfl
    have hd0 := hd 0
    rw [show (i : Int) + ((0 : Nat) : Int) = (i : Int) by omega] at hd0
    obtain ⟨h1, h2⟩ := head_getD (s := s) (n := ns[i]) hne
    have hgt : (dval back ((i : Int) + (st.length : Int))).getD 0 = 0 := by
      rw [hd st.length, List.getD_eq_getElem?_getD, List.getElem?_eq_none (by rw [fin_len]; omega)]
      rfl
    have hnx : ∀ j : Nat, (dval (dputT back ((i : Int) + (st.length : Int)) (rsx s ns[i] (fin s st (ns.take i)))) ((i : Int) + 1 + (j : Int))).getD 0 = (nx s ns[i] (fin s st (ns.take i))).getD j 0 := fun j => by
      rw [dval_put, nx_getD hne, fin_len]
      by_cases q : j + 1 = st.length
      · rw [if_pos (by omega), if_pos q]
        rfl
      · rw [if_neg (by omega), if_neg q, ← hd (j + 1)]
        congr 2
        omega
    refine ⟨_, ?_, dputT back ((i : Int) + (st.length : Int)) (rsx s ns[i] (fin s st (ns.take i))), rfl, ?_, fun j => ?_⟩
    · show bnd (bnd (atM ns (i : Int)) _) _ = _
      rw [atM_nat (List.getElem?_eq_getElem hi), bnd_ret, l_tick_eq, bnd_ret]
      show bnd (dputM back ((i : Int) + (st.length : Int)) ((dval back ((i : Int) + (st.length : Int))).getD 0 + ((dval back (i : Int)).getD 0 + ns[i] - dn s ((dval back (i : Int)).getD 0 + ns[i])))) _ = _
      have hm : (irange 0 (st.length : Int)).map (fun k_ => (dval (dputT back ((i : Int) + (st.length : Int)) (rsx s ns[i] (fin s st (ns.take i)))) ((i : Int) + 1 + k_)).getD 0) = nx s ns[i] (fin s st (ns.take i)) := by
        have := getD_list (st := nx s ns[i] (fin s st (ns.take i))) (f := fun k_ => (dval (dputT back ((i : Int) + (st.length : Int)) (rsx s ns[i] (fin s st (ns.take i)))) ((i : Int) + 1 + k_)).getD 0) hnx
        rw [nx_len, fin_len] at this
        exact this
      rw [hd0, h2, hgt, Int.zero_add, dputM_eq (by omega), bnd_ret, bnd_ret, hm, smM_eq (by rw [nx_len, fin_len]; omega), bnd_ret, bnd_ret, bnd_ret]
      show bnd (appM (rws s st (ns.take i)) _) _ = _
      rw [appM_eq (by rw [rws_len, List.length_take]; omega), bnd_ret, et, rws_snoc, h1]
      rfl
    · exact Nat.le_trans (dputT_len _ _ _) (by omega)
    · rw [et, fin_snoc, ← hnx j]
      rfl
  · subst ep
    rw [irange_len, show ((ns.length : Int) - 0).toNat = ns.length by omega, List.take_length]
theorem l_run2_eq {s : Sv} {st : List Int} {new : Int} (h : st ≠ []) (hl : st.length ≤ 100) : l_run_2 s st new = ret [rwT s new st] := l_run_eq (ns := [new]) h hl (by show 1 ≤ 100; decide)
end K11
namespace K11
open Q PySem
/-! rounds -/
def resD : Nat ⊕ (Nat × List (List Int)) → List D
  | .inl k => [eS ("grows" : Str), eI (k : Int)]
  | .inr (a, l) => [eS ("round" : Str), eI (a : Int), eT (eT eI) l]
def pos (hs : List (List Int)) (x : List Int) : Option Nat := hs.findIdx? fun z => decide (z = x)
def rd (s : Sv) (new most : Int) : Nat → List (List Int) → List Int → Nat ⊕ (Nat × List (List Int))
  | 0, hs, x => .inl 0
  | f + 1, hs, x => match pos hs x with
    | some a => .inr (a, hs.drop a)
    | none => if decide (most < x.sum) = true then .inl hs.length else rd s new most f (hs ++ [x]) (nx s new x)
theorem pos_none {hs : List (List Int)} {x : List Int} : pos hs x = none ↔ x ∉ hs := by
  unfold pos
  rw [List.findIdx?_eq_none_iff]
  simp only [decide_eq_false_iff_not]
  exact ⟨fun h m => h x m rfl, fun h z m e => h (e ▸ m)⟩
theorem pos_lt {hs : List (List Int)} {x : List Int} {a : Nat} (h : pos hs x = some a) : a < hs.length := by
  unfold pos at h
  obtain ⟨h1, _⟩ := List.findIdx?_eq_some_iff_getElem.mp h
  exact h1
/-! there are not so many states -/
theorem nodup_le {α : Type} [DecidableEq α] : ∀ (xs ys : List α), xs.Nodup → (∀ x, x ∈ xs → x ∈ ys) → xs.length ≤ ys.length
  | [], ys, _, _ => Nat.zero_le _
  | x :: xs, ys, h, k => by
    have hx := List.nodup_cons.mp h
    have hm := k x List.mem_cons_self
    have := nodup_le xs (ys.erase x) hx.2 fun y hy => (List.mem_erase_of_ne (show y ≠ x from fun e => hx.1 (e ▸ hy))).mpr (k y (List.mem_cons_of_mem _ hy))
    rw [List.length_erase_of_mem hm] at this
    have hp : 0 < ys.length := List.length_pos_of_mem hm
    rw [List.length_cons]
    omega
def U : Nat → List (List Int)
  | 0 => [[]]
  | n + 1 => (irange 0 12).flatMap fun x => (U n).map (x :: ·)
theorem mem_U : ∀ (x : List Int), (∀ v, v ∈ x → 0 ≤ v ∧ v < 12) → x ∈ U x.length
  | [], _ => List.mem_singleton.mpr rfl
  | v :: x, h => by
    rw [List.length_cons, U, List.mem_flatMap]
    exact ⟨v, mem_irange.mpr (h v List.mem_cons_self), List.mem_map.mpr ⟨x, mem_U x fun w hw => h w (List.mem_cons_of_mem _ hw), rfl⟩⟩
theorem U_len : ∀ n, n ≤ 3 → (U n).length ≤ 1728
  | 0, _ => by decide
  | 1, _ => by decide +kernel
  | 2, _ => by decide +kernel
  | 3, _ => by decide +kernel
  | n + 4, h => by omega
structure Ok (n : Nat) (x : List Int) : Prop where
  len : x.length = n
  pos : ∀ v, v ∈ x → 0 ≤ v
theorem sum_ge : ∀ (x : List Int), (∀ v, v ∈ x → 0 ≤ v) → 0 ≤ x.sum ∧ ∀ v, v ∈ x → v ≤ x.sum
  | [], _ => ⟨by simp, by simp⟩
  | v :: x, h => by
    obtain ⟨i1, i2⟩ := sum_ge x fun w hw => h w (List.mem_cons_of_mem _ hw)
    have h0 := h v List.mem_cons_self
    rw [List.sum_cons]
    refine ⟨by omega, fun w hw => ?_⟩
    rcases List.mem_cons.mp hw with rfl | hw
    · omega
    · have := i2 w hw
      omega
theorem Ok.nx {n : Nat} {x : List Int} {s : Sv} {new : Int} (h : Ok n x) (hn : 0 ≤ new) : Ok n (nx s new x) := by
  refine ⟨by rw [nx_len, h.len], fun v hv => ?_⟩
  cases x with
  | nil => cases hv
  | cons y r =>
    rcases List.mem_append.mp hv with hv | hv
    · exact h.pos v (List.mem_cons_of_mem _ hv)
    · rw [List.mem_singleton.mp hv]
      have := dn_le s (y + new)
      omega
structure Hs (n : Nat) (most : Int) (hs : List (List Int)) : Prop where
  nd : hs.Nodup
  ok : ∀ x, x ∈ hs → Ok n x ∧ x.sum ≤ most
theorem Hs.len {n : Nat} {most : Int} {hs : List (List Int)} (h : Hs n most hs) (hn : n ≤ 3) (hm : most < 12) : hs.length ≤ 1728 := by
  refine Nat.le_trans (nodup_le hs (U n) h.nd fun x hx => ?_) (U_len n hn)
  obtain ⟨o, q⟩ := h.ok x hx
  rw [← o.len]
  exact mem_U x fun v hv => ⟨o.pos v hv, by have := (sum_ge x o.pos).2 v hv; omega⟩
theorem Hs.add {n : Nat} {most : Int} {hs : List (List Int)} {x : List Int} (h : Hs n most hs) (o : Ok n x) (q : x.sum ≤ most) (ne : x ∉ hs) : Hs n most (hs ++ [x]) := by
  refine ⟨List.nodup_append.mpr ⟨h.nd, List.nodup_cons.mpr ⟨by simp, List.nodup_nil⟩, fun a ha b hb e => ?_⟩, fun y hy => ?_⟩
  · rw [List.mem_singleton.mp hb] at e
    exact ne (e ▸ ha)
  · rcases List.mem_append.mp hy with hy | hy
    · exact h.ok y hy
    · rw [List.mem_singleton.mp hy]
      exact ⟨o, q⟩
def SeenOk (hs : List (List Int)) (seen : List (List Int × D)) : Prop := seen.length ≤ hs.length ∧ ∀ y, dval seen y = (pos hs y).map fun a => eI (a : Int)
theorem pos_app {hs : List (List Int)} {x y : List Int} : pos (hs ++ [x]) y = match pos hs y with
    | some a => some a
    | none => if x = y then some hs.length else none := by
  unfold pos
  rw [List.findIdx?_append]
  cases e : List.findIdx? (fun z => decide (z = y)) hs with
  | some a => rfl
  | none =>
    rw [List.findIdx?_cons]
    by_cases q : x = y
    · simp [q]
    · simp [q]
theorem SeenOk.put {hs : List (List Int)} {seen : List (List Int × D)} {x : List Int} (h : SeenOk hs seen) (ne : pos hs x = none) : SeenOk (hs ++ [x]) (dputT seen x (eI (hs.length : Int))) := by
  refine ⟨Nat.le_trans (dputT_len _ _ _) (by rw [List.length_append, List.length_singleton]; have := h.1; omega), fun y => ?_⟩
  rw [dval_put, pos_app, h.2 y]
  by_cases q : y = x
  · subst q
    rw [if_pos rfl, ne]
    simp
  · rw [if_neg q]
    cases pos hs y with
    | some a => rfl
    | none =>
      rw [if_neg fun e : x = y => q e.symm]
theorem nin_eq {seen : List (List Int × D)} {hs : List (List Int)} {x : List Int} (h : SeenOk hs seen) : cpA .nin ((eT eI) x) ((eU (eT eI) eD) seen) = ret (pos hs x).isNone := by
  unfold cpA
  have : cpD .nin ((eT eI) x) ((eU (eT eI) eD) seen) = (inD ((eT eI) x) ((eU (eT eI) eD) seen)).map (!·) := rfl
  rw [this, inD_U (kuT kI)]
  unfold dhas
  rw [h.2 x]
  cases pos hs x <;> rfl
theorem go_loop {s : Sv} {new most : Int} {n : Nat} (hn : n ≤ 3) (hn0 : 0 < n) (hm : most < 12) (h0 : 0 ≤ new) : ∀ (f m : Nat) (hs : List (List Int)) (x : List Int) (seen : List (List Int × D)), f < m → hs.length + f = 1730 → Hs n most hs → Ok n x → SeenOk hs seen →
    bnd (whlR m (fun (s2 : ((List Int) × (List ((List Int) × D)) × (List (List Int)) × Int)) => cpA .nin ((eT eI) s2.1) ((eU (eT eI) eD) s2.2.1)) (fun (s2 : ((List Int) × (List ((List Int) × D)) × (List (List Int)) × Int)) =>
  if decide (most < s2.1.sum) then
  ret (.rt [eS ((("grows" : Str), s2.2.2.2).1), eI ((("grows" : Str), s2.2.2.2).2)])
else
  bnd (dputM s2.2.1 s2.1 (eI s2.2.2.2)) fun (seen : (List ((List Int) × D))) =>
  bnd (appM s2.2.2.1 s2.1) fun (row : (List (List Int))) =>
  bnd (bnd (f_step s s2.1 new) fun (p10 : (Int × (List Int))) => ret p10.2) fun (state : (List Int)) =>
  bnd (ret (s2.2.2.2 + (1 : Int))) fun (steps : Int) =>
  ret (.nx (state, seen, row, steps))) (x, seen, hs, (hs.length : Int))) (fun p19 => outC p19 (fun (s12 : ((List Int) × (List ((List Int) × D)) × (List (List Int)) × Int)) =>
  bnd (bnd (datM s12.2.1 s12.1) fun (p15 : D) => bnd (bnd (bnd (bnd (datM s12.2.1 s12.1) (decM gI)) fun (p13 : Int) => ret (cut s12.2.2.1 (some p13) none)) fun (p14 : (List (List Int))) => ret p14) fun (p16 : (List (List Int))) => ret (("round" : Str), p15, p16)) fun (p17 : (Str × D × (List (List Int)))) => ret [eS p17.1, eD p17.2.1, (eT (eT eI)) p17.2.2]) (fun (p18 : (List D)) => ret p18)) = ret (resD (rd s new most f hs x))
  | 0, m, hs, x, seen, hf, hl, H, o, so => by
    have := H.len hn hm
    omega
  | f + 1, 0, hs, x, seen, hf, hl, H, o, so => by omega
  | f + 1, m + 1, hs, x, seen, hf, hl, H, o, so => by
    rw [whlR]
    show bnd (bnd (cpA .nin ((eT eI) x) ((eU (eT eI) eD) seen)) _) _ = _
    rw [nin_eq so, bnd_ret, rd]
    cases e : pos hs x with
    | some a =>
      have ha := pos_lt e
      have hd : datM seen x = ret (eI (a : Int)) := datM_eq (by rw [so.2 x, e]; rfl)
      have hg : decM gI (eI (a : Int)) = ret (a : Int) := rfl
      show bnd (ret _) _ = _
      rw [bnd_ret, outC_go]
      show bnd (bnd (datM seen x) _) _ = _
      rw [hd, bnd_ret, bnd_ret, hg, bnd_ret, bnd_ret, bnd_ret, bnd_ret]
      show ret [_, _, eT (eT eI) (cut hs (some (a : Int)) none)] = _
      rw [cut_from (xs := hs) (a := a) (by omega)]
      rfl
    | none =>
      have hne := pos_none.mp e
      show bnd (bnd (if decide (most < x.sum) = true then _ else _) _) _ = _
      by_cases q : most < x.sum
      · rw [if_pos (decide_eq_true q), bnd_ret]
        show _ = ret (resD (if decide (most < x.sum) = true then _ else _))
        rw [if_pos (decide_eq_true q)]
        rfl
      · have hx : x ≠ [] := fun z => by have := o.len; rw [z] at this; simp at this; omega
        have hlen := H.len hn hm
        rw [if_neg (by simpa using q)]
        show bnd (bnd (bnd (dputM seen x (eI (hs.length : Int))) _) _) _ = ret (resD (if decide (most < x.sum) = true then _ else _))
        rw [if_neg (by simpa using q), dputM_eq (by have := so.1; omega), bnd_ret]
        show bnd (bnd (bnd (appM hs x) _) _) _ = _
        rw [appM_eq (by omega), bnd_ret]
        show bnd (bnd (bnd (bnd (f_step s x new) _) _) _) _ = _
        rw [f_step_eq hx (by rw [o.len]; omega), bnd_ret, bnd_ret, bnd_ret, bnd_ret]
        have := go_loop (s := s) hn hn0 hm h0 f m (hs ++ [x]) (nx s new x) (dputT seen x (eI (hs.length : Int))) (by omega) (by rw [List.length_append, List.length_singleton]; omega) (H.add o (by omega) hne) (o.nx h0) (so.put e)
        rw [show (((hs ++ [x]).length : Nat) : Int) = (hs.length : Int) + 1 by rw [List.length_append, List.length_singleton]; omega] at this
        exact this
theorem law_loop {s : Sv} {new most : Int} {n : Nat} (hn : n ≤ 3) (hn0 : 0 < n) (hm : most < 12) (h0 : 0 ≤ new) : ∀ (f m : Nat) (hs : List (List Int)) (x : List Int), f < m → hs.length + (f + 1) = 1730 → Hs n most hs → Ok n x → pos hs x = none →
    bnd (whlR m (fun (s2 : ((List (List Int)))) => ret true) (fun (s2 : ((List (List Int)))) =>
  bnd (bnd (bnd (atM s2 (-(1 : Int))) fun (p3 : (List Int)) => ret p3.sum) fun (p4 : Int) => ret (decide (most < p4))) fun (b : Bool) => if b then
  ret (.rt (some [eS ((("grows" : Str), ((s2.length : Int) - (1 : Int))).1), eI ((("grows" : Str), ((s2.length : Int) - (1 : Int))).2)]))
else
  bnd (bnd (bnd (bnd (atM s2 (-(1 : Int))) fun (p8 : (List Int)) => l_run_2 s p8 new) fun (p10 : (List (Int × Int × (List Int)))) => atM p10 (0 : Int)) fun (p12 : (Int × Int × (List Int))) => ret p12.2.2) fun (later : (List Int)) =>
  if memB later s2 then
  bnd (idxM s2 later) fun (at_ : Int) =>
  ret (.rt (some [eS ((("round" : Str), at_, (cut s2 (some at_) none)).1), eI ((("round" : Str), at_, (cut s2 (some at_) none)).2.1), (eT (eT eI)) ((("round" : Str), at_, (cut s2 (some at_) none)).2.2)]))
else
  bnd (appM s2 later) fun (row : (List (List Int))) =>
  ret (.nx row)) (hs ++ [x])) (fun p17 => outC p17 (fun (row : ((List (List Int)))) =>
  fail) (fun (p16 : (Option (List D))) => ret p16)) = ret (some (resD (rd s new most (f + 1) hs x)))
  | f, 0, hs, x, hf, hl, H, o, e => by omega
  | f, m + 1, hs, x, hf, hl, H, o, e => by
    have hne := pos_none.mp e
    have hlen := H.len hn hm
    have hx : x ≠ [] := fun z => by have := o.len; rw [z] at this; simp at this; omega
    have hL : atM (hs ++ [x]) (-(1 : Int)) = ret x := atM_last (by simp)
    have hA : ∀ r : Int × Int × List Int, atM [r] (0 : Int) = ret r := fun r => atM_eq (by decide) rfl
    rw [whlR, bnd_ret, if_pos rfl, hL, bnd_ret, bnd_ret, bnd_ret, rd, e]
    show _ = ret (some (resD (if decide (most < x.sum) = true then _ else _)))
    by_cases q : most < x.sum
    · rw [if_pos (decide_eq_true q), if_pos (decide_eq_true q), bnd_ret]
      show ret (some [_, eI (((hs ++ [x]).length : Int) - 1)]) = _
      rw [show (((hs ++ [x]).length : Nat) : Int) - 1 = (hs.length : Int) by rw [List.length_append, List.length_singleton]; omega]
      rfl
    · have H2 := H.add o (by omega) hne
      have hlen2 := H2.len hn hm
      have ll : (hs ++ [x]).length = hs.length + 1 := by rw [List.length_append, List.length_singleton]
      rw [if_neg (by simpa using q), if_neg (by simpa using q), bnd_ret, l_run2_eq hx (by rw [o.len]; omega), bnd_ret, hA, bnd_ret, bnd_ret, show (rwT s new x).2.2 = nx s new x from rfl]
      show bnd (bnd (if memB (nx s new x) (hs ++ [x]) = true then _ else _) _) _ = _
      cases f with
      | zero => omega
      | succ f =>
        cases e2 : pos (hs ++ [x]) (nx s new x) with
        | some a =>
          have ha := pos_lt e2
          have hmem : memB (nx s new x) (hs ++ [x]) = true := memB_iff.mpr (by
            by_cases z : nx s new x ∈ hs ++ [x]
            · exact z
            · rw [pos_none.mpr z] at e2
              cases e2)
          have hi : idxM (hs ++ [x]) (nx s new x) = ret (a : Int) := by
            unfold idxM
            have : (hs ++ [x]).findIdx? (fun z => decide (z = nx s new x)) = some a := e2
            rw [this]
            rfl
          rw [if_pos hmem, hi, bnd_ret, bnd_ret]
          show ret (some [_, _, eT (eT eI) (cut (hs ++ [x]) (some (a : Int)) none)]) = _
          rw [cut_from (a := a) (by omega), rd, e2]
          rfl
        | none =>
          have hmem : ¬ memB (nx s new x) (hs ++ [x]) = true := fun z => pos_none.mp e2 (memB_iff.mp z)
          rw [if_neg hmem, appM_eq (by omega), bnd_ret, bnd_ret]
          exact law_loop hn hn0 hm h0 f m (hs ++ [x]) (nx s new x) (by omega) (by omega) H2 (o.nx h0) e2
theorem Hs0 (n : Nat) (most : Int) : Hs n most [] := ⟨List.nodup_nil, fun x h => nomatch h⟩
theorem f_goes_eq {s : Sv} {new most : Int} {n : Nat} {x : List Int} (hn : n ≤ 3) (hn0 : 0 < n) (hm : most < 12) (h0 : 0 ≤ new) (o : Ok n x) : f_goes_round s x new most = ret (resD (rd s new most 1730 [] x)) := by
  unfold f_goes_round
  rw [bnd_ret]
  exact go_loop hn hn0 hm h0 1730 big [] x [] (by decide) rfl (Hs0 n most) o ⟨Nat.le_refl _, fun y => rfl⟩
theorem l_round_eq {s : Sv} {new most : Int} {n : Nat} {x : List Int} (hn : n ≤ 3) (hn0 : 0 < n) (hm : most < 12) (h0 : 0 ≤ new) (o : Ok n x) : l_round s x new most = ret (some (resD (rd s new most 1730 [] x))) := by
  unfold l_round
  rw [bnd_ret]
  exact law_loop hn hn0 hm h0 1729 big [] x (by decide) rfl (Hs0 n most) o rfl
/-- the states told stay fine -/
theorem rd_ok {s : Sv} {new most : Int} {n : Nat} (h0 : 0 ≤ new) : ∀ (f : Nat) (hs : List (List Int)) (x : List Int) (a : Nat) (l : List (List Int)), (∀ y, y ∈ hs → Ok n y) → Ok n x → rd s new most f hs x = .inr (a, l) → ∀ y, y ∈ l → Ok n y
  | 0, _, _, _, _, _, _, e => by cases e
  | f + 1, hs, x, a, l, H, o, e => by
    rw [rd] at e
    cases q : pos hs x with
    | some b =>
      rw [q] at e
      cases e
      exact fun y hy => H y (List.mem_of_mem_drop hy)
    | none =>
      rw [q] at e
      have e : (if decide (most < x.sum) = true then .inl hs.length else rd s new most f (hs ++ [x]) (nx s new x)) = Sum.inr (a, l) := e
      split at e
      · cases e
      · exact rd_ok h0 f _ _ a l (fun y hy => by
          rcases List.mem_append.mp hy with hy | hy
          · exact H y hy
          · rw [List.mem_singleton.mp hy]
            exact o) (o.nx h0) e
def endB : Nat ⊕ (Nat × List (List Int)) → Bool
  | .inl _ => false
  | .inr (_, l) => l.all fun y => decide (y.sum = 0)
theorem mapO_ok : ∀ xs : List Int, mapO gI (xs.map eI) = some xs
  | [] => rfl
  | x :: xs => by
    rw [List.map_cons, mapO, mapO_ok xs]
    rfl
theorem dec_ok (xs : List Int) : decM (gT gI) (eT eI xs) = ret xs := by
  unfold decM
  have : gT gI (eT eI xs) = some xs := mapO_ok xs
  rw [this]
  rfl
theorem eq_txt (a b : Str) : cpA .eq (eS a) (eS b) = ret (eqB a b) := by
  unfold cpA
  rw [d_eq qS (by decide)]
  rfl
theorem map_sums : ∀ (l : List (List Int)), mapM' (l.map (eT eI)) (fun (own : D) => bnd (bnd (decM (gT gI) own) fun (p5 : (List Int)) => ret p5.sum) fun (p6 : Int) => ret (eqB p6 (0 : Int))) = ret (l.map fun y => decide (y.sum = 0))
  | [] => rfl
  | y :: l => by
    rw [List.map_cons, mapM', dec_ok, bnd_ret, bnd_ret, bnd_ret, map_sums l, bnd_ret]
    rfl
theorem cmp_sums : ∀ (l : List (List Int)), cmpM (l.map (eT eI)) (fun (own : D) => bnd (bnd (bnd (decM (gT gI) own) fun (p7 : (List Int)) => ret p7.sum) fun (p8 : Int) => ret (decide ((0 : Int) < p8))) fun (p10 : Bool) => if p10 then ret (some own) else ret none) = ret ((l.filter fun y => decide (0 < y.sum)).map (eT eI))
  | [] => rfl
  | y :: l => by
    rw [List.map_cons, cmpM, dec_ok, bnd_ret, bnd_ret, bnd_ret, cmp_sums l, List.filter_cons]
    cases decide (0 < y.sum) <;> rfl
theorem rd_len {s : Sv} {new most : Int} : ∀ (f : Nat) (hs : List (List Int)) (x : List Int) (a : Nat) (l : List (List Int)), rd s new most f hs x = .inr (a, l) → l.length ≤ hs.length + f
  | 0, _, _, _, _, e => by cases e
  | f + 1, hs, x, a, l, e => by
    rw [rd] at e
    cases q : pos hs x with
    | some b =>
      rw [q] at e
      cases e
      rw [List.length_drop]
      omega
    | none =>
      rw [q] at e
      have e : (if decide (most < x.sum) = true then .inl hs.length else rd s new most f (hs ++ [x]) (nx s new x)) = Sum.inr (a, l) := e
      split at e
      · cases e
      · have := rd_len f _ _ a l e
        rw [List.length_append, List.length_singleton] at this
        omega
theorem cp_none (ys : List (List Int)) : cpA .eq ((eL eD) (ys.map (eT eI))) ((eL eD) ([] : List D)) = ret (eqB ys []) := by
  have e1 : (eL eD) (ys.map (eT eI)) = eL (eT eI) ys := by
    show PyData.list ((ys.map (eT eI)).map eD) = PyData.list (ys.map (eT eI))
    rw [List.map_map]
    rfl
  have e2 : (eL eD) ([] : List D) = eL (eT eI) [] := rfl
  rw [e1, e2]
  unfold cpA
  rw [d_eq (qL (qT qI)) (by decide)]
  rfl
theorem ends_same : ∀ (l : List (List Int)), (∀ y, y ∈ l → 0 ≤ y.sum) → eqB (l.filter fun y => decide (0 < y.sum)) [] = l.all fun y => decide (y.sum = 0)
  | [], _ => rfl
  | y :: l, h => by
    have h0 := h y List.mem_cons_self
    have ih := ends_same l fun z hz => h z (List.mem_cons_of_mem _ hz)
    rw [List.filter_cons, List.all_cons]
    by_cases q : y.sum = 0
    · rw [if_neg (by simp [q]), decide_eq_true q, Bool.true_and, ih]
    · rw [if_pos (by simp; omega), decide_eq_false q, Bool.false_and]
      simp [eqB]
theorem f_ends_eq {s : Sv} {new most : Int} {n : Nat} {x : List Int} (hn : n ≤ 3) (hn0 : 0 < n) (hm : most < 12) (h0 : 0 ≤ new) (o : Ok n x) : f_ends_storm s x new most = ret (endB (rd s new most 1730 [] x)) := by
  unfold f_ends_storm
  rw [f_goes_eq hn hn0 hm h0 o, bnd_ret]
  cases e : rd s new most 1730 [] x with
  | inl k =>
    have e0 : atM (resD (.inl k)) (0 : Int) = ret (eS "grows") := atM_eq (by decide) rfl
    rw [e0, bnd_ret, eq_txt, bnd_ret]
    rfl
  | inr p =>
    obtain ⟨a, l⟩ := p
    have e0 : atM (resD (.inr (a, l))) (0 : Int) = ret (eS "round") := atM_eq (by decide) rfl
    have e2 : atM (resD (.inr (a, l))) (2 : Int) = ret (eT (eT eI) l) := atM_eq (by decide) rfl
    have e3 : seqA (eT (eT eI) l) = ret (l.map (eT eI)) := rfl
    rw [e0, bnd_ret, eq_txt, bnd_ret, if_pos (by decide), e2, bnd_ret, e3, bnd_ret]
    have hl := rd_len 1730 [] x a l e
    rw [List.length_nil] at hl
    rw [map_sums, bnd_ret, smM_eq (by rw [List.length_map]; omega), bnd_ret]
    show ret ((l.map fun y => decide (y.sum = 0)).all id) = ret (l.all fun y => decide (y.sum = 0))
    rw [List.all_map]
    rfl
theorem l_ends_eq {s : Sv} {new most : Int} {n : Nat} {x : List Int} (hn : n ≤ 3) (hn0 : 0 < n) (hm : most < 12) (h0 : 0 ≤ new) (o : Ok n x) : l_ends s x new most = ret (endB (rd s new most 1730 [] x)) := by
  unfold l_ends
  rw [l_round_eq hn hn0 hm h0 o, bnd_ret]
  cases e : rd s new most 1730 [] x with
  | inl k =>
    have e0 : atM (resD (.inl k)) (0 : Int) = ret (eS "grows") := atM_eq (by decide) rfl
    rw [unwM_some, bnd_ret, e0, bnd_ret, eq_txt, bnd_ret]
    rfl
  | inr p =>
    obtain ⟨a, l⟩ := p
    have e0 : atM (resD (.inr (a, l))) (0 : Int) = ret (eS "round") := atM_eq (by decide) rfl
    have e2 : atM (resD (.inr (a, l))) (2 : Int) = ret (eT (eT eI) l) := atM_eq (by decide) rfl
    have e3 : seqA (eT (eT eI) l) = ret (l.map (eT eI)) := rfl
    have hl := rd_len 1730 [] x a l e
    rw [List.length_nil] at hl
    have hf := List.length_filter_le (fun y : List Int => decide (0 < y.sum)) l
    rw [unwM_some, bnd_ret, e0, bnd_ret, eq_txt, bnd_ret, if_pos (by decide), bnd_ret, e2, bnd_ret, e3, bnd_ret, cmp_sums, bnd_ret, smM_eq (by rw [List.length_map]; omega), bnd_ret, bnd_ret, cp_none, ends_same l fun y hy => (sum_ge y (rd_ok h0 1730 [] x a l (fun y hy => nomatch hy) o e y hy).pos).1]
    rfl
/-- what is told twice is the same -/
theorem told_ne (r : Nat ⊕ (Nat × List (List Int))) : cpA .ne ((eT eD) (resD r)) ((eO (eT eD)) (some (resD r))) = ret false := by
  have e1 : (eO (eT eD)) (some (resD r)) = (eT eD) (resD r) := rfl
  rw [e1]
  unfold cpA
  cases r with
  | inl k =>
    have e2 : (eT eD) (resD (.inl k)) = eP (rC eS (r1 eI)) (("grows" : Str), (k : Int)) := rfl
    rw [e2, d_ne (qP (qrC qS (qr1 qI))) (by decide), eqB_self]
    rfl
  | inr p =>
    obtain ⟨a, l⟩ := p
    have e2 : (eT eD) (resD (.inr (a, l))) = eP (rC eS (rC eI (r1 (eT (eT eI))))) (("round" : Str), (a : Int), l) := rfl
    rw [e2, d_ne (qP (qrC qS (qrC qI (qr1 (qT (qT qI)))))) (by decide), eqB_self]
    rfl
end K11
namespace K11
open Q
abbrev ini (wait many : Int) : List Int := [many] ++ List.replicate (wait - 1).toNat 0
def EB (s : Sv) (wait new most many : Int) : Bool := endB (rd s new most 1730 [] (ini wait many))
theorem ini_ok {wait many : Int} (h1 : 1 ≤ wait) (hm : 0 ≤ many) : Ok wait.toNat (ini wait many) := by
  refine ⟨?_, fun v hv => ?_⟩
  · unfold ini
    rw [List.length_append, List.length_singleton, List.length_replicate]
    omega
  · rcases List.mem_append.mp hv with hv | hv
    · rw [List.mem_singleton.mp hv]
      exact hm
    · rw [(List.mem_replicate.mp hv).2]
      decide
theorem rep_zero {wait : Int} (h1 : 0 ≤ wait) (h2 : wait ≤ 3) : repM [(0 : Int)] wait = ret (List.replicate wait.toNat 0) := by
  rw [repM_eq (by omega) (by decide), rep_one]
theorem least_eq {s : Sv} {wait new most : Int} (h1 : 1 ≤ wait) (h2 : wait ≤ 3) (hm : most < 12) (hm0 : 0 ≤ most) (h0 : 0 ≤ new) : f_least_storm s wait new most = ret ((irange 0 (most + 1)).filter fun many => !EB s wait new most many).head? := by
  unfold f_least_storm
  rw [rngM_eq (by decide) (by decide) (by omega) (by omega), bnd_ret, forR_find (st := fun _ => ()) rfl (p := fun many => !EB s wait new most many) (v := fun many => some many) (fun i many e => by
    obtain ⟨k0, k1⟩ := mem_irange.mp (List.mem_of_getElem? e)
    rw [rep_zero (by omega) (by omega), bnd_ret, catM_eq (by rw [List.length_singleton, List.length_replicate]; omega), bnd_ret, f_ends_eq (n := wait.toNat) (by omega) (by omega) hm h0 (ini_ok h1 k0), bnd_ret, bnd_ret]
    show (if (!EB s wait new most many) = true then _ else _) = _
    split <;> rfl), bnd_ret, List.head?_filter]
  cases (irange 0 (most + 1)).find? fun many => !EB s wait new most many <;> rfl
theorem calm_zero {s : Sv} {wait : Int} (h1 : 1 ≤ wait) (hr : 0 ≤ s.1) (hd : 0 ≤ s.2.1) : nx s 0 (List.replicate wait.toNat 0) = List.replicate wait.toNat 0 := by
  obtain ⟨k, hk⟩ : ∃ k, wait.toNat = k + 1 := ⟨wait.toNat - 1, by omega⟩
  rw [hk, List.replicate_succ]
  show List.replicate k 0 ++ [0 + 0 - dn s (0 + 0)] = _
  have : dn s (0 + 0) = 0 := by
    unfold dn
    split <;> omega
  rw [this]
  rw [← List.replicate_succ, List.replicate_succ']
  rfl
def Gz (s : Sv) (wait most : Int) : List Int := (irange 0 (most + 1)).filter fun n => eqB (nx s n (List.replicate wait.toNat 0)) (List.replicate wait.toNat 0)
theorem greatest_eq {s : Sv} {wait most : Int} (h1 : 1 ≤ wait) (h2 : wait ≤ 3) (hm : most < 12) (hm0 : 0 ≤ most) (hr : 0 ≤ s.1) (hd : 0 ≤ s.2.1) : ∃ v, f_greatest_new s wait most = ret v ∧ maxI (Gz s wait most) = ret v := by
  have hne : List.replicate wait.toNat (0 : Int) ≠ [] := fun z => by
    have := congrArg List.length z
    rw [List.length_replicate, List.length_nil] at this
    omega
  have hz : (0 : Int) ∈ Gz s wait most := List.mem_filter.mpr ⟨mem_irange.mpr ⟨by decide, by omega⟩, by rw [calm_zero h1 hr hd, eqB_self]⟩
  obtain ⟨m, e, q⟩ := maxI_ok (xs := Gz s wait most) (List.ne_nil_of_mem hz)
  have hl : (Gz s wait most).length ≤ 100 := Nat.le_trans (List.length_filter_le _ _) (by rw [irange_len]; omega)
  refine ⟨m, ?_, e⟩
  unfold f_greatest_new
  rw [rep_zero (by omega) h2, bnd_ret, rngM_eq (by decide) (by decide) (by omega) (by omega), bnd_ret, cmpM_filter' (p := fun n => eqB (nx s n (List.replicate wait.toNat 0)) (List.replicate wait.toNat 0)) (fun n hn => by
    rw [f_step_eq hne (by rw [List.length_replicate]; omega), bnd_ret, bnd_ret, bnd_ret]
    split <;> rfl), bnd_ret]
  show bnd (bnd (smM (Gz s wait most)) _) _ = _
  rw [smM_eq (by omega), bnd_ret, catM_eq (by rw [List.length_singleton]; omega), bnd_ret]
  exact maxI_eq' ⟨List.mem_append_right _ q.1, fun x hx => by
    rcases List.mem_append.mp hx with hx | hx
    · rw [List.mem_singleton.mp hx]
      exact q.2 _ hz
    · exact q.2 x hx⟩
theorem nxt4 {ds : List Int} {t : Nat} (hd : ∀ d ∈ ds, 0 ≤ d ∧ d < 997) : Yes (nextD ds 4) t fun v _ => 0 ≤ v ∧ v < 4 := by
  rw [← bnd_ret_id (m := nextD ds 4)]
  exact yes_next hd (by decide) fun y u a b => yes_ret ⟨a, b⟩
theorem main (ds : List Int) (hlen : ds.length = 120) (hd : ∀ d ∈ ds, 0 ≤ d ∧ d < 997) : Yes (the_law ds) 0 fun v _ => v = true := by
  unfold the_law
  rw [rngM_eq (by decide) (by decide) (by decide) (by decide), bnd_ret]
  refine yes_forR (fun turn t hx => ?_) fun t => yes_ret rfl
  clear hx turn
  simp only [bnd_bnd, bnd_ret]
  refine yes_next hd (by decide) fun r u r0 r1 => ?_
  refine yes_next hd (by decide) fun d u d0 d1 => ?_
  refine yes_next hd (by decide) fun w u w0 w1 => ?_
  refine yes_next hd (by decide) fun wt u wt0 wt1 => ?_
  refine yes_next hd (by decide) fun new u n0 n1 => ?_
  refine yes_next hd (by decide) fun mo u m0 m1 => ?_
  generalize hw : (1 : Int) + wt = wait
  generalize hm : (4 : Int) + mo = most
  generalize hs : ((1 + r, 1 + d, 1 + w) : Int × Int × Int) = s
  have hs1 : 0 ≤ s.1 := by rw [← hs]; show 0 ≤ 1 + r; omega
  have hs2 : 0 ≤ s.2.1 := by rw [← hs]; show 0 ≤ 1 + d; omega
  rw [rngM_eq (by decide) (by decide) (by omega) (by omega), bnd_ret]
  refine yes_b ((mapM_yes (fun v => 0 ≤ v ∧ v < 4) fun x t _ => nxt4 hd).mono fun st u hst => ?_)
  have hk : st.length = wait.toNat := by rw [hst.1, irange_len]; omega
  have hne : st ≠ [] := fun z => by rw [z] at hk; simp at hk; omega
  have hO : Ok wait.toNat st := ⟨hk, fun v hv => (hst.2 v hv).1⟩
  have hL : st.length ≤ 100 := by omega
  rw [smM_eq (by omega), bnd_ret]
  refine yes_next hd (by decide) fun many u k0 k1 => ?_
  rw [rngM_eq (by decide) (by decide) (by omega) (by omega), bnd_ret]
  refine yes_b ((mapM_yes (fun v => 0 ≤ v ∧ v < 4) fun x t _ => nxt4 hd).mono fun news u hns => ?_)
  have hN : news.length ≤ 100 := by rw [hns.1, irange_len]; omega
  have hR := rws_len s news st
  rw [smM_eq (by omega), bnd_ret, l_run_eq hne hL hN, bnd_ret, f_run_eq hne hL hN]
  simp only [bnd_ret]
  rw [smM_eq (by rw [List.length_map]; omega)]
  simp only [bnd_ret]
  rw [eqB_self, f_lost_eq hne hL]
  simp only [bnd_ret, Bool.not_true, Bool.false_eq_true, if_false]
  rw [smM_eq (by rw [List.length_map]; omega)]
  simp only [bnd_ret]
  rw [eqB_self]
  simp only [Bool.not_true, Bool.false_eq_true, if_false]
  have hA : ∀ r : Int × Int × List Int, atM [r] (0 : Int) = ret r := fun r => atM_eq (by decide) rfl
  rw [l_run2_eq hne hL, bnd_ret, hA, bnd_ret, f_step_eq hne hL]
  simp only [bnd_ret]
  rw [show ((dnx s new st, nx s new st) : Int × List Int) = ((rwT s new st).1, (rwT s new st).2.2) from rfl, eqB_self]
  simp only [Bool.not_true, Bool.false_eq_true, if_false]
  have hn3 : wait.toNat ≤ 3 := by omega
  have hn0 : 0 < wait.toNat := by omega
  rw [f_goes_eq hn3 hn0 (by omega) n0 hO, bnd_ret, l_round_eq hn3 hn0 (by omega) n0 hO, bnd_ret, told_ne, bnd_ret]
  simp only [Bool.false_eq_true, if_false]
  rw [f_ends_eq hn3 hn0 (by omega) n0 hO, bnd_ret, l_ends_eq hn3 hn0 (by omega) n0 hO, bnd_ret, eqB_self]
  simp only [Bool.not_true, Bool.false_eq_true, if_false]
  rw [rngM_eq (by decide) (by decide) (by omega) (by omega), bnd_ret, cmpM_filter' (p := fun many => !EB s wait new most many) (fun many hm => by
    obtain ⟨k0, k1⟩ := mem_irange.mp hm
    rw [rep_zero (by omega) (by omega)]
    simp only [bnd_ret]
    rw [catM_eq (by rw [List.length_singleton, List.length_replicate]; omega)]
    simp only [bnd_ret]
    rw [l_ends_eq (n := wait.toNat) hn3 hn0 (by omega) n0 (ini_ok (by omega) k0)]
    simp only [bnd_ret]
    show (if (!EB s wait new most many) = true then _ else _) = _
    split <;> rfl), bnd_ret, smM_eq (Nat.le_trans (List.length_filter_le _ _) (by rw [irange_len]; omega)), bnd_ret]
  rw [least_eq (by omega) (by omega) (by omega) (by omega) n0, bnd_ret, headO, bnd_ret, eqB_self]
  simp only [Bool.not_true, Bool.false_eq_true, if_false]
  rw [rep_zero (by omega) (by omega), bnd_ret]
  obtain ⟨v, e1, e2⟩ := greatest_eq (s := s) (wait := wait) (most := most) (by omega) (by omega) (by omega) (by omega) hs1 hs2
  have hzn : List.replicate wait.toNat (0 : Int) ≠ [] := fun z => by
    have := congrArg List.length z
    rw [List.length_replicate, List.length_nil] at this
    omega
  rw [bnd_ret, cmpM_filter' (p := fun n => eqB (nx s n (List.replicate wait.toNat 0)) (List.replicate wait.toNat 0)) (fun n hn => by
    rw [l_run2_eq hzn (by rw [List.length_replicate]; omega)]
    simp only [bnd_ret]
    rw [hA]
    simp only [bnd_ret]
    show (if eqB (nx s n _) _ = true then _ else _) = _
    split <;> rfl), bnd_ret]
  show Yes (bnd (smM (Gz s wait most)) _) _ _
  have hGl : (Gz s wait most).length ≤ 100 := Nat.le_trans (List.length_filter_le _ _) (by rw [irange_len]; omega)
  rw [smM_eq (by omega), bnd_ret, e1, bnd_ret, e2, bnd_ret, eqB_self]
  exact yes_ret rfl
end K11
namespace K11
open PySem PySem.Spec L2 Q
theorem sc__law_tick : FnScope ["service", "back", "tick", "new", "come", "taken", "done"] ["service", "back", "tick", "new"] (defScope (topS 11)) := ⟨rfl, rfl, rfl, by decide +kernel, rfl, by decide +kernel, by decide +kernel⟩
theorem sc__law_run : FnScope ["service", "state", "news", "back", "rows", "tick", "done", "rest", "k"] ["service", "state", "news"] (defScope (topS 12)) := ⟨rfl, rfl, rfl, by decide +kernel, rfl, by decide +kernel, by decide +kernel⟩
theorem sc_step : FnScope ["service", "state", "new", "room", "done", "slow", "come", "able", "now"] ["service", "state", "new"] (defScope (topS 1)) := ⟨rfl, rfl, rfl, by decide +kernel, rfl, by decide +kernel, by decide +kernel⟩
theorem sc_run_storm : FnScope ["service", "state", "news", "found", "new", "done"] ["service", "state", "news"] (defScope (topS 2)) := ⟨rfl, rfl, rfl, by decide +kernel, rfl, by decide +kernel, by decide +kernel⟩
theorem sc_lost_work : FnScope ["service", "state", "news", "found", "new", "_"] ["service", "state", "news"] (defScope (topS 7)) := ⟨rfl, rfl, rfl, by decide +kernel, rfl, by decide +kernel, by decide +kernel⟩
theorem sc_goes_round : FnScope ["service", "state", "new", "most", "seen", "row", "steps"] ["service", "state", "new", "most"] (defScope (topS 3)) := ⟨rfl, rfl, rfl, by decide +kernel, rfl, by decide +kernel, by decide +kernel⟩
theorem sc__law_round : FnScope ["service", "state", "new", "most", "row", "later", "at"] ["service", "state", "new", "most"] (defScope (topS 13)) := ⟨rfl, rfl, rfl, by decide +kernel, rfl, by decide +kernel, by decide +kernel⟩
theorem sc_ends_storm : FnScope ["service", "state", "new", "most", "told", "own"] ["service", "state", "new", "most"] (defScope (topS 4)) := ⟨rfl, rfl, rfl, by decide +kernel, rfl, by decide +kernel, by decide +kernel⟩
theorem sc__law_ends : FnScope ["service", "state", "new", "most", "told", "own"] ["service", "state", "new", "most"] (defScope (topS 14)) := ⟨rfl, rfl, rfl, by decide +kernel, rfl, by decide +kernel, by decide +kernel⟩
theorem sc_least_storm : FnScope ["service", "wait", "new", "most", "many"] ["service", "wait", "new", "most"] (defScope (topS 5)) := ⟨rfl, rfl, rfl, by decide +kernel, rfl, by decide +kernel, by decide +kernel⟩
theorem sc_greatest_new : FnScope ["service", "wait", "most", "calm", "new"] ["service", "wait", "most"] (defScope (topS 6)) := ⟨rfl, rfl, rfl, by decide +kernel, rfl, by decide +kernel, by decide +kernel⟩
theorem ck0 : chkSs fs ["service", "back", "tick", "new", "come", "taken", "done"] (defScope (topS 11)) fn0.body (defBody (topS 11)) = true := by decide +kernel
theorem ck1 : chkSs fs ["service", "state", "news", "back", "rows", "tick", "done", "rest", "k"] (defScope (topS 12)) fn1.body (defBody (topS 12)) = true := by decide +kernel
theorem ck2 : chkSs fs ["service", "state", "new", "room", "done", "slow", "come", "able", "now"] (defScope (topS 1)) fn2.body (defBody (topS 1)) = true := by decide +kernel
theorem ck3 : chkSs fs ["service", "state", "news", "found", "new", "done"] (defScope (topS 2)) fn3.body (defBody (topS 2)) = true := by decide +kernel
theorem ck4 : chkSs fs ["service", "state", "news", "found", "new", "_"] (defScope (topS 7)) fn4.body (defBody (topS 7)) = true := by decide +kernel
theorem ck5 : chkSs fs ["service", "state", "news", "back", "rows", "tick", "done", "rest", "k"] (defScope (topS 12)) fn5.body (defBody (topS 12)) = true := by decide +kernel
theorem ck6 : chkSs fs ["service", "state", "new", "most", "seen", "row", "steps"] (defScope (topS 3)) fn6.body (defBody (topS 3)) = true := by decide +kernel
theorem ck7 : chkSs fs ["service", "state", "new", "most", "row", "later", "at"] (defScope (topS 13)) fn7.body (defBody (topS 13)) = true := by decide +kernel
theorem ck8 : chkSs fs ["service", "state", "new", "most", "told", "own"] (defScope (topS 4)) fn8.body (defBody (topS 4)) = true := by decide +kernel
theorem ck9 : chkSs fs ["service", "state", "new", "most", "told", "own"] (defScope (topS 14)) fn9.body (defBody (topS 14)) = true := by decide +kernel
theorem ck10 : chkSs fs ["service", "wait", "new", "most", "many"] (defScope (topS 5)) fn10.body (defBody (topS 5)) = true := by decide +kernel
theorem ck11 : chkSs fs ["service", "wait", "most", "calm", "new"] (defScope (topS 6)) fn11.body (defBody (topS 6)) = true := by decide +kernel
theorem scL : FnScope ["script", "w", "turn", "service", "wait", "new", "most", "state", "news", "rows", "first", "able", "calm", "good", "many", "k", "done", "rest", "later"] ["script"] (defScope (topS 15)) := ⟨rfl, rfl, rfl, by decide +kernel, rfl, by decide +kernel, by decide +kernel⟩
theorem ckL : chkSs fs ["script", "w", "turn", "service", "wait", "new", "most", "state", "news", "rows", "first", "able", "calm", "good", "many", "k", "done", "rest", "later"] (defScope (topS 15)) bL (defBody (topS 15)).tail = true := by decide +kernel
theorem scD : FnScope ["script", "many", "draws", "mixed", "k", "cell", "rest", "turn"] ["script", "many"] (defScope (topS 9)) := ⟨rfl, rfl, rfl, by decide +kernel, rfl, by decide +kernel, by decide +kernel⟩
theorem ckD : chkSs [] ["script", "many", "draws", "mixed", "k", "cell", "rest", "turn"] (defScope (topS 9)) drawsB (defBody (topS 9)) = true := by decide +kernel
theorem scN : FnScope ["w", "many"] ["w", "many"] (defScope (topS 10)) := ⟨rfl, rfl, rfl, by decide +kernel, rfl, by decide +kernel, by decide +kernel⟩
section
variable {K : PySem.W.Frag} {mg : Str → Option Value}
theorem rows {a0 a1 a2 a3 a4 a5 a6 a7 a8 a9 a10 : Addr} {d0 d1 d2 d3 d4 d5 d6 d7 d8 d9 d10 : FuncData}
    (g0 : mg "_law_tick" = some (.ref a0)) (F0 : L2.Fun K "_law_tick" "_law_tick" (topS 11) a0 d0) (B0 : Binds K d0 ["service", "back", "tick", "new"] [])
    (g1 : mg "_law_run" = some (.ref a1)) (F1 : L2.Fun K "_law_run" "_law_run" (topS 12) a1 d1) (B1 : Binds K d1 ["service", "state", "news"] [])
    (g2 : mg "step" = some (.ref a2)) (F2 : L2.Fun K "step" "step" (topS 1) a2 d2) (B2 : Binds K d2 ["service", "state", "new"] [])
    (g3 : mg "run_storm" = some (.ref a3)) (F3 : L2.Fun K "run_storm" "run_storm" (topS 2) a3 d3) (B3 : Binds K d3 ["service", "state", "news"] [])
    (g4 : mg "lost_work" = some (.ref a4)) (F4 : L2.Fun K "lost_work" "lost_work" (topS 7) a4 d4) (B4 : Binds K d4 ["service", "state", "news"] [])
    (g5 : mg "goes_round" = some (.ref a5)) (F5 : L2.Fun K "goes_round" "goes_round" (topS 3) a5 d5) (B5 : Binds K d5 ["service", "state", "new", "most"] [])
    (g6 : mg "_law_round" = some (.ref a6)) (F6 : L2.Fun K "_law_round" "_law_round" (topS 13) a6 d6) (B6 : Binds K d6 ["service", "state", "new", "most"] [])
    (g7 : mg "ends_storm" = some (.ref a7)) (F7 : L2.Fun K "ends_storm" "ends_storm" (topS 4) a7 d7) (B7 : Binds K d7 ["service", "state", "new", "most"] [])
    (g8 : mg "_law_ends" = some (.ref a8)) (F8 : L2.Fun K "_law_ends" "_law_ends" (topS 14) a8 d8) (B8 : Binds K d8 ["service", "state", "new", "most"] [])
    (g9 : mg "least_storm" = some (.ref a9)) (F9 : L2.Fun K "least_storm" "least_storm" (topS 5) a9 d9) (B9 : Binds K d9 ["service", "wait", "new", "most"] [])
    (g10 : mg "greatest_new" = some (.ref a10)) (F10 : L2.Fun K "greatest_new" "greatest_new" (topS 6) a10 d10) (B10 : Binds K d10 ["service", "wait", "most"] [])
    : ∀ i x, fs[i]? = some x → Row K mg fs fns i x
  | 0, _, h => by cases h; exact ⟨_, _, _, _, _, _, _, rfl, g0, F0, sc__law_tick, rfl, rfl, ck0, B0⟩
  | 1, _, h => by cases h; exact ⟨_, _, _, _, _, _, _, rfl, g1, F1, sc__law_run, rfl, rfl, ck1, B1⟩
  | 2, _, h => by cases h; exact ⟨_, _, _, _, _, _, _, rfl, g2, F2, sc_step, rfl, rfl, ck2, B2⟩
  | 3, _, h => by cases h; exact ⟨_, _, _, _, _, _, _, rfl, g3, F3, sc_run_storm, rfl, rfl, ck3, B3⟩
  | 4, _, h => by cases h; exact ⟨_, _, _, _, _, _, _, rfl, g4, F4, sc_lost_work, rfl, rfl, ck4, B4⟩
  | 5, _, h => by cases h; exact ⟨_, _, _, _, _, _, _, rfl, g1, F1, sc__law_run, rfl, rfl, ck5, B1⟩
  | 6, _, h => by cases h; exact ⟨_, _, _, _, _, _, _, rfl, g5, F5, sc_goes_round, rfl, rfl, ck6, B5⟩
  | 7, _, h => by cases h; exact ⟨_, _, _, _, _, _, _, rfl, g6, F6, sc__law_round, rfl, rfl, ck7, B6⟩
  | 8, _, h => by cases h; exact ⟨_, _, _, _, _, _, _, rfl, g7, F7, sc_ends_storm, rfl, rfl, ck8, B7⟩
  | 9, _, h => by cases h; exact ⟨_, _, _, _, _, _, _, rfl, g8, F8, sc__law_ends, rfl, rfl, ck9, B8⟩
  | 10, _, h => by cases h; exact ⟨_, _, _, _, _, _, _, rfl, g9, F9, sc_least_storm, rfl, rfl, ck10, B9⟩
  | 11, _, h => by cases h; exact ⟨_, _, _, _, _, _, _, rfl, g10, F10, sc_greatest_new, rfl, rfl, ck11, B10⟩
  | n + 12, _, h => nomatch h
end
theorem all_mk {l : PySem.W.OpenLaw} {w : World} {K : PySem.W.Frag} {h : Heap} {mg : Str → Option Value} {fa e0 e1 e2 e3 e4 e5 e6 e7 e8 e9 e10 e11 e12 e13 : Addr} (X : K.In h) (G : h.Ns mainGlobals mg) (hfa : mg "law" = some (.ref fa))
    {od0 an0 : Option Addr} {sl0 : Array (Option Value)} {oc0 kV0 dc0 pm0 cd0 ct0 : Value}
    (a0 : PySem.W.nsIn K mainGlobals "_law_tick" = some (some (.ref e0))) (l0 : K.lookup e0 = some ⟨oc0, od0, .func (PySem.W.fnOf "_law_tick" "_law_tick" (defArgs (topS 11)) (defBody (topS 11)) (defScope (topS 11)) .none kV0 dc0 pm0 an0 cd0 ct0), sl0⟩) (c0 : PySem.W.codeIn K cd0 "_law_tick" = true) (k0 : PySem.W.keepIn K (.ref e0) = true)
    {od1 an1 : Option Addr} {sl1 : Array (Option Value)} {oc1 kV1 dc1 pm1 cd1 ct1 : Value}
    (a1 : PySem.W.nsIn K mainGlobals "_law_run" = some (some (.ref e1))) (l1 : K.lookup e1 = some ⟨oc1, od1, .func (PySem.W.fnOf "_law_run" "_law_run" (defArgs (topS 12)) (defBody (topS 12)) (defScope (topS 12)) .none kV1 dc1 pm1 an1 cd1 ct1), sl1⟩) (c1 : PySem.W.codeIn K cd1 "_law_run" = true) (k1 : PySem.W.keepIn K (.ref e1) = true)
    {od2 an2 : Option Addr} {sl2 : Array (Option Value)} {oc2 kV2 dc2 pm2 cd2 ct2 : Value}
    (a2 : PySem.W.nsIn K mainGlobals "step" = some (some (.ref e2))) (l2 : K.lookup e2 = some ⟨oc2, od2, .func (PySem.W.fnOf "step" "step" (defArgs (topS 1)) (defBody (topS 1)) (defScope (topS 1)) .none kV2 dc2 pm2 an2 cd2 ct2), sl2⟩) (c2 : PySem.W.codeIn K cd2 "step" = true) (k2 : PySem.W.keepIn K (.ref e2) = true)
    {od3 an3 : Option Addr} {sl3 : Array (Option Value)} {oc3 kV3 dc3 pm3 cd3 ct3 : Value}
    (a3 : PySem.W.nsIn K mainGlobals "run_storm" = some (some (.ref e3))) (l3 : K.lookup e3 = some ⟨oc3, od3, .func (PySem.W.fnOf "run_storm" "run_storm" (defArgs (topS 2)) (defBody (topS 2)) (defScope (topS 2)) .none kV3 dc3 pm3 an3 cd3 ct3), sl3⟩) (c3 : PySem.W.codeIn K cd3 "run_storm" = true) (k3 : PySem.W.keepIn K (.ref e3) = true)
    {od4 an4 : Option Addr} {sl4 : Array (Option Value)} {oc4 kV4 dc4 pm4 cd4 ct4 : Value}
    (a4 : PySem.W.nsIn K mainGlobals "lost_work" = some (some (.ref e4))) (l4 : K.lookup e4 = some ⟨oc4, od4, .func (PySem.W.fnOf "lost_work" "lost_work" (defArgs (topS 7)) (defBody (topS 7)) (defScope (topS 7)) .none kV4 dc4 pm4 an4 cd4 ct4), sl4⟩) (c4 : PySem.W.codeIn K cd4 "lost_work" = true) (k4 : PySem.W.keepIn K (.ref e4) = true)
    {od5 an5 : Option Addr} {sl5 : Array (Option Value)} {oc5 kV5 dc5 pm5 cd5 ct5 : Value}
    (a5 : PySem.W.nsIn K mainGlobals "goes_round" = some (some (.ref e5))) (l5 : K.lookup e5 = some ⟨oc5, od5, .func (PySem.W.fnOf "goes_round" "goes_round" (defArgs (topS 3)) (defBody (topS 3)) (defScope (topS 3)) .none kV5 dc5 pm5 an5 cd5 ct5), sl5⟩) (c5 : PySem.W.codeIn K cd5 "goes_round" = true) (k5 : PySem.W.keepIn K (.ref e5) = true)
    {od6 an6 : Option Addr} {sl6 : Array (Option Value)} {oc6 kV6 dc6 pm6 cd6 ct6 : Value}
    (a6 : PySem.W.nsIn K mainGlobals "_law_round" = some (some (.ref e6))) (l6 : K.lookup e6 = some ⟨oc6, od6, .func (PySem.W.fnOf "_law_round" "_law_round" (defArgs (topS 13)) (defBody (topS 13)) (defScope (topS 13)) .none kV6 dc6 pm6 an6 cd6 ct6), sl6⟩) (c6 : PySem.W.codeIn K cd6 "_law_round" = true) (k6 : PySem.W.keepIn K (.ref e6) = true)
    {od7 an7 : Option Addr} {sl7 : Array (Option Value)} {oc7 kV7 dc7 pm7 cd7 ct7 : Value}
    (a7 : PySem.W.nsIn K mainGlobals "ends_storm" = some (some (.ref e7))) (l7 : K.lookup e7 = some ⟨oc7, od7, .func (PySem.W.fnOf "ends_storm" "ends_storm" (defArgs (topS 4)) (defBody (topS 4)) (defScope (topS 4)) .none kV7 dc7 pm7 an7 cd7 ct7), sl7⟩) (c7 : PySem.W.codeIn K cd7 "ends_storm" = true) (k7 : PySem.W.keepIn K (.ref e7) = true)
    {od8 an8 : Option Addr} {sl8 : Array (Option Value)} {oc8 kV8 dc8 pm8 cd8 ct8 : Value}
    (a8 : PySem.W.nsIn K mainGlobals "_law_ends" = some (some (.ref e8))) (l8 : K.lookup e8 = some ⟨oc8, od8, .func (PySem.W.fnOf "_law_ends" "_law_ends" (defArgs (topS 14)) (defBody (topS 14)) (defScope (topS 14)) .none kV8 dc8 pm8 an8 cd8 ct8), sl8⟩) (c8 : PySem.W.codeIn K cd8 "_law_ends" = true) (k8 : PySem.W.keepIn K (.ref e8) = true)
    {od9 an9 : Option Addr} {sl9 : Array (Option Value)} {oc9 kV9 dc9 pm9 cd9 ct9 : Value}
    (a9 : PySem.W.nsIn K mainGlobals "least_storm" = some (some (.ref e9))) (l9 : K.lookup e9 = some ⟨oc9, od9, .func (PySem.W.fnOf "least_storm" "least_storm" (defArgs (topS 5)) (defBody (topS 5)) (defScope (topS 5)) .none kV9 dc9 pm9 an9 cd9 ct9), sl9⟩) (c9 : PySem.W.codeIn K cd9 "least_storm" = true) (k9 : PySem.W.keepIn K (.ref e9) = true)
    {od10 an10 : Option Addr} {sl10 : Array (Option Value)} {oc10 kV10 dc10 pm10 cd10 ct10 : Value}
    (a10 : PySem.W.nsIn K mainGlobals "greatest_new" = some (some (.ref e10))) (l10 : K.lookup e10 = some ⟨oc10, od10, .func (PySem.W.fnOf "greatest_new" "greatest_new" (defArgs (topS 6)) (defBody (topS 6)) (defScope (topS 6)) .none kV10 dc10 pm10 an10 cd10 ct10), sl10⟩) (c10 : PySem.W.codeIn K cd10 "greatest_new" = true) (k10 : PySem.W.keepIn K (.ref e10) = true)
    {od11 an11 : Option Addr} {sl11 : Array (Option Value)} {oc11 kV11 dc11 pm11 cd11 ct11 : Value}
    (a11 : PySem.W.nsIn K mainGlobals "_law_draws" = some (some (.ref e11))) (l11 : K.lookup e11 = some ⟨oc11, od11, .func (PySem.W.fnOf "_law_draws" "_law_draws" (defArgs (topS 9)) (defBody (topS 9)) (defScope (topS 9)) .none kV11 dc11 pm11 an11 cd11 ct11), sl11⟩) (c11 : PySem.W.codeIn K cd11 "_law_draws" = true) (k11 : PySem.W.keepIn K (.ref e11) = true)
    {od12 an12 : Option Addr} {sl12 : Array (Option Value)} {oc12 kV12 dc12 pm12 cd12 ct12 : Value}
    (a12 : PySem.W.nsIn K mainGlobals "_law_next" = some (some (.ref e12))) (l12 : K.lookup e12 = some ⟨oc12, od12, .func (PySem.W.fnOf "_law_next" "_law_next" (defArgs (topS 10)) (defBody (topS 10)) (defScope (topS 10)) .none kV12 dc12 pm12 an12 cd12 ct12), sl12⟩) (c12 : PySem.W.codeIn K cd12 "_law_next" = true) (k12 : PySem.W.keepIn K (.ref e12) = true)
    {od13 an13 : Option Addr} {sl13 : Array (Option Value)} {oc13 kV13 dc13 pm13 cd13 ct13 : Value}
    (a13 : PySem.W.nsIn K mainGlobals "law" = some (some (.ref e13))) (l13 : K.lookup e13 = some ⟨oc13, od13, .func (PySem.W.fnOf "law" "law" (defArgs (topS 15)) (defBody (topS 15)) (defScope (topS 15)) .none kV13 dc13 pm13 an13 cd13 ct13), sl13⟩) (c13 : PySem.W.codeIn K cd13 "law" = true) (k13 : PySem.W.keepIn K (.ref e13) = true)
    (z0 : PySem.W.nsIn K mainGlobals "len" = some none)
    (z1 : PySem.W.nsIn K mainGlobals "abs" = some none)
    (z2 : PySem.W.nsIn K mainGlobals "int" = some none)
    (z3 : PySem.W.nsIn K mainGlobals "max" = some none)
    (z4 : PySem.W.nsIn K mainGlobals "min" = some none)
    (z5 : PySem.W.nsIn K mainGlobals "sum" = some none)
    (z6 : PySem.W.nsIn K mainGlobals "all" = some none)
    (z7 : PySem.W.nsIn K mainGlobals "any" = some none)
    (z8 : PySem.W.nsIn K mainGlobals "tuple" = some none)
    (z9 : PySem.W.nsIn K mainGlobals "list" = some none)
    (z10 : PySem.W.nsIn K mainGlobals "sorted" = some none)
    (z11 : PySem.W.nsIn K mainGlobals "range" = some none)
    (z12 : PySem.W.nsIn K mainGlobals "zip" = some none)
    (z13 : PySem.W.nsIn K mainGlobals "isinstance" = some none)
    (z14 : PySem.W.nsIn K mainGlobals "bool" = some none)
    (z15 : PySem.W.nsIn K mainGlobals "str" = some none)
    (z16 : PySem.W.nsIn K mainGlobals "dict" = some none)
    (z17 : PySem.W.nsIn K mainGlobals "enumerate" = some none)
    (z18 : PySem.W.nsIn K mainGlobals "set" = some none)
    (z19 : PySem.W.nsIn K mainGlobals "__debug__" = some none)
    : ∃ fd : FuncData, (∀ (s : Shared) (v : Value), BindsTo s fd ⟨[v], []⟩ [("script", v)]) ∧ ∀ base : Heap, K.In base → base.Ns mainGlobals mg → FnOk l.prog w K mg base CX0 6 fa fd ["script"] (spLaw K) := by
  have e := hfa.symm.trans (PySem.W.mg_of X G a13)
  cases e
  have F0 := fun_mk (st := topS 11) l0 c0 k0
  have F1 := fun_mk (st := topS 12) l1 c1 k1
  have F2 := fun_mk (st := topS 1) l2 c2 k2
  have F3 := fun_mk (st := topS 2) l3 c3 k3
  have F4 := fun_mk (st := topS 7) l4 c4 k4
  have F5 := fun_mk (st := topS 3) l5 c5 k5
  have F6 := fun_mk (st := topS 13) l6 c6 k6
  have F7 := fun_mk (st := topS 4) l7 c7 k7
  have F8 := fun_mk (st := topS 14) l8 c8 k8
  have F9 := fun_mk (st := topS 5) l9 c9 k9
  have F10 := fun_mk (st := topS 6) l10 c10 k10
  have F11 := fun_mk (st := topS 9) l11 c11 k11
  have F12 := fun_mk (st := topS 10) l12 c12 k12
  have F13 := fun_mk (st := topS 15) l13 c13 k13
  have B0 := F0.binds (ps := ["service", "back", "tick", "new"]) fun _ _ _ _ _ _ us hl => match us, hl with | [_, _, _, _], _ => rfl
  have B1 := F1.binds (ps := ["service", "state", "news"]) fun _ _ _ _ _ _ us hl => match us, hl with | [_, _, _], _ => rfl
  have B2 := F2.binds (ps := ["service", "state", "new"]) fun _ _ _ _ _ _ us hl => match us, hl with | [_, _, _], _ => rfl
  have B3 := F3.binds (ps := ["service", "state", "news"]) fun _ _ _ _ _ _ us hl => match us, hl with | [_, _, _], _ => rfl
  have B4 := F4.binds (ps := ["service", "state", "news"]) fun _ _ _ _ _ _ us hl => match us, hl with | [_, _, _], _ => rfl
  have B5 := F5.binds (ps := ["service", "state", "new", "most"]) fun _ _ _ _ _ _ us hl => match us, hl with | [_, _, _, _], _ => rfl
  have B6 := F6.binds (ps := ["service", "state", "new", "most"]) fun _ _ _ _ _ _ us hl => match us, hl with | [_, _, _, _], _ => rfl
  have B7 := F7.binds (ps := ["service", "state", "new", "most"]) fun _ _ _ _ _ _ us hl => match us, hl with | [_, _, _, _], _ => rfl
  have B8 := F8.binds (ps := ["service", "state", "new", "most"]) fun _ _ _ _ _ _ us hl => match us, hl with | [_, _, _, _], _ => rfl
  have B9 := F9.binds (ps := ["service", "wait", "new", "most"]) fun _ _ _ _ _ _ us hl => match us, hl with | [_, _, _, _], _ => rfl
  have B10 := F10.binds (ps := ["service", "wait", "most"]) fun _ _ _ _ _ _ us hl => match us, hl with | [_, _, _], _ => rfl
  have B11 := F11.binds (ps := ["script", "many"]) fun _ _ _ _ _ _ us hl => match us, hl with | [_, _], _ => rfl
  have B12 := F12.binds (ps := ["w", "many"]) fun _ _ _ _ _ _ us hl => match us, hl with | [_, _], _ => rfl
  have M : Mods mg := ⟨fun x hx => ?_, PySem.W.mg_none_of X G z19⟩
  · refine ⟨PySem.W.fnOf "law" "law" (defArgs (topS 15)) (defBody (topS 15)) (defScope (topS 15)) .none kV13 dc13 pm13 an13 cd13 ct13, fun s v => .of_eq rfl, fun base _ _ => ?_⟩
    refine law_ok (k := 3) (m := 120) (fs := fs) (fns := fns) (rest := bL) (rs := (defBody (topS 15)).tail) F13 scL rfl (by decide) rfl ckL (by first | exact .inl rfl | exact .inr rfl) rfl rfl M (rows (PySem.W.mg_of X G a0) F0 B0 (PySem.W.mg_of X G a1) F1 B1 (PySem.W.mg_of X G a2) F2 B2 (PySem.W.mg_of X G a3) F3 B3 (PySem.W.mg_of X G a4) F4 B4 (PySem.W.mg_of X G a5) F5 B5 (PySem.W.mg_of X G a6) F6 B6 (PySem.W.mg_of X G a7) F7 B7 (PySem.W.mg_of X G a8) F8 B8 (PySem.W.mg_of X G a9) F9 B9 (PySem.W.mg_of X G a10) F10 B10) F11 scD ckD B11 (PySem.W.mg_of X G a11) (fun c hc => ?_) (run_of main)
    exact ⟨_, _, _, PySem.W.mg_of X G a12, k12, B12, next_ok hc F12 scN M rfl rfl rfl rfl rfl⟩
  · simp only [bnames, List.mem_cons, List.not_mem_nil, or_false] at hx
    rcases hx with rfl | rfl | rfl | rfl | rfl | rfl | rfl | rfl | rfl | rfl | rfl | rfl | rfl | rfl | rfl | rfl | rfl | rfl | rfl
    · exact PySem.W.mg_none_of X G z0
    · exact PySem.W.mg_none_of X G z1
    · exact PySem.W.mg_none_of X G z2
    · exact PySem.W.mg_none_of X G z3
    · exact PySem.W.mg_none_of X G z4
    · exact PySem.W.mg_none_of X G z5
    · exact PySem.W.mg_none_of X G z6
    · exact PySem.W.mg_none_of X G z7
    · exact PySem.W.mg_none_of X G z8
    · exact PySem.W.mg_none_of X G z9
    · exact PySem.W.mg_none_of X G z10
    · exact PySem.W.mg_none_of X G z11
    · exact PySem.W.mg_none_of X G z12
    · exact PySem.W.mg_none_of X G z13
    · exact PySem.W.mg_none_of X G z14
    · exact PySem.W.mg_none_of X G z15
    · exact PySem.W.mg_none_of X G z16
    · exact PySem.W.mg_none_of X G z17
    · exact PySem.W.mg_none_of X G z18
end K11
open PySem PySem.W PyProof.Rows
set_option maxHeartbeats 0 in
theorem PySem.Challenge.cw_loadwarrant_k11_storms_of_tries_holds : PySem.Challenge.rw_loadwarrant_k11_storms_of_tries.Holds := by
  w_on; o_law; k_head; (case hw => w_witness2)
  k_fill
  refine L2.walk_of (l := PySem.Challenge.rw_loadwarrant_k11_storms_of_tries) (n := 63) (k := 6) (x := "script") (CX := fun _ => L2.CX0) (sp := fun w => Q.spLaw _) rfl (by decide) rfl ⟨rfl, by decide, by decide⟩ (fun w h Y => PySem.W.kIn_of Y) ?F (fun _ _ a ns hl hO hS => Q.spLaw_of hl hO hS) (fun _ _ _ _ _ h => h)
  case F =>
    intro w mg fa h KX G hmg
    refine' K11.all_mk KX G hmg ?a0 ?l0 ?c0 ?k0 ?a1 ?l1 ?c1 ?k1 ?a2 ?l2 ?c2 ?k2 ?a3 ?l3 ?c3 ?k3 ?a4 ?l4 ?c4 ?k4 ?a5 ?l5 ?c5 ?k5 ?a6 ?l6 ?c6 ?k6 ?a7 ?l7 ?c7 ?k7 ?a8 ?l8 ?c8 ?k8 ?a9 ?l9 ?c9 ?k9 ?a10 ?l10 ?c10 ?k10 ?a11 ?l11 ?c11 ?k11 ?a12 ?l12 ?c12 ?k12 ?a13 ?l13 ?c13 ?k13 ?z0 ?z1 ?z2 ?z3 ?z4 ?z5 ?z6 ?z7 ?z8 ?z9 ?z10 ?z11 ?z12 ?z13 ?z14 ?z15 ?z16 ?z17 ?z18 ?z19
    (case a0 => k_is); (case l0 => k_is); (case c0 => k_is); (case k0 => k_is); (case a1 => k_is); (case l1 => k_is); (case c1 => k_is); (case k1 => k_is); (case a2 => k_is); (case l2 => k_is); (case c2 => k_is); (case k2 => k_is); (case a3 => k_is); (case l3 => k_is); (case c3 => k_is); (case k3 => k_is); (case a4 => k_is); (case l4 => k_is); (case c4 => k_is); (case k4 => k_is); (case a5 => k_is); (case l5 => k_is); (case c5 => k_is); (case k5 => k_is); (case a6 => k_is); (case l6 => k_is); (case c6 => k_is); (case k6 => k_is); (case a7 => k_is); (case l7 => k_is); (case c7 => k_is); (case k7 => k_is); (case a8 => k_is); (case l8 => k_is); (case c8 => k_is); (case k8 => k_is); (case a9 => k_is); (case l9 => k_is); (case c9 => k_is); (case k9 => k_is); (case a10 => k_is); (case l10 => k_is); (case c10 => k_is); (case k10 => k_is); (case a11 => k_is); (case l11 => k_is); (case c11 => k_is); (case k11 => k_is); (case a12 => k_is); (case l12 => k_is); (case c12 => k_is); (case k12 => k_is); (case a13 => k_is); (case l13 => k_is); (case c13 => k_is); (case k13 => k_is); (case z0 => k_is); (case z1 => k_is); (case z2 => k_is); (case z3 => k_is); (case z4 => k_is); (case z5 => k_is); (case z6 => k_is); (case z7 => k_is); (case z8 => k_is); (case z9 => k_is); (case z10 => k_is); (case z11 => k_is); (case z12 => k_is); (case z13 => k_is); (case z14 => k_is); (case z15 => k_is); (case z16 => k_is); (case z17 => k_is); (case z18 => k_is); (case z19 => k_is)
